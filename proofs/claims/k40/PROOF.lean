import PyProof.Rows.All
import Wide.All
import OpenK.AllK
import Wide.FinOn
import HandS.CallRecv
import HandS.CallSlots
import HandS.Conv
import HandS.Deep
import HandS.Defaults
import HandS.EndTab
import HandS.Ends
import HandS.ExcIs
import HandS.ExcOwn
import HandS.FStrTup
import HandS.ForExc
import HandS.ForMost
import HandS.IntHex
import HandS.IsInst
import HandS.Lambda
import HandS.More
import HandS.RaiseMore
import HandS.ReplaceLit
import HandS.Rev
import HandS.RevRange
import HandS.StrMore
import HandS.Style
import HandS.Text
import HandS.TryOnly
import HandS.TupAny
import HandS.TupMul
import HandS.Walk
import HandS.Wide
import HandS.WordsExc
import HandS.Zip
import HandS.Zip0
import KE.KNestM
import KE.KRevSl
import KE.SortData
import KE.SortKeyHeap
import PyProof.Draws
import PyProof.EnumMake
import PyProof.NeKinds
import PyProof.ReprRoads
import PyProof.Rows.Digits
import PyProof.Rows.IntBool
import PyProof.StrLawsRepr
import PyProof.Draws
import PyProof.EnumMake
import PyProof.ExcBaseAll.ValueError
import PySem.Challenge.RW_rootring_k40_papers_of_common_parts
set_option Elab.async false
set_option linter.all false
set_option maxRecDepth 100000
set_option maxHeartbeats 4000000
set_option exponentiation.threshold 20000
namespace RR
open PySem PySem.Spec PyProof.Rows L2
inductive D where
  | non | bl (b : Bool) | int (i : Int) | str (s : Str) | tup (xs : List D) | lst (xs : List D) | hnd (n : Nat) | dic | exc (x : Str) | fn (x : Str) | ptr (a : Addr) | dc1 (k : Str) (d : D)
  deriving Inhabited
mutual
def D.nl : D → Bool
  | .lst _ => false
  | .dic => false
  | .dc1 _ _ => false
  | .tup xs => D.nls xs
  | _ => true
def D.nls : List D → Bool
  | [] => true
  | x :: r => x.nl && D.nls r
end
def IsT : HO → Prop
  | .tup _ => True
  | .ext _ => True
  | _ => False
def IsL : HO → Prop
  | .lst _ => True
  | .dK _ => True
  | _ => False
def KT (K : PySem.W.Frag) (a : Addr) (xs : List V) : Prop :=
  ∃ (o : Obj) (its : Array Value) (n : Nat), K.lookup a = some o ∧ o.cls = .type "tuple" ∧ o.data = .seq its n ∧ its.size ≤ sizeLine ∧ Vals xs its.toList
def Tp (K : PySem.W.Frag) (G : Hp) (a : Addr) (xs : List V) : Prop := G a = some (.tup xs) ∨ KT K a xs
def Ls : Bool → PySem.W.Frag → Hp → Addr → List V → Prop
  | true, _, G, a, xs => G a = some (.lst xs)
  | false, K, G, a, xs => SqL K G a xs
def ExI (C a : Addr) : HO := .ext fun h => PySem.W.InstAt h a ((h.get? a).getD default) C none
def NsC (K : PySem.W.Frag) (x : Str) (C : Addr) : Prop := PySem.W.nsIn K mainGlobals x = some (some (.ref C))
mutual
inductive Dn (s : Bool) (K : PySem.W.Frag) (F : List Addr) (G : Hp) : V → D → Prop
  | non : Dn s K F G .non .non
  | bl (b : Bool) : Dn s K F G (.bl b) (.bl b)
  | int (i : Int) : Dn s K F G (.int i) (.int i)
  | str (x : Str) : Dn s K F G (.str x) (.str x)
  | tup {a : Addr} {xs : List V} {ds : List D} : Tp K G a xs → DnA s K F G xs ds → Dn s K F G (.ref a) (.tup ds)
  | lst {a : Addr} {xs : List V} {ds : List D} : Ls s K G a xs → DnA s K F G xs ds → Dn s K F G (.ref a) (.lst ds)
  | hnd {n : Nat} {a : Addr} : F[n]? = some a → Dn s K F G (.ref a) (.hnd n)
  | dic {a : Addr} : G a = some (.dK []) → Dn s K F G (.ref a) .dic
  | exc {x : Str} {a C : Addr} : G a = some (ExI C a) → NsC K x C → Dn s K F G (.ref a) (.exc x)
  | fn {x : Str} {a : Addr} : NsC K x a → Dn s K F G (.ref a) (.fn x)
  | ptr {a : Addr} : Dn s K F G (.ref a) (.ptr a)
  | dc1 {a : Addr} {k : Str} {v : V} {d : D} : G a = some (.dK [(.inr k, v)]) → Dn s K F G v d → Dn s K F G (.ref a) (.dc1 k d)
inductive DnA (s : Bool) (K : PySem.W.Frag) (F : List Addr) (G : Hp) : List V → List D → Prop
  | nil : DnA s K F G [] []
  | cons {v : V} {vs : List V} {d : D} {ds : List D} : Dn s K F G v d → DnA s K F G vs ds → DnA s K F G (v :: vs) (d :: ds)
end
section
variable {s : Bool} {K : PySem.W.Frag} {F F' : List Addr} {G G' : Hp}
theorem Tp.sq {a : Addr} {xs : List V} (h : Tp K G a xs) : SqT K G a xs := h.elim (fun h => .inl (.inl h)) .inr
theorem Ls.sq {a : Addr} {xs : List V} (h : Ls s K G a xs) : SqL K G a xs := by
  cases s with
  | true => exact .inl (.inl h)
  | false => exact h
theorem Tp.mono (hG : ∀ a xs, G a = some (.tup xs) → G' a = some (.tup xs)) {a : Addr} {xs : List V} (h : Tp K G a xs) : Tp K G' a xs := h.imp (hG a xs) id
theorem Ls.mono (hG : ∀ a o, G a = some o → G' a = some o) {a : Addr} {xs : List V} (h : Ls s K G a xs) : Ls s K G' a xs := by
  cases s with
  | true => exact hG _ _ h
  | false => exact Same.seq (H := G) (H' := G') hG h
mutual
theorem Dn.mono (hF : ∃ F1, F' = F ++ F1) (hG : ∀ a o, G a = some o → G' a = some o) : ∀ {v : V} {d : D}, Dn s K F G v d → Dn s K F' G' v d
  | _, _, .non => .non
  | _, _, .bl b => .bl b
  | _, _, .int i => .int i
  | _, _, .str x => .str x
  | _, _, .tup h r => .tup (h.mono fun a xs => hG a _) (DnA.mono hF hG r)
  | _, _, .lst h r => .lst (h.mono hG) (DnA.mono hF hG r)
  | _, _, .hnd h => .hnd (by obtain ⟨F1, rfl⟩ := hF; rw [List.getElem?_append_left (List.getElem?_eq_some_iff.mp h).1]; exact h)
  | _, _, .dic h => .dic (hG _ _ h)
  | _, _, .dc1 h r => .dc1 (hG _ _ h) (Dn.mono hF hG r)
  | _, _, .exc h n => .exc (hG _ _ h) n
  | _, _, .fn h => .fn h
  | _, _, .ptr => .ptr
theorem DnA.mono (hF : ∃ F1, F' = F ++ F1) (hG : ∀ a o, G a = some o → G' a = some o) : ∀ {vs : List V} {ds : List D}, DnA s K F G vs ds → DnA s K F' G' vs ds
  | _, _, .nil => .nil
  | _, _, .cons h r => .cons (Dn.mono hF hG h) (DnA.mono hF hG r)
end
mutual
theorem Dn.flat {s' : Bool} (hF : ∃ F1, F' = F ++ F1) (hG : ∀ a o, IsT o → G a = some o → G' a = some o) : ∀ {v : V} {d : D}, Dn s K F G v d → d.nl = true → Dn s' K F' G' v d
  | _, _, .non, _ => .non
  | _, _, .bl b, _ => .bl b
  | _, _, .int i, _ => .int i
  | _, _, .str x, _ => .str x
  | _, _, .tup h r, n => .tup (h.mono fun a xs => hG a _ trivial) (DnA.flat hF hG r n)
  | _, _, .dic _, n => by cases n
  | _, _, .dc1 _ _, n => by cases n
  | _, _, .exc h c, _ => .exc (hG _ _ trivial h) c
  | _, _, .fn h, _ => .fn h
  | _, _, .ptr, _ => .ptr
  | _, _, .lst h r, n => by cases n
  | _, _, .hnd h, _ => .hnd (by obtain ⟨F1, rfl⟩ := hF; rw [List.getElem?_append_left (List.getElem?_eq_some_iff.mp h).1]; exact h)
theorem DnA.flat {s' : Bool} (hF : ∃ F1, F' = F ++ F1) (hG : ∀ a o, IsT o → G a = some o → G' a = some o) : ∀ {vs : List V} {ds : List D}, DnA s K F G vs ds → D.nls ds = true → DnA s' K F' G' vs ds
  | _, _, .nil, _ => .nil
  | _, _, .cons h r, n => by
    rw [D.nls, Bool.and_eq_true] at n
    exact .cons (Dn.flat hF hG h n.1) (DnA.flat hF hG r n.2)
end
mutual
theorem Dn.weak : ∀ {v : V} {d : D}, Dn true K F G v d → Dn false K F G v d
  | _, _, .non => .non
  | _, _, .bl b => .bl b
  | _, _, .int i => .int i
  | _, _, .str x => .str x
  | _, _, .tup h r => .tup h (DnA.weak r)
  | _, _, .lst h r => .lst (.inl (.inl h)) (DnA.weak r)
  | _, _, .hnd h => .hnd h
  | _, _, .dic h => .dic h
  | _, _, .dc1 h r => .dc1 h (Dn.weak r)
  | _, _, .exc h n => .exc h n
  | _, _, .fn h => .fn h
  | _, _, .ptr => .ptr
theorem DnA.weak : ∀ {vs : List V} {ds : List D}, DnA true K F G vs ds → DnA false K F G vs ds
  | _, _, .nil => .nil
  | _, _, .cons h r => .cons (Dn.weak h) (DnA.weak r)
end
theorem DnA.length : ∀ {vs : List V} {ds : List D}, DnA s K F G vs ds → vs.length = ds.length
  | _, _, .nil => rfl
  | _, _, .cons _ r => congrArg (· + 1) (DnA.length r)
theorem DnA.get : ∀ {vs : List V} {ds : List D} {i : Nat} {v : V}, DnA s K F G vs ds → vs[i]? = some v → ∃ d, ds[i]? = some d ∧ Dn s K F G v d
  | _, _, _, _, .nil, e => by simp at e
  | _, _, 0, _, .cons h _, e => by simp at e; subst e; exact ⟨_, rfl, h⟩
  | _, _, i + 1, _, .cons _ r, e => by
    obtain ⟨d, h1, h2⟩ := DnA.get (i := i) r (by simpa using e)
    exact ⟨d, by simpa using h1, h2⟩
theorem DnA.getD : ∀ {vs : List V} {ds : List D} {i : Nat} {d : D}, DnA s K F G vs ds → ds[i]? = some d → ∃ v, vs[i]? = some v ∧ Dn s K F G v d
  | _, _, _, _, .nil, e => by simp at e
  | _, _, 0, _, .cons h _, e => by simp at e; subst e; exact ⟨_, rfl, h⟩
  | _, _, i + 1, _, .cons _ r, e => by
    obtain ⟨d, h1, h2⟩ := DnA.getD (i := i) r (by simpa using e)
    exact ⟨d, by simpa using h1, h2⟩
theorem DnA.app : ∀ {vs ws : List V} {ds es : List D}, DnA s K F G vs ds → DnA s K F G ws es → DnA s K F G (vs ++ ws) (ds ++ es)
  | _, _, _, _, .nil, r => r
  | _, _, _, _, .cons h t, r => .cons h (DnA.app t r)
theorem DnA.take : ∀ {vs : List V} {ds : List D} (n : Nat), DnA s K F G vs ds → DnA s K F G (vs.take n) (ds.take n)
  | _, _, 0, _ => .nil
  | _, _, _ + 1, .nil => .nil
  | _, _, n + 1, .cons h t => .cons h (DnA.take n t)
theorem DnA.drop : ∀ {vs : List V} {ds : List D} (n : Nat), DnA s K F G vs ds → DnA s K F G (vs.drop n) (ds.drop n)
  | _, _, 0, r => r
  | _, _, _ + 1, .nil => .nil
  | _, _, n + 1, .cons _ t => DnA.drop n t
theorem DnA.set {x : V} {d : D} (r : Dn s K F G x d) : ∀ {xs : List V} {ds : List D} (i : Nat), DnA s K F G xs ds → DnA s K F G (xs.set i x) (ds.set i d)
  | _, _, _, .nil => .nil
  | _, _, 0, .cons _ t => .cons r t
  | _, _, i + 1, .cons q t => .cons q (DnA.set r i t)
theorem DnA.rep {vs : List V} {ds : List D} (h : DnA s K F G vs ds) : ∀ k : Nat, DnA s K F G (List.replicate k vs).flatten (List.replicate k ds).flatten
  | 0 => .nil
  | k + 1 => by
    rw [List.replicate_succ, List.replicate_succ, List.flatten_cons, List.flatten_cons]
    exact h.app (DnA.rep h k)
end
noncomputable def vw (p : Addr → HO → Prop) (H : Hp) : Hp := fun a => (H a).bind fun o => open Classical in if p a o then some o else none
theorem vw_iff {p : Addr → HO → Prop} {H : Hp} {a : Addr} {o : HO} : vw p H a = some o ↔ H a = some o ∧ p a o := by
  unfold vw
  cases e : H a with
  | none => simp
  | some u =>
    simp only [Option.bind_some]
    by_cases q : p a u
    · rw [if_pos q]
      exact Iff.intro (fun z => by cases z; exact ⟨rfl, q⟩) (fun z => z.1)
    · rw [if_neg q]
      exact Iff.intro (fun z => by cases z) (fun z => by obtain ⟨z1, z2⟩ := z; cases z1; exact absurd z2 q)
theorem IsT.not_L {o : HO} (h : IsT o) (h' : IsL o) : False := by cases o <;> first | exact h | exact h'
noncomputable def sv (H0 : Hp) (Pr : Addr → Prop) (H : Hp) : Hp := vw (fun a o => IsT o ∨ (IsL o ∧ ¬ Pr a ∧ H0 a = none)) H
noncomputable def wv (F : List Addr) (H : Hp) : Hp := vw (fun a _ => a ∉ F) H
theorem sv_le {H0 : Hp} {Pr : Addr → Prop} {H : Hp} {a : Addr} {o : HO} (h : sv H0 Pr H a = some o) : H a = some o := (vw_iff.mp h).1
theorem wv_le {F : List Addr} {H : Hp} {a : Addr} {o : HO} (h : wv F H a = some o) : H a = some o := (vw_iff.mp h).1
structure Wd where
  M : Type
  Rz : M → List Addr → Hp → Prop
  keep : ∀ {m F H H'}, Rz m F H → (∀ a ∈ F, H' a = H a) → (∀ a o, IsT o → H a = some o → H' a = some o) → Rz m F H'
  there : ∀ {m F H}, Rz m F H → ∀ a ∈ F, ∃ o, H a = some o ∧ ¬ IsT o
inductive Sl where
  | un | val (d : D) | bor (d : D) | own (ds : List D) | dct (kvs : List (List Int × Int))
abbrev En := List Sl
structure Cn where
  W : Wd
  /-- what a view leaves out: all lists that stood at the entry but those that are handed over to be kept -/
  H0 : Hp
  F0 : List Addr
  wx : WX
  /-- all that stood at the entry -/
  K0 : Hp
  sub : ∀ a o, H0 a = some o → K0 a = some o
theorem Cn.k0 (C : Cn) {a : Addr} (h : C.K0 a = none) : C.H0 a = none := by
  cases e : C.H0 a with
  | none => rfl
  | some o => rw [C.sub a o e] at h; cases h
structure Tr (Pr : Addr → Prop) (F : List Addr) (H : Hp) (Pr' : Addr → Prop) (F' : List Addr) (H' : Hp) : Prop where
  pre : ∃ F1, F' = F ++ F1
  prn : ∀ a, Pr' a → ¬ Pr a → H a = none
  fn : ∀ a ∈ F', a ∉ F → H a = none
  stay : ∀ a o, H a = some o → ∃ o', H' a = some o'
  keep : ∀ a o, ¬ Pr a → H a = some o → H' a = some o
structure Te (Pr : Addr → Prop) (F : List Addr) (H : Hp) (Pr' : Addr → Prop) (F' : List Addr) (H' : Hp) : Prop extends Tr Pr F H Pr' F' H' where
  prm : ∀ a, Pr a → Pr' a
  all : ∀ a o, a ∉ F → H a = some o → H' a = some o
def entI (x : List Int × Int) : List Key × V := (x.1.map Sum.inl, .int x.2)
def Sk (K : PySem.W.Frag) (C : Cn) (Pr : Addr → Prop) (F : List Addr) (H : Hp) (v? : Option (Option V)) : Sl → Prop
  | .un => True
  | .val d => ∃ v, v? = some (some v) ∧ Dn true K F (sv C.H0 Pr H) v d
  | .bor d => ∃ v, v? = some (some v) ∧ Dn false K C.F0 (wv C.F0 C.K0) v d
  | .own ds => ∃ p vs, v? = some (some (.ref p)) ∧ H p = some (.lst vs) ∧ Pr p ∧ p ∉ F ∧ DnA true K F (sv C.H0 Pr H) vs ds
  | .dct kvs => ∃ p, v? = some (some (.ref p)) ∧ H p = some (.dT (kvs.map entI)) ∧ Pr p ∧ p ∉ F
structure SR (K : PySem.W.Frag) (C : Cn) (Pr : Addr → Prop) (F : List Addr) (σ : L2.St) (ρ : En) (m : C.W.M) (H : Hp) : Prop where
  keep : ∀ a o, a ∉ C.F0 → C.K0 a = some o → H a = some o
  pre : ∃ F1, F = C.F0 ++ F1
  new : ∀ a ∈ F, a ∉ C.F0 → C.K0 a = none
  prs : ∀ a, Pr a → ∃ o, H a = some o ∧ ¬ IsT o
  prn : ∀ a, Pr a → a ∉ F → C.K0 a = none
  prf : ∀ a ∈ F, Pr a
  rz : C.W.Rz m F H
  len : ρ.length = σ.length
  slot : ∀ (i : Nat) (s : Sl), ρ[i]? = some s → Sk K C Pr F H σ[i]? s
  dist : ∀ (i j : Nat) (ds es : List D) (p : Addr), i ≠ j → ρ[i]? = some (.own ds) → ρ[j]? = some (.own es) → σ[i]? = some (some (.ref p)) → σ[j]? = some (some (.ref p)) → False
section
variable {Pr Pr1 Pr2 : Addr → Prop} {F F1 F2 : List Addr} {H H1 H2 : Hp}
theorem pre_trans (a : ∃ G, F1 = F ++ G) (b : ∃ G, F2 = F1 ++ G) : ∃ G, F2 = F ++ G := by
  obtain ⟨x, rfl⟩ := a
  obtain ⟨y, rfl⟩ := b
  exact ⟨x ++ y, by rw [List.append_assoc]⟩
theorem pre_mem (a : ∃ G, F1 = F ++ G) {x : Addr} (h : x ∈ F) : x ∈ F1 := by
  obtain ⟨y, rfl⟩ := a
  exact List.mem_append_left _ h
theorem some_of {a : Addr} (h : ∀ o, H a = some o → ∃ o', H1 a = some o') (e : H1 a = none) : H a = none := by
  cases q : H a with
  | none => rfl
  | some o =>
    obtain ⟨o', z⟩ := h o q
    rw [e] at z; cases z
theorem Tr.refl : Tr Pr F H Pr F H := ⟨⟨[], by simp⟩, fun _ h n => absurd h n, fun _ h n => absurd h n, fun _ o h => ⟨o, h⟩, fun _ _ _ h => h⟩
theorem Te.refl : Te Pr F H Pr F H := ⟨Tr.refl, fun _ h => h, fun _ _ _ h => h⟩
theorem Tr.trans (a : Tr Pr F H Pr1 F1 H1) (b : Tr Pr1 F1 H1 Pr2 F2 H2) : Tr Pr F H Pr2 F2 H2 := by
  refine ⟨pre_trans a.pre b.pre, fun x h n => ?_, fun x h n => ?_, fun x o h => ?_, fun x o n h => ?_⟩
  · by_cases q : Pr1 x
    · exact a.prn x q n
    · exact some_of (a.stay x) (b.prn x h q)
  · by_cases q : x ∈ F1
    · exact a.fn x q n
    · exact some_of (a.stay x) (b.fn x h q)
  · obtain ⟨o', h'⟩ := a.stay x o h
    exact b.stay x o' h'
  · refine b.keep x o (fun q => ?_) (a.keep x o n h)
    have z := a.prn x q n
    rw [h] at z; cases z
theorem Te.trans (a : Te Pr F H Pr1 F1 H1) (b : Te Pr1 F1 H1 Pr2 F2 H2) : Te Pr F H Pr2 F2 H2 := by
  refine ⟨a.toTr.trans b.toTr, fun x h => b.prm x (a.prm x h), fun x o n h => b.all x o (fun q => ?_) (a.all x o n h)⟩
  have z := a.fn x q n
  rw [h] at z; cases z
theorem sv_tr {H0 : Hp} (t : Tr Pr F H Pr1 F1 H1) (hp : ∀ a, Pr a → ∃ o, H a = some o ∧ ¬ IsT o) : ∀ a o, sv H0 Pr H a = some o → sv H0 Pr1 H1 a = some o := fun a o h => by
  obtain ⟨e, q⟩ := vw_iff.mp h
  have np : ¬ Pr a := fun z => by
    rcases q with q | q
    · obtain ⟨o', e', n⟩ := hp a z
      rw [e] at e'; cases e'
      exact n q
    · exact q.2.1 z
  refine vw_iff.mpr ⟨t.keep a o np e, q.imp id fun q => ⟨q.1, fun z => ?_, q.2.2⟩⟩
  have z := t.prn a z np
  rw [e] at z; cases z
theorem wv_te (t : Te Pr F H Pr1 F1 H1) : ∀ a o, wv F H a = some o → wv F1 H1 a = some o := fun a o h => by
  obtain ⟨e, q⟩ := vw_iff.mp h
  refine vw_iff.mpr ⟨t.all a o q e, fun z => ?_⟩
  have z := t.fn a z q
  rw [e] at z; cases z
theorem Dn.tr {K : PySem.W.Frag} {H0 : Hp} {v : V} {d : D} (t : Tr Pr F H Pr1 F1 H1) (hp : ∀ a, Pr a → ∃ o, H a = some o ∧ ¬ IsT o) (h : Dn true K F (sv H0 Pr H) v d) : Dn true K F1 (sv H0 Pr1 H1) v d :=
  h.mono t.pre (sv_tr t hp)
theorem Dn.te {K : PySem.W.Frag} {v : V} {d : D} (t : Te Pr F H Pr1 F1 H1) (h : Dn false K F (wv F H) v d) : Dn false K F1 (wv F1 H1) v d := h.mono t.pre (wv_te t)
end
end RR
namespace RR
open PySem PySem.Spec PyProof.Rows L2
variable {K : PySem.W.Frag} {C : Cn} {Pr Pr' : Addr → Prop} {F F' : List Addr} {σ : L2.St} {ρ : En} {m m' : C.W.M} {H H' : Hp}
theorem SR.h0 (S : SR K C Pr F σ ρ m H) {a : Addr} (e : H a = none) : a ∉ C.F0 → C.K0 a = none := fun n => by
  cases q : C.K0 a with
  | none => rfl
  | some o =>
    have z := S.keep a o n q
    rw [e] at z; cases z
theorem SR.pf0 (S : SR K C Pr F σ ρ m H) {a : Addr} (h : a ∈ C.F0) : a ∈ F := pre_mem S.pre h
theorem SR.nf {a : Addr} (S : SR K C Pr F σ ρ m H) (e : H a = none) : a ∉ F := fun z => by
  obtain ⟨o, q, _⟩ := S.prs a (S.prf a z)
  rw [e] at q; cases q
theorem SR.np {a : Addr} (S : SR K C Pr F σ ρ m H) (e : H a = none) : ¬ Pr a := fun z => by
  obtain ⟨o, q, _⟩ := S.prs a z
  rw [e] at q; cases q
theorem SR.k0n (S : SR K C Pr F σ ρ m H) {a : Addr} (e : H a = none) : C.K0 a = none := S.h0 e fun z => S.nf e (S.pf0 z)
theorem SR.h0n (S : SR K C Pr F σ ρ m H) {a : Addr} (e : H a = none) : C.H0 a = none := C.k0 (S.k0n e)
theorem SR.te (S : SR K C Pr F σ ρ m H) (k : ∀ a o, H a = some o → H' a = some o) : Te Pr F H Pr F H' :=
  ⟨⟨⟨[], by simp⟩, fun _ h n => absurd h n, fun _ h n => absurd h n, fun a o h => ⟨o, k a o h⟩, fun a o _ h => k a o h⟩, fun _ h => h, fun a o _ h => k a o h⟩
theorem Sk.tr {v? : Option (Option V)} (hs : ∀ a, Pr a → ∃ o, H a = some o ∧ ¬ IsT o) (t : Tr Pr F H Pr' F' H') (ko : ∀ p, Pr p → p ∉ F → ∀ o, H p = some o → H' p = some o) (po : ∀ p, Pr p → p ∉ F → Pr' p) :
    ∀ {s : Sl}, Sk K C Pr F H v? s → Sk K C Pr' F' H' v? s
  | .un, _ => trivial
  | .val d, ⟨v, e, h⟩ => ⟨v, e, h.tr t hs⟩
  | .bor d, h => h
  | .own ds, ⟨p, vs, e, hp, pp, nf, h⟩ => ⟨p, vs, e, ko p pp nf _ hp, po p pp nf, (fun z => by
      have q := t.fn p z nf
      rw [hp] at q
      cases q), h.mono t.pre (sv_tr t hs)⟩
  | .dct kvs, ⟨p, e, hp, pp, nf⟩ => ⟨p, e, ko p pp nf _ hp, po p pp nf, fun z => by
      have q := t.fn p z nf
      rw [hp] at q
      cases q⟩
theorem SR.grow (S : SR K C Pr F σ ρ m H) (k : ∀ a o, H a = some o → H' a = some o) : SR K C Pr F σ ρ m H' where
  keep := fun a o n e => k a o (S.keep a o n e)
  pre := S.pre
  new := S.new
  prs := fun a p => let ⟨o, e, n⟩ := S.prs a p; ⟨o, k a o e, n⟩
  prn := S.prn
  prf := S.prf
  rz := C.W.keep S.rz (fun a h => by
    obtain ⟨o, e, _⟩ := S.prs a (S.prf a h)
    rw [e, k a o e]) fun a o _ e => k a o e
  len := S.len
  slot := fun i s e => Sk.tr S.prs (S.te k).toTr (fun p _ _ o h => k p o h) (fun p h _ => h) (S.slot i s e)
  dist := S.dist
theorem SR.new1 (S : SR K C Pr F σ ρ m H) {p : Addr} {o : HO} (h : H p = none) : SR K C Pr F σ ρ m (upd H p o) ∧ Te Pr F H Pr F (upd H p o) := by
  have k : ∀ a u, H a = some u → upd H p o a = some u := fun a u e => by rw [upd_ne (ne_of_none e h)]; exact e
  exact ⟨S.grow k, S.te k⟩
theorem SR.turned (S : SR K C Pr F σ ρ m H) (rz : C.W.Rz m' F' H') (pre : ∃ G, F' = F ++ G) (fr : ∀ a ∈ F', a ∉ F → H a = none) (k : ∀ a o, a ∉ F → H a = some o → H' a = some o) :
    SR K C (fun a => Pr a ∨ a ∈ F') F' σ ρ m' H' ∧ Te Pr F H (fun a => Pr a ∨ a ∈ F') F' H' := by
  have t : Te Pr F H (fun a => Pr a ∨ a ∈ F') F' H' := by
    refine ⟨⟨pre, fun a h n => ?_, fr, fun a o h => ?_, fun a o n h => ?_⟩, fun _ h => .inl h, k⟩
    · rcases h with h | h
      · exact absurd h n
      · exact fr a h fun z => n (S.prf a z)
    · by_cases q : a ∈ F
      · obtain ⟨o', e, _⟩ := C.W.there rz a (pre_mem pre q)
        exact ⟨o', e⟩
      · exact ⟨o, k a o q h⟩
    · exact k a o (fun z => n (S.prf a z)) h
  refine ⟨⟨fun a o n e => k a o (fun z => ?_) (S.keep a o n e), pre_trans S.pre pre, fun a h n => ?_, fun a h => ?_, fun a h n => ?_, fun a h => .inr h, rz, S.len, fun i s e => Sk.tr S.prs t.toTr (fun p _ nf o h => k p o nf h) (fun p h _ => .inl h) (S.slot i s e), S.dist⟩, t⟩
  · have z := S.new a z n
    rw [e] at z; cases z
  · by_cases q : a ∈ F
    · exact S.new a q n
    · exact S.h0 (fr a h q) n
  · by_cases q : a ∈ F'
    · exact C.W.there rz a q
    · rcases h with h | h
      · obtain ⟨o, e, n⟩ := S.prs a h
        exact ⟨o, k a o (fun z => q (pre_mem pre z)) e, n⟩
      · exact absurd h q
  · rcases h with h | h
    · exact S.prn a h fun z => n (pre_mem pre z)
    · exact absurd h n
theorem get_set {α : Type} {l : List α} {i j : Nat} {x y : α} (h : (l.set i x)[j]? = some y) : (j = i ∧ y = x) ∨ (j ≠ i ∧ l[j]? = some y) := by
  by_cases e : j = i
  · subst e
    refine .inl ⟨rfl, ?_⟩
    by_cases q : j < l.length
    · rw [List.getElem?_set_self q] at h
      exact (Option.some.inj h).symm
    · rw [List.getElem?_eq_none (by simpa using Nat.le_of_not_lt q)] at h; cases h
  · rw [List.getElem?_set_ne (Ne.symm e)] at h
    exact .inr ⟨e, h⟩
theorem lt_of_set {α : Type} {l : List α} {i : Nat} {x y : α} (h : (l.set i x)[i]? = some y) : i < l.length := by
  have z := (List.getElem?_eq_some_iff.mp h).1
  simpa using z
theorem SR.set (S : SR K C Pr F σ ρ m H) {v : V} {d : D} (i : Nat) (h : Dn true K F (sv C.H0 Pr H) v d) : SR K C Pr F (σ.set i (some v)) (ρ.set i (.val d)) m H where
  keep := S.keep
  pre := S.pre
  new := S.new
  prs := S.prs
  prn := S.prn
  prf := S.prf
  rz := S.rz
  len := by simpa using S.len
  slot := fun j s e => by
    rcases get_set e with ⟨rfl, rfl⟩ | ⟨ne, e⟩
    · have hi : j < σ.length := by rw [← S.len]; exact lt_of_set e
      exact ⟨v, by rw [List.getElem?_set_self hi], h⟩
    · rw [List.getElem?_set_ne (Ne.symm ne)]
      exact S.slot j s e
  dist := fun a b ds es p ne ea eb sa sb => by
    rcases get_set ea with ⟨rfl, q⟩ | ⟨na, ea⟩
    · cases q
    · rcases get_set eb with ⟨rfl, q⟩ | ⟨nb, eb⟩
      · cases q
      · rw [List.getElem?_set_ne (Ne.symm na)] at sa
        rw [List.getElem?_set_ne (Ne.symm nb)] at sb
        exact S.dist a b ds es p ne ea eb sa sb
theorem SR.drop (S : SR K C Pr F σ ρ m H) (i : Nat) (x : Option V) : SR K C Pr F (σ.set i x) (ρ.set i .un) m H where
  keep := S.keep
  pre := S.pre
  new := S.new
  prs := S.prs
  prn := S.prn
  prf := S.prf
  rz := S.rz
  len := by simpa using S.len
  slot := fun j s e => by
    rcases get_set e with ⟨rfl, rfl⟩ | ⟨ne, e⟩
    · trivial
    · rw [List.getElem?_set_ne (Ne.symm ne)]
      exact S.slot j s e
  dist := fun a b ds es p ne ea eb sa sb => by
    rcases get_set ea with ⟨rfl, q⟩ | ⟨na, ea⟩
    · cases q
    · rcases get_set eb with ⟨rfl, q⟩ | ⟨nb, eb⟩
      · cases q
      · rw [List.getElem?_set_ne (Ne.symm na)] at sa
        rw [List.getElem?_set_ne (Ne.symm nb)] at sb
        exact S.dist a b ds es p ne ea eb sa sb
theorem SR.ownedN (S : SR K C Pr F σ ρ m H) (t : Te Pr F H Pr' F' H') (S' : SR K C Pr' F' σ ρ m' H') {p : Addr} {vs : List V} {ds : List D} (i : Nat) (hn : H p = none) (hp : H' p = some (.lst vs)) (np : ¬ Pr' p)
    (h : DnA true K F' (sv C.H0 (fun a => Pr' a ∨ a = p) H') vs ds) :
    SR K C (fun a => Pr' a ∨ a = p) F' (σ.set i (some (.ref p))) (ρ.set i (.own ds)) m' H' ∧ Te Pr F H (fun a => Pr' a ∨ a = p) F' H' := by
  have t2 : Te Pr F H (fun a => Pr' a ∨ a = p) F' H' := by
    refine ⟨⟨t.pre, fun a h n => ?_, t.fn, t.stay, t.keep⟩, fun a h => .inl (t.prm a h), t.all⟩
    rcases h with h | rfl
    · exact t.prn a h n
    · exact hn
  have nf : p ∉ F' := fun z => np (S'.prf p z)
  have h0p : C.K0 p = none := S.k0n hn
  refine ⟨⟨S'.keep, S'.pre, S'.new, fun a ha => ?_, fun a ha n => ?_, fun a ha => .inl (S'.prf a ha), S'.rz, by simpa using S'.len, fun j s e => ?_, fun a b ds es q ne ea eb sa sb => ?_⟩, t2⟩
  · rcases ha with ha | rfl
    · exact S'.prs a ha
    · exact ⟨_, hp, fun z => z⟩
  · rcases ha with ha | rfl
    · exact S'.prn a ha n
    · exact h0p
  · rcases get_set e with ⟨rfl, rfl⟩ | ⟨ne, e⟩
    · have hi : j < σ.length := by rw [← S.len]; exact lt_of_set e
      exact ⟨p, vs, by rw [List.getElem?_set_self hi], hp, .inr rfl, nf, h⟩
    · rw [List.getElem?_set_ne (Ne.symm ne)]
      cases s with
      | un => trivial
      | bor d => exact S.slot j _ e
      | val d =>
        obtain ⟨v, e1, q⟩ := S.slot j _ e
        exact ⟨v, e1, q.tr t2.toTr S.prs⟩
      | dct kvs => exact Sk.tr S.prs t2.toTr (fun q _ nq o hq => t.all q o nq hq) (fun q pq _ => .inl (t.prm q pq)) (S.slot j _ e)
      | own ds' =>
        exact Sk.tr S.prs t2.toTr (fun q _ nq o hq => t.all q o nq hq) (fun q pq _ => .inl (t.prm q pq)) (S.slot j _ e)
  · have own : ∀ c es', c ≠ i → ρ[c]? = some (.own es') → σ[c]? = some (some (.ref p)) → False := fun c es' nc ec sc => by
      obtain ⟨q', ws, e1, h1, h2, _⟩ := S'.slot c _ ec
      rw [sc] at e1
      cases e1
      exact np h2
    by_cases ha : a = i
    · subst ha
      have hi : a < σ.length := by rw [← S.len]; exact lt_of_set ea
      rw [List.getElem?_set_self hi] at sa
      cases sa
      rw [List.getElem?_set_ne ne] at eb sb
      exact own b _ (Ne.symm ne) eb sb
    · rw [List.getElem?_set_ne (Ne.symm ha)] at ea sa
      by_cases hb : b = i
      · subst hb
        have hi : b < σ.length := by rw [← S.len]; exact lt_of_set eb
        rw [List.getElem?_set_self hi] at sb
        cases sb
        exact own a _ ha ea sa
      · rw [List.getElem?_set_ne (Ne.symm hb)] at eb sb
        exact S.dist a b _ _ q ne ea eb sa sb
theorem SR.owned (S : SR K C Pr F σ ρ m H) (t : Te Pr F H Pr' F' H') (S' : SR K C Pr' F' σ ρ m' H') {p : Addr} {vs : List V} {ds : List D} (i : Nat) (hn : H p = none) (hp : H' p = some (.lst vs)) (np : ¬ Pr' p)
    (h : DnA true K F' (sv C.H0 Pr' H') vs ds) (n : D.nls ds = true) :
    SR K C (fun a => Pr' a ∨ a = p) F' (σ.set i (some (.ref p))) (ρ.set i (.own ds)) m' H' ∧ Te Pr F H (fun a => Pr' a ∨ a = p) F' H' :=
  S.ownedN t S' i hn hp np (h.flat ⟨[], by simp⟩ (fun a o i q => vw_iff.mpr ⟨sv_le q, .inl i⟩) n)
theorem SR.change (S : SR K C Pr F σ ρ m H) {i : Nat} {p : Addr} {ds es : List D} {ws : List V} (e : ρ[i]? = some (.own ds)) (e1 : σ[i]? = some (some (.ref p))) (h : DnA true K F (sv C.H0 Pr H) ws es) :
    SR K C Pr F σ (ρ.set i (.own es)) m (upd H p (.lst ws)) ∧ Tr Pr F H Pr F (upd H p (.lst ws)) := by
  obtain ⟨p', vs, e2, hp, pp, nf, h4⟩ := S.slot i _ e
  rw [e1] at e2
  cases e2
  have t : Tr Pr F H Pr F (upd H p (.lst ws)) := ⟨⟨[], by simp⟩, fun _ h n => absurd h n, fun _ h n => absurd h n, fun a o h => by
    by_cases q : a = p
    · exact ⟨_, by rw [q, upd_same]⟩
    · exact ⟨o, by rw [upd_ne q]; exact h⟩, fun a o n h => by rw [upd_ne (fun q => n (by rw [q]; exact pp))]; exact h⟩
  have h0p : C.K0 p = none := S.prn p pp nf
  refine ⟨⟨fun a o n e => ?_, S.pre, S.new, fun a ha => ?_, S.prn, S.prf, C.W.keep S.rz (fun a ha => upd_ne fun q => nf (q ▸ ha)) (fun a o it e => by rw [upd_ne (fun q => by rw [q, hp] at e; cases e; exact it)]; exact e), by simpa using S.len, fun j s e => ?_, fun a b ds' es' q ne ea eb sa sb => ?_⟩, t⟩
  · rw [upd_ne (fun q => by rw [q, h0p] at e; cases e)]
    exact S.keep a o n e
  · by_cases q : a = p
    · exact ⟨.lst ws, by rw [q, upd_same], fun z => z⟩
    · obtain ⟨o, e, n⟩ := S.prs a ha
      exact ⟨o, by rw [upd_ne q]; exact e, n⟩
  · rcases get_set e with ⟨rfl, rfl⟩ | ⟨ne, e⟩
    · exact ⟨p, ws, e1, upd_same, pp, nf, h.mono ⟨[], by simp⟩ (sv_tr t S.prs)⟩
    · cases s with
      | un => trivial
      | bor d => exact S.slot j _ e
      | val d =>
        obtain ⟨v, e1, q⟩ := S.slot j _ e
        exact ⟨v, e1, q.tr t S.prs⟩
      | dct kvs =>
        obtain ⟨q, e3, h1, h2, h3⟩ := S.slot j _ e
        refine ⟨q, e3, ?_, h2, h3⟩
        rw [upd_ne (fun z => ?_)]
        · exact h1
        · subst z; rw [hp] at h1; cases h1
      | own ds' =>
        obtain ⟨q, ws', e3, h1, h2, h3, h4⟩ := S.slot j _ e
        refine ⟨q, ws', e3, ?_, h2, h3, h4.mono ⟨[], by simp⟩ (sv_tr t S.prs)⟩
        rw [upd_ne (fun z => ?_)]
        · exact h1
        · subst z
          exact S.dist j i _ _ _ ne e ‹ρ[i]? = some (.own ds)› e3 e1
  · have old : ∀ (c : Nat) (x : List D), (ρ.set i (.own es))[c]? = some (Sl.own x) → ∃ y, ρ[c]? = some (Sl.own y) := fun c x h => by
      rcases get_set h with ⟨q', z⟩ | ⟨_, z⟩
      · exact ⟨ds, by rw [q']; exact e⟩
      · exact ⟨x, z⟩
    obtain ⟨y, ea⟩ := old a _ ea
    obtain ⟨z, eb⟩ := old b _ eb
    exact S.dist a b y z q ne ea eb sa sb
theorem SR.release (S : SR K C Pr F σ ρ m H) {i : Nat} {ds : List D} (e : ρ[i]? = some (.own ds)) :
    ∃ Pr', SR K C Pr' F σ (ρ.set i (.val (.lst ds))) m H ∧ Tr Pr F H Pr' F H := by
  obtain ⟨p, vs, e1, hp, pp, nf, h4⟩ := S.slot i _ e
  have h0p : C.K0 p = none := S.prn p pp nf
  have t : Tr Pr F H (fun a => Pr a ∧ a ≠ p) F H := ⟨⟨[], by simp⟩, fun _ h n => absurd h.1 n, fun _ h n => absurd h n, fun a o h => ⟨o, h⟩, fun _ _ _ h => h⟩
  refine ⟨_, ⟨S.keep, S.pre, S.new, fun a h => S.prs a h.1, fun a h n => S.prn a h.1 n, fun a h => ⟨S.prf a h, fun q => nf (q ▸ h)⟩, S.rz, by simpa using S.len, fun j s ej => ?_, fun a b ds' es' q ne ea eb sa sb => ?_⟩, t⟩
  · rcases get_set ej with ⟨rfl, rfl⟩ | ⟨ne, ej⟩
    · refine ⟨.ref p, e1, .lst (vw_iff.mpr ⟨hp, .inr ⟨trivial, fun z => z.2 rfl, C.k0 h0p⟩⟩) (h4.mono ⟨[], by simp⟩ (sv_tr t S.prs))⟩
    · cases s with
      | un => trivial
      | bor d => exact S.slot j _ ej
      | val d =>
        obtain ⟨v, e1, q⟩ := S.slot j _ ej
        exact ⟨v, e1, q.tr t S.prs⟩
      | dct kvs =>
        obtain ⟨q, e3, h1, h2, h3⟩ := S.slot j _ ej
        exact ⟨q, e3, h1, ⟨h2, fun z => by subst z; rw [hp] at h1; cases h1⟩, h3⟩
      | own ds' =>
        obtain ⟨q, ws', e3, h1, h2, h3, h4⟩ := S.slot j _ ej
        refine ⟨q, ws', e3, h1, ⟨h2, fun z => ?_⟩, h3, h4.mono ⟨[], by simp⟩ (sv_tr t S.prs)⟩
        subst z
        exact S.dist j i _ _ _ ne ej e e3 e1
  · rcases get_set ea with ⟨rfl, z⟩ | ⟨na, ea⟩
    · cases z
    · rcases get_set eb with ⟨rfl, z⟩ | ⟨nb, eb⟩
      · cases z
      · exact S.dist a b _ _ q ne ea eb sa sb
def wipeD (ρ : En) : List Nat → En
  | [] => ρ
  | i :: r => (wipeD ρ r).set i .un
theorem SR.wipe : ∀ (vs : List Nat) {σ : L2.St} {ρ : En}, SR K C Pr F σ ρ m H → SR K C Pr F (L2.wipe σ vs) (wipeD ρ vs) m H
  | [], _, _, S => S
  | i :: r, σ, ρ, S => by
    unfold L2.wipe wipeD
    exact (SR.wipe r S).drop i none
theorem SR.back {σ' : L2.St} {ρ' : En} (S : SR K C Pr F σ ρ m H) (t : Te Pr F H Pr' F' H') (S' : SR K C Pr' F' σ' ρ' m' H') : SR K C Pr' F' σ ρ m' H' where
  keep := S'.keep
  pre := S'.pre
  new := S'.new
  prs := S'.prs
  prn := S'.prn
  prf := S'.prf
  rz := S'.rz
  len := S.len
  slot := fun i s e => Sk.tr S.prs t.toTr (fun p _ nf o h => t.all p o nf h) (fun p h _ => t.prm p h) (S.slot i s e)
  dist := S.dist
end RR
namespace RR
open PySem PySem.Spec PyProof.Rows L2
abbrev DT (M : Type) := En → M → (D → M → Prop) → (Str → M → Prop) → Prop
abbrev DTT (M : Type) := En → M → (Bool → M → Prop) → (Str → M → Prop) → Prop
abbrev DTA (M : Type) := En → M → (List D → M → Prop) → (Str → M → Prop) → Prop
inductive Cl where
  | w | s | f | r
def Dv (K : PySem.W.Frag) (C : Cn) : Cl → (Addr → Prop) → List Addr → Hp → Hp → V → D → Prop
  | .w, _, F', _, H', v, d => Dn false K F' (wv F' H') v d
  | .s, Pr', F', _, H', v, d => Dn true K F' (sv C.H0 Pr' H') v d
  | .r, _, F', _, H', v, d => Dn true K F' (sv C.H0 (· ∈ F') H') v d
  | .f, Pr', F', H, H', v, d => Dn true K F' (sv C.H0 Pr' H') v d ∧ ∀ ds, d = .lst ds → ∃ p vs, v = .ref p ∧ H p = none ∧ ¬ Pr' p ∧ H' p = some (.lst vs) ∧ DnA true K F' (sv C.H0 Pr' H') vs ds
def DvA (K : PySem.W.Frag) (C : Cn) : Cl → (Addr → Prop) → List Addr → Hp → List V → List D → Prop
  | .w, _, F', H', v, d => DnA false K F' (wv F' H') v d
  | .r, _, F', H', v, d => DnA true K F' (sv C.H0 (· ∈ F') H') v d
  | _, Pr', F', H', v, d => DnA true K F' (sv C.H0 Pr' H') v d
def Post (K : PySem.W.Frag) (C : Cn) (c : Cl) (Pr : Addr → Prop) (F : List Addr) (H : Hp) (σ : L2.St) (ρ : En) (Q : D → C.W.M → Prop) : VK := fun v H' =>
  ∃ Pr' F' m' d, SR K C Pr' F' σ ρ m' H' ∧ Te Pr F H Pr' F' H' ∧ Dv K C c Pr' F' H H' v d ∧ Q d m'
def PostA (K : PySem.W.Frag) (C : Cn) (c : Cl) (Pr : Addr → Prop) (F : List Addr) (H : Hp) (σ : L2.St) (ρ : En) (Q : List D → C.W.M → Prop) : List V → Hp → Prop := fun vs H' =>
  ∃ Pr' F' m' ds, SR K C Pr' F' σ ρ m' H' ∧ Te Pr F H Pr' F' H' ∧ DvA K C c Pr' F' H' vs ds ∧ Q ds m'
def PostT (K : PySem.W.Frag) (C : Cn) (Pr : Addr → Prop) (F : List Addr) (H : Hp) (σ : L2.St) (ρ : En) (Q : Bool → C.W.M → Prop) : Bool → Hp → Prop := fun b H' =>
  ∃ Pr' F' m', SR K C Pr' F' σ ρ m' H' ∧ Te Pr F H Pr' F' H' ∧ Q b m'
def Ex (X : Cx) (C : Cn) (Pr : Addr → Prop) (F : List Addr) (H : Hp) (σ : L2.St) (ρ : En) (Z : Str → C.W.M → Prop) : Prop :=
  ∀ x cls Pr' F' m' H', X.mg x = some cls → SR X.K C Pr' F' σ ρ m' H' → Tr Pr F H Pr' F' H' → Z x m' → C.wx cls none σ H'
def J (c : Cl) (X : Cx) (C : Cn) (e : Expr) (t : DT C.W.M) : Prop := ∃ te, PE X e te ∧
  ∀ σ H Pr F ρ m Q Z (R : VK), SR X.K C Pr F σ ρ m H → Ex X C Pr F H σ ρ Z → t ρ m Q Z → (∀ v H', Post X.K C c Pr F H σ ρ Q v H' → R v H') → te σ H R
def JT (X : Cx) (C : Cn) (e : Expr) (t : DTT C.W.M) : Prop := ∃ te, PT X e te ∧
  ∀ σ H Pr F ρ m Q Z (R : Bool → Hp → Prop), SR X.K C Pr F σ ρ m H → Ex X C Pr F H σ ρ Z → t ρ m Q Z → (∀ v H', PostT X.K C Pr F H σ ρ Q v H' → R v H') → te σ H R
def JW (X : Cx) (C : Cn) (e : Expr) (t : DTT C.W.M) : Prop := ∃ te, PW X e te ∧
  ∀ σ H Pr F ρ m Q Z (R : Bool → Hp → Prop), SR X.K C Pr F σ ρ m H → Ex X C Pr F H σ ρ Z → t ρ m Q Z → (∀ v H', PostT X.K C Pr F H σ ρ Q v H' → R v H') → te σ H R
def JA (c : Cl) (X : Cx) (C : Cn) (es : List Expr) (t : DTA C.W.M) : Prop := ∃ te, PA X es te ∧
  ∀ σ H Pr F ρ m Q Z (R : List V → Hp → Prop), SR X.K C Pr F σ ρ m H → Ex X C Pr F H σ ρ Z → t ρ m Q Z → (∀ v H', PostA X.K C c Pr F H σ ρ Q v H' → R v H') → te σ H R
section
variable {K : PySem.W.Frag} {C : Cn} {Pr Pr' Pr2 : Addr → Prop} {F F' F2 : List Addr} {σ : L2.St} {ρ : En} {m m' : C.W.M} {H H' H2 : Hp} {v : V} {d : D} {vs : List V} {ds : List D}
theorem SR.sv_wv (S : SR K C Pr F σ ρ m H) : ∀ a o, sv C.H0 Pr H a = some o → wv F H a = some o := fun a o h => by
  obtain ⟨e, q⟩ := vw_iff.mp h
  refine vw_iff.mpr ⟨e, fun z => ?_⟩
  rcases q with q | q
  · obtain ⟨o', e', n⟩ := S.prs a (S.prf a z)
    rw [e] at e'; cases e'
    exact n q
  · exact q.2.1 (S.prf a z)
theorem SR.sv_rv (S : SR K C Pr F σ ρ m H) : ∀ a o, sv C.H0 Pr H a = some o → sv C.H0 (· ∈ F) H a = some o := fun a o h => by
  obtain ⟨e, q⟩ := vw_iff.mp h
  exact vw_iff.mpr ⟨e, q.imp id fun q => ⟨q.1, fun z => q.2.1 (S.prf a z), q.2.2⟩⟩
theorem rv_te {H0 : Hp} (t : Te Pr F H Pr' F' H') (ht : ∀ a ∈ F, ∃ o, H a = some o ∧ ¬ IsT o) : ∀ a o, sv H0 (· ∈ F) H a = some o → sv H0 (· ∈ F') H' a = some o := fun a o h => by
  obtain ⟨e, q⟩ := vw_iff.mp h
  have nf : a ∉ F := fun z => by
    rcases q with q | q
    · obtain ⟨o', e', n⟩ := ht a z
      rw [e] at e'; cases e'
      exact n q
    · exact q.2.1 z
  refine vw_iff.mpr ⟨t.all a o nf e, q.imp id fun q => ⟨q.1, fun z => ?_, q.2.2⟩⟩
  have z := t.fn a z nf
  rw [e] at z; cases z
theorem Dv.sw (S : SR K C Pr' F' σ ρ m H') (h : Dv K C .s Pr' F' H H' v d) : Dv K C .w Pr' F' H H' v d := Dn.weak (Dn.mono ⟨[], by simp⟩ S.sv_wv (show Dn true K F' (sv C.H0 Pr' H') v d from h))
theorem Dv.sr (S : SR K C Pr' F' σ ρ m H') (h : Dv K C .s Pr' F' H H' v d) : Dv K C .r Pr' F' H H' v d := Dn.mono ⟨[], by simp⟩ S.sv_rv (show Dn true K F' (sv C.H0 Pr' H') v d from h)
theorem Dv.fs (h : Dv K C .f Pr' F' H H' v d) : Dv K C .s Pr' F' H H' v d := h.1
theorem Post.imp {c c' : Cl} {Q : D → C.W.M → Prop} (h : Post K C c Pr F H σ ρ Q v H') (i : ∀ Pr' F' m' d, SR K C Pr' F' σ ρ m' H' → Dv K C c Pr' F' H H' v d → Dv K C c' Pr' F' H H' v d) : Post K C c' Pr F H σ ρ Q v H' := by
  obtain ⟨Pr', F', m', d, S, t, q, r⟩ := h
  exact ⟨Pr', F', m', d, S, t, i _ _ _ _ S q, r⟩
theorem Dv.te {c : Cl} (hc : c ≠ .f) (S : SR K C Pr F σ ρ m H) (t : Te Pr F H Pr' F' H') {Ha Hb : Hp} (h : Dv K C c Pr F Ha H v d) : Dv K C c Pr' F' Hb H' v d := by
  cases c with
  | w => exact Dn.te t h
  | s => exact Dn.tr t.toTr S.prs h
  | r => exact Dn.mono t.pre (rv_te t fun a z => S.prs a (S.prf a z)) h
  | f => exact absurd rfl hc
theorem DvA.cons {c : Cl} (hc : c ≠ .f) {Ha : Hp} (h : Dv K C c Pr F Ha H v d) (r : DvA K C c Pr F H vs ds) : DvA K C c Pr F H (v :: vs) (d :: ds) := by
  cases c with
  | w => exact DnA.cons h r
  | s => exact DnA.cons h r
  | r => exact DnA.cons h r
  | f => exact absurd rfl hc
theorem Ex.te {X : Cx} {Z : Str → C.W.M → Prop} (h : Ex X C Pr F H σ ρ Z) (t : Tr Pr F H Pr' F' H') : Ex X C Pr' F' H' σ ρ Z := fun x cls P2 F2 m2 H2 e S t2 z => h x cls P2 F2 m2 H2 e S (t.trans t2) z
theorem Post.te {c : Cl} {Q : D → C.W.M → Prop} (t : Te Pr F H Pr' F' H') (h : Post K C c Pr' F' H' σ ρ Q v H2) : Post K C c Pr F H σ ρ Q v H2 := by
  obtain ⟨P2, F2, m2, d, S, t2, q, r⟩ := h
  refine ⟨P2, F2, m2, d, S, t.trans t2, ?_, r⟩
  cases c with
  | w => exact q
  | s => exact q
  | r => exact q
  | f =>
    refine ⟨q.1, fun ds e => ?_⟩
    obtain ⟨p, vs, e1, e2, e3⟩ := q.2 ds e
    exact ⟨p, vs, e1, some_of (t.stay p) e2, e3⟩
theorem PostA.te {c : Cl} {Q : List D → C.W.M → Prop} (t : Te Pr F H Pr' F' H') (h : PostA K C c Pr' F' H' σ ρ Q vs H2) : PostA K C c Pr F H σ ρ Q vs H2 := by
  obtain ⟨P2, F2, m2, d, S, t2, q, r⟩ := h
  exact ⟨P2, F2, m2, d, S, t.trans t2, q, r⟩
theorem PostT.te {Q : Bool → C.W.M → Prop} {b : Bool} (t : Te Pr F H Pr' F' H') (h : PostT K C Pr' F' H' σ ρ Q b H2) : PostT K C Pr F H σ ρ Q b H2 := by
  obtain ⟨P2, F2, m2, S, t2, r⟩ := h
  exact ⟨P2, F2, m2, S, t.trans t2, r⟩
theorem dv_flat (S : SR K C Pr' F' σ ρ m H') (h : Dn true K F' (sv C.H0 Pr' H') v d) (n : ∀ ds, d ≠ .lst ds) : Dv K C .f Pr' F' H H' v d := ⟨h, fun ds e => absurd e (n ds)⟩
end
section
variable {X : Cx} {C : Cn} {e : Expr} {es : List Expr} {pos : Pos}
theorem J.up {c c' : Cl} {t : DT C.W.M} (h : J c X C e t) (i : ∀ Pr' F' m' d H H' v σ ρ, SR X.K C Pr' F' σ ρ m' H' → Dv X.K C c Pr' F' H H' v d → Dv X.K C c' Pr' F' H H' v d) : J c' X C e t := by
  obtain ⟨te, p, q⟩ := h
  exact ⟨te, p, fun σ H Pr F ρ m Q Z R S E h k => q σ H Pr F ρ m Q Z R S E h fun v H' z => k v H' (z.imp fun _ _ _ _ S => i _ _ _ _ _ _ _ _ _ S)⟩
theorem J.sf {t : DT C.W.M} (h : J .f X C e t) : J .s X C e t := h.up fun _ _ _ _ _ _ _ _ _ S q => q.fs
theorem J.sw {t : DT C.W.M} (h : J .s X C e t) : J .w X C e t := h.up fun _ _ _ _ _ _ _ _ _ S q => q.sw S
theorem J.sr {t : DT C.W.M} (h : J .s X C e t) : J .r X C e t := h.up fun _ _ _ _ _ _ _ _ _ S q => q.sr S
theorem J.fw {t : DT C.W.M} (h : J .f X C e t) : J .w X C e t := h.sf.sw
theorem J.fr {t : DT C.W.M} (h : J .f X C e t) : J .r X C e t := h.sf.sr
def dVar {M : Type} (i : Nat) : DT M := fun ρ m Q _ => match ρ[i]? with | some (.val d) => Q d m | _ => False
def dBor {M : Type} (i : Nat) : DT M := fun ρ m Q _ => match ρ[i]? with | some (.bor d) => Q d m | _ => False
def dOwn {M : Type} (i : Nat) : DT M := fun ρ m Q _ => match ρ[i]? with | some (.own ds) => Q (.lst ds) m | _ => False
def dC {M : Type} (d : D) : DT M := fun _ m Q _ => Q d m
theorem j_var (i : Nat) {x : Str} (hN : X.N[i]? = some x := by rfl) (hv : Vis X.env.scope x := by first | exact Or.inl rfl | exact Or.inr (Or.inl rfl) | exact Or.inr (Or.inr rfl)) (hd : (x == ("__debug__" : Str)) = false := by decide)
    (hcd : (x == ("__classdict__" : Str)) = false := by decide) : J .s X C (.Name x pos) (dVar i) := by
  refine ⟨_, pe_var hN hv hd hcd, fun σ H Pr F ρ m Q Z R S E h k => ?_⟩
  unfold dVar at h
  split at h
  · rename_i d e
    obtain ⟨v, e1, q⟩ := S.slot i _ e
    exact ⟨v, e1, k _ _ ⟨Pr, F, m, d, S, Te.refl, q, h⟩⟩
  · exact h.elim
theorem j_bor (i : Nat) {x : Str} (hN : X.N[i]? = some x := by rfl) (hv : Vis X.env.scope x := by first | exact Or.inl rfl | exact Or.inr (Or.inl rfl) | exact Or.inr (Or.inr rfl)) (hd : (x == ("__debug__" : Str)) = false := by decide)
    (hcd : (x == ("__classdict__" : Str)) = false := by decide) : J .w X C (.Name x pos) (dBor i) := by
  refine ⟨_, pe_var hN hv hd hcd, fun σ H Pr F ρ m Q Z R S E h k => ?_⟩
  unfold dBor at h
  split at h
  · rename_i d e
    obtain ⟨v, e1, q⟩ := S.slot i _ e
    refine ⟨v, e1, k _ _ ⟨Pr, F, m, d, S, Te.refl, q.mono S.pre fun a o z => ?_, h⟩⟩
    obtain ⟨e, n⟩ := vw_iff.mp z
    refine vw_iff.mpr ⟨S.keep a o n e, fun z => ?_⟩
    rw [S.new a z n] at e; cases e
  · exact h.elim
theorem j_own (i : Nat) {x : Str} (hN : X.N[i]? = some x := by rfl) (hv : Vis X.env.scope x := by first | exact Or.inl rfl | exact Or.inr (Or.inl rfl) | exact Or.inr (Or.inr rfl)) (hd : (x == ("__debug__" : Str)) = false := by decide)
    (hcd : (x == ("__classdict__" : Str)) = false := by decide) : J .w X C (.Name x pos) (dOwn i) := by
  refine ⟨_, pe_var hN hv hd hcd, fun σ H Pr F ρ m Q Z R S E h k => ?_⟩
  unfold dOwn at h
  split at h
  · rename_i d e
    obtain ⟨p, vs, e1, hp, pp, nf, q⟩ := S.slot i _ e
    exact ⟨.ref p, e1, k _ _ ⟨Pr, F, m, .lst d, S, Te.refl, .lst (.inl (.inl (vw_iff.mpr ⟨hp, nf⟩))) (q.mono ⟨[], by simp⟩ S.sv_wv).weak, h⟩⟩
  · exact h.elim
theorem j_ownr (i : Nat) {x : Str} (hN : X.N[i]? = some x := by rfl) (hv : Vis X.env.scope x := by first | exact Or.inl rfl | exact Or.inr (Or.inl rfl) | exact Or.inr (Or.inr rfl)) (hd : (x == ("__debug__" : Str)) = false := by decide)
    (hcd : (x == ("__classdict__" : Str)) = false := by decide) : J .r X C (.Name x pos) (dOwn i) := by
  refine ⟨_, pe_var hN hv hd hcd, fun σ H Pr F ρ m Q Z R S E h k => ?_⟩
  unfold dOwn at h
  split at h
  · rename_i d e
    obtain ⟨p, vs, e1, hp, pp, nf, q⟩ := S.slot i _ e
    exact ⟨.ref p, e1, k _ _ ⟨Pr, F, m, .lst d, S, Te.refl, .lst (vw_iff.mpr ⟨hp, .inr ⟨trivial, nf, C.k0 (S.prn p pp nf)⟩⟩) (q.mono ⟨[], by simp⟩ S.sv_rv), h⟩⟩
  · exact h.elim
theorem j_cst {te : V} {d : D} (p : PE X e (tC te)) (h : ∀ F G, Dn true X.K F G te d) (n : ∀ ds, d ≠ .lst ds) : J .f X C e (dC d) :=
  ⟨_, p, fun σ H Pr F ρ m Q Z R S E q k => k _ _ ⟨Pr, F, m, d, S, Te.refl, dv_flat S (h _ _) n, q⟩⟩
theorem j_int {i j} : J .f X C (.Constant (.int i) j pos) (dC (.int i)) := j_cst pe_int (fun _ _ => .int i) (fun _ h => nomatch h)
theorem j_bl {b j} : J .f X C (.Constant (.bool b) j pos) (dC (.bl b)) := j_cst pe_bl (fun _ _ => .bl b) (fun _ h => nomatch h)
theorem j_non {j} : J .f X C (.Constant .none j pos) (dC .non) := j_cst pe_non (fun _ _ => .non) (fun _ h => nomatch h)
theorem j_str {x j} : J .f X C (.Constant (.str x) j pos) (dC (.str x)) := j_cst pe_str (fun _ _ => .str x) (fun _ h => nomatch h)
def Cst (K : PySem.W.Frag) (mg : Str → Option Value) (x : Str) (d : D) : Prop := ∃ u v, mg x = some u ∧ RelV v u ∧ Dn true K [] (fun _ => none) v d
theorem j_glob {x : Str} {d : D} (hg : Gl X x) (h : Cst X.K X.mg x d) (hd : (x == ("__debug__" : Str)) = false := by decide) : J .f X C (.Name x pos) (dC d) := by
  obtain ⟨u, v, hm, r, q⟩ := h
  refine j_cst (pe_glob hg hm r hd) (fun F G => q.mono ⟨F, by simp⟩ fun a o z => by cases z) fun ds e => ?_
  subst e
  cases q with
  | lst h _ => cases h
def dNil {M : Type} : DTA M := fun _ m Q _ => Q [] m
def dCons {M : Type} (t : DT M) (u : DTA M) : DTA M := fun ρ m Q Z => t ρ m (fun d m1 => u ρ m1 (fun ds m2 => Q (d :: ds) m2) Z) Z
theorem ja_nil {c : Cl} : JA c X C [] dNil := ⟨_, pa_nil, fun σ H Pr F ρ m Q Z R S E h k => k _ _ ⟨Pr, F, m, [], S, Te.refl, by cases c <;> exact .nil, h⟩⟩
theorem ja_cons {c : Cl} {t : DT C.W.M} {u : DTA C.W.M} (hc : c ≠ .f) (h : J c X C e t) (r : JA c X C es u) (hs : starEach (e :: es) X.env = (false, eval e X.env) :: starEach es X.env := by rfl) : JA c X C (e :: es) (dCons t u) := by
  obtain ⟨te, p, q⟩ := h
  obtain ⟨tr, p', q'⟩ := r
  refine ⟨_, pa_cons p p' hs, fun σ H Pr F ρ m Q Z R S E h k => ?_⟩
  refine q σ H Pr F ρ m _ Z _ S E h fun v H1 z => ?_
  obtain ⟨P1, F1, m1, d, S1, t1, dv, z⟩ := z
  refine q' σ H1 P1 F1 ρ m1 _ Z _ S1 (E.te t1.toTr) z fun vs H2 z => k _ _ ?_
  obtain ⟨P2, F2, m2, ds, S2, t2, dvs, z⟩ := z
  exact ⟨P2, F2, m2, d :: ds, S2, t1.trans t2, DvA.cons hc (dv.te hc S1 t2 (Hb := H)) dvs, z⟩
def dTup {M : Type} (t : DTA M) : DT M := fun ρ m Q Z => t ρ m (fun ds m1 => ds.length ≤ sizeLine ∧ Q (.tup ds) m1) Z
def dLst {M : Type} (t : DTA M) : DT M := fun ρ m Q Z => t ρ m (fun ds m1 => ds.length ≤ sizeLine ∧ Q (.lst ds) m1) Z
theorem DvA.len {K : PySem.W.Frag} {c : Cl} {Pr : Addr → Prop} {F : List Addr} {H : Hp} {vs : List V} {ds : List D} (h : DvA K C c Pr F H vs ds) : vs.length = ds.length := by
  cases c <;> exact DnA.length h
theorem j_tup {t : DTA C.W.M} {k} (h : JA .s X C es t) : J .f X C (.Tuple es k pos) (dTup t) := by
  obtain ⟨te, p, q⟩ := h
  refine ⟨_, pe_tup p, fun σ H Pr F ρ m Q Z R S E h k => ?_⟩
  refine q σ H Pr F ρ m _ Z _ S E h fun vs H1 ⟨P1, F1, m1, ds, S1, t1, dv, z, r⟩ => ⟨by rw [dv.len]; exact z, fun p hp => k _ _ ?_⟩
  obtain ⟨S2, t2⟩ := S1.new1 (o := .tup vs) hp
  exact ⟨P1, F1, m1, .tup ds, S2, t1.trans t2, dv_flat S2 (.tup (.inl (vw_iff.mpr ⟨upd_same, .inl trivial⟩)) (DnA.mono t2.pre (sv_tr t2.toTr S1.prs) dv)) (fun _ h => nomatch h), r⟩
theorem j_lst {t : DTA C.W.M} (h : JA .s X C es t) : J .f X C (.List es pos) (dLst t) := by
  obtain ⟨te, p, q⟩ := h
  refine ⟨_, pe_lst p, fun σ H Pr F ρ m Q Z R S E h k => ?_⟩
  refine q σ H Pr F ρ m _ Z _ S E h fun vs H1 ⟨P1, F1, m1, ds, S1, t1, dv, z, r⟩ => ⟨by rw [dv.len]; exact z, fun p hp => k _ _ ?_⟩
  obtain ⟨S2, t2⟩ := S1.new1 (o := .lst vs) hp
  have np := S1.np hp
  have dv2 : DnA true X.K F1 (sv C.H0 P1 (upd H1 p (.lst vs))) vs ds := DnA.mono t2.pre (sv_tr t2.toTr S1.prs) dv
  exact ⟨P1, F1, m1, .lst ds, S2, t1.trans t2, ⟨.lst (vw_iff.mpr ⟨upd_same, .inr ⟨trivial, np, S1.h0n hp⟩⟩) dv2, fun ds' e => by cases e; exact ⟨p, vs, rfl, some_of (t1.stay p) hp, np, upd_same, dv2⟩⟩, r⟩
abbrev G2 := D → D → (D → Prop) → Prop
def OpOk (X : Cx) (C : Cn) (f : Value → Value → Sem Value) (g : G2) : Prop := ∃ r, OpR X f r ∧
  ∀ σ H Pr F ρ m x y dx dy Q (R : VK), SR X.K C Pr F σ ρ m H → Dn false X.K F (wv F H) x dx → Dn false X.K F (wv F H) y dy → g dx dy (fun d => Q d m) → (∀ v H', Post X.K C .f Pr F H σ ρ Q v H' → R v H') → r x y H R
def dBin {M : Type} (g : G2) (t u : DT M) : DT M := fun ρ m Q Z => t ρ m (fun x m1 => u ρ m1 (fun y m2 => g x y fun d => Q d m2) Z) Z
variable {a b c : Expr} {ta tb tc : DT C.W.M}
theorem j_bin {op : Operator} {g : G2} (o : OpOk X C (binaryOp op) g) (ha : J .w X C a ta) (hb : J .w X C b tb) : J .f X C (.BinOp a op b pos) (dBin g ta tb) := by
  obtain ⟨r, ho, q⟩ := o
  obtain ⟨te, p, q1⟩ := ha
  obtain ⟨te', p', q2⟩ := hb
  refine ⟨_, pe_op ho p p', fun σ H Pr F ρ m Q Z R S E h k => ?_⟩
  refine q1 σ H Pr F ρ m _ Z _ S E h fun v H1 ⟨P1, F1, m1, d, S1, t1, dv, z⟩ => ?_
  refine q2 σ H1 P1 F1 ρ m1 _ Z _ S1 (E.te t1.toTr) z fun w H2 ⟨P2, F2, m2, d2, S2, t2, dv2, z2⟩ => ?_
  exact q σ H2 P2 F2 ρ m2 v w d d2 Q R S2 (Dn.te t2 dv) dv2 z2 fun v H' z => k v H' ((z.te t2).te t1)
theorem post_here {C : Cn} {K : PySem.W.Frag} {Pr : Addr → Prop} {F : List Addr} {H : Hp} {σ : L2.St} {ρ : En} {m : C.W.M} {Q : D → C.W.M → Prop} {v : V} {d : D} (S : SR K C Pr F σ ρ m H) (h : Dn true K F (sv C.H0 Pr H) v d) (n : ∀ ds, d ≠ .lst ds) (q : Q d m) :
    Post K C .f Pr F H σ ρ Q v H := ⟨Pr, F, m, d, S, Te.refl, dv_flat S h n, q⟩
def gII (P : Int → Int → Prop) (f : Int → Int → D) : G2 := fun x y Q => match x, y with | .int i, .int j => P i j ∧ Q (f i j) | _, _ => False
theorem Dn.toInt {s : Bool} {K : PySem.W.Frag} {F : List Addr} {G : Hp} {v : V} {i : Int} (h : Dn s K F G v (.int i)) : v = .int i := by cases h; rfl
theorem opok_int {f : Value → Value → Sem Value} {P : Int → Int → Prop} {g : Int → Int → Int} (h : OpR X f (rI P fun i j => .int (g i j))) : OpOk X C f (gII P fun i j => .int (g i j)) := by
  refine ⟨_, h, fun σ H Pr F ρ m x y dx dy Q R S hx hy q k => ?_⟩
  unfold gII at q
  split at q
  · rw [hx.toInt, hy.toInt]
    exact ⟨_, _, rfl, rfl, q.1, k _ _ (post_here S (.int _) (fun _ h => nomatch h) q.2)⟩
  · exact q.elim
def g0 (f : Int → Int → D) : G2 := fun x y Q => match x, y with | .int i, .int j => Q (f i j) | _, _ => False
theorem opok_int0 {f : Value → Value → Sem Value} {g : Int → Int → Int} (h : OpR X f (rI0 fun i j => .int (g i j))) : OpOk X C f (g0 fun i j => .int (g i j)) := by
  refine ⟨_, h, fun σ H Pr F ρ m x y dx dy Q R S hx hy q k => ?_⟩
  unfold g0 at q
  split at q
  · rw [hx.toInt, hy.toInt]
    exact ⟨_, _, rfl, rfl, k _ _ (post_here S (.int _) (fun _ h => nomatch h) q)⟩
  · exact q.elim
theorem opok_cmp0 {f : Value → Value → Sem Value} {g : Int → Int → Bool} (h : OpR X f (rI0 fun i j => .bl (g i j))) : OpOk X C f (g0 fun i j => .bl (g i j)) := by
  refine ⟨_, h, fun σ H Pr F ρ m x y dx dy Q R S hx hy q k => ?_⟩
  unfold g0 at q
  split at q
  · rw [hx.toInt, hy.toInt]
    exact ⟨_, _, rfl, rfl, k _ _ (post_here S (.bl _) (fun _ h => nomatch h) q)⟩
  · exact q.elim
theorem ok_sub : OpOk X C (binaryOp .Sub) (g0 fun i j => .int (i - j)) := opok_int0 op_sub
theorem ok_pow : OpOk X C (binaryOp .Pow) (gII CPow fun i j => .int (i ^ j.toNat)) := opok_int op_pow
theorem op_mulA : OpR X (binaryOp .Mult) (rI IntMulOk fun i j => .int (i * j)) := opI fun _ _ _ _ _ _ _ hc q => mul_int q hc
def Nz (_ j : Int) : Prop := j ≠ 0
theorem ok_mod : OpOk X C (binaryOp .Mod) (gII Nz fun i j => .int (i.fmod j)) := opok_int op_modN
def Nd (i j : Int) : Prop := j ≠ 0 ∧ Builtin.divisionGoesByPylong i j = false
theorem op_fdivA : OpR X (binaryOp .FloorDiv) (rI Nd fun i j => .int (i.fdiv j)) := opI fun _ _ _ _ _ _ _ hc q => floordiv_int hc.1 q (.inl hc.2)
theorem ok_fdiv : OpOk X C (binaryOp .FloorDiv) (gII Nd fun i j => .int (i.fdiv j)) := opok_int op_fdivA
end
end RR
namespace RR
open PySem PySem.Spec PyProof.Rows L2
structure RoomG (k : Nat) (A : Around) : Prop extends Room k A where
  gd : A.guards = some []
theorem RoomG.mono {i k : Nat} {A : Around} (r : RoomG k A) (h : i ≤ k) : RoomG i A := ⟨r.toRoom.mono h, r.gd⟩
theorem RoomG.next {k : Nat} {A : Around} (r : RoomG (k + 1) A) (env : Env) : RoomG k (A.deeper env) := ⟨r.toRoom.deeper env, r.gd⟩
structure FnG (P : Program) (w : World) (K : PySem.W.Frag) (mg : Str → Option Value) (B : Heap) (C : CXT) (k : Nat) (f : Addr) (fd : FuncData) (ps : List Str) (sp : Sp) : Prop where
  ln : ∀ {vs H Q E}, sp vs H Q E → vs.length = ps.length
  go : ∀ {A : Around} {out : List Env} {s : Shared} {H : Hp} {args : Args} {us : List Value} {vs : List V} {Q : VK} {E : XK}, RoomG k A → Env0 P w K mg B A out s H → BindsTo s fd args (ps.zip us) → Vals vs us → sp vs H Q E →
    codeAny (model P w) A (.call (.ref f) args) (CR C out P w H s Q E) s
section
variable {P : Program} {w : World} {K : PySem.W.Frag} {mg : Str → Option Value} {B : Heap} {C : CXT} {k : Nat} {f : Addr} {fd : FuncData} {ps : List Str} {sp sp' : Sp}
theorem FnG.mono {j : Nat} (F : FnG P w K mg B C j f fd ps sp) (h : j ≤ k) : FnG P w K mg B C k f fd ps sp := ⟨F.ln, fun r => F.go (r.mono h)⟩
theorem FnG.imp (F : FnG P w K mg B C k f fd ps sp) (h : ∀ vs H Q E, sp' vs H Q E → sp vs H Q E) : FnG P w K mg B C k f fd ps sp' := ⟨fun q => F.ln (h _ _ _ _ q), fun r e b v q => F.go r e b v (h _ _ _ _ q)⟩
theorem fnG_mk {oc dV kV doc pm cdv ct : Value} {od an : Option Addr} {osl : Array (Option Value)} {nm ql : Str} {par : Arguments} {bd : List Stmt} {sc : Scope} {N : List Str}
    (lk : K.lookup f = some ⟨oc, od, .func (PySem.W.fnOf nm ql par bd sc dV kV doc pm an cdv ct), osl⟩) (cd : PySem.W.codeIn K cdv ql = true) (S : FnScope N ps sc) (ln : ∀ vs H Q E, sp vs H Q E → vs.length = ps.length)
    (body : ∀ {A : Around} {out : List Env} {s : Shared} {H : Hp} {vs : List V} {Q : VK} {E : XK}, RoomG k (A.deeper (envOfC ql sc s.heap.objs.size f cdv)) → sp vs H Q E →
      ∃ t, PSs (cxOf C P w K mg B N ql sc f cdv A out s H E) bd t ∧ t { nx := fun _ H1 => Q .non H1, rt := Q } (start N vs) H) : FnG P w K mg B C (k + 1) f (PySem.W.fnOf nm ql par bd sc dV kV doc pm an cdv ct) ps sp := by
  constructor
  · exact fun q => ln _ _ _ _ q
  intro A out s H args us vs Q E room env binds vals asked
  obtain ⟨t, walked, told⟩ := body (A := A) (out := out) (s := s) (H := H) (vs := vs) (Q := Q) (E := E) (room.next _) asked
  have there : ∀ b o, B.get? b = some o → s.heap.get? b = some o := fun b o q => (env.bs b o q).1
  have inS : K.In s.heap := env.mod.kin.keeps there
  have kinds : ∀ y ∈ ps.zip us, sc.names.lookup y.1 = some .local ∨ (sc.names.lookup y.1 = some .cell ∧ ((cellsFrom (s.heap.objs.size + 1) sc.names []).lookup y.1).isSome = true) := by
    rintro ⟨n, u⟩ hy
    exact (S.par n (List.of_mem_zip hy).1).imp id fun q => ⟨q, PySem.W.cellsFrom_some _ _ _ (.inl q)⟩
  refine codeAny_call_function room.toRoom.depth (inS _ _ lk) rfl S.co S.gen rfl (PySem.W.codeRec_of inS cd) (binds _ _ _ _ ?_)
  refine wpAny_newFunctionEnv_cells S.kind kinds fun ev he s1 x => ?_
  subst he
  refine ⟨(env.mod.nolimit.keeps there).keeps x.toInCall.keep, codeAny_func ?_⟩
  have inv := inv_start (CX := C) (E := E) S room.toRoom.hd env (ln _ _ _ _ asked) vals x
  refine wpAny_mono (walked.run [] s1 (start N vs) H _ inv told) (fun fl s2 z => ?_) fun _ _ z => z
  have close : ∀ {σ : L2.St} {H2 : Hp} {v : V} {u : Value}, Inv (cxOf C P w K mg B N ql sc f cdv A out s H E) [] σ H2 s2 → RelV v u → Q v H2 → CE out P w H s Q u s2 := fun J rv q => ⟨_, _, J.os, J.bare, J.base, J.hok, rv, q⟩
  match fl, z with
  | .ret _, ⟨_, _, _, J, rv, q⟩ => exact close J rv q
  | .next, ⟨_, _, J, q⟩ => exact close (v := .non) (u := Value.none) J rfl q
  | .brk, ⟨_, _, _, q⟩ => exact q.elim
  | .cont, ⟨_, _, _, q⟩ => exact q.elim
theorem okG {x ql : Str} {st : Stmt} {N : List Str} (F : Fun K x ql st f fd) (S : FnScope N ps (defScope st)) (ln : ∀ vs H Q E, sp vs H Q E → vs.length = ps.length)
    (body : ∀ (cdv : Value) (A : Around) (out : List Env) (s : Shared) (H : Hp) (vs : List V) (Q : VK) (E : XK), RoomG k (A.deeper (envOfC ql (defScope st) s.heap.objs.size f cdv)) → sp vs H Q E →
      ∃ t, PSs (cxOf (L2.CX P w) P w K mg B N ql (defScope st) f cdv A out s H E) (defBody st) t ∧ t { nx := fun _ H1 => Q .non H1, rt := Q } (start N vs) H) : FnG P w K mg B (L2.CX P w) (k + 1) f fd ps sp := by
  obtain ⟨_, _, _, _, _, _, cdv, _, _, rfl, lk, cd⟩ := F.ex
  exact fnG_mk lk cd S ln fun room asked => body cdv _ _ _ _ _ _ _ room asked
end
section
variable {X : Cx} {C : CXT} {k : Nat} {f : Addr} {fd : FuncData} {ps : List Str} {sp : Sp} {ds : List Value} {dvs : List V} {E : L2.St → XK} {x : Str} {p pos : Pos} {e : Expr} {es : List Expr} {t : TA}
theorem pe_callG (F : FnG X.prog X.w X.K X.mg X.base C k f fd ps sp) (room : RoomG k X.A) (gl : Gl X x) (gm : X.mg x = some (.ref f)) (kp : PySem.W.keepIn X.K (.ref f) = true) (bn : Binds X.K fd ps ds) (dv : Vals dvs ds) (px : ∀ σ, PassesAt C X σ (E σ)) (ha : PA X (e :: es) t)
    (db : (x == ("__debug__" : Str)) = false := by decide) (he : starEach (e :: es) X.env = (false, eval e X.env) :: starEach es X.env := by rfl) (hpl : (backTo pos (starEach es X.env)).any (·.1) = false := by rfl) : PE X (.Call (.Name x p) (e :: es) [] pos) (tCallSD sp dvs E t) := by
  constructor
  intro pins s σ H Q I asked
  refine wpAny_Call_Name_kw (ld_glob I gl gm ?_ db)
  refine PySem.W.callWith_K (h₀ := X.base) I.ok.mod.kin kp (thn (ha.run pos pins s σ H _ I asked) ?_) he hpl
  rintro us s1 ⟨vs, H1, I1, r, z⟩
  have both : Vals (vs ++ dvs) (us ++ ds) := r.append dv
  have size : (us ++ ds).length = ps.length := both.length.symm.trans (F.ln z)
  refine ⟨I1.kIn, wpAny_call (codeAny_mono (F.go (args := ⟨us, []⟩) room I1.env0 (bn s1 us I1.kIn size) both z) fun r s2 z2 => ?_)⟩
  match r, z2 with
  | .error e, z2 => exact px σ pins H1 s1 e s2 I1 z2
  | .ok (.ret u), z2 => exact I1.after z2
  | .ok .next, z2 => exact z2.elim
  | .ok .brk, z2 => exact z2.elim
  | .ok .cont, z2 => exact z2.elim
end
end RR
namespace RR
open PySem PySem.Spec PyProof.Rows L2
section
variable {P : Program} {w : World} {K : PySem.W.Frag} {mg mb : Str → Option Value} {C : CXT} {k : Nat} {fa a : Addr} {fd : FuncData} {x : Str} {sp : Sp} {s : Shared} {us : List Value} {zs : List Int}
abbrev scrObj (us : List Value) : Obj := { cls := .type "list", data := .seq us.toArray }
theorem call_in (H : Hp) (inK : K.In s.heap) (ns : s.heap.Ns mainGlobals mg) (nb : s.heap.Ns builtinsNs mb) (bb : ∀ y : Str, y ≠ "__name__" → mb y = bootBuiltins y) (nl : s.heap.NoLimit) (ng : s.gens = #[]) (at_ : s.heap.get? a = some (scrObj us))
    (told : ∀ b u, H b = some u → b = a ∧ (∃ ys, u = .frz (scrObj us) (.lst ys)) ∧ K.lookup a = none) (ok : HOk P w H s.heap) (room : Room k callerA) (F : ∀ B : Heap, K.In B → B.Ns mainGlobals mg → FnG P w K mg B C k fa fd [x] sp) (bind : ∀ (s : Shared) (u : Value), BindsTo s fd ⟨[u], []⟩ [(x, u)])
    (asked : sp [.ref a] H (fun v _ => v = .bl true) fun _ _ _ => False) (noX : ∀ e s2, C [] H s (fun _ _ _ => False) e s2 → False) :
    codeAny (model P w) callerA (.call (.ref fa) ⟨[.ref a], []⟩) (fun r s2 => r = .ok (.ret (.bool true)) ∧ OldK s.heap s2.heap ∧ s2.os = s.os ∧ AllBare s2.gens) s := by
  -- what isn't the script stands in the hidden heap as it stood
  have stays : ∀ {b : Addr} {o : Obj}, s.heap.get? b = some o → b ≠ a → (hidT s.heap H).get? b = some o := fun {b o} e n =>
    hidT_get e (Option.eq_none_iff_forall_ne_some.mpr fun u z => n (told b u z).1)
  have table : ∀ {b : Addr} {m : Str → Option Value}, s.heap.Ns b m → (hidT s.heap H).Ns b m := by
    rintro b m ⟨o, es, ep, e, d, r⟩
    refine ⟨o, es, ep, stays e fun z => ?_, d, r⟩
    rw [z, at_] at e
    have e2 := Option.some.inj e
    rw [← e2] at d
    exact Data.noConfusion d
  have inH : K.In (hidT s.heap H) := fun b o e => by
    by_cases z : H b = none
    · exact hidT_get (inK b o e) z
    · obtain ⟨u, hu⟩ := Option.ne_none_iff_exists'.mp z
      obtain ⟨rfl, _, no⟩ := told b u hu
      rw [no] at e
      exact nomatch e
  obtain ⟨mc, nc1, nc2⟩ := nl
  have env : Env0 P w K mg (hidT s.heap H) callerA [] s H := { frames := rfl, mod := ⟨inH, table ns, ⟨mb, table nb, bb⟩, ⟨mc, table nc1, nc2⟩⟩, bs := fun b o => of_hidT, bsz := Nat.le_of_eq (hidT_size _ _), funs := trivial, frf := fun b hb => (nomatch hb), hok := ok, bare := .of_eq ng }
  refine codeAny_mono ((F _ inH (table ns)).go (args := ⟨[.ref a], []⟩) (us := [.ref a]) (vs := [.ref a]) ⟨room, rfl⟩ env (bind s (.ref a)) (.cons rfl .nil) asked) fun r s2 z => ?_
  match r, z with
  | .error e, z => exact (noX e s2 z).elim
  | .ok .next, z => exact z.elim
  | .ok .brk, z => exact z.elim
  | .ok .cont, z => exact z.elim
  | .ok (.ret u), ⟨v, H2, os, bare, un, ok2, rel, q⟩ =>
    have q : v = .bl true := q
    subst q
    obtain rfl : u = Value.bool true := rel
    refine ⟨rfl, .of_keep fun b o e => ?_, os, bare⟩
    cases hb : H b with
    | none => exact un.keep b o e hb (List.not_mem_nil) List.not_mem_nil
    | some u =>
      obtain ⟨_, ⟨ys, rfl⟩, _⟩ := told b u hb
      have f1 := (ok b _ hb).1
      have f2 := (ok2 b _ (un.frzs b _ _ hb)).1
      exact f2.trans (f1.symm.trans e)
theorem law_callG (inK : K.In s.heap) (ns : s.heap.Ns mainGlobals mg) (nb : s.heap.Ns builtinsNs mb) (bb : ∀ y : Str, y ≠ "__name__" → mb y = bootBuiltins y) (nl : s.heap.NoLimit) (ng : s.gens = #[]) (at_ : s.heap.get? a = some (scrObj us)) (isI : IntsAre us zs) (sz : zs.length ≤ sizeLine)
    (room : Room k callerA) (F : ∀ B : Heap, K.In B → B.Ns mainGlobals mg → FnG P w K mg B C k fa fd [x] sp) (bind : ∀ (s : Shared) (u : Value), BindsTo s fd ⟨[u], []⟩ [(x, u)])
    (asked : ∀ H : Hp, SqL K H a (zs.map V.int) → sp [.ref a] H (fun v _ => v = .bl true) fun _ _ _ => False) (noX : ∀ H e s2, C [] H s (fun _ _ _ => False) e s2 → False) :
    codeAny (model P w) callerA (.call (.ref fa) ⟨[.ref a], []⟩) (fun r s2 => r = .ok (.ret (.bool true)) ∧ OldK s.heap s2.heap ∧ s2.os = s.os ∧ AllBare s2.gens) s := by
  have rel := vals_ints isI
  have same := isI.length
  rcases hk : K.lookup a with _ | o
  · let H : Hp := fun b => if b = a then some (.frz (scrObj us) (.lst (zs.map V.int))) else none
    have told : ∀ b u, H b = some u → b = a ∧ u = .frz (scrObj us) (.lst (zs.map V.int)) := fun b u z => by
      by_cases hb : b = a
      · exact ⟨hb, (Option.some.inj ((if_pos hb).symm.trans z)).symm⟩
      · exact nomatch (if_neg hb).symm.trans z
    refine call_in H inK ns nb bb nl ng at_ (fun b u z => ⟨(told b u z).1, ⟨_, (told b u z).2⟩, hk⟩) (fun b u z => ?_) room F bind (asked H (.inl (.inr ⟨scrObj us, if_pos rfl⟩))) (noX H)
    obtain ⟨rfl, rfl⟩ := told b u z
    exact ⟨at_, by rw [List.length_map]; exact sz, us, _, rel, at_⟩
  · have e := Option.some.inj (at_.symm.trans (inK a o hk))
    subst e
    exact call_in (fun _ => none) inK ns nb bb nl ng at_ (fun b u z => nomatch z) (fun b u z => nomatch z) room F bind (asked _ (.inr ⟨_, us.toArray, _, hk, rfl, rfl, rfl, by rw [List.size_toArray, same]; exact sz, by simpa using rel⟩)) (noX _)
end
theorem walk_ofG {l : PySem.W.OpenLaw} {n k : Nat} {q : Program} {loose : List Str} {XP : (Str → Option Value) → Heap → Prop} {YP : World → Heap → Prop} {d : DefRec} {K : Params → PySem.W.Frag} {C : World → CXT} {sp : World → Sp} {x : Str}
    (most : l.most = some n) (n2 : n ≤ sizeLine) (nodef : d.params.defaults = []) (room : Room k callerA) (ground : ∀ (w : World) (h : Heap), YP w h → (K w.params).In h)
    (F : ∀ (w : World) (mg : Str → Option Value) (fa : Addr) (h : Heap), (K w.params).In h → h.Ns mainGlobals mg → mg d.name = some (.ref fa) →
      ∃ fd : FuncData, (∀ (s : Shared) (u : Value), BindsTo s fd ⟨[u], []⟩ [(x, u)]) ∧ ∀ B : Heap, (K w.params).In B → B.Ns mainGlobals mg → FnG l.prog w (K w.params) mg B (C w) k fa fd [x] (sp w))
    (asked : ∀ (w : World) (H : Hp) (a : Addr) (zs : List Int), zs.length ≤ n → SqL (K w.params) H a (zs.map V.int) → sp w [.ref a] H (fun v _ => v = .bl true) fun _ _ _ => False)
    (noX : ∀ (w : World) (H : Hp) (s : Shared) (e : Value) (s2 : Shared), C w [] H s (fun _ _ _ => False) e s2 → False) : PySem.W.WalkO q loose XP YP l.row.toRowW d [] (fun f vs => PySem.call f vs) :=
  Att.attach_call most nodef fun w s0 s1 mg mb fa o pm cd doc a us zs G Y _ _ _ hmg script isI len gens => by
    have inK := ground w _ Y
    obtain ⟨fd, bind, prom⟩ := F w mg fa _ inK G.T.g hmg
    exact law_callG inK G.T.g G.T.b G.T.builtins G.T.nolimit gens script isI (Nat.le_trans len n2) room prom bind (fun H hS => asked w H a zs len hS) fun H e s2 => noX w H s1 e s2
end RR
namespace RR
open PySem PySem.Spec PyProof.Rows L2
mutual
def D.py : D → PyData
  | .non => .none | .bl b => .bool b | .int i => .int i | .str x => .str x | .tup xs => .tuple (D.pys xs) | .lst xs => .list (D.pys xs) | .hnd _ => .none | .dic => .none | .exc _ => .none | .fn _ => .none | .ptr _ => .none | .dc1 _ _ => .none
def D.pys : List D → List PyData
  | [] => []
  | x :: r => x.py :: D.pys r
end
def D.q : Nat → D → Bool
  | _, .non | _, .bl _ | _, .int _ => true
  | _, .str x => PyData.strOk x
  | _, .hnd _ => false
  | _, .dic => false
  | _, .exc _ => false
  | _, .fn _ => false
  | _, .ptr _ => false
  | _, .dc1 _ _ => false
  | n + 1, .tup xs => xs.all (D.q n)
  | n + 1, .lst xs => xs.all (D.q n)
  | 0, .tup _ | 0, .lst _ => false
mutual
def D.eqv : D → D → Bool
  | .non, .non => true
  | .bl a, .bl b => a == b
  | .bl a, .int j => (if a then 1 else 0) == j
  | .int i, .bl b => i == (if b then 1 else 0)
  | .int i, .int j => decide (i = j)
  | .str x, .str y => x == y
  | .lst xs, .lst ys => D.eqvs xs ys
  | .tup xs, .tup ys => D.eqvs xs ys
  | _, _ => false
def D.eqvs : List D → List D → Bool
  | [], [] => true
  | x :: xs, y :: ys => x.eqv y && D.eqvs xs ys
  | _, _ => false
end
mutual
theorem py_eqv : ∀ {n : Nat} {x y : D}, x.q n = true → y.q n = true → PyData.eqv x.py y.py = x.eqv y
  | n, .hnd _, _, h, _ => by cases n <;> cases h
  | n, .dic, _, h, _ => by cases n <;> cases h
  | n, .exc _, _, h, _ => by cases n <;> cases h
  | n, .fn _, _, h, _ => by cases n <;> cases h
  | n, .ptr _, _, h, _ => by cases n <;> cases h
  | n, .dc1 _ _, _, h, _ => by cases n <;> cases h
  | n, _, .hnd _, _, h => by cases n <;> cases h
  | n, _, .dic, _, h => by cases n <;> cases h
  | n, _, .exc _, _, h => by cases n <;> cases h
  | n, _, .fn _, _, h => by cases n <;> cases h
  | n, _, .ptr _, _, h => by cases n <;> cases h
  | n, _, .dc1 _ _, _, h => by cases n <;> cases h
  | n + 1, .tup xs, .tup ys, h, h' => by
    simp only [D.py, D.eqv, PyData.eqv]
    exact pys_eqv (List.all_eq_true.mp h) (List.all_eq_true.mp h')
  | n + 1, .lst xs, .lst ys, h, h' => by
    simp only [D.py, D.eqv, PyData.eqv]
    exact pys_eqv (List.all_eq_true.mp h) (List.all_eq_true.mp h')
  | 0, .tup xs, _, h, _ => by cases h
  | 0, .lst xs, _, h, _ => by cases h
  | _, .non, .non, _, _ | _, .non, .bl _, _, _ | _, .non, .int _, _, _ | _, .non, .str _, _, _ | _, .non, .tup _, _, _ | _, .non, .lst _, _, _ => rfl
  | _, .bl _, .non, _, _ | _, .bl _, .bl _, _, _ | _, .bl _, .int _, _, _ | _, .bl _, .str _, _, _ | _, .bl _, .tup _, _, _ | _, .bl _, .lst _, _, _ => rfl
  | _, .int _, .non, _, _ | _, .int _, .bl _, _, _ | _, .int _, .str _, _, _ | _, .int _, .tup _, _, _ | _, .int _, .lst _, _, _ => rfl
  | _, .int i, .int j, _, _ => by simp only [D.py, D.eqv, PyData.eqv, Bool.beq_eq_decide_eq]
  | _, .str _, .non, _, _ | _, .str _, .bl _, _, _ | _, .str _, .int _, _, _ | _, .str _, .str _, _, _ | _, .str _, .tup _, _, _ | _, .str _, .lst _, _, _ => rfl
  | n + 1, .tup _, .non, _, _ | n + 1, .tup _, .bl _, _, _ | n + 1, .tup _, .int _, _, _ | n + 1, .tup _, .str _, _, _ | n + 1, .tup _, .lst _, _, _ => rfl
  | n + 1, .lst _, .non, _, _ | n + 1, .lst _, .bl _, _, _ | n + 1, .lst _, .int _, _, _ | n + 1, .lst _, .str _, _, _ | n + 1, .lst _, .tup _, _, _ => rfl
theorem pys_eqv : ∀ {n : Nat} {xs ys : List D}, (∀ x ∈ xs, x.q n = true) → (∀ x ∈ ys, x.q n = true) → PyData.eqvAll (D.pys xs) (D.pys ys) = D.eqvs xs ys
  | _, [], [], _, _ => rfl
  | _, [], _ :: _, _, _ => rfl
  | _, _ :: _, [], _, _ => rfl
  | n, x :: xs, y :: ys, h, h' => by
    simp only [D.pys, D.eqvs, PyData.eqvAll]
    rw [py_eqv (h x List.mem_cons_self) (h' y List.mem_cons_self), pys_eqv (fun z hz => h z (List.mem_cons_of_mem _ hz)) (fun z hz => h' z (List.mem_cons_of_mem _ hz))]
end
mutual
theorem py_lay : ∀ {n : Nat} {x : D}, x.q n = true → x.py.canLay0 = true ∧ x.py.depth ≤ n
  | n, .hnd _, h => by cases n <;> cases h
  | n, .dic, h => by cases n <;> cases h
  | n, .exc _, h => by cases n <;> cases h
  | n, .fn _, h => by cases n <;> cases h
  | n, .ptr _, h => by cases n <;> cases h
  | n, .dc1 _ _, h => by cases n <;> cases h
  | n, .non, _ => ⟨rfl, Nat.zero_le _⟩
  | n, .bl _, _ => ⟨rfl, Nat.zero_le _⟩
  | n, .int _, _ => ⟨rfl, Nat.zero_le _⟩
  | 0, .str _, h => ⟨h, Nat.zero_le _⟩
  | n + 1, .str _, h => ⟨h, Nat.zero_le _⟩
  | n + 1, .tup xs, h => let ⟨a, b⟩ := pys_lay (List.all_eq_true.mp h); ⟨a, Nat.succ_le_succ b⟩
  | n + 1, .lst xs, h => let ⟨a, b⟩ := pys_lay (List.all_eq_true.mp h); ⟨a, Nat.succ_le_succ b⟩
  | 0, .tup _, h => by cases h
  | 0, .lst _, h => by cases h
theorem pys_lay : ∀ {n : Nat} {xs : List D}, (∀ x ∈ xs, x.q n = true) → PyData.canLayAll0 (D.pys xs) = true ∧ PyData.depthAll (D.pys xs) ≤ n
  | n, [], _ => ⟨rfl, Nat.zero_le _⟩
  | n, x :: xs, h => by
    obtain ⟨a, b⟩ := py_lay (h x List.mem_cons_self)
    obtain ⟨c, d⟩ := pys_lay fun z hz => h z (List.mem_cons_of_mem _ hz)
    simp only [D.pys, PyData.canLayAll0, PyData.depthAll, a, c, Bool.and_self, true_and]
    omega
end
theorem shaped_q {x : D} (h : x.q 8 = true) : SeqAt.shaped x.py = true := by
  obtain ⟨a, b⟩ := py_lay h
  unfold SeqAt.shaped
  rw [a, decide_eq_true (by omega)] <;> rfl
mutual
theorem Dn.dp {s : Bool} {K : PySem.W.Frag} {F : List Addr} {G H : Hp} (hG : ∀ a o, G a = some o → H a = some o) : ∀ {n : Nat} {v : V} {d : D}, Dn s K F G v d → d.q n = true → Dp K H v d.py
  | _, _, _, .non, _ => .non
  | _, _, _, .bl b, _ => .bl b
  | _, _, _, .int i, _ => .int i
  | _, _, _, .str x, _ => .str x
  | n + 1, _, _, .tup h r, q => .tup ((h.mono fun a xs => hG a _).sq) (DnA.dp hG r (List.all_eq_true.mp q))
  | n + 1, _, _, .lst h r, q => .lst ((h.mono hG).sq) (DnA.dp hG r (List.all_eq_true.mp q))
  | 0, _, _, .tup _ _, q => by cases q
  | 0, _, _, .lst _ _, q => by cases q
  | n, _, _, .hnd h, q => by cases n <;> cases q
  | n, _, _, .dic h, q => by cases n <;> cases q
  | n, _, _, .exc h _, q => by cases n <;> cases q
  | n, _, _, .fn h, q => by cases n <;> cases q
  | n, _, _, .ptr, q => by cases n <;> cases q
  | n, _, _, .dc1 _ _, q => by cases n <;> cases q
theorem DnA.dp {s : Bool} {K : PySem.W.Frag} {F : List Addr} {G H : Hp} (hG : ∀ a o, G a = some o → H a = some o) : ∀ {n : Nat} {vs : List V} {ds : List D}, DnA s K F G vs ds → (∀ x ∈ ds, x.q n = true) → DpAll K H vs (D.pys ds)
  | _, _, _, .nil, _ => .nil
  | _, _, _, .cons h r, q => .cons (Dn.dp hG h (q _ List.mem_cons_self)) (DnA.dp hG r fun x hx => q x (List.mem_cons_of_mem _ hx))
end
def gEq : G2 := fun x y Q => (x.q 8 = true ∧ y.q 8 = true ∧ Q (.bl (x.eqv y))) ∨ ∃ a b, x = .str a ∧ y = .str b ∧ Q (.bl (decide (a = b)))
def gNe : G2 := fun x y Q => (x.q 8 = true ∧ y.q 8 = true ∧ Q (.bl (!x.eqv y))) ∨ ∃ a b, x = .str a ∧ y = .str b ∧ Q (.bl (!decide (a = b)))
section
variable {X : Cx} {C : Cn} {e a b c : Expr} {es : List Expr} {pos : Pos} {ta tb tc : DT C.W.M}
theorem ok_eq (hu : X.A.units + 64 < cLine) : OpOk X C (compareOp .Eq) gEq := by
  refine ⟨_, (op_eqD hu).or op_eq, fun σ H Pr F ρ m x y dx dy Q R S hx hy q k => ?_⟩
  rcases q with ⟨q1, q2, q⟩ | ⟨a, b, rfl, rfl, q⟩
  · refine .inl ⟨_, _, hx.dp (fun _ _ => wv_le) q1, hy.dp (fun _ _ => wv_le) q2, shaped_q q1, shaped_q q2, k _ _ (post_here S (.bl _) (fun _ h => nomatch h) ?_)⟩
    rw [py_eqv q1 q2]
    exact q
  · cases hx; cases hy
    refine .inr ⟨rfl, k _ _ (post_here S (.bl _) (fun _ h => nomatch h) ?_)⟩
    rw [show decide (V.str a = V.str b) = decide (a = b) from by rw [Bool.eq_iff_iff]; simp]
    exact q
theorem ok_ne (hu : X.A.units + 64 < cLine) : OpOk X C (compareOp .NotEq) gNe := by
  refine ⟨_, (op_neD hu).or op_ne, fun σ H Pr F ρ m x y dx dy Q R S hx hy q k => ?_⟩
  rcases q with ⟨q1, q2, q⟩ | ⟨a, b, rfl, rfl, q⟩
  · refine .inl ⟨_, _, hx.dp (fun _ _ => wv_le) q1, hy.dp (fun _ _ => wv_le) q2, shaped_q q1, shaped_q q2, k _ _ (post_here S (.bl _) (fun _ h => nomatch h) ?_)⟩
    rw [py_eqv q1 q2]
    exact q
  · cases hx; cases hy
    refine .inr ⟨rfl, k _ _ (post_here S (.bl _) (fun _ h => nomatch h) ?_)⟩
    rw [show decide (V.str a = V.str b) = decide (a = b) from by rw [Bool.eq_iff_iff]; simp]
    exact q
abbrev gLt : G2 := g0 fun i j => .bl (decide (i < j))
abbrev gGt : G2 := g0 fun i j => .bl (decide (j < i))
theorem ok_lt : OpOk X C (compareOp .Lt) gLt := opok_cmp0 op_lt
theorem ok_gt : OpOk X C (compareOp .Gt) gGt := opok_cmp0 op_gt
def D.isN : D → Bool
  | .non => true
  | _ => false
def gIsN : G2 := fun x y Q => y.isN = true ∧ Q (.bl x.isN)
def gNotN : G2 := fun x y Q => y.isN = true ∧ Q (.bl (!x.isN))
theorem j_cmp {op : CmpOp} {g : G2} (o : OpOk X C (compareOp op) g) (ha : J .w X C a ta) (hb : J .w X C b tb) (hm : behindInMarks op b = false := by exact nomark _) : J .f X C (.Compare a [op] [b] pos) (dBin g ta tb) := by
  obtain ⟨r, ho, q⟩ := o
  obtain ⟨te, p, q1⟩ := ha
  obtain ⟨te', p', q2⟩ := hb
  refine ⟨_, pe_cmpR ho p p' hm, fun σ H Pr F ρ m Q Z R S E h k => ?_⟩
  refine q1 σ H Pr F ρ m _ Z _ S E h fun v H1 ⟨P1, F1, m1, d, S1, t1, dv, z⟩ => ?_
  refine q2 σ H1 P1 F1 ρ m1 _ Z _ S1 (E.te t1.toTr) z fun w H2 ⟨P2, F2, m2, d2, S2, t2, dv2, z2⟩ => ?_
  exact q σ H2 P2 F2 ρ m2 v w d d2 Q R S2 (Dn.te t2 dv) dv2 z2 fun v H' z => k v H' ((z.te t2).te t1)
def dTst {M : Type} (t : DT M) : DTT M := fun ρ m Q Z => t ρ m (fun d m' => match d with | .bl b => Q b m' | _ => False) Z
theorem post_tst {K : PySem.W.Frag} {c : Cl} {Pr : Addr → Prop} {F : List Addr} {H H' : Hp} {σ : L2.St} {ρ : En} {Q : Bool → C.W.M → Prop} {v : V} (h : Post K C c Pr F H σ ρ (fun d m' => match d with | .bl b => Q b m' | _ => False) v H') : ∃ b, v = .bl b ∧ PostT K C Pr F H σ ρ Q b H' := by
  obtain ⟨P1, F1, m1, d, S1, t1, dv, z⟩ := h
  split at z
  · rename_i b
    refine ⟨b, ?_, P1, F1, m1, S1, t1, z⟩
    cases c with
    | f =>
      have dv := dv.1
      cases dv
      rfl
    | w =>
      have dv : Dn false K F1 (wv F1 H') v (.bl b) := dv
      cases dv
      rfl
    | s =>
      have dv : Dn true K F1 (sv C.H0 P1 H') v (.bl b) := dv
      cases dv
      rfl
    | r =>
      have dv : Dn true K F1 (sv C.H0 (· ∈ F1) H') v (.bl b) := dv
      cases dv
      rfl
  · exact z.elim
theorem jt_cmp {op : CmpOp} {g : G2} (o : OpOk X C (compareOp op) g) (ha : J .w X C a ta) (hb : J .w X C b tb) (hm : behindInMarks op b = false := by exact nomark _) : JT X C (.Compare a [op] [b] pos) (dTst (dBin g ta tb)) := by
  obtain ⟨r, ho, q⟩ := o
  obtain ⟨te, p, q1⟩ := ha
  obtain ⟨te', p', q2⟩ := hb
  refine ⟨_, pt_cmpR ho p p' hm, fun σ H Pr F ρ m Q Z R S E h k => ?_⟩
  refine q1 σ H Pr F ρ m _ Z _ S E h fun v H1 ⟨P1, F1, m1, d, S1, t1, dv, z⟩ => ?_
  refine q2 σ H1 P1 F1 ρ m1 _ Z _ S1 (E.te t1.toTr) z fun w H2 ⟨P2, F2, m2, d2, S2, t2, dv2, z2⟩ => ?_
  exact q σ H2 P2 F2 ρ m2 v w d d2 _ _ S2 (Dn.te t2 dv) dv2 z2 fun v H' z => by
    obtain ⟨b, e, z⟩ := post_tst ((z.te t2).te t1)
    exact ⟨b, e, k b H' z⟩
def D.tr : D → Option Bool
  | .non => some false
  | .bl b => some b
  | .int i => some (i != 0)
  | .tup xs | .lst xs => some (!xs.isEmpty)
  | .str _ => none
  | .hnd _ => none
  | .dic => none
  | .exc _ => none
  | .fn _ => none
  | .ptr _ => none
  | .dc1 _ _ => none
def dVal {M : Type} (t : DT M) : DTT M := fun ρ m Q Z => t ρ m (fun d m' => match d.tr with | some b => Q b m' | none => False) Z
theorem jt_val {t : DT C.W.M} (h : J .w X C e t) (he : ∀ whole, isTrue e X.env whole = (do let v ← whole; standAt e.pos; holding [v] (truthy v)) := by intro _; rfl) :
    JT X C e (dVal t) := by
  obtain ⟨te, p, q⟩ := h
  refine ⟨_, pt_truth p he, fun σ H Pr F ρ m Q Z R S E h k => ?_⟩
  refine q σ H Pr F ρ m _ Z _ S E h fun v H1 ⟨P1, F1, m1, d, S1, t1, dv, z⟩ => ?_
  have dv : Dn false X.K F1 (wv F1 H1) v d := dv
  try dsimp only at z
  split at z
  · rename_i b e
    refine ⟨b, ?_, k b H1 ⟨P1, F1, m1, S1, t1, z⟩⟩
    have el : ∀ {vs : List V} {ds : List D}, DnA false X.K F1 (wv F1 H1) vs ds → (!ds.isEmpty) = !vs.isEmpty := fun h => by cases h <;> rfl
    cases dv with
    | non => exact (Option.some.inj e).symm
    | bl b => exact (Option.some.inj e).symm
    | int i => exact (Option.some.inj e).symm
    | str x => cases e
    | hnd h => cases e
    | dic h => cases e
    | exc h _ => cases e
    | fn h => cases e
    | ptr => cases e
    | dc1 _ _ => cases e
    | tup h r => exact .inr (.inl ⟨_, (h.mono fun a xs => wv_le).sq, (Option.some.inj e).symm.trans (el r)⟩)
    | lst h r => exact .inl ⟨_, (h.mono fun a xs => wv_le).sq, (Option.some.inj e).symm.trans (el r)⟩
  · exact z.elim
variable {rest : List Expr} {tt uu : DTT C.W.M}
def dAnd {M : Type} (t u : DTT M) : DTT M := fun ρ m Q Z => t ρ m (fun b m1 => if b = true then u ρ m1 Q Z else Q false m1) Z
def dOr {M : Type} (t u : DTT M) : DTT M := fun ρ m Q Z => t ρ m (fun b m1 => if b = true then Q true m1 else u ρ m1 Q Z) Z
def dNot {M : Type} (t : DTT M) : DTT M := fun ρ m Q Z => t ρ m (fun b m1 => Q (!b) m1) Z
theorem JW.t (h : JW X C e tt) : JT X C e tt := by
  obtain ⟨te, p, q⟩ := h
  exact ⟨te, p.pt, q⟩
theorem jw_and1 (h : JT X C a tt) : JW X C (.BoolOp .And [a] pos) tt := by
  obtain ⟨te, p, q⟩ := h
  exact ⟨te, pw_and1 p, q⟩
theorem jw_or1 (h : JT X C a tt) : JW X C (.BoolOp .Or [a] pos) tt := by
  obtain ⟨te, p, q⟩ := h
  exact ⟨te, pw_or1 p, q⟩
theorem jw_and (h : JT X C a tt) (r : JW X C (.BoolOp .And (b :: rest) pos) uu) : JW X C (.BoolOp .And (a :: b :: rest) pos) (dAnd tt uu) := by
  obtain ⟨te, p, q⟩ := h
  obtain ⟨te', p', q'⟩ := r
  refine ⟨_, pw_and p p', fun σ H Pr F ρ m Q Z R S E h k => ?_⟩
  refine q σ H Pr F ρ m _ Z _ S E h fun v H1 ⟨P1, F1, m1, S1, t1, z⟩ => ?_
  cases v with
  | true => exact iteT (q' σ H1 P1 F1 ρ m1 Q Z R S1 (E.te t1.toTr) z fun w H2 z => k w H2 (z.te t1))
  | false => exact iteF (k false H1 ⟨P1, F1, m1, S1, t1, z⟩)
theorem jw_or (h : JT X C a tt) (r : JW X C (.BoolOp .Or (b :: rest) pos) uu) : JW X C (.BoolOp .Or (a :: b :: rest) pos) (dOr tt uu) := by
  obtain ⟨te, p, q⟩ := h
  obtain ⟨te', p', q'⟩ := r
  refine ⟨_, pw_or p p', fun σ H Pr F ρ m Q Z R S E h k => ?_⟩
  refine q σ H Pr F ρ m _ Z _ S E h fun v H1 ⟨P1, F1, m1, S1, t1, z⟩ => ?_
  cases v with
  | false => exact iteF (q' σ H1 P1 F1 ρ m1 Q Z R S1 (E.te t1.toTr) z fun w H2 z => k w H2 (z.te t1))
  | true => exact iteT (k true H1 ⟨P1, F1, m1, S1, t1, z⟩)
theorem jt_not (h : JT X C a tt) : JT X C (.UnaryOp .Not a pos) (dNot tt) := by
  obtain ⟨te, p, q⟩ := h
  refine ⟨_, pt_not p, fun σ H Pr F ρ m Q Z R S E h k => ?_⟩
  exact q σ H Pr F ρ m _ Z _ S E h fun v H1 ⟨P1, F1, m1, S1, t1, z⟩ => k _ H1 ⟨P1, F1, m1, S1, t1, z⟩
def dAndV {M : Type} (t u : DT M) : DT M := fun ρ m Q Z => t ρ m (fun d m1 => match d with | .bl true => u ρ m1 Q Z | .bl false => Q (.bl false) m1 | _ => False) Z
def dOrV {M : Type} (t u : DT M) : DT M := fun ρ m Q Z => t ρ m (fun d m1 => match d with | .bl false => u ρ m1 Q Z | .bl true => Q (.bl true) m1 | _ => False) Z
def dNotV {M : Type} (t : DT M) : DT M := fun ρ m Q Z => t ρ m (fun d m1 => match d with | .bl b => Q (.bl (!b)) m1 | _ => False) Z
theorem j_one {op} {t : DT C.W.M} {c : Cl} (h : J c X C a t) : J c X C (.BoolOp op [a] pos) t := by
  obtain ⟨te, p, q⟩ := h
  exact ⟨te, pe_one p, q⟩
theorem post_bl {K : PySem.W.Frag} {Pr : Addr → Prop} {F : List Addr} {H H' : Hp} {v : V} {b : Bool} (h : Dv K C .f Pr F H H' v (.bl b)) : v = .bl b := by
  have h := h.1
  cases h
  rfl
theorem j_and (ha : J .f X C a ta) (r : J .f X C (.BoolOp .And (b :: rest) pos) tb) : J .f X C (.BoolOp .And (a :: b :: rest) pos) (dAndV ta tb) := by
  obtain ⟨te, p, q⟩ := ha
  obtain ⟨te', p', q'⟩ := r
  refine ⟨_, pe_and p p', fun σ H Pr F ρ m Q Z R S E h k => ?_⟩
  refine q σ H Pr F ρ m _ Z _ S E h fun v H1 ⟨P1, F1, m1, d, S1, t1, dv, z⟩ => ?_
  try dsimp only at z
  split at z
  · exact ⟨true, post_bl dv, iteT (q' σ H1 P1 F1 ρ m1 Q Z R S1 (E.te t1.toTr) z fun w H2 z => k w H2 (z.te t1))⟩
  · exact ⟨false, post_bl dv, iteF (k _ _ ((post_here (d := .bl false) S1 (.bl false) (fun _ h => nomatch h) z).te t1))⟩
  · exact z.elim
theorem j_or (ha : J .f X C a ta) (r : J .f X C (.BoolOp .Or (b :: rest) pos) tb) : J .f X C (.BoolOp .Or (a :: b :: rest) pos) (dOrV ta tb) := by
  obtain ⟨te, p, q⟩ := ha
  obtain ⟨te', p', q'⟩ := r
  refine ⟨_, pe_or p p', fun σ H Pr F ρ m Q Z R S E h k => ?_⟩
  refine q σ H Pr F ρ m _ Z _ S E h fun v H1 ⟨P1, F1, m1, d, S1, t1, dv, z⟩ => ?_
  try dsimp only at z
  split at z
  · exact ⟨false, post_bl dv, iteF (q' σ H1 P1 F1 ρ m1 Q Z R S1 (E.te t1.toTr) z fun w H2 z => k w H2 (z.te t1))⟩
  · exact ⟨true, post_bl dv, iteT (k _ _ ((post_here (d := .bl true) S1 (.bl true) (fun _ h => nomatch h) z).te t1))⟩
  · exact z.elim
theorem j_not (ha : J .f X C a ta) : J .f X C (.UnaryOp .Not a pos) (dNotV ta) := by
  obtain ⟨te, p, q⟩ := ha
  refine ⟨_, pe_not p, fun σ H Pr F ρ m Q Z R S E h k => ?_⟩
  refine q σ H Pr F ρ m _ Z _ S E h fun v H1 ⟨P1, F1, m1, d, S1, t1, dv, z⟩ => ?_
  try dsimp only at z
  split at z
  · rename_i b
    exact ⟨b, post_bl dv, k _ _ ((post_here (d := .bl (!b)) S1 (.bl _) (fun _ h => nomatch h) z).te t1)⟩
  · exact z.elim
def dNeg {M : Type} (t : DT M) : DT M := fun ρ m Q Z => t ρ m (fun d m1 => match d with | .int i => Q (.int (-i)) m1 | _ => False) Z
theorem j_neg (ha : J .w X C a ta) : J .f X C (.UnaryOp .USub a pos) (dNeg ta) := by
  obtain ⟨te, p, q⟩ := ha
  refine ⟨_, pe_un un_neg p, fun σ H Pr F ρ m Q Z R S E h k => ?_⟩
  refine q σ H Pr F ρ m _ Z _ S E h fun v H1 ⟨P1, F1, m1, d, S1, t1, dv, z⟩ => ?_
  have dv : Dn false X.K F1 (wv F1 H1) v d := dv
  try dsimp only at z
  split at z
  · exact ⟨_, dv.toInt, k _ _ ((post_here S1 (.int _) (fun _ h => nomatch h) z).te t1)⟩
  · exact z.elim
def dIf {M : Type} (t : DTT M) (u w : DT M) : DT M := fun ρ m Q Z => t ρ m (fun b m1 => if b = true then u ρ m1 Q Z else w ρ m1 Q Z) Z
theorem j_if {cl : Cl} (hc : JT X C c tt) (ha : J cl X C a ta) (hb : J cl X C b tb) : J cl X C (.IfExp c a b pos) (dIf tt ta tb) := by
  obtain ⟨tc, p, q⟩ := hc
  obtain ⟨te, p1, q1⟩ := ha
  obtain ⟨te', p2, q2⟩ := hb
  refine ⟨_, pe_ifExp p p1 p2, fun σ H Pr F ρ m Q Z R S E h k => ?_⟩
  refine q σ H Pr F ρ m _ Z _ S E h fun v H1 ⟨P1, F1, m1, S1, t1, z⟩ => ?_
  cases v with
  | true => exact iteT (q1 σ H1 P1 F1 ρ m1 Q Z R S1 (E.te t1.toTr) z fun w H2 z => k w H2 (z.te t1))
  | false => exact iteF (q2 σ H1 P1 F1 ρ m1 Q Z R S1 (E.te t1.toTr) z fun w H2 z => k w H2 (z.te t1))
abbrev DSp (M : Type) := List D → M → (D → M → Prop) → (Str → M → Prop) → Prop
def spD (K : PySem.W.Frag) (mg : Str → Option Value) (W : Wd) (sp : DSp W.M) : Sp := fun vs H Q E => ∃ F m ds Qd Zd, W.Rz m F H ∧ DnA false K F (wv F H) vs ds ∧ sp ds m Qd Zd ∧
  (∀ v H' F' d m', W.Rz m' F' H' → (∃ G, F' = F ++ G) → (∀ a ∈ F', a ∉ F → H a = none) → (∀ a o, a ∉ F → H a = some o → H' a = some o) → Dn true K F' (sv H (· ∈ F') H') v d → Qd d m' → Q v H') ∧
  (∀ x cls H' F' m', mg x = some cls → W.Rz m' F' H' → (∃ G, F' = F ++ G) → (∀ a ∈ F', a ∉ F → H a = none) → (∀ a o, a ∉ F → H a = some o → H' a = some o) → Zd x m' → E cls none H')
def FD (P : Program) (w : World) (K : PySem.W.Frag) (mg : Str → Option Value) (base : Heap) (W : Wd) (k : Nat) (x : Str) (dds : List D) (sp : DSp W.M) : Prop :=
  ∃ f fd ps ds dvs, FnG P w K mg base (L2.CX P w) k f fd ps (spD K mg W sp) ∧ mg x = some (.ref f) ∧ PySem.W.keepIn K (.ref f) = true ∧ Binds K fd ps ds ∧ Vals dvs ds ∧ ∀ F G, DnA false K F G dvs dds
def dCall {M : Type} (sp : DSp M) (dds : List D) (t : DTA M) : DT M := fun ρ m Q Z => t ρ m (fun ds m1 => sp (ds ++ dds) m1 Q Z) Z
theorem j_call {x : Str} {k : Nat} {dds : List D} {sp : DSp C.W.M} {ta : DTA C.W.M} {p : Pos} (h : FD X.prog X.w X.K X.mg X.base C.W k x dds sp) (hr : RoomG k X.A) (tk : Takes X C.wx) (hg : Gl X x) (ha : JA .w X C (e :: es) ta)
    (hdb : (x == ("__debug__" : Str)) = false := by decide) (he : starEach (e :: es) X.env = (false, eval e X.env) :: starEach es X.env := by rfl) (hpl : (backTo pos (starEach es X.env)).any (·.1) = false := by rfl) :
    J .f X C (.Call (.Name x p) (e :: es) [] pos) (dCall sp dds ta) := by
  obtain ⟨f, fd, ps, ds, dvs, G, hm, hk, hb, hd, hdd⟩ := h
  obtain ⟨te, pa, q⟩ := ha
  refine ⟨_, pe_callG (E := fun σ cls d H' => C.wx cls d σ H') G hr hg hm hk hb hd (fun σ => passAt tk σ) pa hdb he hpl, fun σ H Pr F ρ m Q Z R S E h k => ?_⟩
  refine q σ H Pr F ρ m _ Z _ S E h fun vs H1 ⟨P1, F1, m1, ds1, S1, t1, dv, z⟩ => ?_
  have dv : DnA false X.K F1 (wv F1 H1) vs ds1 := dv
  refine ⟨F1, m1, ds1 ++ dds, Q, Z, S1.rz, dv.app (hdd _ _), z, fun v H' F' d m' rz pre fr kp dn q => ?_, fun x cls H' F' m' hx rz pre fr kp z => ?_⟩
  · obtain ⟨S2, t2⟩ := S1.turned rz pre fr kp
    have np : ∀ {a o}, sv H1 (· ∈ F') H' a = some o → IsL o → ¬ (P1 a ∨ a ∈ F') ∧ C.H0 a = none ∧ H1 a = none := fun {a o} h l => by
      obtain ⟨e, q⟩ := vw_iff.mp h
      rcases q with q | q
      · exact (IsT.not_L q l).elim
      · exact ⟨fun z => z.elim (S1.np q.2.2) q.2.1, S1.h0n q.2.2, q.2.2⟩
    have up : ∀ a o, sv H1 (· ∈ F') H' a = some o → sv C.H0 (fun a => P1 a ∨ a ∈ F') H' a = some o := fun a o h => by
      obtain ⟨e, q⟩ := vw_iff.mp h
      refine vw_iff.mpr ⟨e, q.imp id fun q => ⟨q.1, (np h q.1).1, (np h q.1).2.1⟩⟩
    refine k v H' ⟨_, F', m', d, S2, t1.trans t2, ⟨dn.mono ⟨[], by simp⟩ up, fun ds e => ?_⟩, q⟩
    subst e
    cases dn with
    | lst h r =>
      rename_i a xs
      have h : sv H1 (· ∈ F') H' a = some (.lst xs) := h
      obtain ⟨n1, n2, n3⟩ := np h trivial
      exact ⟨a, xs, rfl, some_of (t1.stay a) n3, n1, sv_le h, DnA.mono ⟨[], by simp⟩ up r⟩
  · obtain ⟨S2, t2⟩ := S1.turned rz pre fr kp
    exact E x cls _ F' m' H' hx S2 (t1.trans t2).toTr z
def CaOk (X : Cx) (C : Cn) (c : Cl) (f : Value) (g : List D → (D → Prop) → Prop) : Prop := ∃ r, CallR X f r ∧
  ∀ σ H Pr F ρ m vs ds Q (R : VK), SR X.K C Pr F σ ρ m H → DvA X.K C c Pr F H vs ds → g ds (fun d => Q d m) → (∀ v H', Post X.K C .f Pr F H σ ρ Q v H' → R v H') → r vs H R
def dB {M : Type} (g : List D → (D → Prop) → Prop) (t : DTA M) : DT M := fun ρ m Q Z => t ρ m (fun ds m1 => g ds fun d => Q d m1) Z
theorem j_callB {cl : Cl} {id : String} {x : Str} {g : List D → (D → Prop) → Prop} {ta : DTA C.W.M} {p : Pos} (h : CaOk X C cl (.builtin id) g) (hm : X.mg x = none) (hv : bootBuiltins x = some (.builtin id)) (ha : JA cl X C (e :: es) ta) (hg : Gl X x := by rfl) (hn : x ≠ "__name__" := by decide) (hdb : (x == ("__debug__" : Str)) = false := by decide)
    (he : starEach (e :: es) X.env = (false, eval e X.env) :: starEach es X.env := by rfl) (hpl : (backTo pos (starEach es X.env)).any (·.1) = false := by rfl) : J .f X C (.Call (.Name x p) (e :: es) [] pos) (dB g ta) := by
  obtain ⟨r, hc, q'⟩ := h
  obtain ⟨te, pa, q⟩ := ha
  refine ⟨_, pe_callB hc hg hm hv pa hn hdb he hpl, fun σ H Pr F ρ m Q Z R S E h k => ?_⟩
  refine q σ H Pr F ρ m _ Z _ S E h fun vs H1 ⟨P1, F1, m1, ds1, S1, t1, dv, z⟩ => ?_
  exact q' σ H1 P1 F1 ρ m1 vs ds1 Q R S1 dv z fun v H' z => k v H' (z.te t1)
theorem j_callTy {cl : Cl} {T : String} {x : Str} {g : List D → (D → Prop) → Prop} {ta : DTA C.W.M} {p : Pos} (h : CaOk X C cl (.type T) g) (hm : X.mg x = none) (hv : bootBuiltins x = some (.type T)) (ha : JA cl X C (e :: es) ta) (hg : Gl X x := by rfl) (hn : x ≠ "__name__" := by decide) (hdb : (x == ("__debug__" : Str)) = false := by decide)
    (he : starEach (e :: es) X.env = (false, eval e X.env) :: starEach es X.env := by rfl) (hpl : (backTo pos (starEach es X.env)).any (·.1) = false := by rfl) : J .f X C (.Call (.Name x p) (e :: es) [] pos) (dB g ta) := by
  obtain ⟨r, hc, q'⟩ := h
  obtain ⟨te, pa, q⟩ := ha
  refine ⟨_, pe_callTy hc hg hm hv pa hn hdb he hpl, fun σ H Pr F ρ m Q Z R S E h k => ?_⟩
  refine q σ H Pr F ρ m _ Z _ S E h fun vs H1 ⟨P1, F1, m1, ds1, S1, t1, dv, z⟩ => ?_
  exact q' σ H1 P1 F1 ρ m1 vs ds1 Q R S1 dv z fun v H' z => k v H' (z.te t1)
theorem Dn.sqT {s : Bool} {K : PySem.W.Frag} {F : List Addr} {G H : Hp} {v : V} {ds : List D} (hG : ∀ a o, G a = some o → H a = some o) (h : Dn s K F G v (.tup ds)) : ∃ a vs, v = .ref a ∧ SqT K H a vs ∧ vs.length = ds.length ∧ DnA s K F G vs ds := by
  cases h with
  | tup h r => exact ⟨_, _, rfl, (h.mono fun a xs => hG a _).sq, r.length, r⟩
theorem Dn.sqL {s : Bool} {K : PySem.W.Frag} {F : List Addr} {G H : Hp} {v : V} {ds : List D} (hG : ∀ a o, G a = some o → H a = some o) (h : Dn s K F G v (.lst ds)) : ∃ a vs, v = .ref a ∧ SqL K H a vs ∧ vs.length = ds.length ∧ DnA s K F G vs ds := by
  cases h with
  | lst h r => exact ⟨_, _, rfl, (h.mono hG).sq, r.length, r⟩
def gLen : List D → (D → Prop) → Prop
  | [.lst xs], Q | [.tup xs], Q => Q (.int xs.length)
  | [.str z], Q => z.length ≤ sizeLine ∧ Q (.int z.length)
  | _, _ => False
theorem ca_len : CaOk X C .w (.builtin "len") gLen := by
  refine ⟨_, call_len_seq.or call_len_str, fun σ H Pr F ρ m vs ds Q R S dv q k => ?_⟩
  have dv : DnA false X.K F (wv F H) vs ds := dv
  unfold gLen at q
  split at q
  · cases dv with
    | cons h r =>
      cases r
      obtain ⟨a, us, rfl, hs, hl, _⟩ := h.sqL (fun _ _ => wv_le)
      refine .inl ⟨a, us, rfl, .inl hs, ?_⟩
      rw [hl]
      exact k _ _ (post_here S (.int _) (fun _ h => nomatch h) q)
  · cases dv with
    | cons h r =>
      cases r
      obtain ⟨a, us, rfl, hs, hl, _⟩ := h.sqT (fun _ _ => wv_le)
      refine .inl ⟨a, us, rfl, .inr hs, ?_⟩
      rw [hl]
      exact k _ _ (post_here S (.int _) (fun _ h => nomatch h) q)
  · cases dv with
    | cons h r =>
      cases r
      cases h
      exact .inr ⟨_, rfl, q.1, k _ _ (post_here S (.int _) (fun _ h => nomatch h) q.2)⟩
  · exact q.elim
def gI1 (f : Int → Int) : List D → (D → Prop) → Prop
  | [.int i], Q => Q (.int (f i))
  | _, _ => False
def gI2 (f : Int → Int → Int) : List D → (D → Prop) → Prop
  | [.int i, .int j], Q => Q (.int (f i j))
  | _, _ => False
theorem ca_I1 {f : Value} {g : Int → Int} (h : CallR X f (fun xs H Q => ∃ i, xs = [.int i] ∧ Q (.int (g i)) H)) : CaOk X C .w f (gI1 g) := by
  refine ⟨_, h, fun σ H Pr F ρ m vs ds Q R S dv q k => ?_⟩
  have dv : DnA false X.K F (wv F H) vs ds := dv
  unfold gI1 at q
  split at q
  · cases dv with
    | cons h r =>
      cases r
      cases h
      exact ⟨_, rfl, k _ _ (post_here S (.int _) (fun _ h => nomatch h) q)⟩
  · exact q.elim
theorem ca_I2 {f : Value} {g : Int → Int → Int} (h : CallR X f (fun xs H Q => ∃ i j, xs = [.int i, .int j] ∧ Q (.int (g i j)) H)) : CaOk X C .w f (gI2 g) := by
  refine ⟨_, h, fun σ H Pr F ρ m vs ds Q R S dv q k => ?_⟩
  have dv : DnA false X.K F (wv F H) vs ds := dv
  unfold gI2 at q
  split at q
  · cases dv with
    | cons h r =>
      cases r with
      | cons h' r =>
        cases r
        cases h
        cases h'
        exact ⟨_, _, rfl, k _ _ (post_here S (.int _) (fun _ h => nomatch h) q)⟩
  · exact q.elim
def iabs (i : Int) : Int := if i < 0 then -i else i
def imax (i j : Int) : Int := if j > i then j else i
theorem ca_abs : CaOk X C .w (.builtin "abs") (gI1 iabs) := ca_I1 call_abs
theorem ca_max (hc : X.calm = true) : CaOk X C .w (.builtin "max") (gI2 imax) := ca_I2 (call_max2 hc)
def gInt : List D → (D → Prop) → Prop
  | [.int i], Q => Q (.int i)
  | [.bl b], Q => Q (.int (if b then 1 else 0))
  | _, _ => False
theorem post_new {K : PySem.W.Frag} {Pr : Addr → Prop} {F : List Addr} {H : Hp} {σ : L2.St} {ρ : En} {m : C.W.M} {Q : D → C.W.M → Prop} {p : Addr} {vs : List V} {ds : List D} (S : SR K C Pr F σ ρ m H) (hp : H p = none) (dv : DnA true K F (sv C.H0 Pr H) vs ds) (q : Q (.lst ds) m) :
    Post K C .f Pr F H σ ρ Q (.ref p) (upd H p (.lst vs)) := by
  obtain ⟨S2, t2⟩ := S.new1 (o := .lst vs) hp
  have np := S.np hp
  have dv2 : DnA true K F (sv C.H0 Pr (upd H p (.lst vs))) vs ds := DnA.mono t2.pre (sv_tr t2.toTr S.prs) dv
  exact ⟨Pr, F, m, .lst ds, S2, t2, ⟨.lst (vw_iff.mpr ⟨upd_same, .inr ⟨trivial, np, S.h0n hp⟩⟩) dv2, fun ds' e => by cases e; exact ⟨p, vs, rfl, hp, np, upd_same, dv2⟩⟩, q⟩
theorem post_newT {K : PySem.W.Frag} {Pr : Addr → Prop} {F : List Addr} {H : Hp} {σ : L2.St} {ρ : En} {m : C.W.M} {Q : D → C.W.M → Prop} {p : Addr} {vs : List V} {ds : List D} (S : SR K C Pr F σ ρ m H) (hp : H p = none) (dv : DnA true K F (sv C.H0 Pr H) vs ds) (q : Q (.tup ds) m) :
    Post K C .f Pr F H σ ρ Q (.ref p) (upd H p (.tup vs)) := by
  obtain ⟨S2, t2⟩ := S.new1 (o := .tup vs) hp
  exact ⟨Pr, F, m, .tup ds, S2, t2, dv_flat S2 (.tup (.inl (vw_iff.mpr ⟨upd_same, .inl trivial⟩)) (DnA.mono t2.pre (sv_tr t2.toTr S.prs) dv)) (fun _ h => nomatch h), q⟩
theorem DnA.up {K : PySem.W.Frag} {Pr : Addr → Prop} {F : List Addr} {H : Hp} {vs : List V} {ds : List D} (h : DnA false K F (wv F H) vs ds) (n : D.nls ds = true) : DnA true K F (sv C.H0 Pr H) vs ds :=
  h.flat ⟨[], by simp⟩ (fun a o i q => vw_iff.mpr ⟨wv_le q, .inl i⟩) n
theorem Dn.up {K : PySem.W.Frag} {Pr : Addr → Prop} {F : List Addr} {H : Hp} {v : V} {d : D} (h : Dn false K F (wv F H) v d) (n : d.nl = true) : Dn true K F (sv C.H0 Pr H) v d :=
  h.flat ⟨[], by simp⟩ (fun a o i q => vw_iff.mpr ⟨wv_le q, .inl i⟩) n
def gSeq (mk : List D → D) : List D → (D → Prop) → Prop
  | [.lst xs], Q | [.tup xs], Q => D.nls xs = true ∧ Q (mk xs)
  | _, _ => False
theorem ca_list : CaOk X C .w (.type "list") (gSeq .lst) := by
  refine ⟨_, call_list_of, fun σ H Pr F ρ m vs ds Q R S dv q k => ?_⟩
  have dv : DnA false X.K F (wv F H) vs ds := dv
  unfold gSeq at q
  split at q
  · cases dv with
    | cons h r =>
      cases r
      obtain ⟨a, us, rfl, hs, hl, hd⟩ := h.sqL (fun _ _ => wv_le)
      exact ⟨a, us, rfl, .inl hs, fun l hl => k _ _ (post_new S hl (hd.up q.1) q.2)⟩
  · cases dv with
    | cons h r =>
      cases r
      obtain ⟨a, us, rfl, hs, hl, hd⟩ := h.sqT (fun _ _ => wv_le)
      exact ⟨a, us, rfl, .inr hs, fun l hl => k _ _ (post_new S hl (hd.up q.1) q.2)⟩
  · exact q.elim
theorem ca_tuple : CaOk X C .w (.type "tuple") (gSeq .tup) := by
  refine ⟨_, call_tuple_of, fun σ H Pr F ρ m vs ds Q R S dv q k => ?_⟩
  have dv : DnA false X.K F (wv F H) vs ds := dv
  unfold gSeq at q
  split at q
  · cases dv with
    | cons h r =>
      cases r
      obtain ⟨a, us, rfl, hs, hl, hd⟩ := h.sqL (fun _ _ => wv_le)
      exact ⟨a, us, rfl, .inl ⟨hs, fun l hl => k _ _ (post_newT S hl (hd.up q.1) q.2)⟩⟩
  · cases dv with
    | cons h r =>
      cases r
      have hs := Dn.up (C := C) (Pr := Pr) h q.1
      obtain ⟨a, us, rfl, hs', hl, hd⟩ := h.sqT (fun _ _ => wv_le)
      exact ⟨a, us, rfl, .inr ⟨hs', k _ _ (post_here S hs (fun _ h => nomatch h) q.2)⟩⟩
  · exact q.elim
def D.ty : D → Option String
  | .non => some "NoneType" | .bl _ => some "bool" | .int _ => some "int" | .str _ => some "str" | .tup _ => some "tuple" | .lst _ => some "list" | .hnd _ => none | .dic => some "dict" | .exc _ => none | .fn _ => none | .ptr _ => none | .dc1 _ _ => some "dict"
def isiB (t T : String) : Bool := t == T || (t == "bool" && T == "int")
def IsiT (T : String) : Prop := ∀ t ∈ ["NoneType", "bool", "int", "str", "tuple", "list", "dict"], kitB t T = some (isiB t T)
theorem ty_of {K : PySem.W.Frag} {F : List Addr} {G H : Hp} {v : V} {d : D} (hG : ∀ a o, G a = some o → H a = some o) (h : Dn false K F G v d) {t : String} (e : d.ty = some t) : TyX K H v (.type t) := by
  cases h with
  | non => cases e; exact .base .non
  | bl b => cases e; exact .base (.bl b)
  | int i => cases e; exact .base (.int i)
  | str x => cases e; exact .base (.str x)
  | hnd h => cases e
  | exc h _ => cases e
  | fn h => cases e
  | ptr => cases e
  | dic h => cases e; exact .base (.dK (hG _ _ h))
  | dc1 h r => cases e; exact .base (.dK (hG _ _ h))
  | tup h r =>
    cases e
    rcases h with h | ⟨o, its, n, h, c, _⟩
    · exact .base (.tup (hG _ _ h))
    · exact .kTuple h c
  | lst h r =>
    cases e
    rcases h with (h | ⟨o, h⟩) | ⟨o, its, n, h, c, _⟩
    · exact .base (.lst (hG _ _ h))
    · exact .base (.frz (hG _ _ h))
    · exact .kList h c
def dIsi {M : Type} (T : String) (t : DT M) : DT M := fun ρ m Q Z => t ρ m (fun d m1 => match d.ty with | some ty => Q (.bl (isiB ty T)) m1 | none => False) Z
theorem j_isi {T : String} {x : Str} {p p2 : Pos} {t : DT C.W.M} (hT : IsiT T) (ha : J .w X C a t) (mi : X.mg "isinstance" = none) (mx : X.mg x = none) (hv : bootBuiltins x = some (.type T)) (gi : Gl X "isinstance" := by rfl) (gx : Gl X x := by rfl) (hn : x ≠ "__name__" := by decide) (hdb : (x == ("__debug__" : Str)) = false := by decide)
    (he : starEach [a, .Name x p2] X.env = (false, eval a X.env) :: starEach [.Name x p2] X.env := by rfl) (hpl : (backTo pos (starEach [.Name x p2] X.env)).any (·.1) = false := by rfl) :
    J .f X C (.Call (.Name "isinstance" p) [a, .Name x p2] [] pos) (dIsi T t) := by
  obtain ⟨te, pa, q⟩ := ha
  refine ⟨_, pe_callB call_isi gi mi (by decide +kernel) (pa_cons pa (pa_cons (pe_bltn gx mx hv (v := .ty T) rfl hn hdb) pa_nil) he) (by decide) (by decide) he hpl, fun σ H Pr F ρ m Q Z R S E h k => ?_⟩
  refine q σ H Pr F ρ m _ Z _ S E h fun v H1 ⟨P1, F1, m1, d, S1, t1, dv, z⟩ => ?_
  try dsimp only at z
  split at z
  · rename_i ty e
    refine ⟨v, .ty T, .type ty, .type T, _, rfl, .ty T, ty_of (fun _ _ => wv_le) dv e, kit_ty (hT ty ?_), k _ _ ((post_here (d := .bl (isiB ty T)) S1 (.bl _) (fun _ h => nomatch h) z).te t1)⟩
    cases d <;> first | (cases e; simp) | cases e
  · exact z.elim
theorem isi_tuple : IsiT "tuple" := by unfold IsiT; decide +kernel
theorem isi_bool : IsiT "bool" := by unfold IsiT; decide +kernel
theorem isi_int : IsiT "int" := by unfold IsiT; decide +kernel
theorem isi_list : IsiT "list" := by unfold IsiT; decide +kernel
def gIx (n : Bool) : G2 := fun x y Q => match x, y with
  | .lst ds, .int i | .tup ds, .int i => (match atI ds i with | some d => (n = true → d.nl = true) ∧ Q d | none => False)
  | .str z, .int i => z.length ≤ sizeLine ∧ (match atI z.cps.toList i with | some c => Q (.str ⟨#[c]⟩) | none => False)
  | _, _ => False
theorem atI_dn {s : Bool} {K : PySem.W.Frag} {F : List Addr} {G : Hp} {vs : List V} {ds : List D} {i : Int} {d : D} (h : DnA s K F G vs ds) (e : atI ds i = some d) : ∃ v, atI vs i = some v ∧ Dn s K F G v d := by
  unfold atI at e ⊢
  rw [h.length]
  cases q : ixN ds.length i with
  | none => rw [q] at e; cases e
  | some j =>
    rw [q] at e
    exact h.getD (by simpa using e)
theorem ix_core {n sb : Bool} {K : PySem.W.Frag} {F : List Addr} {G H : Hp} {v w : V} {d d2 : D} {R : VK} {Q : D → Prop} (hG : ∀ a o, G a = some o → H a = some o) (dv : Dn sb K F G v d) (dw : w = .int 0 ∨ ∀ i, d2 = .int i → w = .int i)
    (hw : ∀ i, d2 = .int i → w = .int i) (q : gIx n d d2 Q) (fin : ∀ v' d', Dn sb K F G v' d' → (n = true → d'.nl = true) → Q d' → R v' H) : rIx K v w H R := by
  unfold gIx at q
  split at q
  · split at q
    · rename_i e
      cases dv with
      | lst hl hr =>
        obtain ⟨v', e', r'⟩ := atI_dn hr e
        exact .inl ⟨_, _, _, v', rfl, hw _ rfl, (hl.mono hG).sq, e', fin _ _ r' q.1 q.2⟩
    · exact q.elim
  · split at q
    · rename_i e
      cases dv with
      | tup hl hr =>
        obtain ⟨v', e', r'⟩ := atI_dn hr e
        exact .inr (.inl ⟨_, _, _, v', rfl, hw _ rfl, (hl.mono fun a xs => hG a _).sq, e', fin _ _ r' q.1 q.2⟩)
    · exact q.elim
  · obtain ⟨hz, q⟩ := q
    split at q
    · rename_i c e
      cases dv
      exact .inr (.inr ⟨_, _, c, rfl, hw _ rfl, hz, e, fin _ (.str ⟨#[c]⟩) (.str _) (fun _ => rfl) q⟩)
    · exact q.elim
  · exact q.elim
theorem j_ix {ta tb : DT C.W.M} (ha : J .s X C a ta) (hb : J .w X C b tb) (hs : PlainIx b := by exact fun _ _ => rfl) : J .s X C (.Subscript a b pos) (dBin (gIx false) ta tb) := by
  obtain ⟨te, p, q1⟩ := ha
  obtain ⟨te', p', q2⟩ := hb
  refine ⟨_, pe_ix ix_seq p p' hs, fun σ H Pr F ρ m Q Z R S E h k => ?_⟩
  refine q1 σ H Pr F ρ m _ Z _ S E h fun v H1 ⟨P1, F1, m1, d, S1, t1, dv, z⟩ => ?_
  refine q2 σ H1 P1 F1 ρ m1 _ Z _ S1 (E.te t1.toTr) z fun w H2 ⟨P2, F2, m2, d2, S2, t2, dv2, z2⟩ => ?_
  have dv2 : Dn false X.K F2 (wv F2 H2) w d2 := dv2
  have hw : ∀ i, d2 = .int i → w = .int i := fun i e => by rw [e] at dv2; exact dv2.toInt
  exact ix_core (fun _ _ => sv_le) (Dn.tr (H0 := C.H0) t2.toTr S1.prs dv) (.inr hw) hw z2 fun v' d' h _ q => k _ _ ⟨P2, F2, m2, d', S2, t1.trans t2, h, q⟩
theorem j_ixw {ta tb : DT C.W.M} (ha : J .w X C a ta) (hb : J .w X C b tb) (hs : PlainIx b := by exact fun _ _ => rfl) : J .s X C (.Subscript a b pos) (dBin (gIx true) ta tb) := by
  obtain ⟨te, p, q1⟩ := ha
  obtain ⟨te', p', q2⟩ := hb
  refine ⟨_, pe_ix ix_seq p p' hs, fun σ H Pr F ρ m Q Z R S E h k => ?_⟩
  refine q1 σ H Pr F ρ m _ Z _ S E h fun v H1 ⟨P1, F1, m1, d, S1, t1, dv, z⟩ => ?_
  refine q2 σ H1 P1 F1 ρ m1 _ Z _ S1 (E.te t1.toTr) z fun w H2 ⟨P2, F2, m2, d2, S2, t2, dv2, z2⟩ => ?_
  have dv2 : Dn false X.K F2 (wv F2 H2) w d2 := dv2
  have hw : ∀ i, d2 = .int i → w = .int i := fun i e => by rw [e] at dv2; exact dv2.toInt
  exact ix_core (fun _ _ => wv_le) (Dn.te t2 dv) (.inr hw) hw z2 fun v' d' h n q => k _ _ ⟨P2, F2, m2, d', S2, t1.trans t2, h.up (n rfl), q⟩
abbrev DTO (M : Type) := En → M → (Option Int → M → Prop) → (Str → M → Prop) → Prop
def JO (X : Cx) (C : Cn) (e : Option Expr) (t : DTO C.W.M) : Prop := ∃ te, PO X e te ∧
  ∀ σ H Pr F ρ m Q Z (R : Option Int → Hp → Prop), SR X.K C Pr F σ ρ m H → Ex X C Pr F H σ ρ Z → t ρ m Q Z → (∀ o H', (∃ Pr' F' m', SR X.K C Pr' F' σ ρ m' H' ∧ Te Pr F H Pr' F' H' ∧ Q o m') → R o H') → te σ H R
def dONone {M : Type} : DTO M := fun _ m Q _ => Q none m
def dOSome {M : Type} (t : DT M) : DTO M := fun ρ m Q Z => t ρ m (fun d m1 => match d with | .int i => Q (some i) m1 | _ => False) Z
theorem jo_none : JO X C none dONone := ⟨_, po_none, fun σ H Pr F ρ m Q Z R S E h k => k _ _ ⟨Pr, F, m, S, Te.refl, h⟩⟩
theorem jo_some {t : DT C.W.M} (h : J .w X C e t) : JO X C (some e) (dOSome t) := by
  obtain ⟨te, p, q⟩ := h
  refine ⟨_, po_some p, fun σ H Pr F ρ m Q Z R S E h k => ?_⟩
  refine q σ H Pr F ρ m _ Z _ S E h fun v H1 ⟨P1, F1, m1, d, S1, t1, dv, z⟩ => ?_
  have dv : Dn false X.K F1 (wv F1 H1) v d := dv
  try dsimp only at z
  split at z
  · exact ⟨_, dv.toInt, k _ _ ⟨P1, F1, m1, S1, t1, z⟩⟩
  · exact z.elim
def cutD (xs : List D) (lo hi : Option Int) : List D := (xs.drop (HT.sIx xs.length 0 lo)).take (HT.sIx xs.length xs.length hi - HT.sIx xs.length 0 lo)
theorem cut_dn {s : Bool} {K : PySem.W.Frag} {F : List Addr} {G : Hp} {vs : List V} {ds : List D} {lo hi : Option Int} (h : DnA s K F G vs ds) : DnA s K F G (cutV vs lo hi) (cutD ds lo hi) := by
  unfold cutV cutD
  rw [h.length]
  exact (h.drop _).take _
def dSl {M : Type} (t : DT M) (lo hi : DTO M) : DT M := fun ρ m Q Z => t ρ m (fun x m1 => lo ρ m1 (fun l m2 => hi ρ m2 (fun u m3 => match x with
  | .lst ds => D.nls ds = true ∧ Q (.lst (cutD ds l u)) m3
  | .tup ds => D.nls ds = true ∧ Q (.tup (cutD ds l u)) m3
  | _ => False) Z) Z) Z
theorem nls_all : ∀ {ds : List D}, D.nls ds = true ↔ ∀ d ∈ ds, d.nl = true
  | [] => by simp [D.nls]
  | d :: ds => by rw [D.nls, Bool.and_eq_true, nls_all]; simp
theorem nls_sub {ds es : List D} (h : D.nls ds = true) (s : ∀ d ∈ es, d ∈ ds) : D.nls es = true := nls_all.mpr fun d hd => nls_all.mp h d (s d hd)
theorem nls_cut {ds : List D} {l u : Option Int} (h : D.nls ds = true) : D.nls (cutD ds l u) = true := nls_sub h fun d hd => List.mem_of_mem_drop (List.mem_of_mem_take hd)
theorem j_sl {lo hi : Option Expr} {t : DT C.W.M} {tl th : DTO C.W.M} {p2 : Pos} (ha : J .w X C e t) (hl : JO X C lo tl) (hh : JO X C hi th) : J .f X C (.Subscript e (.Slice lo hi none p2) pos) (dSl t tl th) := by
  obtain ⟨te, p, q1⟩ := ha
  obtain ⟨te', p', q2⟩ := hl
  obtain ⟨te'', p'', q3⟩ := hh
  refine ⟨_, pe_slice (sl_list.or sl_tupA) p p' p'', fun σ H Pr F ρ m Q Z R S E h k => ?_⟩
  refine q1 σ H Pr F ρ m _ Z _ S E h fun v H1 ⟨P1, F1, m1, d, S1, t1, dv, z⟩ => ?_
  refine q2 σ H1 P1 F1 ρ m1 _ Z _ S1 (E.te t1.toTr) z fun l H2 ⟨P2, F2, m2, S2, t2, z2⟩ => ?_
  refine q3 σ H2 P2 F2 ρ m2 _ Z _ S2 (E.te (t1.trans t2).toTr) z2 fun u H3 ⟨P3, F3, m3, S3, t3, z3⟩ => ?_
  have dv : Dn false X.K F3 (wv F3 H3) v d := Dn.te (t2.trans t3) dv
  have t4 := t1.trans (t2.trans t3)
  try dsimp only at z3
  split at z3
  · obtain ⟨a, us, rfl, hs, hl, hd⟩ := dv.sqL (fun _ _ => wv_le)
    exact .inl ⟨a, us, rfl, hs, fun p hp => k _ _ ((post_new S3 hp (cut_dn hd |>.up (nls_cut z3.1)) z3.2).te t4)⟩
  · have hst := Dn.up (C := C) (Pr := P3) dv z3.1
    generalize hds : (D.tup _) = dd at hst
    cases hds
    obtain ⟨a, us, rfl, hs, hl, hd⟩ := dv.sqT (fun _ _ => wv_le)
    refine .inr ⟨a, us, rfl, hs, fun w => ?_, fun _ p hp => k _ _ ((post_newT S3 hp (cut_dn hd |>.up (nls_cut z3.1)) z3.2).te t4)⟩
    have e : ∀ {ds : List D}, us.length = ds.length → cutD ds l u = ds := fun {ds} hl => by
      unfold cutD
      rw [← hl, w.1, w.2, List.drop_zero, Nat.sub_zero, hl, List.take_length]
    rw [e hl] at z3
    exact k _ _ ((post_here S3 hst (fun _ h => nomatch h) z3.2).te t4)
  · exact z3.elim
end
end RR
namespace RR
open PySem PySem.Spec PyProof.Rows L2
theorem tup_mul0 (l : Addr) (xs : Array Value) (n : Nat) (dd : Option Addr) (sl : Array (Option Value)) (x : Int) (u : Tok) (h0 : x ≤ 0) (hl : -(2 ^ 63) ≤ x) (ne : xs.isEmpty = false) :
    Meets (Builtin.«tuple.__mul__» ⟨[.ref l, .int x u], []⟩) (fun _ R s => s.heap.get? l = some ⟨.type "tuple", dd, .seq xs n, sl⟩ ∧ R (.ok (.ret (.ref s.heap.objs.size))) { s with heap := s.heap.push { cls := .type "tuple", data := .seq #[] }, toks := s.toks }) := by
  refine .of_wp fun prog w A R s h => ?_
  obtain ⟨hp, g, d, tk, os⟩ := s
  obtain ⟨at_, h⟩ := h
  have q0 : (decide (x < -(2 ^ 63)) || decide (x ≥ 2 ^ 63)) = false := by rw [decide_eq_false (by omega), decide_eq_false (by omega)]; rfl
  have q1 : (xs.isEmpty || x == 1) = false := by rw [ne, Bool.false_or]; exact beq_eq_false_iff_ne.mpr (by omega)
  have q2 : (decide (x ≤ 0) || xs.isEmpty) = true := by rw [decide_eq_true h0]; rfl
  have f1 := AutoSeq1.idx_int
  wp_walk using wpAny_loadPart' at_
  repeat (first
    | (refine wpAny_ite_false (decide_eq_false (fun z => Bool.false_ne_true (q0.symm.trans z))) ?_; wp_walk using wpAny_loadPart' at_)
    | (refine wpAny_ite_false (decide_eq_false (fun z => Bool.false_ne_true (q1.symm.trans z))) ?_; wp_walk using wpAny_loadPart' at_)
    | (refine wpAny_ite_true (decide_eq_true q2) ?_; wp_walk using wpAny_loadPart' at_)
    | exact ⟨_, rfl, h⟩)
theorem tup_mul1 (l : Addr) (xs : Array Value) (n : Nat) (dd : Option Addr) (sl : Array (Option Value)) (u : Tok) :
    Meets (Builtin.«tuple.__mul__» ⟨[.ref l, .int 1 u], []⟩) (fun _ R s => s.heap.get? l = some ⟨.type "tuple", dd, .seq xs n, sl⟩ ∧ R (.ok (.ret (.ref l))) s) := by
  refine .of_wp fun prog w A R s h => ?_
  obtain ⟨hp, g, d, tk, os⟩ := s
  obtain ⟨at_, h⟩ := h
  have q0 : (decide ((1 : Int) < -(2 ^ 63)) || decide ((1 : Int) ≥ 2 ^ 63)) = false := by decide
  have q1 : (xs.isEmpty || (1 : Int) == 1) = true := by simp
  have f1 := AutoSeq1.idx_int
  wp_walk using wpAny_loadPart' at_
  repeat (first
    | (refine wpAny_ite_false (decide_eq_false (fun z => Bool.false_ne_true (q0.symm.trans z))) ?_; wp_walk using wpAny_loadPart' at_)
    | (refine wpAny_ite_true (decide_eq_true q1) ?_; wp_walk using wpAny_loadPart' at_)
    | exact ⟨_, rfl, h⟩)
def rRepF (K : PySem.W.Frag) : R2 := fun x y H Q => ∃ l k xs, x = .ref l ∧ y = .int k ∧ SqT K H l xs ∧ xs ≠ [] ∧ -(2 ^ 63) ≤ k ∧ ((k ≤ 0 ∧ ∀ p, H p = none → Q (.ref p) (upd H p (.tup []))) ∨ (k = 1 ∧ Q (.ref l) H))
theorem op_repF {X : Cx} : OpR X (binaryOp .Mult) (rRepF X.K) := by
  intro pins s σ H x y v u Q I rx ry h
  obtain ⟨l, k, xs, rfl, rfl, sq, ne, kl, h⟩ := h
  cases rx
  obtain ⟨t, rfl⟩ := ry
  obtain ⟨its, r, ⟨⟨cls, dd, data, sl⟩, at_, hc, n, hd⟩, hs⟩ := I.tuple sq
  simp only at hc hd
  subst hc
  subst hd
  have full : its.toArray.isEmpty = false := by
    cases its with
    | nil => cases r; exact absurd rfl ne
    | cons a b => rfl
  rcases h with ⟨k0, q⟩ | ⟨rfl, q⟩
  · have mul := tup_mul0 l its.toArray n dd sl k t k0 kl full
    refine wpAny_binaryOp_repeat_ref (T := "tuple") (U := "int") (by decide) ⟨_, at_, rfl⟩ (fun s' => typeIs_int s' k t) noFill_tuple_mul F.fills_int_mul F.slot_int_rmul repeat_tuple F.slot_int_index.lookup ?_
    refine call_meets F.slot_int_rmul (typeIs_int s k t) F.entry_int_rmul (F.args_int_rmul_2 _ _) (int_rmul_tuple k t l its.toArray n dd sl) ⟨at_, rfl, ⟨_, at_, rfl⟩, ?_⟩
    refine call_meets F.slot_tuple_mul ⟨_, at_, rfl⟩ F.entry_tuple_mul (F.args_tuple_mul_2 _ _) mul ⟨at_, ?_⟩
    exact ⟨.ref s.heap.objs.size, _, I.laid (t' := s.toks) (o := .tup []) (fun b ob q => Heap.get?_push_of_some _ q) (Nat.le_refl _) ⟨Nat.zero_le _, [], .nil, IsTup.new _ _⟩, rfl, q _ (I.hok.fresh (Nat.le_refl _))⟩
  · have mul := tup_mul1 l its.toArray n dd sl t
    refine wpAny_binaryOp_repeat_ref (T := "tuple") (U := "int") (by decide) ⟨_, at_, rfl⟩ (fun s' => typeIs_int s' 1 t) noFill_tuple_mul F.fills_int_mul F.slot_int_rmul repeat_tuple F.slot_int_index.lookup ?_
    refine call_meets F.slot_int_rmul (typeIs_int s 1 t) F.entry_int_rmul (F.args_int_rmul_2 _ _) (int_rmul_tuple 1 t l its.toArray n dd sl) ⟨at_, rfl, ⟨_, at_, rfl⟩, ?_⟩
    refine call_meets F.slot_tuple_mul ⟨_, at_, rfl⟩ F.entry_tuple_mul (F.args_tuple_mul_2 _ _) mul ⟨at_, ?_⟩
    exact ⟨.ref l, H, I, rfl, q⟩
end RR
namespace RR
open PySem PyProof.Rows
open PySem.AutoSeq1 (wpAny_loadPart')
theorem draws_tuple {prog : Program} {w : World} {A : Around} (hh : A.handled = none) (it l : Addr) (hne : l ≠ it) (items : Array Value) :
    Draws prog w A it [it, l] items.size (fun i v => items[i]? = some v) (fun i h => h.IsTupleIter it l i ∧ h.IsTuple l items) where
  live := fun _ _ st => let ⟨o, ho, _⟩ := st.1; ⟨o, ho⟩
  frame := fun _ _ _ st hk => ⟨st.1.at fun o e => hk it (by simp) o e, by
    obtain ⟨o, e, r⟩ := st.2
    exact ⟨o, hk l (by simp) o e, r⟩⟩
  item := fun i s Q E hi st hQ => by
    refine RZ.nextOf_tuple_item st.1 st.2 (x := items[i]) (by simp [hi]) fun h' hit' hs' => ?_
    refine hQ _ h' s.toks (by simp [hi]) ⟨hit', ?_⟩ hs'
    obtain ⟨o, e, r⟩ := st.2
    exact ⟨o, (hs'.2 l hne).trans e, r⟩
  done := fun s Q E st hE => RZ.nextOf_tuple_end hh st.1 st.2 (by simp) hE
theorem meets_enumerate_newT (l : Addr) (items : Array Value) :
    Meets (Builtin.«enumerate.__new__» ⟨[.type "enumerate", .ref l], []⟩) (fun _ R s => s.heap.IsTuple l items ∧
      R (.ok (.ret (.ref (s.heap.push { cls := .type "tuple_iterator", data := .fields #[.ref l, .int 0 0] }).objs.size)))
        { s with heap := (s.heap.push { cls := .type "tuple_iterator", data := .fields #[.ref l, .int 0 0] }).push { cls := .type "enumerate", data := .fields #[.none, .bool false, .ref s.heap.objs.size, rawInt 0, .none, .none] } }) :=
  .of_wp fun prog w A R s h => by
    obtain ⟨hp, g, d, tk, os⟩ := s; obtain ⟨hl, h⟩ := h
    have hsub := sub_enumerate
    have hL : Heap.IsTuple (Shared.heap ⟨hp, g, d, tk, os⟩) l items := hl
    wp_walk using wpAny_pyIter_tuple hL
    refine wpAny_stack_any fun st => wpAny_pure ?_
    split
    · rename_i c _ _ _ _ _
      cases (c == Value.type "enumerate")
      · wp_walk using wpAny_pyIter_tuple hL
        exact ⟨_, rfl, h⟩
      · wp_walk using wpAny_pyIter_tuple hL
        exact ⟨_, rfl, h⟩
    · wp_walk using wpAny_pyIter_tuple hL
      exact ⟨_, rfl, h⟩
section
variable {prog : Program} {w : World} {A : Around} {E : Value → Shared → Prop} {s : Shared}
theorem call_enumerate_tuple {l : Addr} {items : Array Value} {Q : Value → Shared → Prop} (hL : s.heap.IsTuple l items)
    (h : ∀ h', IsEnum h' (s.heap.objs.size + 1) s.heap.objs.size 0 .none → h'.IsTupleIter s.heap.objs.size l 0 → h'.objs.size = s.heap.objs.size + 2 →
      (∀ b o, s.heap.get? b = some o → h'.get? b = some o) → Q (.ref (s.heap.objs.size + 1)) { s with heap := h' }) :
    wpAny (model prog w) A (call (.type "enumerate") [.ref l]) Q E s := by
  refine callType_new F.called_enumerate (by decide) (F.typeCall_enumerate_1 _) (F.newCall_enumerate_1 _) (fun obj => F.args_object_init_2 obj _) F.entry_enumerate_new
    (meets_enumerate_newT l items) ⟨hL, ?_⟩
  have hz : (s.heap.push { cls := .type "tuple_iterator", data := .fields #[.ref l, .int 0 0] }).objs.size = s.heap.objs.size + 1 := Heap.size_push ..
  show _ ∧ _
  rw [hz]
  have he : IsEnum ((s.heap.push { cls := .type "tuple_iterator", data := .fields #[.ref l, .int 0 0] }).push
      { cls := .type "enumerate", data := .fields #[.none, .bool false, .ref s.heap.objs.size, rawInt 0, .none, .none] }) (s.heap.objs.size + 1) s.heap.objs.size 0 .none := by
    have := Heap.get?_push_size (s.heap.push { cls := .type "tuple_iterator", data := .fields #[.ref l, .int 0 0] })
      (o := { cls := .type "enumerate", data := .fields #[.none, .bool false, .ref s.heap.objs.size, rawInt 0, .none, .none] }) rfl
    rw [hz] at this; exact this
  refine ⟨⟨_, he, rfl⟩, h _ he ⟨_, Heap.get?_push_of_some _ (Heap.get?_push_size _ rfl), rfl, rfl⟩ (by rw [Heap.size_push, hz]) fun b o x => Heap.get?_push_of_some _ (Heap.get?_push_of_some _ x)⟩
end
open PySem.Spec L2
def IteT (K : PySem.W.Frag) (a : Addr) : It :=
  ⟨fun i H => ∃ (xs : List V) (x : V), SqT K H a xs ∧ xs[i]? = some x, fun i H v H' => ∃ T x, v = .ref T ∧ H T = none ∧ H' = upd H T (.tup [.int (i : Nat), x]) ∧ ∀ xs, SqT K H a xs → xs[i]? = some x, fun i H => ∃ xs : List V, SqT K H a xs ∧ xs.length ≤ i⟩
theorem turn_enumT {P : Program} {w : World} {K : PySem.W.Frag} {elts : List Expr} {kk : Nat} {tpos : Pos} (a e it : Addr) :
    Turn P w K (.Tuple elts kk tpos) (IteT K a) [e, it] e (fun i h => (∃ old, IsEnum h e it ((i : Nat) : Int) old) ∧ h.IsTupleIter it a i ∧ e ≠ it) where
  mem := by simp
  obj := fun i h st b hb => by
    obtain ⟨⟨old, he⟩, ⟨o, ho, hc, hd⟩, _⟩ := st
    have e' : b = e ∨ b = it := by simpa using hb
    rcases e' with z | z
    · rw [z]; exact ⟨_, he, fun v q => nomatch q⟩
    · rw [z]; exact ⟨o, ho, fun v q => by rw [hd] at q; cases q⟩
  keep := fun i h h' st k => let ⟨⟨old, he⟩, hi, hne⟩ := st; ⟨⟨old, k e (by simp) _ he⟩, hi.at fun o q => k it (by simp) o q, hne⟩
  item := by
    intro X hP hw hK hc i pins s σ H E I hf st hg
    subst hP hw hK
    obtain ⟨⟨old, he⟩, hit, hne⟩ := st
    obtain ⟨xs, x, hq, hx⟩ := hg
    obtain ⟨its, rv, p, hz⟩ := I.tuple hq
    obtain ⟨u, hu, ru⟩ := rv.get hx
    have hel : e < s.heap.objs.size := Heap.lt_size he
    have hil : it < s.heap.objs.size := by obtain ⟨_, q, _⟩ := hit; exact Heap.lt_size q
    have hai : a ≠ it := fun z => by
      obtain ⟨o, q, c, _⟩ := p
      obtain ⟨o', q', c', _⟩ := hit
      rw [z, q'] at q; cases q
      rw [c'] at c; exact absurd c (by decide)
    have hae : a ≠ e := fun z => by
      obtain ⟨o, q, c, _⟩ := p
      rw [z, he] at q; cases q
      exact absurd (show Value.type "enumerate" = Value.type "tuple" from c) (by decide)
    refine wpAny_pyNext_enum_itemD (draws_tuple (A := X.A.in1) (I.ok.hd hc) it a hai its.toArray) he ⟨hit, p⟩ (by simpa using (List.getElem?_eq_some_iff.mp hu).1) hne (fun z => by
      have e' : e = it ∨ e = a := by simpa using z
      exact e'.elim hne fun z => hae z.symm) fun y h' tk hy ho hst hT hsz hk => ?_
    have ey : y = u := by
      have hy : its.toArray[i]? = some y := hy
      rw [List.getElem?_toArray, hu] at hy
      exact (Option.some.inj hy).symm
    subst ey
    refine ⟨_, rfl, wpAny_letOwnedTupleGo_enum (s := { s with heap := h', toks := tk + 1 }) ho fun h'' he' sb => ?_⟩
    have hT2 : h''.get? s.heap.objs.size = some { cls := .type "tuple", data := .seq #[.int i tk, y] } := (sb.2 _ (Nat.ne_of_gt hel)).trans hT
    have new : ObjOk X.prog X.w (upd H s.heap.objs.size (.tup [.int (i : Nat), x])) h'' s.heap.objs.size (.tup [.int (i : Nat), x]) :=
      ⟨by show 2 ≤ sizeLine; decide, [.int i tk, y], .cons ⟨_, rfl⟩ (.cons ru .nil), ⟨_, hT2, rfl, _, rfl⟩⟩
    have I1 : Inv X pins σ (upd H s.heap.objs.size (.tup [.int (i : Nat), x])) { s with heap := h'', toks := tk + 1 } :=
      I.turnedNew (t' := tk + 1) (ch := [e, it]) (fun b ob hb q => (sb.2 b (fun z => hb (by simp [z]))).trans (hk b ob (fun z => hb (by simp [z])) (fun z => hb (by simp [z])) q)) hf (Nat.le_refl _) new
    refine ⟨.ref s.heap.objs.size, _, I1, rfl, ⟨_, x, rfl, I.hok.fresh (Nat.le_refl _), rfl, fun ys hy => by rw [I.tuple_inj hy hq]; exact hx⟩, ⟨⟨y, ?_⟩, hst.1.at fun o q => (sb.2 it (Ne.symm hne)).trans q, hne⟩, fun b hb => ?_⟩
    · have e1 : ((i + 1 : Nat) : Int) = (i : Int) + 1 := by omega
      rw [e1]; exact he'
    · have hb' : b < s.heap.objs.size := by
        have e' : b = e ∨ b = it := by simpa using hb
        rcases e' with z | z
        · rw [z]; exact hel
        · rw [z]; exact hil
      rw [upd_ne (Nat.ne_of_lt hb')]
      exact (hf b hb).1
  done := by
    intro X hP hw hK hc i pins s σ H E I hf st hg
    subst hP hw hK
    obtain ⟨⟨old, he⟩, hit, hne⟩ := st
    obtain ⟨xs, hq, hx⟩ := hg
    obtain ⟨its, rv, p, hz⟩ := I.tuple hq
    obtain ⟨f0, f1, f2, f3, f4, f5⟩ := hf it (by simp)
    have hl := rv.length
    have hT : s.TypeIs (.ref e) "enumerate" := ⟨_, he, rfl⟩
    show wpAny _ X.A (pyNext (.ref e)) _ E s
    unfold pyNext
    refine wpAny_bind (wpAny_attempt (wpAny_callSpecial?_slot (name := Str.ofString "__next__") hT F.slot_enumerate_next
      (wpAny_call_entry F.slot_enumerate_next hT F.entry_enumerate_next ?_ (F.args_enumerate_next_1 _))))
    show wpAny _ _ (field (.ref e) 2 >>= _) _ _ _
    refine wpAny_bind (wpAny_field he rfl (x := .ref it) rfl ?_)
    refine wpAny_bind (RZ.nextOf_tuple_end (A := X.A.in1) (I.ok.hd hc) hit p (by simp; omega) fun h' x he' hx' => ?_)
    obtain ⟨o, ho, hcx⟩ := hx'
    refine wpAny_bind (wpAny_isInstance (T := "StopIteration") (b := true) ⟨o, ho, hcx⟩ isSubtype_stop ?_)
    exact wpAny_pure ⟨rfl, I.turned (t' := s.toks) (fun b o hb q => he' b o hb q) f0 f1 f3 f4 f5⟩
  self := fun A i s Q E st h => let ⟨⟨_, he⟩, _⟩ := st; wpAny_pyIter_enum he h
def iEnumA (K : PySem.W.Frag) (ta : TA) : TI := fun σ H R => ta σ H fun vs H1 => ∃ a xs, vs = [.ref a] ∧ ((SqL K H1 a xs ∧ R (Ite K a) H1) ∨ (SqT K H1 a xs ∧ R (IteT K a) H1))
theorem pi_enumA {X : Cx} {e : Expr} {ta : TA} {p pos tpos : Pos} {elts : List Expr} {kk : Nat} (hg : Gl X "enumerate") (hm : X.mg "enumerate" = none) (ha : PA X [e] ta) (hs : starEach [e] X.env = [(false, eval e X.env)] := by rfl) :
    PI X (.Tuple elts kk tpos) (.Call (.Name "enumerate" p) [e] [] pos) (iEnumA X.K ta) := by
  refine ⟨fun pins s σ H R I h => ?_⟩
  refine Call_ (ld_blt I hg hm boot_enumerate (PyProof.Rows.callWith_type1 (thn (ha.run pos pins s σ H _ I h) fun us s1 ⟨vs, H1, I1, r1, q1⟩ => ?_) hs rfl))
  obtain ⟨a, xs, ex, q1⟩ := q1
  subst ex
  have fin : ∀ {b : Addr}, (b = s1.heap.objs.size + 1 ∨ b = s1.heap.objs.size) → FpOk X pins H1 b := fun {b} e' => by
    have hle : s1.heap.objs.size ≤ b := by
      rcases e' with z | z
      · rw [z]; exact Nat.le_add_right _ _
      · rw [z]; exact Nat.le_refl _
    exact I1.fpOk hle (I1.hok.fresh hle)
  cases r1 with
  | cons r rr =>
    cases rr
    cases r
    rcases q1 with ⟨hq, q⟩ | ⟨hq, q⟩
    · obtain ⟨its, rv, p', hz⟩ := I1.list hq
      refine call_enumerate_list p'.isList fun h' he hit hsz hk => wpAny_pyIter_enum he ?_
      have I2 : Inv X pins σ H1 { s1 with heap := h' } := I1.kept (t' := s1.toks) hk
      exact ⟨s1.heap.objs.size + 1, [s1.heap.objs.size + 1, s1.heap.objs.size], _, _, H1, rfl, I2, turn_enum a (s1.heap.objs.size + 1) s1.heap.objs.size, ⟨⟨.none, he⟩, hit, Nat.succ_ne_self _⟩, fun b hb => fin (by simpa using hb), q⟩
    · obtain ⟨its, rv, p', hz⟩ := I1.tuple hq
      refine call_enumerate_tuple p' fun h' he hit hsz hk => wpAny_pyIter_enum he ?_
      have I2 : Inv X pins σ H1 { s1 with heap := h' } := I1.kept (t' := s1.toks) hk
      exact ⟨s1.heap.objs.size + 1, [s1.heap.objs.size + 1, s1.heap.objs.size], _, _, H1, rfl, I2, turn_enumT a (s1.heap.objs.size + 1) s1.heap.objs.size, ⟨⟨.none, he⟩, hit, Nat.succ_ne_self _⟩, fun b hb => fin (by simpa using hb), q⟩
theorem walk_enumT {K : PySem.W.Frag} {a : Addr} {xs : List V} : Walk (IteT K a) xs.length (fun H => SqT K H a xs) (YPair (fun i => some (.int (i : Nat))) (fun i => xs[i]?)) := by
  refine ⟨fun i _ hi q => ⟨xs, xs[i], q, by simp [hi]⟩, fun _ q => ⟨xs, q, Nat.le_refl _⟩, fun i H v H' _ q y => ?_⟩
  obtain ⟨T, x, h1, h2, h3, h4⟩ := y
  exact ⟨T, .int (i : Nat), x, h1, h2, h3, rfl, h4 xs q⟩
def iSeq (K : PySem.W.Frag) (tl : TE) : TI := fun σ H R => tl σ H fun x H1 => ∃ a xs, x = .ref a ∧ ((SqL K H1 a xs ∧ R (Itl K a) H1) ∨ (SqT K H1 a xs ∧ R (Itt K a) H1))
theorem pi_seq {X : Cx} {tg l : Expr} {tl : TE} (hl : PE X l tl) : PI X tg l (iSeq X.K tl) := by
  refine ⟨fun pins s σ H R I h => ?_⟩
  refine thn (hl.run pins s σ H _ I h) fun v s1 ⟨x, H1, I1, r1, q1⟩ => ?_
  obtain ⟨a, xs, e, q⟩ := q1
  subst e
  cases r1
  rcases q with ⟨hq, q⟩ | ⟨hq, q⟩
  · obtain ⟨its, rv, p, hz⟩ := I1.list hq
    refine wpAny_pyIter_list p.isList ?_
    refine ⟨s1.heap.objs.size, [s1.heap.objs.size], _, _, H1, rfl, I1.kept (t' := s1.toks) fun b o e => Heap.get?_push_of_some _ e, turn_list a _, ⟨_, Heap.get?_push_size _ rfl, rfl, rfl⟩, fun b hb => ?_, q⟩
    have e : b = s1.heap.objs.size := by simpa using hb
    subst e
    exact I1.fpOk (Nat.le_refl _) (I1.hok.fresh (Nat.le_refl _))
  · obtain ⟨its, rv, p, hz⟩ := I1.tuple hq
    refine wpAny_pyIter_tuple (show s1.heap.IsTuple a its.toArray from p) ?_
    refine ⟨s1.heap.objs.size, [s1.heap.objs.size], _, _, H1, rfl, I1.kept (t' := s1.toks) fun b o e => Heap.get?_push_of_some _ e, turn_tuple a _, ⟨_, Heap.get?_push_size _ rfl, rfl, rfl⟩, fun b hb => ?_, q⟩
    have e : b = s1.heap.objs.size := by simpa using hb
    subst e
    exact I1.fpOk (Nat.le_refl _) (I1.hok.fresh (Nat.le_refl _))
end RR
namespace RR
open PySem PySem.Spec PyProof.Rows L2
def JD (X : Cx) (C : Cn) (e : Expr) (t : DT C.W.M) : Prop := ∃ te, PE X e te ∧
  ∀ σ H Pr F ρ m Q Z (R : VK), SR X.K C Pr F σ ρ m H → Ex X C Pr F H σ ρ Z → t ρ m Q Z →
    (∀ v H', (∃ Pr' F' m' d, SR X.K C Pr' F' σ ρ m' H' ∧ Te Pr F H Pr' F' H' ∧ Dn true X.K F' (wv F' H') v d ∧ Q d m') → R v H') → te σ H R
section
variable {X : Cx} {C : Cn} {e a b : Expr} {pos : Pos}
theorem J.sd {t : DT C.W.M} (h : J .s X C e t) : JD X C e t := by
  obtain ⟨te, p, q⟩ := h
  exact ⟨te, p, fun σ H Pr F ρ m Q Z R S E h k => q σ H Pr F ρ m Q Z R S E h fun v H' ⟨P1, F1, m1, d, S1, t1, dv, z⟩ => k v H' ⟨P1, F1, m1, d, S1, t1, Dn.mono ⟨[], by simp⟩ S1.sv_wv dv, z⟩⟩
theorem J.fd {t : DT C.W.M} (h : J .f X C e t) : JD X C e t := h.sf.sd
theorem jd_own (i : Nat) {x : Str} (hN : X.N[i]? = some x := by rfl) (hv : Vis X.env.scope x := by first | exact Or.inl rfl | exact Or.inr (Or.inl rfl) | exact Or.inr (Or.inr rfl)) (hd : (x == ("__debug__" : Str)) = false := by decide)
    (hcd : (x == ("__classdict__" : Str)) = false := by decide) : JD X C (.Name x pos) (dOwn i) := by
  refine ⟨_, pe_var hN hv hd hcd, fun σ H Pr F ρ m Q Z R S E h k => ?_⟩
  unfold dOwn at h
  split at h
  · rename_i d e
    obtain ⟨p, vs, e1, hp, pp, nf, q⟩ := S.slot i _ e
    exact ⟨.ref p, e1, k _ _ ⟨Pr, F, m, .lst d, S, Te.refl, .lst (vw_iff.mpr ⟨hp, nf⟩) (q.mono ⟨[], by simp⟩ S.sv_wv), h⟩⟩
  · exact h.elim
theorem Dn.ted {K : PySem.W.Frag} {Pr Pr1 : Addr → Prop} {F F1 : List Addr} {H H1 : Hp} {v : V} {d : D} (t : Te Pr F H Pr1 F1 H1) (h : Dn true K F (wv F H) v d) : Dn true K F1 (wv F1 H1) v d := h.mono t.pre (wv_te t)
def OpD (X : Cx) (C : Cn) (f : Value → Value → Sem Value) (g : G2) : Prop := ∃ r, OpR X f r ∧
  ∀ σ H Pr F ρ m x y dx dy Q (R : VK), SR X.K C Pr F σ ρ m H → Dn true X.K F (wv F H) x dx → Dn true X.K F (wv F H) y dy → g dx dy (fun d => Q d m) → (∀ v H', Post X.K C .f Pr F H σ ρ Q v H' → R v H') → r x y H R
theorem j_bind {op : Operator} {g : G2} {ta tb : DT C.W.M} (o : OpD X C (binaryOp op) g) (ha : JD X C a ta) (hb : JD X C b tb) : J .f X C (.BinOp a op b pos) (dBin g ta tb) := by
  obtain ⟨r, ho, q⟩ := o
  obtain ⟨te, p, q1⟩ := ha
  obtain ⟨te', p', q2⟩ := hb
  refine ⟨_, pe_op ho p p', fun σ H Pr F ρ m Q Z R S E h k => ?_⟩
  refine q1 σ H Pr F ρ m _ Z _ S E h fun v H1 ⟨P1, F1, m1, d, S1, t1, dv, z⟩ => ?_
  refine q2 σ H1 P1 F1 ρ m1 _ Z _ S1 (E.te t1.toTr) z fun w H2 ⟨P2, F2, m2, d2, S2, t2, dv2, z2⟩ => ?_
  exact q σ H2 P2 F2 ρ m2 v w d d2 Q R S2 (dv.ted t2) dv2 z2 fun v H' z => k v H' ((z.te t2).te t1)
def gAdd : G2 := fun x y Q => match x, y with
  | .int i, .int j => Q (.int (i + j))
  | .lst xs, .lst ys => xs.length + ys.length ≤ sizeLine ∧ D.nls xs = true ∧ D.nls ys = true ∧ Q (.lst (xs ++ ys))
  | .tup xs, .tup ys => xs.length + ys.length ≤ sizeLine ∧ D.nls xs = true ∧ D.nls ys = true ∧ Q (.tup (xs ++ ys))
  | .str s, .str t => s.length + t.length ≤ sizeLine ∧ Q (.str (s ++ t))
  | _, _ => False
theorem nls_app {xs ys : List D} (h : D.nls xs = true) (h' : D.nls ys = true) : D.nls (xs ++ ys) = true := nls_all.mpr fun d hd => (List.mem_append.mp hd).elim (nls_all.mp h d) (nls_all.mp h' d)
theorem okd_add : OpD X C (binaryOp .Add) gAdd := by
  refine ⟨_, op_add.or (op_cat.or (op_catA.or op_add_str)), fun σ H Pr F ρ m x y dx dy Q R S hx hy q k => ?_⟩
  unfold gAdd at q
  split at q
  · rw [hx.toInt, hy.toInt]
    exact .inl ⟨_, _, rfl, rfl, k _ _ (post_here S (.int _) (fun _ h => nomatch h) q)⟩
  · obtain ⟨q1, q2, q3, q⟩ := q
    cases hx with
    | lst h r =>
      cases hy with
      | lst h' r' =>
        refine .inr (.inl ⟨_, _, _, _, rfl, rfl, wv_le h, wv_le h', by rw [r.length, r'.length]; exact q1, fun p hp => k _ _ (post_new S hp ?_ q)⟩)
        exact ((r.weak).app r'.weak).up (nls_app q2 q3)
  · obtain ⟨q1, q2, q3, q⟩ := q
    cases hx with
    | tup h r =>
      cases hy with
      | tup h' r' =>
        have s1 := (Dn.tup h r).weak.up (C := C) (Pr := Pr) (show D.nl (.tup _) = true from q2)
        have s2 := (Dn.tup h' r').weak.up (C := C) (Pr := Pr) (show D.nl (.tup _) = true from q3)
        refine .inr (.inr (.inl ⟨_, _, _, _, rfl, rfl, (h.mono fun a xs => wv_le).sq, (h'.mono fun a xs => wv_le).sq, by rw [r.length, r'.length]; exact q1, fun e => k _ _ ?_, fun _ e => k _ _ ?_, fun _ _ p hp => k _ _ (post_newT S hp ?_ q)⟩))
        · subst e
          cases r
          exact post_here S s2 (fun _ h => nomatch h) q
        · subst e
          cases r'
          rw [List.append_nil] at q
          exact post_here S s1 (fun _ h => nomatch h) q
        · exact ((r.weak).app r'.weak).up (nls_app q2 q3)
  · cases hx
    cases hy
    exact .inr (.inr (.inr ⟨_, _, rfl, rfl, q.1, k _ _ (post_here S (.str _) (fun _ h => nomatch h) q.2)⟩))
  · exact q.elim
def rep (k : Int) (xs : List D) : List D := (List.replicate k.toNat xs).flatten
def gMul : G2 := fun x y Q => match x, y with
  | .int i, .int j => IntMulOk i j ∧ Q (.int (i * j))
  | .lst xs, .int k => -(2 ^ 63) ≤ k ∧ k < 2 ^ 63 ∧ xs.length * k.toNat ≤ sizeLine ∧ D.nls xs = true ∧ Q (.lst (rep k xs))
  | .tup xs, .int k => xs ≠ [] ∧ -(2 ^ 63) ≤ k ∧ k ≤ 1000 ∧ xs.length ≤ 1000 ∧ D.nls xs = true ∧ Q (.tup (rep k xs))
  | _, _ => False
theorem nls_rep {xs : List D} {k : Int} (h : D.nls xs = true) : D.nls (rep k xs) = true := nls_sub h fun d hd => by
  obtain ⟨l, hl, hd⟩ := List.mem_flatten.mp hd
  rw [List.eq_of_mem_replicate hl] at hd
  exact hd
theorem okd_mul : OpD X C (binaryOp .Mult) gMul := by
  refine ⟨_, op_mulA.or (op_rep.or (op_repT.or op_repF)), fun σ H Pr F ρ m x y dx dy Q R S hx hy q k => ?_⟩
  unfold gMul at q
  split at q
  · rw [hx.toInt, hy.toInt]
    exact .inl ⟨_, _, rfl, rfl, q.1, k _ _ (post_here S (.int _) (fun _ h => nomatch h) q.2)⟩
  · obtain ⟨q1, q2, q3, q4, q⟩ := q
    cases hx with
    | lst h r =>
      refine .inr (.inl ⟨_, _, _, rfl, hy.toInt, wv_le h, q1, q2, by rw [r.length]; exact q3, fun p hp => k _ _ (post_new S hp ?_ q)⟩)
      exact ((r.weak).rep _).up (nls_rep q4)
  · rename_i xs' k'
    obtain ⟨q1, q2, q3, q4, q5, q⟩ := q
    cases hx with
    | tup h r =>
      have nn : ∀ {vs : List V}, DnA true X.K F (wv F H) vs xs' → vs ≠ [] := fun z e => q1 (by subst e; cases z; rfl)
      by_cases k1 : k' ≤ 1
      · refine .inr (.inr (.inr ⟨_, _, _, rfl, hy.toInt, (h.mono fun a xs => wv_le).sq, nn r, q2, ?_⟩))
        by_cases k0 : k' ≤ 0
        · refine .inl ⟨k0, fun p hp => k _ _ (post_newT S hp .nil ?_)⟩
          unfold rep at q
          rw [show k'.toNat = 0 by omega] at q
          exact q
        · obtain rfl : k' = 1 := by omega
          have s1 := (Dn.tup h r).weak.up (C := C) (Pr := Pr) (show D.nl (.tup _) = true from q5)
          refine .inr ⟨rfl, k _ _ (post_here S s1 (fun _ h => nomatch h) ?_)⟩
          unfold rep at q
          rw [show (1 : Int).toNat = 1 from rfl, List.replicate_one, List.flatten_cons, List.flatten_nil, List.append_nil] at q
          exact q
      · refine .inr (.inr (.inl ⟨_, _, _, rfl, hy.toInt, (h.mono fun a xs => wv_le).sq, nn r, by omega, q3, by rw [r.length]; exact q4, fun p hp => k _ _ (post_newT S hp ?_ q)⟩))
        exact ((r.weak).rep _).up (nls_rep q5)
  · exact q.elim
def Wk (K : PySem.W.Frag) (C : Cn) (st : Bool) (Pr : Addr → Prop) (F : List Addr) (H : Hp) (items : List D) (J : It) : Prop := ∃ (G : Hp → Prop) (Y : Nat → Hp → V → Hp → Prop), Walk J items.length G Y ∧
  ∀ Pr' F' H', (if st = true then Tr Pr F H Pr' F' H' else Te Pr F H Pr' F' H') → G H' ∧ ∀ i v H2, Y i H' v H2 → (∀ a o, H' a = some o → H2 a = some o) ∧ ∃ d, items[i]? = some d ∧ Dn true K F' (sv C.H0 Pr' H2) v d
def JI (st : Bool) (X : Cx) (C : Cn) (tg iter : Expr) (t : DTA C.W.M) : Prop := ∃ wi, PI X tg iter wi ∧
  ∀ σ H Pr F ρ m Q Z (R : It → Hp → Prop), SR X.K C Pr F σ ρ m H → Ex X C Pr F H σ ρ Z → t ρ m Q Z →
    (∀ J H', (∃ Pr' F' m' items, SR X.K C Pr' F' σ ρ m' H' ∧ Te Pr F H Pr' F' H' ∧ Wk X.K C st Pr' F' H' items J ∧ Q items m') → R J H') → wi σ H R
def dSeq {M : Type} (n : Bool) (t : DT M) : DTA M := fun ρ m Q Z => t ρ m (fun d m1 => match d with | .lst ds | .tup ds => (n = true → D.nls ds = true) ∧ Q ds m1 | _ => False) Z
theorem tr_of {Pr Pr' : Addr → Prop} {F F' : List Addr} {H H' : Hp} {st : Bool} (t : if st = true then Tr Pr F H Pr' F' H' else Te Pr F H Pr' F' H') : Tr Pr F H Pr' F' H' := by
  cases st with
  | true => exact t
  | false => exact Te.toTr (show Te Pr F H Pr' F' H' from t)
theorem Tp.at {K : PySem.W.Frag} {H0 : Hp} {Pr : Addr → Prop} {H : Hp} {a : Addr} {xs : List V} (h : Tp K (sv H0 Pr H) a xs) : SqT K H a xs := (h.mono fun a xs => sv_le).sq
theorem dn_get {K : PySem.W.Frag} {F : List Addr} {G : Hp} {s : Bool} {vs : List V} {ds : List D} {i : Nat} {v : V} (h : DnA s K F G vs ds) (e : vs[i]? = some v) : ∃ d, ds[i]? = some d ∧ Dn s K F G v d := h.get e
theorem ji_seq {tg : Expr} {t : DT C.W.M} (h : J .s X C e t) : JI true X C tg e (dSeq false t) := by
  obtain ⟨te, p, q⟩ := h
  refine ⟨_, pi_seq p, fun σ H Pr F ρ m Q Z R S E h k => ?_⟩
  refine q σ H Pr F ρ m _ Z _ S E h fun v H1 ⟨P1, F1, m1, d, S1, t1, dv, z⟩ => ?_
  have dv : Dn true X.K F1 (sv C.H0 P1 H1) v d := dv
  cases dv with
  | lst h r =>
    have h : sv C.H0 P1 H1 _ = some (.lst _) := h
    refine ⟨_, _, rfl, .inl ⟨.inl (.inl (sv_le h)), k _ _ ⟨P1, F1, m1, _, S1, t1, ⟨_, _, by rw [← r.length]; exact walk_list, fun P2 F2 H2 t2 => ⟨SqL.of (K := X.K) (sv_le (sv_tr (tr_of t2) S1.prs _ _ h)), fun i v H3 y => ?_⟩⟩, z.2⟩⟩⟩
    obtain ⟨rfl, e⟩ := y
    exact ⟨fun _ _ h => h, dn_get (DnA.mono (tr_of t2).pre (sv_tr (tr_of t2) S1.prs) r) e⟩
  | tup h r =>
    refine ⟨_, _, rfl, .inr ⟨h.at, k _ _ ⟨P1, F1, m1, _, S1, t1, ⟨_, _, by rw [← r.length]; exact walk_tup, fun P2 F2 H2 t2 => ⟨(h.mono fun a xs => sv_tr (tr_of t2) S1.prs a _).at, fun i v H3 y => ?_⟩⟩, z.2⟩⟩⟩
    obtain ⟨rfl, e⟩ := y
    exact ⟨fun _ _ h => h, dn_get (DnA.mono (tr_of t2).pre (sv_tr (tr_of t2) S1.prs) r) e⟩
  | _ => exact z.elim
theorem Ls.wv {K : PySem.W.Frag} {F : List Addr} {H : Hp} {s : Bool} {a : Addr} {xs : List V} (h : Ls s K (wv F H) a xs) : SqL K H a xs := (h.mono fun _ _ => wv_le).sq
theorem Tp.wv {K : PySem.W.Frag} {F : List Addr} {H : Hp} {a : Addr} {xs : List V} (h : Tp K (wv F H) a xs) : SqT K H a xs := (h.mono fun a xs => wv_le).sq
theorem bor_tr {K : PySem.W.Frag} {Pr Pr' : Addr → Prop} {F F' : List Addr} {σ : L2.St} {ρ : En} {m : C.W.M} {H H' : Hp} (S : SR K C Pr F σ ρ m H) (t : Tr Pr F H Pr' F' H') : ∀ a o, wv C.F0 C.K0 a = some o → wv F' H' a = some o := fun a o h => by
  obtain ⟨e, n⟩ := vw_iff.mp h
  have nf : a ∉ F := fun z => by rw [S.new a z n] at e; cases e
  have np : ¬ Pr a := fun z => by rw [S.prn a z nf] at e; cases e
  have e1 := S.keep a o n e
  refine vw_iff.mpr ⟨t.keep a o np e1, fun z => ?_⟩
  have z := t.fn a z nf
  rw [e1] at z; cases z
theorem ji_bor {tg : Expr} (i : Nat) {x : Str} (hN : X.N[i]? = some x := by rfl) (hv : Vis X.env.scope x := by first | exact Or.inl rfl | exact Or.inr (Or.inl rfl) | exact Or.inr (Or.inr rfl)) (hd : (x == ("__debug__" : Str)) = false := by decide)
    (hcd : (x == ("__classdict__" : Str)) = false := by decide) : JI true X C tg (.Name x pos) (dSeq true (dBor i)) := by
  refine ⟨_, pi_seq (pe_var hN hv hd hcd), fun σ H Pr F ρ m Q Z R S E h k => ?_⟩
  unfold dSeq dBor at h
  split at h
  · rename_i d e
    obtain ⟨v, e1, dv⟩ := S.slot i _ e
    refine ⟨v, e1, ?_⟩
    have b1 := bor_tr S (Tr.refl (Pr := Pr))
    cases dv with
    | lst hl r =>
      refine ⟨_, _, rfl, .inl ⟨(hl.mono b1).wv, k _ _ ⟨Pr, F, m, _, S, Te.refl, ⟨_, _, by rw [← r.length]; exact walk_list, fun P2 F2 H2 t2 => ⟨(hl.mono (bor_tr S t2)).wv, fun i v H3 y => ?_⟩⟩, h.2⟩⟩⟩
      obtain ⟨rfl, e⟩ := y
      exact ⟨fun _ _ h => h, dn_get ((DnA.mono (pre_trans S.pre (tr_of t2).pre) (bor_tr S t2) r).up (h.1 rfl)) e⟩
    | tup hl r =>
      refine ⟨_, _, rfl, .inr ⟨(hl.mono fun a xs => b1 a _).wv, k _ _ ⟨Pr, F, m, _, S, Te.refl, ⟨_, _, by rw [← r.length]; exact walk_tup, fun P2 F2 H2 t2 => ⟨(hl.mono fun a xs => bor_tr S t2 a _).wv, fun i v H3 y => ?_⟩⟩, h.2⟩⟩⟩
      obtain ⟨rfl, e⟩ := y
      exact ⟨fun _ _ h => h, dn_get ((DnA.mono (pre_trans S.pre (tr_of t2).pre) (bor_tr S t2) r).up (h.1 rfl)) e⟩
    | _ => exact h.elim
  · exact h.elim
def iota (lo : Int) (n : Nat) : List D := (List.range n).map fun k => D.int (lo + (k : Nat))
theorem iota_get {lo : Int} {n i : Nat} (h : i < n) : (iota lo n)[i]? = some (.int (lo + i)) := by
  unfold iota
  rw [List.getElem?_map, List.getElem?_range h]
  rfl
theorem iota_len {lo : Int} {n : Nat} : (iota lo n).length = n := by unfold iota; simp
theorem wk_range {K : PySem.W.Frag} {st : Bool} {Pr : Addr → Prop} {F : List Addr} {H : Hp} {lo : Int} {n : Nat} : Wk K C st Pr F H (iota lo n) (Itr lo n) := by
  refine ⟨_, fun i H x H' => i < n ∧ H' = H ∧ x = .int (lo + i), by rw [iota_len]; exact ⟨walk_range.goes, walk_range.stops, fun i H x H' hi g y => ⟨hi, walk_range.yields i H x H' hi g y⟩⟩, fun P2 F2 H2 t2 => ⟨trivial, fun i v H3 y => ?_⟩⟩
  obtain ⟨hi, rfl, rfl⟩ := y
  exact ⟨fun _ _ h => h, _, iota_get hi, .int _⟩
def dRng1 {M : Type} (t : DTA M) : DTA M := fun ρ m Q Z => t ρ m (fun ds m1 => match ds with | [.int j] => -(2 ^ 62) ≤ j ∧ j < 2 ^ 62 ∧ Q (iota 0 j.toNat) m1 | _ => False) Z
def dRng2 {M : Type} (t : DTA M) : DTA M := fun ρ m Q Z => t ρ m (fun ds m1 => match ds with | [.int i, .int j] => (-(2 ^ 62) ≤ i ∧ i < 2 ^ 62 ∧ -(2 ^ 62) ≤ j ∧ j < 2 ^ 62) ∧ Q (iota i (j - i).toNat) m1 | _ => False) Z
theorem dnA1 {s : Bool} {K : PySem.W.Frag} {F : List Addr} {G : Hp} {vs : List V} {j : Int} (h : DnA s K F G vs [.int j]) : vs = [.int j] := by
  cases h with
  | cons h r =>
    cases r
    cases h
    rfl
theorem dnA2 {s : Bool} {K : PySem.W.Frag} {F : List Addr} {G : Hp} {vs : List V} {i j : Int} (h : DnA s K F G vs [.int i, .int j]) : vs = [.int i, .int j] := by
  cases h with
  | cons h r =>
    cases h
    rw [dnA1 r]
theorem ji_range1 {st : Bool} {tg : Expr} {t : DTA C.W.M} {p : Pos} (hm : X.mg "range" = none) (ha : JA .w X C [a] t) (hg : Gl X "range" := by rfl) (hs : starEach [a] X.env = [(false, eval a X.env)] := by rfl) : JI st X C tg (.Call (.Name "range" p) [a] [] pos) (dRng1 t) := by
  obtain ⟨te, pa, q⟩ := ha
  refine ⟨_, pi_range1 hg hm pa hs, fun σ H Pr F ρ m Q Z R S E h k => ?_⟩
  refine q σ H Pr F ρ m _ Z _ S E h fun vs H1 ⟨P1, F1, m1, ds, S1, t1, dv, z⟩ => ?_
  have dv : DnA false X.K F1 (wv F1 H1) vs ds := dv
  dsimp only at z
  split at z
  · exact ⟨_, dnA1 dv, z.1, z.2.1, k _ _ ⟨P1, F1, m1, _, S1, t1, wk_range, z.2.2⟩⟩
  · exact z.elim
theorem ji_range2 {st : Bool} {tg : Expr} {t : DTA C.W.M} {p : Pos} (hm : X.mg "range" = none) (ha : JA .w X C [a, b] t) (hg : Gl X "range" := by rfl) (hs : starEach [a, b] X.env = [(false, eval a X.env), (false, eval b X.env)] := by rfl) (hs2 : starEach [b] X.env = [(false, eval b X.env)] := by rfl) :
    JI st X C tg (.Call (.Name "range" p) [a, b] [] pos) (dRng2 t) := by
  obtain ⟨te, pa, q⟩ := ha
  refine ⟨_, pi_range2 hg hm pa hs hs2, fun σ H Pr F ρ m Q Z R S E h k => ?_⟩
  refine q σ H Pr F ρ m _ Z _ S E h fun vs H1 ⟨P1, F1, m1, ds, S1, t1, dv, z⟩ => ?_
  have dv : DnA false X.K F1 (wv F1 H1) vs ds := dv
  dsimp only at z
  split at z
  · exact ⟨_, _, dnA2 dv, z.1, k _ _ ⟨P1, F1, m1, _, S1, t1, wk_range, z.2⟩⟩
  · exact z.elim
def enumD (n : Nat) : List D → List D
  | [] => []
  | d :: r => .tup [.int (n : Nat), d] :: enumD (n + 1) r
theorem enum_len : ∀ {n : Nat} {ds : List D}, (enumD n ds).length = ds.length
  | _, [] => rfl
  | n, _ :: r => congrArg (· + 1) (enum_len (n := n + 1) (ds := r))
theorem enum_get : ∀ {n : Nat} {ds : List D} {i : Nat} {d : D}, ds[i]? = some d → (enumD n ds)[i]? = some (.tup [.int ((n + i : Nat) : Int), d])
  | _, [], _, _, h => by simp at h
  | n, x :: r, 0, d, h => by simp at h; subst h; rfl
  | n, x :: r, i + 1, d, h => by
    have := enum_get (n := n + 1) (ds := r) (i := i) (d := d) (by simpa using h)
    rw [show n + 1 + i = n + (i + 1) by omega] at this
    exact this
def dEnum {M : Type} (n : Bool) (t : DT M) : DTA M := fun ρ m Q Z => dSeq n t ρ m (fun ds m1 => Q (enumD 0 ds) m1) Z
theorem pair_dn {K : PySem.W.Frag} {Pr : Addr → Prop} {F : List Addr} {H : Hp} {T : Addr} {x y : V} {dx dy : D} (nT : H T = none) (hx : Dn true K F (sv C.H0 Pr H) x dx) (hy : Dn true K F (sv C.H0 Pr H) y dy) : (∀ a o, H a = some o → upd H T (.tup [x, y]) a = some o) ∧ Dn true K F (sv C.H0 Pr (upd H T (.tup [x, y]))) (.ref T) (.tup [dx, dy]) := by
  have k : ∀ a o, H a = some o → upd H T (.tup [x, y]) a = some o := fun a o e => by rw [upd_ne (ne_of_none e nT)]; exact e
  have up : ∀ a o, sv C.H0 Pr H a = some o → sv C.H0 Pr (upd H T (.tup [x, y])) a = some o := fun a o e => by
    obtain ⟨e, q⟩ := vw_iff.mp e
    exact vw_iff.mpr ⟨k a o e, q⟩
  exact ⟨k, .tup (.inl (vw_iff.mpr ⟨upd_same, .inl trivial⟩)) (.cons (hx.mono ⟨[], by simp⟩ up) (.cons (hy.mono ⟨[], by simp⟩ up) .nil))⟩
theorem wk_enumL {K : PySem.W.Frag} {st : Bool} {Pr : Addr → Prop} {F : List Addr} {H : Hp} {a : Addr} {xs : List V} {ds : List D} (hl : xs.length = ds.length)
    (g : ∀ Pr' F' H', (if st = true then Tr Pr F H Pr' F' H' else Te Pr F H Pr' F' H') → SqL K H' a xs ∧ DnA true K F' (sv C.H0 Pr' H') xs ds) : Wk K C st Pr F H (enumD 0 ds) (Ite K a) := by
  refine ⟨_, _, by rw [enum_len, ← hl]; exact walk_enum (xs := xs), fun P2 F2 H2 t2 => ⟨(g P2 F2 H2 t2).1, fun i v H3 y => ?_⟩⟩
  obtain ⟨T, x, z, rfl, nT, rfl, e1, e2⟩ := y
  cases e1
  obtain ⟨d, e, h⟩ := dn_get (g P2 F2 H2 t2).2 e2
  obtain ⟨k, h2⟩ := pair_dn nT (.int ((i : Nat) : Int)) h
  exact ⟨k, _, by rw [enum_get e, Nat.zero_add], h2⟩
theorem wk_enumT {K : PySem.W.Frag} {st : Bool} {Pr : Addr → Prop} {F : List Addr} {H : Hp} {a : Addr} {xs : List V} {ds : List D} (hl : xs.length = ds.length)
    (g : ∀ Pr' F' H', (if st = true then Tr Pr F H Pr' F' H' else Te Pr F H Pr' F' H') → SqT K H' a xs ∧ DnA true K F' (sv C.H0 Pr' H') xs ds) : Wk K C st Pr F H (enumD 0 ds) (IteT K a) := by
  refine ⟨_, _, by rw [enum_len, ← hl]; exact walk_enumT (xs := xs), fun P2 F2 H2 t2 => ⟨(g P2 F2 H2 t2).1, fun i v H3 y => ?_⟩⟩
  obtain ⟨T, x, z, rfl, nT, rfl, e1, e2⟩ := y
  cases e1
  obtain ⟨d, e, h⟩ := dn_get (g P2 F2 H2 t2).2 e2
  obtain ⟨k, h2⟩ := pair_dn nT (.int ((i : Nat) : Int)) h
  exact ⟨k, _, by rw [enum_get e, Nat.zero_add], h2⟩
theorem ji_enum {t : DT C.W.M} {p tpos : Pos} {elts : List Expr} {kk : Nat} (h : J .s X C e t) (hm : X.mg "enumerate" = none) (hg : Gl X "enumerate" := by rfl) (hs : starEach [e] X.env = [(false, eval e X.env)] := by rfl) :
    JI true X C (.Tuple elts kk tpos) (.Call (.Name "enumerate" p) [e] [] pos) (dEnum false t) := by
  obtain ⟨te, pe, q⟩ := h
  refine ⟨_, pi_enumA hg hm (pa_cons pe pa_nil hs) hs, fun σ H Pr F ρ m Q Z R S E h k => ?_⟩
  refine q σ H Pr F ρ m _ Z _ S E h fun v H1 ⟨P1, F1, m1, d, S1, t1, dv, z⟩ => ?_
  have dv : Dn true X.K F1 (sv C.H0 P1 H1) v d := dv
  cases dv with
  | lst h r =>
    have h : sv C.H0 P1 H1 _ = some (.lst _) := h
    exact ⟨_, _, rfl, .inl ⟨.inl (.inl (sv_le h)), k _ _ ⟨P1, F1, m1, _, S1, t1, wk_enumL r.length fun P2 F2 H2 t2 => ⟨.inl (.inl (sv_le (sv_tr (tr_of t2) S1.prs _ _ h))), DnA.mono (tr_of t2).pre (sv_tr (tr_of t2) S1.prs) r⟩, z.2⟩⟩⟩
  | tup h r =>
    exact ⟨_, _, rfl, .inr ⟨h.at, k _ _ ⟨P1, F1, m1, _, S1, t1, wk_enumT r.length fun P2 F2 H2 t2 => ⟨(h.mono fun a xs => sv_tr (tr_of t2) S1.prs a _).at, DnA.mono (tr_of t2).pre (sv_tr (tr_of t2) S1.prs) r⟩, z.2⟩⟩⟩
  | _ => exact z.elim
theorem ji_enumb {p tpos pos' : Pos} {elts : List Expr} {kk : Nat} (i : Nat) {x : Str} (hm : X.mg "enumerate" = none) (hN : X.N[i]? = some x := by rfl) (hv : Vis X.env.scope x := by first | exact Or.inl rfl | exact Or.inr (Or.inl rfl) | exact Or.inr (Or.inr rfl)) (hg : Gl X "enumerate" := by rfl) (hd : (x == ("__debug__" : Str)) = false := by decide)
    (hcd : (x == ("__classdict__" : Str)) = false := by decide) : JI true X C (.Tuple elts kk tpos) (.Call (.Name "enumerate" p) [.Name x pos'] [] pos) (dEnum true (dBor i)) := by
  refine ⟨_, pi_enumA hg hm (pa_cons (pe_var hN hv hd hcd) pa_nil rfl) rfl, fun σ H Pr F ρ m Q Z R S E h k => ?_⟩
  unfold dEnum dSeq dBor at h
  split at h
  · rename_i d e
    obtain ⟨v, e1, dv⟩ := S.slot i _ e
    refine ⟨v, e1, ?_⟩
    have b1 := bor_tr S (Tr.refl (Pr := Pr))
    cases dv with
    | lst hl r =>
      exact ⟨_, _, rfl, .inl ⟨(hl.mono b1).wv, k _ _ ⟨Pr, F, m, _, S, Te.refl, wk_enumL r.length fun P2 F2 H2 t2 => ⟨(hl.mono (bor_tr S t2)).wv, (DnA.mono (pre_trans S.pre (tr_of t2).pre) (bor_tr S t2) r).up (h.1 rfl)⟩, h.2⟩⟩⟩
    | tup hl r =>
      exact ⟨_, _, rfl, .inr ⟨(hl.mono fun a xs => b1 a _).wv, k _ _ ⟨Pr, F, m, _, S, Te.refl, wk_enumT r.length fun P2 F2 H2 t2 => ⟨(hl.mono fun a xs => bor_tr S t2 a _).wv, (DnA.mono (pre_trans S.pre (tr_of t2).pre) (bor_tr S t2) r).up (h.1 rfl)⟩, h.2⟩⟩⟩
    | _ => exact h.elim
  · exact h.elim
end
end RR
namespace RR
open PySem PySem.Spec PyProof.Rows L2 RZ RT
section
variable {X : Cx} {C : Cn} {e a b : Expr} {pos : Pos}
def zipD : List D → List D → List D
  | x :: xs, y :: ys => .tup [x, y] :: zipD xs ys
  | _, _ => []
theorem zip_len : ∀ {xs ys : List D}, (zipD xs ys).length = min xs.length ys.length
  | [], _ => by simp [zipD]
  | _ :: _, [] => by simp [zipD]
  | _ :: xs, _ :: ys => by rw [zipD, List.length_cons, zip_len]; simp <;> omega
theorem zip_get : ∀ {xs ys : List D} {i : Nat} {x y : D}, xs[i]? = some x → ys[i]? = some y → (zipD xs ys)[i]? = some (.tup [x, y])
  | [], _, _, _, _, h, _ => by simp at h
  | _ :: _, [], _, _, _, _, h => by simp at h
  | a :: xs, b :: ys, 0, x, y, h, h' => by simp at h h'; subst h h'; rfl
  | a :: xs, b :: ys, i + 1, x, y, h, h' => zip_get (xs := xs) (ys := ys) (i := i) (by simpa using h) (by simpa using h')
theorem walk_zipT {K : PySem.W.Frag} {a b : Addr} {xs ys : List V} {n : Nat} (hn : n = min xs.length ys.length) : Walk (ItzT K a b) n (fun H => SqT K H a xs ∧ SqT K H b ys) (YPair (fun i => xs[i]?) (fun i => ys[i]?)) := by
  subst hn
  refine ⟨fun i _ hi q => ?_, fun _ q => ⟨xs, ys, q.1, q.2, by omega⟩, fun i H v H' _ q y => ?_⟩
  · have h1 : i < xs.length := by omega
    have h2 : i < ys.length := by omega
    exact ⟨xs, ys, xs[i], ys[i], q.1, q.2, by simp [h1], by simp [h2]⟩
  · obtain ⟨T, x, z, h1, h2, h3, h4, h5⟩ := y
    exact ⟨T, x, z, h1, h2, h3, h4 xs q.1, h5 ys q.2⟩
def dZip {M : Type} (n : Bool) (t u : DT M) : DTA M := fun ρ m Q Z => t ρ m (fun x m1 => u ρ m1 (fun y m2 => match x, y with
  | .lst xs, .lst ys | .tup xs, .tup ys => (n = true → D.nls xs = true ∧ D.nls ys = true) ∧ Q (zipD xs ys) m2
  | _, _ => False) Z) Z
theorem wk_zip {K : PySem.W.Frag} {st : Bool} {Pr : Addr → Prop} {F : List Addr} {H : Hp} {J : It} {xs ys : List V} {ds es : List D} {G : Hp → Prop} (hl : xs.length = ds.length) (hl' : ys.length = es.length)
    (w : ∀ n, n = min xs.length ys.length → Walk J n G (YPair (fun i => xs[i]?) (fun i => ys[i]?)))
    (g : ∀ Pr' F' H', (if st = true then Tr Pr F H Pr' F' H' else Te Pr F H Pr' F' H') → G H' ∧ DnA true K F' (sv C.H0 Pr' H') xs ds ∧ DnA true K F' (sv C.H0 Pr' H') ys es) : Wk K C st Pr F H (zipD ds es) J := by
  refine ⟨G, _, w _ (by rw [zip_len, hl, hl']), fun P2 F2 H2 t2 => ⟨(g P2 F2 H2 t2).1, fun i v H3 y => ?_⟩⟩
  obtain ⟨T, x, z, rfl, nT, rfl, e1, e2⟩ := y
  obtain ⟨d, ed, hd⟩ := dn_get (g P2 F2 H2 t2).2.1 e1
  obtain ⟨d', ed', hd'⟩ := dn_get (g P2 F2 H2 t2).2.2 e2
  obtain ⟨k, h2⟩ := pair_dn nT hd hd'
  exact ⟨k, _, zip_get ed ed', h2⟩
theorem ji_zip {t u : DT C.W.M} {p tpos : Pos} {elts : List Expr} {kk : Nat} (ha : J .s X C a t) (hb : J .s X C b u) (hm : X.mg "zip" = none) (hg : Gl X "zip" := by rfl)
    (hs : starEach [a, b] X.env = (false, eval a X.env) :: starEach [b] X.env := by rfl) (hs2 : starEach [b] X.env = (false, eval b X.env) :: starEach [] X.env := by rfl) (hpl : (backTo pos (starEach [b] X.env)).any (·.1) = false := by rfl) :
    JI true X C (.Tuple elts kk tpos) (.Call (.Name "zip" p) [a, b] [] pos) (dZip false t u) := by
  obtain ⟨te, pe, q⟩ := ha
  obtain ⟨te', pe', q'⟩ := hb
  refine ⟨_, pi_zipA hg hm (pa_cons pe (pa_cons pe' pa_nil hs2) hs) hs hpl, fun σ H Pr F ρ m Q Z R S E h k => ?_⟩
  refine q σ H Pr F ρ m _ Z _ S E h fun v H1 ⟨P1, F1, m1, d, S1, t1, dv, z⟩ => ?_
  refine q' σ H1 P1 F1 ρ m1 _ Z _ S1 (E.te t1.toTr) z fun w H2 ⟨P2, F2, m2, d2, S2, t2, dv2, z2⟩ => ?_
  have dv : Dn true X.K F2 (sv C.H0 P2 H2) v d := Dn.tr (H0 := C.H0) t2.toTr S1.prs dv
  have dv2 : Dn true X.K F2 (sv C.H0 P2 H2) w d2 := dv2
  dsimp only at z2
  split at z2
  · cases dv with
    | lst h r =>
      cases dv2 with
      | lst h' r' =>
        have h : sv C.H0 P2 H2 _ = some (.lst _) := h
        have h' : sv C.H0 P2 H2 _ = some (.lst _) := h'
        exact ⟨_, _, _, _, rfl, .inl ⟨SqL.of (sv_le h), SqL.of (sv_le h'), k _ _ ⟨P2, F2, m2, _, S2, t1.trans t2, wk_zip r.length r'.length (fun n hn => walk_zip hn) fun P3 F3 H3 t3 =>
          ⟨⟨SqL.of (sv_le (sv_tr (tr_of t3) S2.prs _ _ h)), SqL.of (sv_le (sv_tr (tr_of t3) S2.prs _ _ h'))⟩, DnA.mono (tr_of t3).pre (sv_tr (tr_of t3) S2.prs) r, DnA.mono (tr_of t3).pre (sv_tr (tr_of t3) S2.prs) r'⟩, z2.2⟩⟩⟩
  · cases dv with
    | tup h r =>
      cases dv2 with
      | tup h' r' =>
        exact ⟨_, _, _, _, rfl, .inr ⟨h.at, h'.at, k _ _ ⟨P2, F2, m2, _, S2, t1.trans t2, wk_zip r.length r'.length (fun n hn => walk_zipT hn) fun P3 F3 H3 t3 =>
          ⟨⟨(h.mono fun a xs => sv_tr (tr_of t3) S2.prs a _).at, (h'.mono fun a xs => sv_tr (tr_of t3) S2.prs a _).at⟩, DnA.mono (tr_of t3).pre (sv_tr (tr_of t3) S2.prs) r, DnA.mono (tr_of t3).pre (sv_tr (tr_of t3) S2.prs) r'⟩, z2.2⟩⟩⟩
  · exact z2.elim
theorem ji_zipw {t u : DT C.W.M} {p tpos : Pos} {elts : List Expr} {kk : Nat} (ha : J .w X C a t) (hb : J .w X C b u) (hm : X.mg "zip" = none) (hg : Gl X "zip" := by rfl)
    (hs : starEach [a, b] X.env = (false, eval a X.env) :: starEach [b] X.env := by rfl) (hs2 : starEach [b] X.env = (false, eval b X.env) :: starEach [] X.env := by rfl) (hpl : (backTo pos (starEach [b] X.env)).any (·.1) = false := by rfl) :
    JI false X C (.Tuple elts kk tpos) (.Call (.Name "zip" p) [a, b] [] pos) (dZip true t u) := by
  obtain ⟨te, pe, q⟩ := ha
  obtain ⟨te', pe', q'⟩ := hb
  refine ⟨_, pi_zipA hg hm (pa_cons pe (pa_cons pe' pa_nil hs2) hs) hs hpl, fun σ H Pr F ρ m Q Z R S E h k => ?_⟩
  refine q σ H Pr F ρ m _ Z _ S E h fun v H1 ⟨P1, F1, m1, d, S1, t1, dv, z⟩ => ?_
  refine q' σ H1 P1 F1 ρ m1 _ Z _ S1 (E.te t1.toTr) z fun w H2 ⟨P2, F2, m2, d2, S2, t2, dv2, z2⟩ => ?_
  have dv : Dn false X.K F2 (wv F2 H2) v d := Dn.te t2 dv
  have dv2 : Dn false X.K F2 (wv F2 H2) w d2 := dv2
  dsimp only at z2
  split at z2
  · cases dv with
    | lst h r =>
      cases dv2 with
      | lst h' r' =>
        exact ⟨_, _, _, _, rfl, .inl ⟨h.wv, h'.wv, k _ _ ⟨P2, F2, m2, _, S2, t1.trans t2, wk_zip r.length r'.length (fun n hn => walk_zip hn) fun P3 F3 H3 t3 =>
          ⟨⟨(h.mono (wv_te t3)).wv, (h'.mono (wv_te t3)).wv⟩, (DnA.mono (Te.toTr t3).pre (wv_te t3) r).up (z2.1 rfl).1, (DnA.mono (Te.toTr t3).pre (wv_te t3) r').up (z2.1 rfl).2⟩, z2.2⟩⟩⟩
  · cases dv with
    | tup h r =>
      cases dv2 with
      | tup h' r' =>
        exact ⟨_, _, _, _, rfl, .inr ⟨h.wv, h'.wv, k _ _ ⟨P2, F2, m2, _, S2, t1.trans t2, wk_zip r.length r'.length (fun n hn => walk_zipT hn) fun P3 F3 H3 t3 =>
          ⟨⟨(h.mono fun a xs => wv_te t3 a _).wv, (h'.mono fun a xs => wv_te t3 a _).wv⟩, (DnA.mono (Te.toTr t3).pre (wv_te t3) r).up (z2.1 rfl).1, (DnA.mono (Te.toTr t3).pre (wv_te t3) r').up (z2.1 rfl).2⟩, z2.2⟩⟩⟩
  · exact z2.elim
theorem rev_get {ds : List D} {i : Nat} (hi : i < ds.length) : ds.reverse[i]? = ds[ds.length - 1 - i]? := by
  rw [List.getElem?_reverse hi]
def dRev {M : Type} (n : Bool) (t : DT M) : DTA M := fun ρ m Q Z => dSeq n t ρ m (fun ds m1 => Q ds.reverse m1) Z
theorem wk_rangeC {K : PySem.W.Frag} {st : Bool} {Pr : Addr → Prop} {F : List Addr} {H : Hp} {n : Nat} : Wk K C st Pr F H (iota 0 n).reverse (Itc ((n : Int) - 1) (-1) n) := by
  refine ⟨_, fun i H x H' => i < n ∧ H' = H ∧ x = .int ((n : Int) - 1 + (i : Nat) * (-1)), by rw [List.length_reverse, iota_len]; exact ⟨walk_rangeC.goes, walk_rangeC.stops, fun i H x H' hi g y => ⟨hi, walk_rangeC.yields i H x H' hi g y⟩⟩, fun P2 F2 H2 t2 => ⟨trivial, fun i v H3 y => ?_⟩⟩
  obtain ⟨hi, rfl, rfl⟩ := y
  refine ⟨fun _ _ h => h, .int ((n : Int) - 1 + (i : Nat) * (-1)), ?_, .int _⟩
  rw [rev_get (by rw [iota_len]; exact hi), iota_len, iota_get (by omega)]
  congr 2
  omega
def dRevR {M : Type} (t : DT M) : DTA M := fun ρ m Q Z => t ρ m (fun d m1 => match d with | .int j => -(2 ^ 62) ≤ j ∧ j < 2 ^ 62 ∧ Q (iota 0 j.toNat).reverse m1 | _ => False) Z
theorem ji_revr {st : Bool} {tg : Expr} {t : DT C.W.M} {p p2 pos2 : Pos} (h : J .w X C a t) (hm : X.mg "reversed" = none) (hm2 : X.mg "range" = none) (hg : Gl X "reversed" := by rfl) (hg2 : Gl X "range" := by rfl) (hs : starEach [a] X.env = (false, eval a X.env) :: starEach [] X.env := by rfl) :
    JI st X C tg (.Call (.Name "reversed" p) [.Call (.Name "range" p2) [a] [] pos2] [] pos) (dRevR t) := by
  obtain ⟨te, pe, q⟩ := h
  refine ⟨_, pi_revR hg hm (prg_1 hg2 hm2 pe hs) rfl, fun σ H Pr F ρ m Q Z R S E h k => ?_⟩
  refine q σ H Pr F ρ m _ Z _ S E h fun v H1 ⟨P1, F1, m1, d, S1, t1, dv, z⟩ => ?_
  have dv : Dn false X.K F1 (wv F1 H1) v d := dv
  dsimp only at z
  split at z
  · rename_i j _
    refine ⟨_, dv.toInt, by decide, by decide, z.1, z.2.1, k _ _ ⟨P1, F1, m1, _, S1, t1, ?_, z.2.2⟩⟩
    simp only [Int.zero_add, Int.sub_zero]
    exact wk_rangeC
  · exact z.elim
def signs (z : Str) : List D := z.cps.toList.map fun c => D.str ⟨#[c]⟩
abbrev DG := D → En → (En → Prop) → Prop
abbrev DGs := List D → En → (En → Prop) → Prop
def JG (X : Cx) (C : Cn) (tg : Expr) (ws : List Nat) (g : DG) : Prop := ∃ tgt, PG X tg tgt ∧
  ∀ σ H Pr F ρ (m : C.W.M) v d Q (R : L2.St → Hp → Prop), SR X.K C Pr F σ ρ m H → Dn true X.K F (sv C.H0 Pr H) v d → g d ρ Q →
    (∀ σ' ρ', SR X.K C Pr F σ' ρ' m H → (∀ vs, (∀ i ∈ ws, i ∈ vs) → L2.wipe σ' vs = L2.wipe σ vs) → Q ρ' → R σ' H) → tgt v σ H R
def JGs (X : Cx) (C : Cn) (tgs : List Expr) (ws : List Nat) (g : DGs) : Prop := ∃ tgt, PGs X tgs tgt ∧
  ∀ σ H Pr F ρ (m : C.W.M) vs ds Q (R : L2.St → Hp → Prop), SR X.K C Pr F σ ρ m H → DnA true X.K F (sv C.H0 Pr H) vs ds → g ds ρ Q →
    (∀ σ' ρ', SR X.K C Pr F σ' ρ' m H → (∀ vs, (∀ i ∈ ws, i ∈ vs) → L2.wipe σ' vs = L2.wipe σ vs) → Q ρ' → R σ' H) → tgt vs σ H R
def dgN (i : Nat) : DG := fun d ρ Q => Q (ρ.set i (.val d))
def dgT (n : Nat) (g : DGs) : DG := fun d ρ Q => match d with | .tup ds => ds.length = n ∧ g ds ρ Q | _ => False
def dgNil : DGs := fun ds ρ Q => match ds with | [] => Q ρ | _ => False
def dgCons (g : DG) (r : DGs) : DGs := fun ds ρ Q => match ds with | d :: ds => g d ρ fun ρ' => r ds ρ' Q | _ => False
theorem wipe_set {σ : L2.St} {i : Nat} {x : Option V} : ∀ {vs : List Nat}, i ∈ vs → L2.wipe (σ.set i x) vs = L2.wipe σ vs
  | v :: vs, h => by
    unfold L2.wipe
    by_cases e : i ∈ vs
    · rw [wipe_set e]
    · have ev : i = v := (List.mem_cons.mp h).resolve_right e
      subst ev
      have out : ∀ {vs : List Nat}, i ∉ vs → L2.wipe (σ.set i x) vs = (L2.wipe σ vs).set i x := fun {vs} => by
        induction vs with
        | nil => intro _; rfl
        | cons w r ih =>
          intro h
          unfold L2.wipe
          rw [ih fun z => h (List.mem_cons_of_mem _ z), List.set_comm _ _ (fun z => h (by rw [z]; exact List.mem_cons_self))]
      rw [out e, List.set_set]
theorem jg_name (i : Nat) {x : Str} (hN : X.N.Nodup) (hi : X.N[i]? = some x := by rfl) (hx : Loc X.env.scope x := by first | exact .inl rfl | exact .inr rfl) (hf : X.fn x = true ∨ X.env.scope.names.lookup x = some .local := by first | exact .inl rfl | exact .inr rfl) : JG X C (.Name x pos) [i] (dgN i) := by
  refine ⟨_, pg_name hN hi hx hf, fun σ H Pr F ρ m v d Q R S dv q k => ?_⟩
  exact k _ _ (S.set i dv) (fun vs h => wipe_set (h i (by simp))) q
theorem jgs_nil : JGs X C [] [] dgNil := by
  refine ⟨_, pgs_nil, fun σ H Pr F ρ m vs ds Q R S dv q k => ?_⟩
  unfold dgNil at q
  split at q
  · cases dv
    exact ⟨rfl, k σ ρ S (fun _ _ => rfl) q⟩
  · exact q.elim
theorem jgs_cons {es : List Expr} {w1 w2 : List Nat} {g : DG} {r : DGs} (h : JG X C e w1 g) (h' : JGs X C es w2 r) (hs : (assignEach (e :: es) X.env).map (·.2) = assign e X.env :: (assignEach es X.env).map (·.2) := by rfl) : JGs X C (e :: es) (w1 ++ w2) (dgCons g r) := by
  obtain ⟨t1, p1, q1⟩ := h
  obtain ⟨t2, p2, q2⟩ := h'
  refine ⟨_, pgs_cons p1 p2 hs, fun σ H Pr F ρ m vs ds Q R S dv q k => ?_⟩
  unfold dgCons at q
  split at q
  · cases dv with
    | cons dh dt =>
      refine ⟨_, _, rfl, q1 σ H Pr F ρ m _ _ _ _ S dh q fun σ1 ρ1 S1 w1' z => ?_⟩
      refine q2 σ1 H Pr F ρ1 m _ _ Q R S1 dt z fun σ2 ρ2 S2 w2' z => k σ2 ρ2 S2 (fun vs h => ?_) z
      rw [w2' vs fun i hi => h i (List.mem_append_right _ hi), w1' vs fun i hi => h i (List.mem_append_left _ hi)]
  · exact q.elim
theorem jg_tup {es : List Expr} {ws : List Nat} {g : DGs} {k n : Nat} (hc : X.calm = true) (h : JGs X C es ws g) (hn : (assignEach es X.env).length = n := by rfl) (hst : (assignEach es X.env).findIdx? (·.1) = none := by rfl) : JG X C (.Tuple es k pos) ws (dgT n g) := by
  obtain ⟨t1, p1, q1⟩ := h
  refine ⟨_, pg_tup hc p1 hn hst, fun σ H Pr F ρ m v d Q R S dv q kk => ?_⟩
  unfold dgT at q
  split at q
  · cases dv with
    | tup h r =>
      exact ⟨_, _, rfl, h.at, by rw [r.length]; exact q.1, q1 σ H Pr F ρ m _ _ Q R S r q.2 kk⟩
  · exact q.elim
def lcGo {M : Type} (g : DG) (tt : DTT M) (te : DT M) (ρ : En) : List D → List D → M → (List D → M → Prop) → Prop
  | [], acc, m, Q => Q acc m
  | x :: r, acc, m, Q => g x ρ fun ρ2 => tt ρ2 m (fun b m1 => if b = true then te ρ2 m1 (fun y m2 => acc.length < sizeLine ∧ lcGo g tt te ρ r (acc ++ [y]) m2 Q) (fun _ _ => False) else lcGo g tt te ρ r acc m1 Q) (fun _ _ => False)
def dLc {M : Type} (ti : DTA M) (g : DG) (tt : DTT M) (te : DT M) (vs : List Nat) : DT M := fun ρ m Q Z => ti ρ m (fun items m1 => lcGo g tt te (wipeD ρ vs) items [] m1 (fun ds m2 => Q (.lst ds) m2)) Z
def JTs (X : Cx) (C : Cn) (ifs : List Expr) (t : DTT C.W.M) : Prop := ∃ te, PTs X ifs te ∧
  ∀ σ H Pr F ρ m Q Z (R : Bool → Hp → Prop), SR X.K C Pr F σ ρ m H → Ex X C Pr F H σ ρ Z → t ρ m Q Z → (∀ v H', PostT X.K C Pr F H σ ρ Q v H' → R v H') → te σ H R
def dYes {M : Type} : DTT M := fun _ m Q _ => Q true m
theorem jts_nil : JTs X C [] dYes := ⟨_, pts_nil, fun σ H Pr F ρ m Q Z R S E h k => k _ _ ⟨Pr, F, m, S, Te.refl, h⟩⟩
theorem jts_one {c : Expr} {t : DTT C.W.M} (h : JT X C c t) : JTs X C [c] t := by
  obtain ⟨te, p, q⟩ := h
  exact ⟨_, pts_one p, q⟩
abbrev Cn.nox (C : Cn) : Cn := { C with wx := fun _ _ _ _ => False }
theorem SR.nox {K : PySem.W.Frag} {Pr : Addr → Prop} {F : List Addr} {σ : L2.St} {ρ : En} {m : C.W.M} {H : Hp} (S : SR K C Pr F σ ρ m H) : SR K C.nox Pr F σ ρ m H := ⟨S.keep, S.pre, S.new, S.prs, S.prn, S.prf, S.rz, S.len, S.slot, S.dist⟩
theorem SR.unnox {K : PySem.W.Frag} {Pr : Addr → Prop} {F : List Addr} {σ : L2.St} {ρ : En} {m : C.W.M} {H : Hp} (S : SR K C.nox Pr F σ ρ m H) : SR K C Pr F σ ρ m H := ⟨S.keep, S.pre, S.new, S.prs, S.prn, S.prf, S.rz, S.len, S.slot, S.dist⟩
abbrev Blk (X : Cx) (scope : Scope) (s : Shared) (H : Hp) (c : Addr) (cl : List (Str × Addr)) (fp : List Addr) : Cx := X.blk s H scope (compEnvC scope cl c X.env) fp
theorem wipe_comm {σ : L2.St} {i : Nat} : ∀ {vs : List Nat}, (L2.wipe σ vs).set i none = L2.wipe (σ.set i none) vs
  | [] => rfl
  | v :: vs => by
    unfold L2.wipe
    by_cases e : v = i
    · subst e
      rw [List.set_set, ← wipe_comm (vs := vs), List.set_set]
    · rw [List.set_comm _ _ e, wipe_comm (vs := vs)]
theorem wipe_wipe {σ : L2.St} {us : List Nat} : ∀ {vs : List Nat}, (∀ i ∈ vs, i ∈ us) → L2.wipe (L2.wipe σ us) vs = L2.wipe σ us
  | [], _ => rfl
  | v :: vs, h => by
    show (L2.wipe (L2.wipe σ us) vs).set v none = L2.wipe σ us
    rw [wipe_wipe fun i hi => h i (List.mem_cons_of_mem _ hi), wipe_comm, wipe_set (h v List.mem_cons_self)]
theorem SR.guard {K : PySem.W.Frag} {Pr : Addr → Prop} {F : List Addr} {σ : L2.St} {ρ : En} {m : C.W.M} {H : Hp} (S : SR K C Pr F σ ρ m H) {p : Addr} {vs : List V} (hp : H p = none) :
    SR K C (fun a => Pr a ∨ a = p) F σ ρ m (upd H p (.lst vs)) ∧ Te Pr F H (fun a => Pr a ∨ a = p) F (upd H p (.lst vs)) := by
  have k : ∀ a u, H a = some u → upd H p (.lst vs) a = some u := fun a u e => by rw [upd_ne (ne_of_none e hp)]; exact e
  have t : Te Pr F H (fun a => Pr a ∨ a = p) F (upd H p (.lst vs)) := ⟨⟨⟨[], by simp⟩, fun a h n => by
    rcases h with h | h
    · exact absurd h n
    · rw [h]; exact hp, fun _ h n => absurd h n, fun a o h => ⟨o, k a o h⟩, fun a o _ h => k a o h⟩, fun _ h => .inl h, fun a o _ h => k a o h⟩
  refine ⟨⟨fun a o n e => k a o (S.keep a o n e), S.pre, S.new, fun a h => ?_, fun a h n => ?_, fun a h => .inl (S.prf a h), C.W.keep S.rz (fun a h => upd_ne fun z => S.nf hp (z ▸ h)) (fun a o _ e => k a o e), S.len, fun i s e => Sk.tr S.prs t.toTr (fun p _ _ o h => k p o h) (fun p h _ => .inl h) (S.slot i s e), S.dist⟩, t⟩
  · rcases h with h | h
    · obtain ⟨o, e, n⟩ := S.prs a h
      exact ⟨o, k a o e, n⟩
    · exact ⟨.lst vs, by rw [h]; exact upd_same, fun z => z⟩
  · rcases h with h | h
    · exact S.prn a h n
    · rw [h]; exact S.k0n hp
theorem SR.poke {K : PySem.W.Frag} {Pr : Addr → Prop} {F : List Addr} {σ : L2.St} {ρ : En} {m : C.W.M} {H : Hp} (S : SR K C Pr F σ ρ m H) {p : Addr} {vs ws : List V} (pp : Pr p) (nF : p ∉ F) (hp : H p = some (.lst vs)) (h0 : C.K0 p = none)
    (nown : ∀ (i : Nat) (ds : List D) (q : Addr), ρ[i]? = some (.own ds) → σ[i]? = some (some (.ref q)) → q ≠ p) :
    SR K C Pr F σ ρ m (upd H p (.lst ws)) ∧ ∀ a o, sv C.H0 Pr H a = some o → sv C.H0 Pr (upd H p (.lst ws)) a = some o := by
  have up : ∀ a o, sv C.H0 Pr H a = some o → sv C.H0 Pr (upd H p (.lst ws)) a = some o := fun a o e => by
    obtain ⟨e, q⟩ := vw_iff.mp e
    refine vw_iff.mpr ⟨?_, q⟩
    rw [upd_ne fun z => ?_]
    · exact e
    · rcases q with q | q
      · rw [z, hp] at e; cases e; exact q
      · exact q.2.1 (z ▸ pp)
  refine ⟨⟨fun a o n e => ?_, S.pre, S.new, fun a h => ?_, S.prn, S.prf, C.W.keep S.rz (fun a h => upd_ne fun z => nF (z ▸ h)) (fun a o it e => by rw [upd_ne (fun q => by rw [q, hp] at e; cases e; exact it)]; exact e), S.len, fun i s e => ?_, S.dist⟩, up⟩
  · rw [upd_ne fun z => by rw [z, h0] at e; cases e]
    exact S.keep a o n e
  · by_cases z : a = p
    · exact ⟨.lst ws, by rw [z]; exact upd_same, fun z => z⟩
    · obtain ⟨o, e, n⟩ := S.prs a h
      exact ⟨o, by rw [upd_ne z]; exact e, n⟩
  · cases s with
    | un => trivial
    | bor d => exact S.slot i _ e
    | val d =>
      obtain ⟨v, e1, q⟩ := S.slot i _ e
      exact ⟨v, e1, q.mono ⟨[], by simp⟩ up⟩
    | own ds =>
      obtain ⟨q, us, e1, h1, h2, h3, h4⟩ := S.slot i _ e
      exact ⟨q, us, e1, by rw [upd_ne (nown i ds q e e1)]; exact h1, h2, h3, h4.mono ⟨[], by simp⟩ up⟩
    | dct kvs =>
      obtain ⟨q, e1, h1, h2, h3⟩ := S.slot i _ e
      exact ⟨q, e1, by rw [upd_ne (fun z => by subst z; rw [hp] at h1; cases h1)]; exact h1, h2, h3⟩
theorem SR.unguard {K : PySem.W.Frag} {Pr : Addr → Prop} {F : List Addr} {σ : L2.St} {ρ : En} {m : C.W.M} {H : Hp} (S : SR K C Pr F σ ρ m H) {p : Addr} {vs : List V} (hp : H p = some (.lst vs)) (nF : p ∉ F) (h0 : C.H0 p = none)
    (nown : ∀ (i : Nat) (ds : List D) (q : Addr), ρ[i]? = some (.own ds) → σ[i]? = some (some (.ref q)) → q ≠ p) :
    SR K C (fun a => Pr a ∧ a ≠ p) F σ ρ m H ∧ ∀ a o, sv C.H0 Pr H a = some o → sv C.H0 (fun a => Pr a ∧ a ≠ p) H a = some o := by
  have up : ∀ a o, sv C.H0 Pr H a = some o → sv C.H0 (fun a => Pr a ∧ a ≠ p) H a = some o := fun a o e => by
    obtain ⟨e, q⟩ := vw_iff.mp e
    exact vw_iff.mpr ⟨e, q.imp id fun q => ⟨q.1, fun z => q.2.1 z.1, q.2.2⟩⟩
  refine ⟨⟨S.keep, S.pre, S.new, fun a h => S.prs a h.1, fun a h n => S.prn a h.1 n, fun a h => ⟨S.prf a h, fun z => nF (z ▸ h)⟩, S.rz, S.len, fun i s e => ?_, S.dist⟩, up⟩
  cases s with
  | un => trivial
  | bor d => exact S.slot i _ e
  | val d =>
    obtain ⟨v, e1, q⟩ := S.slot i _ e
    exact ⟨v, e1, q.mono ⟨[], by simp⟩ up⟩
  | own ds =>
    obtain ⟨q, us, e1, h1, h2, h3, h4⟩ := S.slot i _ e
    exact ⟨q, us, e1, h1, ⟨h2, nown i ds q e e1⟩, h3, h4.mono ⟨[], by simp⟩ up⟩
  | dct kvs =>
    obtain ⟨q, e1, h1, h2, h3⟩ := S.slot i _ e
    exact ⟨q, e1, h1, ⟨h2, fun z => by subst z; rw [hp] at h1; cases h1⟩, h3⟩
theorem lc_read {wi : TI} {tg : TG} {tt : TT} {te : TE} {ti : DTA C.W.M} {g : DG} {dt : DTT C.W.M} {de : DT C.W.M} {vs ws : List Nat} {σ : L2.St} {H : Hp} {Pr : Addr → Prop} {F : List Addr} {ρ : En} {m : C.W.M} {Q : D → C.W.M → Prop} {Z : Str → C.W.M → Prop} {R : VK}
    (hw : ∀ i ∈ ws, i ∈ vs)
    (qi : ∀ (R : It → Hp → Prop), (∀ J H', (∃ Pr' F' m' items, SR X.K C Pr' F' σ ρ m' H' ∧ Te Pr F H Pr' F' H' ∧ Wk X.K C false Pr' F' H' items J ∧ lcGo g dt de (wipeD ρ vs) items [] m' (fun ds m2 => Q (.lst ds) m2)) → R J H') → wi σ H R)
    (qg : ∀ σ H Pr F ρ (m : C.W.M) v d Q (R : L2.St → Hp → Prop), SR X.K C.nox Pr F σ ρ m H → Dn true X.K F (sv C.H0 Pr H) v d → g d ρ Q → (∀ σ' ρ', SR X.K C.nox Pr F σ' ρ' m H → (∀ vs, (∀ i ∈ ws, i ∈ vs) → L2.wipe σ' vs = L2.wipe σ vs) → Q ρ' → R σ' H) → tg v σ H R)
    (qt : ∀ σ H Pr F ρ m Q (R : Bool → Hp → Prop), SR X.K C.nox Pr F σ ρ m H → dt ρ m Q (fun _ _ => False) → (∀ v H', PostT X.K C.nox Pr F H σ ρ Q v H' → R v H') → tt σ H R)
    (qe : ∀ σ H Pr F ρ m Q (R : VK), SR X.K C.nox Pr F σ ρ m H → de ρ m Q (fun _ _ => False) → (∀ v H', Post X.K C.nox .s Pr F H σ ρ Q v H' → R v H') → te σ H R)
    (S : SR X.K C Pr F σ ρ m H) (k : ∀ v H', Post X.K C .f Pr F H σ ρ Q v H' → R v H') : tLc wi tg tt te vs σ H R := by
  refine qi _ fun J H1 ⟨P1, F1, m1, items, S1, t1, wk, z⟩ L0 hD => ?_
  obtain ⟨G, Y, w, hG⟩ := wk
  obtain ⟨SD, tD⟩ := S1.new1 (o := .lst []) hD
  obtain ⟨SD, tD⟩ := S1.guard (vs := []) hD
  generalize hP1 : (fun a => P1 a ∨ a = L0) = P1' at SD tD
  let Pv : Nat → Hp → Prop := fun i H' => ∃ P' F' m' acc ds, SR X.K C P' F' σ ρ m' H' ∧ Te P1 F1 H1 P' F' H' ∧ P' L0 ∧ L0 ∉ F' ∧ H' L0 = some (.lst acc) ∧ DnA true X.K F' (sv C.H0 P' H') acc ds ∧ lcGo g dt de (wipeD ρ vs) (items.drop i) ds m' (fun ds m2 => Q (.lst ds) m2)
  have hn0 : C.K0 L0 = none := S1.k0n hD
  have nown : ∀ (i : Nat) (ds : List D) (p : Addr), ρ[i]? = some (.own ds) → σ[i]? = some (some (.ref p)) → p ≠ L0 := fun i ds p e e1 z => by
    obtain ⟨p', us, e2, hp, _⟩ := S1.slot i _ e
    rw [e1] at e2; cases e2
    rw [z, hD] at hp; cases hp
  refine lc_it w Pv ⟨P1', F1, m1, [], [], SD, tD, (by rw [← hP1]; exact .inr rfl), S1.nf hD, upd_same, .nil, z⟩ (fun i H' _ p => ?_) (fun i x H' H2 hi p y => ?_) (fun H' p => ?_)
  · obtain ⟨P', F', m', acc, ds, S', t', _⟩ := p
    exact (hG P' F' H' t').1
  · obtain ⟨P', F', m', acc, ds, S', t', pD, nF, eD, da, z⟩ := p
    obtain ⟨k2, d, ed, hd⟩ := (hG P' F' H' t').2 i x H2 y
    have S2 := S'.grow k2
    have t2 := S'.te k2
    have ei : items.drop i = d :: items.drop (i + 1) := by
      obtain ⟨hlt, e⟩ := List.getElem?_eq_some_iff.mp ed
      rw [List.drop_eq_getElem_cons hlt, e]
    rw [ei] at z
    unfold lcGo at z
    refine qg (L2.wipe σ vs) H2 P' F' (wipeD ρ vs) m' x d _ _ (S2.wipe vs).nox hd z fun σ2 ρ2 S3 hw2 z => ?_
    refine ⟨by rw [hw2 vs hw, wipe_wipe fun _ h => h], ?_⟩
    refine qt σ2 H2 P' F' ρ2 m' _ _ S3 z fun b H3 ⟨P3, F3, m3, S4, t3, z⟩ => ?_
    have t3 := t2.trans t3
    have stepD : ∀ {P4 F4 H4}, Te P' F' H' P4 F4 H4 → P4 L0 ∧ L0 ∉ F4 ∧ H4 L0 = some (.lst acc) := fun {P4 F4 H4} t => ⟨t.prm L0 pD, (fun z => by
      have q := t.fn L0 z nF
      rw [eD] at q
      cases q), t.all L0 _ nF eD⟩
    cases b with
    | false =>
      refine iteF ?_
      have z : lcGo g dt de (wipeD ρ vs) (items.drop (i + 1)) ds m3 (fun ds m2 => Q (.lst ds) m2) := z
      obtain ⟨d1, d2, d3⟩ := stepD t3
      exact ⟨P3, F3, m3, acc, ds, S'.back t3 S4.unnox, t'.trans t3, d1, d2, d3, DnA.mono t3.pre (sv_tr t3.toTr S'.prs) da, z⟩
    | true =>
      refine iteT ?_
      refine qe σ2 H3 P3 F3 ρ2 m3 _ _ S4 z fun v H4 ⟨P4, F4, m4, y4, S5, t4, dv, z⟩ => ?_
      have t4 := t3.trans t4
      obtain ⟨d1, d2, d3⟩ := stepD t4
      have dv : Dn true X.K F4 (sv C.H0 P4 H4) v y4 := dv
      have S6 := S'.back t4 S5.unnox
      obtain ⟨S7, up⟩ := S6.poke (ws := acc ++ [v]) d1 d2 d3 hn0 nown
      have la : acc.length = ds.length := da.length
      refine ⟨acc, d3, by rw [la]; exact z.1, P4, F4, m4, acc ++ [v], ds ++ [y4], S7, ⟨⟨(t'.trans t4).pre, (t'.trans t4).prn, (t'.trans t4).fn, fun a o h => ?_, fun a o n h => ?_⟩, (t'.trans t4).prm, fun a o n h => ?_⟩, d1, d2, upd_same,
        DnA.mono ⟨[], by simp⟩ up (DnA.app (DnA.mono t4.pre (sv_tr t4.toTr S'.prs) da) (.cons dv .nil)), z.2⟩
      · obtain ⟨o', e⟩ := (t'.trans t4).stay a o h
        exact ⟨o', by rw [upd_ne (ne_of_none h hD)]; exact e⟩
      · rw [upd_ne (ne_of_none h hD)]
        exact (t'.trans t4).keep a o n h
      · rw [upd_ne (ne_of_none h hD)]
        exact (t'.trans t4).all a o n h
  · obtain ⟨P', F', m', acc, ds, S', t', pD, nF, eD, da, z⟩ := p
    rw [List.drop_length] at z
    unfold lcGo at z
    obtain ⟨S2, up⟩ := S'.unguard eD nF (C.k0 hn0) nown
    refine k _ _ ⟨fun a => P' a ∧ a ≠ L0, F', m', .lst ds, S2, t1.trans ⟨⟨t'.pre, fun a h n => t'.prn a h.1 n, t'.fn, t'.stay, t'.keep⟩, fun a h => ⟨t'.prm a h, fun z => S1.np hD (z ▸ h)⟩, t'.all⟩, ?_, z⟩
    have da2 : DnA true X.K F' (sv C.H0 (fun a => P' a ∧ a ≠ L0) H') acc ds := DnA.mono ⟨[], by simp⟩ up da
    exact ⟨.lst (vw_iff.mpr ⟨eD, .inr ⟨trivial, fun z => z.2 rfl, C.k0 hn0⟩⟩) da2, fun ds' e => by cases e; exact ⟨L0, acc, rfl, some_of (t1.stay L0) hD, fun z => z.2 rfl, eD, da2⟩⟩
variable {elt tg iter : Expr} {ifs : List Expr} {scope : Scope} {own : List (Str × Nat)} {ti : DTA C.W.M} {g : DG} {dt : DTT C.W.M} {de : DT C.W.M} {ws : List Nat} {st : Bool}
theorem JI.weak (h : JI st X C tg iter ti) : JI false X C tg iter ti := by
  obtain ⟨wi, p, q⟩ := h
  refine ⟨wi, p, fun σ H Pr F ρ m Q Z R S E h k => q σ H Pr F ρ m Q Z R S E h fun J H' ⟨P1, F1, m1, items, S1, t1, ⟨G, Y, w, hG⟩, z⟩ => k J H' ⟨P1, F1, m1, items, S1, t1, ⟨G, Y, w, fun P2 F2 H2 t2 => hG P2 F2 H2 ?_⟩, z⟩⟩
  cases st with
  | true => exact Te.toTr (show Te P1 F1 H' P2 F2 H2 from t2)
  | false => exact t2
def cnE (c : Cl) (K : PySem.W.Frag) (C : Cn) (t : DT C.W.M) : TE := fun σ H R => ∃ Pr F ρ m Q, SR K C Pr F σ ρ m H ∧ t ρ m Q (fun _ _ => False) ∧ ∀ v H', Post K C c Pr F H σ ρ Q v H' → R v H'
def cnT (K : PySem.W.Frag) (C : Cn) (t : DTT C.W.M) : TT := fun σ H R => ∃ Pr F ρ m Q, SR K C Pr F σ ρ m H ∧ t ρ m Q (fun _ _ => False) ∧ ∀ v H', PostT K C Pr F H σ ρ Q v H' → R v H'
def cnG (K : PySem.W.Frag) (C : Cn) (ws : List Nat) (g : DG) : TG := fun v σ H R => ∃ Pr F ρ, ∃ m : C.W.M, ∃ d Q, SR K C Pr F σ ρ m H ∧ Dn true K F (sv C.H0 Pr H) v d ∧ g d ρ Q ∧
    (∀ σ' ρ', SR K C Pr F σ' ρ' m H → (∀ vs, (∀ i ∈ ws, i ∈ vs) → L2.wipe σ' vs = L2.wipe σ vs) → Q ρ' → R σ' H)
theorem exF {X : Cx} {C : Cn} {Pr : Addr → Prop} {F : List Addr} {H : Hp} {σ : L2.St} {ρ : En} : Ex X C Pr F H σ ρ (fun _ _ => False) := fun _ _ _ _ _ _ _ _ _ z => z.elim
theorem J.cn {X : Cx} {C : Cn} {c : Cl} {e : Expr} {t : DT C.W.M} (h : J c X C e t) : PE X e (cnE c X.K C t) := by
  obtain ⟨te, p, q⟩ := h
  exact ⟨fun pins s σ H R I ⟨Pr, F, ρ, m, Q, S, z, k⟩ => p.run pins s σ H R I (q σ H Pr F ρ m Q _ R S exF z k)⟩
theorem JTs.cn {X : Cx} {C : Cn} {es : List Expr} {t : DTT C.W.M} (h : JTs X C es t) : PTs X es (cnT X.K C t) := by
  obtain ⟨te, p, q⟩ := h
  exact ⟨fun pins s σ H R I ⟨Pr, F, ρ, m, Q, S, z, k⟩ => p.run pins s σ H R I (q σ H Pr F ρ m Q _ R S exF z k)⟩
theorem JG.cn {X : Cx} {C : Cn} {ws : List Nat} {e : Expr} {g : DG} (h : JG X C e ws g) : PG X e (cnG X.K C ws g) := by
  obtain ⟨te, p, q⟩ := h
  exact ⟨fun pins s σ H v u R I r ⟨Pr, F, ρ, m, d, Q, S, dv, z, k⟩ => p.run pins s σ H v u R I r (q σ H Pr F ρ m v d Q R S dv z k)⟩
theorem lc_all {wi : TI} (qi : ∀ σ H Pr F ρ m Q Z (R : It → Hp → Prop), SR X.K C Pr F σ ρ m H → Ex X C Pr F H σ ρ Z → ti ρ m Q Z →
    (∀ J H', (∃ Pr' F' m' items, SR X.K C Pr' F' σ ρ m' H' ∧ Te Pr F H Pr' F' H' ∧ Wk X.K C false Pr' F' H' items J ∧ Q items m') → R J H') → wi σ H R) (hw : ∀ i ∈ ws, i ∈ own.map (·.2))
    {σ : L2.St} {H : Hp} {Pr : Addr → Prop} {F : List Addr} {ρ : En} {m : C.W.M} {Q : D → C.W.M → Prop} {Z : Str → C.W.M → Prop} {R : VK} (S : SR X.K C Pr F σ ρ m H) (E : Ex X C Pr F H σ ρ Z) (h : dLc ti g dt de (own.map (·.2)) ρ m Q Z)
    (k : ∀ v H', Post X.K C .f Pr F H σ ρ Q v H' → R v H') : tLc wi (cnG X.K C.nox ws g) (cnT X.K C.nox dt) (cnE .s X.K C.nox de) (own.map (·.2)) σ H R :=
  lc_read (ti := ti) (Z := Z) (g := g) (dt := dt) (de := de) hw (fun R' k' => qi σ H Pr F ρ m _ Z R' S E h k') (fun σ H Pr F ρ m v d Q R S dv z k => ⟨Pr, F, ρ, m, d, Q, S, dv, z, k⟩) (fun σ H Pr F ρ m Q R S z k => ⟨Pr, F, ρ, m, Q, S, z, k⟩) (fun σ H Pr F ρ m Q R S z k => ⟨Pr, F, ρ, m, Q, S, z, k⟩) S k
theorem j_lc (hc : X.calm = true) (hN : X.N.Nodup) (hi : JI false X C tg iter ti) (ok : BlkOk X.N X.env.scope scope own) (hg : ∀ s H c cl fp, JG (Blk X scope s H c cl fp) C.nox tg ws g) (ht : ∀ s H c cl fp, JTs (Blk X scope s H c cl fp) C.nox ifs dt) (he : ∀ s H c cl fp, J .s (Blk X scope s H c cl fp) C.nox elt de)
    (hw : ∀ i ∈ ws, i ∈ own.map (·.2)) (hs : ∀ x, foldedSetIterable iter X.env x = pure x := by intro _; rfl) : J .f X C (.ListComp elt [⟨tg, iter, ifs, 0⟩] scope pos) (dLc ti g dt de (own.map (·.2))) := by
  obtain ⟨wi, pi, qi⟩ := hi
  refine ⟨_, pe_lc (g := cnG X.K C.nox ws g) (tt := cnT X.K C.nox dt) (te := cnE .s X.K C.nox de) hc hN pi ok (fun s H c cl fp => (hg s H c cl fp).cn) (fun s H c cl fp => (ht s H c cl fp).cn) (fun s H c cl fp => (he s H c cl fp).cn) hs, fun σ H Pr F ρ m Q Z R S E h k => ?_⟩
  exact lc_all qi hw S E h k
end
end RR
namespace RR
open PySem PySem.Spec PyProof.Rows L2
structure DE (M : Type) where
  nx : En → M → Prop
  rt : D → M → Prop
  bk : En → M → Prop := fun _ _ => False
  ct : En → M → Prop := fun _ _ => False
  ex : Str → M → Prop := fun _ _ => False
abbrev DS (M : Type) := DE M → En → M → Prop
structure Lk (X : Cx) (C : Cn) (Pr : Addr → Prop) (F : List Addr) (H : Hp) (E : DE C.W.M) (D' : Ends) : Prop where
  nx : ∀ σ' H' ρ' m' Pr' F', SR X.K C Pr' F' σ' ρ' m' H' → Tr Pr F H Pr' F' H' → E.nx ρ' m' → D'.nx σ' H'
  rt : ∀ v H' d m' Pr' F' σ' ρ' H1, SR X.K C Pr' F' σ' ρ' m' H' → Tr Pr F H Pr' F' H' → Dv X.K C .r Pr' F' H1 H' v d → E.rt d m' → D'.rt v H'
  bk : ∀ σ' H' ρ' m' Pr' F', SR X.K C Pr' F' σ' ρ' m' H' → Tr Pr F H Pr' F' H' → E.bk ρ' m' → D'.bk σ' H'
  ct : ∀ σ' H' ρ' m' Pr' F', SR X.K C Pr' F' σ' ρ' m' H' → Tr Pr F H Pr' F' H' → E.ct ρ' m' → D'.ct σ' H'
  ex : ∀ σ' ρ', Ex X C Pr F H σ' ρ' E.ex
theorem Lk.tr {X : Cx} {C : Cn} {Pr Pr1 : Addr → Prop} {F F1 : List Addr} {H H1 : Hp} {E : DE C.W.M} {D' : Ends} (l : Lk X C Pr F H E D') (t : Tr Pr F H Pr1 F1 H1) : Lk X C Pr1 F1 H1 E D' :=
  ⟨fun σ' H' ρ' m' P2 F2 S t2 q => l.nx σ' H' ρ' m' P2 F2 S (t.trans t2) q, fun v H' d m' P2 F2 σ' ρ' H3 S t2 dv q => l.rt v H' d m' P2 F2 σ' ρ' H3 S (t.trans t2) dv q, fun σ' H' ρ' m' P2 F2 S t2 q => l.bk σ' H' ρ' m' P2 F2 S (t.trans t2) q,
    fun σ' H' ρ' m' P2 F2 S t2 q => l.ct σ' H' ρ' m' P2 F2 S (t.trans t2) q, fun σ' ρ' => (l.ex σ' ρ').te t⟩
def JS (X : Cx) (C : Cn) (st : Stmt) (t : DS C.W.M) : Prop := ∃ ts, PS X st ts ∧ ∀ σ H Pr F ρ m E D', SR X.K C Pr F σ ρ m H → Lk X C Pr F H E D' → t E ρ m → ts D' σ H
def JSs (X : Cx) (C : Cn) (st : List Stmt) (t : DS C.W.M) : Prop := ∃ ts, PSs X st ts ∧ ∀ σ H Pr F ρ m E D', SR X.K C Pr F σ ρ m H → Lk X C Pr F H E D' → t E ρ m → ts D' σ H
section
variable {X : Cx} {C : Cn} {e : Expr} {st : Stmt} {rest body els : List Stmt} {pos pos' : Pos} {t u : DS C.W.M}
def dNext {M : Type} : DS M := fun E ρ m => E.nx ρ m
def dThen {M : Type} (t u : DS M) : DS M := fun E ρ m => t { E with nx := u E } ρ m
theorem jss_nil : JSs X C [] dNext := ⟨_, pss_nil, fun σ H Pr F ρ m E D' S l h => l.nx _ _ _ _ _ _ S Tr.refl h⟩
theorem jss_cons (h : JS X C st t) (r : JSs X C rest u) : JSs X C (st :: rest) (dThen t u) := by
  obtain ⟨t1, p1, q1⟩ := h
  obtain ⟨t2, p2, q2⟩ := r
  refine ⟨_, pss_cons p1 p2, fun σ H Pr F ρ m E D' S l h => ?_⟩
  exact q1 σ H Pr F ρ m { E with nx := u E } { D' with nx := t2 D' } S ⟨fun σ' H' ρ' m' P1 F1 S1 t1 q => q2 σ' H' P1 F1 ρ' m' E D' S1 (l.tr t1) q, l.rt, l.bk, l.ct, l.ex⟩ h
theorem jss_one (h : JS X C st t) : JSs X C [st] t := by
  obtain ⟨t1, p1, q1⟩ := h
  exact ⟨_, pss_one p1, q1⟩
def dDrop {M : Type} (t : DT M) : DS M := fun E ρ m => t ρ m (fun _ m' => E.nx ρ m') E.ex
def dRet {M : Type} (t : DT M) : DS M := fun E ρ m => t ρ m E.rt E.ex
theorem js_ret {te : DT C.W.M} (h : J .r X C e te) : JS X C (.Return (some e) pos) (dRet te) := by
  obtain ⟨t1, p, q⟩ := h
  exact ⟨_, ps_ret p, fun σ H Pr F ρ m E D' S l h => q σ H Pr F ρ m _ _ _ S (l.ex σ ρ) h fun v H1 ⟨P1, F1, m1, d, S1, t1, dv, z⟩ => l.rt _ _ d m1 P1 F1 σ ρ H S1 t1.toTr dv z⟩
def dIte {M : Type} (c : DTT M) (t u : DS M) : DS M := fun E ρ m => c ρ m (fun b m1 => if b = true then t E ρ m1 else u E ρ m1) E.ex
theorem js_if {c : Expr} {tc : DTT C.W.M} (hc : JT X C c tc) (h1 : JSs X C body t) (h2 : JSs X C els u) : JS X C (.If c body els pos) (dIte tc t u) := by
  obtain ⟨tt, p, q⟩ := hc
  obtain ⟨t1, p1, q1⟩ := h1
  obtain ⟨t2, p2, q2⟩ := h2
  refine ⟨_, ps_if p p1 p2, fun σ H Pr F ρ m E D' S l h => ?_⟩
  refine q σ H Pr F ρ m _ _ _ S (l.ex σ ρ) h fun b H1 ⟨P1, F1, m1, S1, t1, z⟩ => ?_
  cases b with
  | true => exact iteT (q1 σ H1 P1 F1 ρ m1 E D' S1 (l.tr t1.toTr) z)
  | false => exact iteF (q2 σ H1 P1 F1 ρ m1 E D' S1 (l.tr t1.toTr) z)
def dSet {M : Type} (i : Nat) (t : DT M) : DS M := fun E ρ m => t ρ m (fun d m' => E.nx (ρ.set i (.val d)) m') E.ex
def dSetO {M : Type} (i : Nat) (t : DT M) : DS M := fun E ρ m => t ρ m (fun d m' => match d with | .lst ds => D.nls ds = true ∧ E.nx (ρ.set i (.own ds)) m' | _ => False) E.ex
abbrev LocF (X : Cx) (x : Str) : Prop := X.fn x = true ∨ X.env.scope.names.lookup x = some .local
theorem own_read {σ : L2.St} {H : Hp} {Pr : Addr → Prop} {F : List Addr} {ρ : En} {m : C.W.M} {E : DE C.W.M} {D' : Ends} (i : Nat) (S : SR X.K C Pr F σ ρ m H) (l : Lk X C Pr F H E D') {v : V} {H1 : Hp}
    (h : Post X.K C .f Pr F H σ ρ (fun d m' => match d with | .lst ds => D.nls ds = true ∧ E.nx (ρ.set i (.own ds)) m' | _ => False) v H1) : D'.nx (σ.set i (some v)) H1 := by
  obtain ⟨P1, F1, m1, d, S1, t1, dv, z⟩ := h
  try dsimp only at z
  split at z
  · obtain ⟨p, vs, rfl, hn, np, hp, hd⟩ := dv.2 _ rfl
    obtain ⟨S2, t2⟩ := S.owned t1 S1 i hn hp np hd z.1
    exact l.nx _ _ _ _ _ _ S2 t2.toTr z.2
  · exact z.elim
theorem js_set (i : Nat) {x : Str} {te : DT C.W.M} (hN : X.N.Nodup) (h : J .s X C e te) (hi : X.N[i]? = some x := by rfl) (hx : Loc X.env.scope x := by first | exact .inl rfl | exact .inr rfl) (hf : LocF X x := by first | exact .inl rfl | exact .inr rfl) (hs : swapsWith e (some (.Name x pos')) pos.line X.env = pure false := by rfl) :
    JS X C (.Assign [.Name x pos'] e pos) (dSet i te) := by
  obtain ⟨t1, p, q⟩ := h
  exact ⟨_, ps_set hN hi hx p hs hf, fun σ H Pr F ρ m E D' S l h => q σ H Pr F ρ m _ _ _ S (l.ex σ ρ) h fun v H1 ⟨P1, F1, m1, d, S1, t1, dv, z⟩ => l.nx _ _ _ _ _ _ (S1.set i dv) t1.toTr z⟩
theorem js_setO (i : Nat) {x : Str} {te : DT C.W.M} (hN : X.N.Nodup) (h : J .f X C e te) (hi : X.N[i]? = some x := by rfl) (hx : Loc X.env.scope x := by first | exact .inl rfl | exact .inr rfl) (hf : LocF X x := by first | exact .inl rfl | exact .inr rfl) (hs : swapsWith e (some (.Name x pos')) pos.line X.env = pure false := by rfl) :
    JS X C (.Assign [.Name x pos'] e pos) (dSetO i te) := by
  obtain ⟨t1, p, q⟩ := h
  exact ⟨_, ps_set hN hi hx p hs hf, fun σ H Pr F ρ m E D' S l h => q σ H Pr F ρ m _ _ _ S (l.ex σ ρ) h fun v H1 z => own_read i S l z⟩
theorem js_setLc (i : Nat) {x : Str} {py : Pos} {elt tg iter : Expr} {ifs : List Expr} {scope : Scope} {own : List (Str × Nat)} {ti : DTA C.W.M} {g : DG} {dt : DTT C.W.M} {de : DT C.W.M} {ws : List Nat} {lp : Pos} (hc : X.calm = true) (hN : X.N.Nodup) (hi : JI false X C tg iter ti) (ok : BlkOk X.N X.env.scope scope own)
    (hg : ∀ s H c cl fp, JG (Blk X scope s H c cl fp) C.nox tg ws g) (ht : ∀ s H c cl fp, JTs (Blk X scope s H c cl fp) C.nox ifs dt) (he : ∀ s H c cl fp, J .s (Blk X scope s H c cl fp) C.nox elt de)
    (hw : ∀ i ∈ ws, i ∈ own.map (·.2)) (hy : X.N[i]? = some x := by rfl) (hyl : X.env.scope.names.lookup x = some .local := by rfl) (hsw : swapsWith (.ListComp elt [⟨tg, iter, ifs, 0⟩] scope lp) (some (.Name x py)) pos.line X.env = pure true := by exact sw_true rfl rfl rfl (by decide +kernel)) (hs : ∀ z, foldedSetIterable iter X.env z = pure z := by intro _; rfl) :
    JS X C (.Assign [.Name x py] (.ListComp elt [⟨tg, iter, ifs, 0⟩] scope lp) pos) (dSet i (dLc ti g dt de (own.map (·.2)))) := by
  obtain ⟨wi, pi, qi⟩ := hi
  refine ⟨_, ps_setLc (g := cnG X.K C.nox ws g) (tt := cnT X.K C.nox dt) (te := cnE .s X.K C.nox de) hc hN hy hyl hsw pi ok (fun s H c cl fp => (hg s H c cl fp).cn) (fun s H c cl fp => (ht s H c cl fp).cn) (fun s H c cl fp => (he s H c cl fp).cn) hs, fun σ H Pr F ρ m E D' S l h => ?_⟩
  exact lc_all qi hw S (l.ex σ ρ) h fun v H1 ⟨P1, F1, m1, d, S1, t1, dv, z⟩ => l.nx _ _ _ _ _ _ (S1.set i dv.1) t1.toTr z
theorem js_setLcO (i : Nat) {x : Str} {py : Pos} {elt tg iter : Expr} {ifs : List Expr} {scope : Scope} {own : List (Str × Nat)} {ti : DTA C.W.M} {g : DG} {dt : DTT C.W.M} {de : DT C.W.M} {ws : List Nat} {lp : Pos} (hc : X.calm = true) (hN : X.N.Nodup) (hi : JI false X C tg iter ti) (ok : BlkOk X.N X.env.scope scope own)
    (hg : ∀ s H c cl fp, JG (Blk X scope s H c cl fp) C.nox tg ws g) (ht : ∀ s H c cl fp, JTs (Blk X scope s H c cl fp) C.nox ifs dt) (he : ∀ s H c cl fp, J .s (Blk X scope s H c cl fp) C.nox elt de)
    (hw : ∀ i ∈ ws, i ∈ own.map (·.2)) (hy : X.N[i]? = some x := by rfl) (hyl : X.env.scope.names.lookup x = some .local := by rfl) (hsw : swapsWith (.ListComp elt [⟨tg, iter, ifs, 0⟩] scope lp) (some (.Name x py)) pos.line X.env = pure true := by exact sw_true rfl rfl rfl (by decide +kernel)) (hs : ∀ z, foldedSetIterable iter X.env z = pure z := by intro _; rfl) :
    JS X C (.Assign [.Name x py] (.ListComp elt [⟨tg, iter, ifs, 0⟩] scope lp) pos) (dSetO i (dLc ti g dt de (own.map (·.2)))) := by
  obtain ⟨wi, pi, qi⟩ := hi
  refine ⟨_, ps_setLc (g := cnG X.K C.nox ws g) (tt := cnT X.K C.nox dt) (te := cnE .s X.K C.nox de) hc hN hy hyl hsw pi ok (fun s H c cl fp => (hg s H c cl fp).cn) (fun s H c cl fp => (ht s H c cl fp).cn) (fun s H c cl fp => (he s H c cl fp).cn) hs, fun σ H Pr F ρ m E D' S l h => ?_⟩
  exact lc_all qi hw S (l.ex σ ρ) h fun v H1 z => own_read i S l z
def dAsg {M : Type} (t : DT M) (g : DG) : DS M := fun E ρ m => t ρ m (fun d m' => g d ρ fun ρ' => E.nx ρ' m') E.ex
theorem js_asg {tg : Expr} {ws : List Nat} {g : DG} {te : DT C.W.M} (h : J .s X C e te) (hg : JG X C tg ws g) (hs : swapsWithSole [tg] e pos.line X.env = pure false := by rfl) (hw : swappedStores [tg] e X.env = pure none := by rfl) (h1 : (assignEach [tg] X.env).map (·.2) = [assign tg X.env] := by rfl) : JS X C (.Assign [tg] e pos) (dAsg te g) := by
  obtain ⟨t1, p, q⟩ := h
  obtain ⟨t2, p2, q2⟩ := hg
  exact ⟨_, ps_asg p p2 hs hw h1, fun σ H Pr F ρ m E D' S l h => q σ H Pr F ρ m _ _ _ S (l.ex σ ρ) h fun v H1 ⟨P1, F1, m1, d, S1, t1, dv, z⟩ => q2 σ H1 P1 F1 ρ m1 v d _ _ S1 dv z fun σ' ρ' S2 _ z => l.nx _ _ _ _ _ _ S2 t1.toTr z⟩
def dPar {M : Type} (i j : Nat) (t : DTA M) : DS M := fun E ρ m => t ρ m (fun ds m' => match ds with | [x, y] => E.nx ((ρ.set i (.val x)).set j (.val y)) m' | _ => False) E.ex
theorem js_par (i j : Nat) {x y : Str} {a b : Expr} {ta : DTA C.W.M} {px py pt : Pos} {kt k2 pt2} (hc : X.calm = true) (hN : X.N.Nodup) (ha : JA .s X C [a, b] ta) (hw : swappedStores [.Tuple [.Name x px, .Name y py] kt pt] (.Tuple [a, b] k2 pt2) X.env = pure (some [x, y]) := by rfl)
    (hi : X.N[i]? = some x := by rfl) (hj : X.N[j]? = some y := by rfl) (hij : i ≠ j := by decide) (hx : X.env.scope.names.lookup x = some .local := by rfl) (hy : X.env.scope.names.lookup y = some .local := by rfl)
    (hs : swapsWithSole [.Tuple [.Name x px, .Name y py] kt pt] (.Tuple [a, b] k2 pt2) pos.line X.env = pure false := by rfl) : JS X C (.Assign [.Tuple [.Name x px, .Name y py] kt pt] (.Tuple [a, b] k2 pt2) pos) (dPar i j ta) := by
  obtain ⟨t1, p, q⟩ := ha
  refine ⟨_, ps_par hc hN hi hj hij hx hy p hw hs, fun σ H Pr F ρ m E D' S l h => q σ H Pr F ρ m _ _ _ S (l.ex σ ρ) h fun vs H1 ⟨P1, F1, m1, ds, S1, t1, dv, z⟩ => ?_⟩
  have dv : DnA true X.K F1 (sv C.H0 P1 H1) vs ds := dv
  try dsimp only at z
  split at z
  · cases dv with
    | cons h1 r =>
      cases r with
      | cons h2 r =>
        cases r
        exact ⟨_, _, rfl, l.nx _ _ _ _ _ _ ((S1.set i h1).set j h2) t1.toTr z⟩
  · exact z.elim
def dAug {M : Type} (i : Nat) (f : Int → Int → Int) (t : DT M) : DS M := fun E ρ m => match ρ[i]? with
  | some (.val (.int x)) => t ρ m (fun y m' => match y with | .int y => E.nx (ρ.set i (.val (.int (f x y)))) m' | _ => False) E.ex
  | _ => False
theorem js_aug (i : Nat) {x : Str} {op : Operator} {f : Int → Int → Int} {te : DT C.W.M} (ho : PIp X op (ipI f)) (hN : X.N.Nodup) (h : J .w X C e te) (hi : X.N[i]? = some x := by rfl) (hx : Loc X.env.scope x := by first | exact .inl rfl | exact .inr rfl) (hf : LocF X x := by first | exact .inl rfl | exact .inr rfl) :
    JS X C (.AugAssign (.Name x pos') op e pos) (dAug i f te) := by
  obtain ⟨t1, p, q⟩ := h
  refine ⟨_, ps_aug hN hi hx p ho hf, fun σ H Pr F ρ m E D' S l h => ?_⟩
  unfold dAug at h
  split at h
  · rename_i z e0
    obtain ⟨v, ev, dz⟩ := S.slot i _ e0
    refine ⟨v, ev, q σ H Pr F ρ m _ _ _ S (l.ex σ ρ) h fun w H1 ⟨P1, F1, m1, d, S1, t1, dv, z⟩ => ?_⟩
    have dv : Dn false X.K F1 (wv F1 H1) w d := dv
    dsimp only at z
    split at z
    · exact ⟨_, _, dz.toInt, dv.toInt, l.nx _ _ _ _ _ _ (S1.set i (.int _)) t1.toTr z⟩
    · exact z.elim
  · exact h.elim
def dApp {M : Type} (i : Nat) (t : DT M) : DS M := fun E ρ m => match ρ[i]? with
  | some (.own ds) => t ρ m (fun d m' => d.nl = true ∧ ds.length < sizeLine ∧ E.nx (ρ.set i (.own (ds ++ [d]))) m') E.ex
  | _ => False
theorem js_append (i : Nat) {x : Str} {np apos cpos : Pos} {te : DT C.W.M} (h : J .s X C e te) (hN : X.N[i]? = some x := by rfl) (hv : Vis X.env.scope x := by first | exact Or.inl rfl | exact Or.inr (Or.inl rfl) | exact Or.inr (Or.inr rfl)) (hd : (x == ("__debug__" : Str)) = false := by decide) (hcd : (x == ("__classdict__" : Str)) = false := by decide)
    (hfew : ((backTo cpos (starEach [e] X.env)).all (fun x => !x.1) && (backToKw cpos (keywordEach [] X.env)).all (fun x => x.1.isSome) && decide ([e].length + ([] : List Keyword).length + (if ([] : List Keyword).isEmpty then 0 else 1) < 30)) = true := by rfl)
    (hline : (apos.endLine == cpos.line) = true := by rfl) (hs : starEach [e] X.env = (false, eval e X.env) :: starEach [] X.env := by rfl) :
    JS X C (.Expr (.Call (.Attribute (.Name x np) "append" apos) [e] [] cpos) pos) (dApp i te) := by
  obtain ⟨t1, p, q⟩ := h
  refine ⟨_, ps_expr (pe_bm PySem.F.plainAttrs_list PySem.F.slot_list_append PySem.F.type_list_append mt_append (pe_var hN hv hd hcd) (pa_cons p pa_nil hs) rfl hfew hline hs rfl) rfl, fun σ H Pr F ρ m E D' S l h => ?_⟩
  unfold dApp at h
  split at h
  · rename_i ds e0
    obtain ⟨p0, vs, e1, hp, pp, nf, hds⟩ := S.slot i _ e0
    refine ⟨.ref p0, e1, .inl ⟨rfl, vs, SqL.of hp⟩, q σ H Pr F ρ m _ _ _ S (l.ex σ ρ) h fun w H1 ⟨P1, F1, m1, d, S1, t1, dv, z⟩ => ?_⟩
    have dv : Dn true X.K F1 (sv C.H0 P1 H1) w d := dv
    obtain ⟨p1, us, e2, hp1, pp1, nf1, hds1⟩ := S1.slot i _ e0
    rw [e1] at e2; cases e2
    obtain ⟨S2, t2⟩ := S1.change e0 e1 (hds1.app (.cons dv .nil))
    exact ⟨p0, us, w, rfl, rfl, hp1, by rw [hds1.length]; exact z.2.1, l.nx _ _ _ _ _ _ S2 (t1.toTr.trans t2) z.2.2⟩
  · exact h.elim
def dAppL {M : Type} (i : Nat) (t : DT M) : DS M := fun E ρ m => match ρ[i]? with
  | some (.own ds) => t ρ m (fun d m' => ds.length < sizeLine ∧ E.nx (ρ.set i (.own (ds ++ [d]))) m') E.ex
  | _ => False
theorem js_appendL (i : Nat) {x : Str} {np apos cpos : Pos} {te : DT C.W.M} (h : J .s X C e te) (hN : X.N[i]? = some x := by rfl) (hv : Vis X.env.scope x := by first | exact Or.inl rfl | exact Or.inr (Or.inl rfl) | exact Or.inr (Or.inr rfl)) (hd : (x == ("__debug__" : Str)) = false := by decide) (hcd : (x == ("__classdict__" : Str)) = false := by decide)
    (hfew : ((backTo cpos (starEach [e] X.env)).all (fun x => !x.1) && (backToKw cpos (keywordEach [] X.env)).all (fun x => x.1.isSome) && decide ([e].length + ([] : List Keyword).length + (if ([] : List Keyword).isEmpty then 0 else 1) < 30)) = true := by rfl)
    (hline : (apos.endLine == cpos.line) = true := by rfl) (hs : starEach [e] X.env = (false, eval e X.env) :: starEach [] X.env := by rfl) :
    JS X C (.Expr (.Call (.Attribute (.Name x np) "append" apos) [e] [] cpos) pos) (dAppL i te) := by
  obtain ⟨t1, p, q⟩ := h
  refine ⟨_, ps_expr (pe_bm PySem.F.plainAttrs_list PySem.F.slot_list_append PySem.F.type_list_append mt_append (pe_var hN hv hd hcd) (pa_cons p pa_nil hs) rfl hfew hline hs rfl) rfl, fun σ H Pr F ρ m E D' S l h => ?_⟩
  unfold dAppL at h
  split at h
  · rename_i ds e0
    obtain ⟨p0, vs, e1, hp, pp, nf, hds⟩ := S.slot i _ e0
    refine ⟨.ref p0, e1, .inl ⟨rfl, vs, SqL.of hp⟩, q σ H Pr F ρ m _ _ _ S (l.ex σ ρ) h fun w H1 ⟨P1, F1, m1, d, S1, t1, dv, z⟩ => ?_⟩
    have dv : Dn true X.K F1 (sv C.H0 P1 H1) w d := dv
    obtain ⟨p1, us, e2, hp1, pp1, nf1, hds1⟩ := S1.slot i _ e0
    rw [e1] at e2; cases e2
    obtain ⟨S2, t2⟩ := S1.change e0 e1 (hds1.app (.cons dv .nil))
    exact ⟨p0, us, w, rfl, rfl, hp1, by rw [hds1.length]; exact z.1, l.nx _ _ _ _ _ _ S2 (t1.toTr.trans t2) z.2⟩
  · exact h.elim
def dSetI {M : Type} (i : Nat) (te tk : DT M) : DS M := fun E ρ m => match ρ[i]? with
  | some (.own ds) => te ρ m (fun d m1 => tk ρ m1 (fun k m2 => match k with
    | .int k => (match ixN ds.length k with | some j => d.nl = true ∧ E.nx (ρ.set i (.own (ds.set j d))) m2 | none => False) | _ => False) E.ex) E.ex
  | _ => False
theorem js_seti (i : Nat) {x : Str} {np sp : Pos} {k : Expr} {te tk : DT C.W.M} (h : J .s X C e te) (hk : J .w X C k tk) (hN : X.N[i]? = some x := by rfl) (hv : Vis X.env.scope x := by first | exact Or.inl rfl | exact Or.inr (Or.inl rfl) | exact Or.inr (Or.inr rfl)) (hd : (x == ("__debug__" : Str)) = false := by decide) (hcd : (x == ("__classdict__" : Str)) = false := by decide)
    (ha : ∀ v, assign (.Subscript (.Name x np) k sp) X.env v = (do
      let ov ← holding [v] (eval (.Name x np) X.env)
      let iv ← holding [v, ov] (eval k X.env)
      standAt sp
      holding [v, ov, iv] (setItem ov iv v)
      release [v, ov, iv] []) := by intro _; rfl)
    (hs : swapsWithSole [.Subscript (.Name x np) k sp] e pos.line X.env = pure false := by rfl) (hw : swappedStores [.Subscript (.Name x np) k sp] e X.env = pure none := by rfl) (h1 : (assignEach [.Subscript (.Name x np) k sp] X.env).map (·.2) = [assign (.Subscript (.Name x np) k sp) X.env] := by rfl) :
    JS X C (.Assign [.Subscript (.Name x np) k sp] e pos) (dSetI i te tk) := by
  obtain ⟨t1, p, q⟩ := h
  obtain ⟨t2, p2, q2⟩ := hk
  refine ⟨_, ps_asg p (pg_sub (pe_var hN hv hd hcd) p2 set_list ha) hs hw h1, fun σ H Pr F ρ m E D' S l h => ?_⟩
  unfold dSetI at h
  split at h
  · rename_i ds e0
    obtain ⟨p0, vs, e1, hp, pp, nf, hds⟩ := S.slot i _ e0
    refine q σ H Pr F ρ m _ _ _ S (l.ex σ ρ) h fun w H1 ⟨P1, F1, m1, d, S1, t1, dv, z⟩ => ?_
    have dv : Dn true X.K F1 (sv C.H0 P1 H1) w d := dv
    refine ⟨.ref p0, e1, q2 σ H1 P1 F1 ρ m1 _ _ _ S1 ((l.ex σ ρ).te t1.toTr) z fun kv H2 ⟨P2, F2, m2, kd, S2, t2, dk, z2⟩ => ?_⟩
    have dk : Dn false X.K F2 (wv F2 H2) kv kd := dk
    dsimp only at z2
    split at z2
    · split at z2
      · rename_i j ej
        obtain ⟨p1, us, e2, hp1, pp1, nf1, hds1⟩ := S2.slot i _ e0
        rw [e1] at e2; cases e2
        obtain ⟨S3, t3⟩ := S2.change e0 e1 (hds1.set (dv.tr t2.toTr S1.prs) j)
        exact ⟨p0, us, _, j, rfl, dk.toInt, hp1, by rw [hds1.length]; exact ej, l.nx _ _ _ _ _ _ S3 ((t1.trans t2).toTr.trans t3) z2.2⟩
      · exact z2.elim
    · exact z2.elim
  · exact h.elim
def dSetIL {M : Type} (i : Nat) (te tk : DT M) : DS M := fun E ρ m => match ρ[i]? with
  | some (.own ds) => te ρ m (fun d m1 => tk ρ m1 (fun k m2 => match k with
    | .int k => (match ixN ds.length k with | some j => E.nx (ρ.set i (.own (ds.set j d))) m2 | none => False) | _ => False) E.ex) E.ex
  | _ => False
theorem js_setiL (i : Nat) {x : Str} {np sp : Pos} {k : Expr} {te tk : DT C.W.M} (h : J .s X C e te) (hk : J .w X C k tk) (hN : X.N[i]? = some x := by rfl) (hv : Vis X.env.scope x := by first | exact Or.inl rfl | exact Or.inr (Or.inl rfl) | exact Or.inr (Or.inr rfl)) (hd : (x == ("__debug__" : Str)) = false := by decide) (hcd : (x == ("__classdict__" : Str)) = false := by decide)
    (ha : ∀ v, assign (.Subscript (.Name x np) k sp) X.env v = (do
      let ov ← holding [v] (eval (.Name x np) X.env)
      let iv ← holding [v, ov] (eval k X.env)
      standAt sp
      holding [v, ov, iv] (setItem ov iv v)
      release [v, ov, iv] []) := by intro _; rfl)
    (hs : swapsWithSole [.Subscript (.Name x np) k sp] e pos.line X.env = pure false := by rfl) (hw : swappedStores [.Subscript (.Name x np) k sp] e X.env = pure none := by rfl) (h1 : (assignEach [.Subscript (.Name x np) k sp] X.env).map (·.2) = [assign (.Subscript (.Name x np) k sp) X.env] := by rfl) :
    JS X C (.Assign [.Subscript (.Name x np) k sp] e pos) (dSetIL i te tk) := by
  obtain ⟨t1, p, q⟩ := h
  obtain ⟨t2, p2, q2⟩ := hk
  refine ⟨_, ps_asg p (pg_sub (pe_var hN hv hd hcd) p2 set_list ha) hs hw h1, fun σ H Pr F ρ m E D' S l h => ?_⟩
  unfold dSetIL at h
  split at h
  · rename_i ds e0
    obtain ⟨p0, vs, e1, hp, pp, nf, hds⟩ := S.slot i _ e0
    refine q σ H Pr F ρ m _ _ _ S (l.ex σ ρ) h fun w H1 ⟨P1, F1, m1, d, S1, t1, dv, z⟩ => ?_
    have dv : Dn true X.K F1 (sv C.H0 P1 H1) w d := dv
    refine ⟨.ref p0, e1, q2 σ H1 P1 F1 ρ m1 _ _ _ S1 ((l.ex σ ρ).te t1.toTr) z fun kv H2 ⟨P2, F2, m2, kd, S2, t2, dk, z2⟩ => ?_⟩
    have dk : Dn false X.K F2 (wv F2 H2) kv kd := dk
    dsimp only at z2
    split at z2
    · split at z2
      · rename_i j ej
        obtain ⟨p1, us, e2, hp1, pp1, nf1, hds1⟩ := S2.slot i _ e0
        rw [e1] at e2; cases e2
        obtain ⟨S3, t3⟩ := S2.change e0 e1 (hds1.set (dv.tr t2.toTr S1.prs) j)
        exact ⟨p0, us, _, j, rfl, dk.toInt, hp1, by rw [hds1.length]; exact ej, l.nx _ _ _ _ _ _ S3 ((t1.trans t2).toTr.trans t3) z2⟩
      · exact z2.elim
    · exact z2.elim
  · exact h.elim
def dAugI {M : Type} (i : Nat) (f : Int → Int → Int) (tk te : DT M) : DS M := fun E ρ m => match ρ[i]? with
  | some (.own ds) => tk ρ m (fun k m1 => match k with
    | .int k => (match ixN ds.length k with
      | some j => (match ds[j]? with
        | some (.int x) => te ρ m1 (fun d m2 => match d with | .int y => E.nx (ρ.set i (.own (ds.set j (.int (f x y))))) m2 | _ => False) E.ex
        | _ => False)
      | none => False)
    | _ => False) E.ex
  | _ => False
theorem get_list : PGet X (rIxL X.K) := by
  intro pins s σ H x y v u Q I rx ry h
  obtain ⟨p, xs, i, z, rfl, rfl, hq, he, q⟩ := h
  cases rx
  obtain ⟨t, rfl⟩ := ry
  obtain ⟨its, r, pl, hz⟩ := I.list hq
  obtain ⟨j, h1, h2, h3, h4, h5⟩ := atI_get he
  obtain ⟨w, ew, rw'⟩ := r.get h2
  have hl := r.length
  have hn := line63
  have fin : EP X pins σ Q w s := ⟨z, H, I, rw', q⟩
  by_cases h0 : 0 ≤ i
  · have hj : i.toNat = j := by
      rw [seqIndex_of h0 h5] at h1
      exact Option.some.inj h1
    exact wpAny_getItem_list pl.isList h0 (by omega) (by rw [hj]; simpa using ew) fin
  · have hj : (i + (its.toArray.size : Int)).toNat = j := by
      rw [seqIndex_neg (by omega) h4] at h1
      rw [List.size_toArray, ← hl]
      exact Option.some.inj h1
    exact wpAny_getItem_list_neg pl.isList (by omega) (by rw [List.size_toArray] <;> omega) (by omega) (by rw [hj]; simpa using ew) fin
theorem js_augi (i : Nat) {x : Str} {np sp : Pos} {k : Expr} {op : Operator} {f : Int → Int → Int} {te tk : DT C.W.M} (ho : PIp X op (ipI f)) (hk : J .w X C k tk) (h : J .w X C e te) (hN : X.N[i]? = some x := by rfl) (hv : Vis X.env.scope x := by first | exact Or.inl rfl | exact Or.inr (Or.inl rfl) | exact Or.inr (Or.inr rfl)) (hd : (x == ("__debug__" : Str)) = false := by decide) (hcd : (x == ("__classdict__" : Str)) = false := by decide)
    (ha : ∀ ov iv new, augStore k ov iv new = (do holding [new, ov, iv] (setItem ov iv new); release [new, ov, iv] []; pure .next) := by intros; rfl) :
    JS X C (.AugAssign (.Subscript (.Name x np) k sp) op e pos) (dAugI i f tk te) := by
  obtain ⟨t1, p, q⟩ := h
  obtain ⟨t2, p2, q2⟩ := hk
  refine ⟨_, ps_augS (pe_var hN hv hd hcd) p2 get_list p ho set_list ha, fun σ H Pr F ρ m E D' S l h => ?_⟩
  unfold dAugI at h
  split at h
  · rename_i ds e0
    obtain ⟨p0, vs, e1, hp, pp, nf, hds⟩ := S.slot i _ e0
    refine ⟨.ref p0, e1, q2 σ H Pr F ρ m _ _ _ S (l.ex σ ρ) h fun kv H1 ⟨P1, F1, m1, kd, S1, t1, dk, z⟩ => ?_⟩
    have dk : Dn false X.K F1 (wv F1 H1) kv kd := dk
    dsimp only at z
    split at z
    · split at z
      · rename_i j ej
        split at z
        · rename_i xi exi
          obtain ⟨p1, us, e2, hp1, pp1, nf1, hds1⟩ := S1.slot i _ e0
          rw [e1] at e2; cases e2
          obtain ⟨u0, eu, du⟩ := hds1.getD exi
          refine ⟨p0, us, _, u0, rfl, dk.toInt, SqL.of hp1, ?_, q σ H1 P1 F1 ρ m1 _ _ _ S1 ((l.ex σ ρ).te t1.toTr) z fun w H2 ⟨P2, F2, m2, d, S2, t2, dv, z2⟩ => ?_⟩
          · unfold atI
            rw [hds1.length, ej]
            exact eu
          · have dv : Dn false X.K F2 (wv F2 H2) w d := dv
            dsimp only at z2
            split at z2
            · obtain ⟨p2', us2, e3, hp2, pp2, nf2, hds2⟩ := S2.slot i _ e0
              rw [e1] at e3; cases e3
              obtain ⟨S3, t3⟩ := S2.change e0 e1 (hds2.set (.int _) j)
              exact ⟨_, _, du.toInt, dv.toInt, p0, us2, _, j, rfl, dk.toInt, hp2, by rw [hds2.length]; exact ej, l.nx _ _ _ _ _ _ S3 ((t1.trans t2).toTr.trans t3) z2⟩
            · exact z2.elim
        · exact z.elim
      · exact z.elim
    · exact z.elim
  · exact h.elim
def dWhile {M : Type} (c : DTT M) (t : DS M) : DS M := fun E ρ m => ∃ W : Nat → En → M → Prop, (∃ n, W n ρ m) ∧ ∀ n ρ m, W n ρ m →
  c ρ m (fun b m1 => if b = true then t { E with nx := fun ρ' m' => ∃ n', n' < n ∧ W n' ρ' m', ct := fun ρ' m' => ∃ n', n' < n ∧ W n' ρ' m', bk := E.nx } ρ m1 else E.nx ρ m1) E.ex
theorem js_while {c : Expr} {tc : DTT C.W.M} (hp : PassesOwn (model X.prog X.w) X.A X.env X.xe) (hc : JT X C c tc) (hb : JSs X C body t) : JS X C (.While c body [] pos) (dWhile tc t) := by
  obtain ⟨tt, p, q⟩ := hc
  obtain ⟨t1, p1, q1⟩ := hb
  refine ⟨_, ps_while hp p p1, fun σ H Pr F ρ m E D' S l h => ?_⟩
  obtain ⟨W, ⟨n0, w0⟩, turn⟩ := h
  refine ⟨fun n σ' H' => ∃ ρ' m' Pr' F', SR X.K C Pr' F' σ' ρ' m' H' ∧ Tr Pr F H Pr' F' H' ∧ W n ρ' m', ⟨n0, ρ, m, Pr, F, S, Tr.refl, w0⟩, ?_⟩
  rintro n σ1 H1 ⟨ρ1, m1, P1, F1, S1, t1, w1⟩
  refine q σ1 H1 P1 F1 ρ1 m1 _ _ _ S1 ((l.ex σ1 ρ1).te t1) (turn n ρ1 m1 w1) fun b H2 ⟨P2, F2, m2, S2, t2, z⟩ => ?_
  have t2 := t1.trans t2.toTr
  cases b with
  | false => exact iteF (l.nx _ _ _ _ _ _ S2 t2 z)
  | true =>
    refine iteT ⟨fun σ' H' => ∃ n', n' < n ∧ ∃ ρ' m' Pr' F', SR X.K C Pr' F' σ' ρ' m' H' ∧ Tr Pr F H Pr' F' H' ∧ W n' ρ' m', fun σ' H' h => h, ?_⟩
    refine q1 σ1 H2 P2 F2 ρ1 m2 { E with nx := fun ρ' m' => ∃ n', n' < n ∧ W n' ρ' m', ct := fun ρ' m' => ∃ n', n' < n ∧ W n' ρ' m', bk := E.nx } _ S2 ⟨fun σ' H' ρ' m' P3 F3 S3 t3 ⟨n', hn, w'⟩ => ⟨n', hn, ρ', m', P3, F3, S3, t2.trans t3, w'⟩, (l.tr t2).rt, (l.tr t2).nx, fun σ' H' ρ' m' P3 F3 S3 t3 ⟨n', hn, w'⟩ => ⟨n', hn, ρ', m', P3, F3, S3, t2.trans t3, w'⟩, (l.tr t2).ex⟩ z
def dFor {M : Type} (ti : DTA M) (g : DG) (t : DS M) : DS M := fun E ρ m => ti ρ m (fun items m1 => ∃ W : List D → En → M → Prop, W items ρ m1 ∧ (∀ ρ m, W [] ρ m → E.nx ρ m) ∧
  ∀ x r ρ m, W (x :: r) ρ m → g x ρ fun ρ2 => t { E with nx := W r, ct := W r, bk := E.nx } ρ2 m) E.ex
theorem js_for {tg iter : Expr} {ti : DTA C.W.M} {ws : List Nat} {g : DG} (hp : PassesOwn (model X.prog X.w) X.A X.env X.xe) (hc : X.calm = true) (hi : JI true X C tg iter ti) (hg : JG X C tg ws g) (hb : JSs X C body t) (hs : ∀ x, foldedSetIterable iter X.env x = pure x := by intro _; rfl) :
    JS X C (.For tg iter body [] pos) (dFor ti g t) := by
  obtain ⟨wi, pi, qi⟩ := hi
  obtain ⟨tgt, pg, qg⟩ := hg
  obtain ⟨t1, p1, q1⟩ := hb
  refine ⟨_, ps_for hp hc pi pg p1 hs, fun σ H Pr F ρ m E D' S l h => ?_⟩
  refine qi σ H Pr F ρ m _ _ _ S (l.ex σ ρ) h fun J H1 ⟨P1, F1, m1, items, S1, t1, ⟨G, Y, w, hG⟩, z⟩ => ?_
  obtain ⟨W, w0, wd, turn⟩ := z
  refine for_it w (fun i σ' H' => ∃ ρ' m' Pr' F', SR X.K C Pr' F' σ' ρ' m' H' ∧ Tr P1 F1 H1 Pr' F' H' ∧ W (items.drop i) ρ' m') ⟨ρ, m1, P1, F1, S1, Tr.refl, w0⟩ (fun i σ' H' _ ⟨ρ', m', P2, F2, S2, t2, _⟩ => (hG P2 F2 H' t2).1) (fun i x σ' H' H2 hi ⟨ρ', m', P2, F2, S2, t2, w2⟩ y => ?_) (fun σ' H' ⟨ρ', m', P2, F2, S2, t2, w2⟩ => ?_)
  · obtain ⟨k2, d, ed, hd⟩ := (hG P2 F2 H' t2).2 i x H2 y
    have S3 := S2.grow k2
    have t3 := t2.trans (S2.te k2).toTr
    have ei : items.drop i = d :: items.drop (i + 1) := by
      obtain ⟨hlt, e⟩ := List.getElem?_eq_some_iff.mp ed
      rw [List.drop_eq_getElem_cons hlt, e]
    rw [ei] at w2
    refine qg σ' H2 P2 F2 ρ' m' x d _ _ S3 hd (turn d _ ρ' m' w2) fun σ2 ρ2 S4 _ z => ?_
    have t4 := t1.toTr.trans t3
    exact q1 σ2 H2 P2 F2 ρ2 m' { E with nx := W (items.drop (i + 1)), ct := W (items.drop (i + 1)), bk := E.nx } _ S4 ⟨fun σ5 H5 ρ5 m5 P5 F5 S5 t5 w5 => ⟨ρ5, m5, P5, F5, S5, t3.trans t5, w5⟩, (l.tr t4).rt, (l.tr t4).nx, fun σ5 H5 ρ5 m5 P5 F5 S5 t5 w5 => ⟨ρ5, m5, P5, F5, S5, t3.trans t5, w5⟩, (l.tr t4).ex⟩ z
  · rw [List.drop_length] at w2
    exact l.nx _ _ _ _ _ _ S2 (t1.toTr.trans t2) (wd _ _ w2)
def dRel {M : Type} (i : Nat) (t : DS M) : DS M := fun E ρ m => match ρ[i]? with | some (.own ds) => t E (ρ.set i (.val (.lst ds))) m | _ => False
def dRaise {M : Type} (x : Str) : DS M := fun E _ m => E.ex x m
def ExcF (K : PySem.W.Frag) (mg : Str → Option Value) (x : Str) : Prop := ∃ Cc bmB newId initId, ExcBaseFacts "ValueError" newId initId bmB ∧ mg x = some (.ref Cc) ∧ PySem.W.excIn K Cc bmB newId = true ∧ PySem.W.keepIn K (.ref Cc) = true ∧ PySem.W.subIn K (.ref Cc) (.type "BaseException") = some true ∧ PySem.W.typeIn K (.ref Cc) = some (.type "type")
theorem js_raise {x msg : Str} {j : Nat} {p p2 cp : Pos} (hc : X.calm = true) (tk : Takes X C.wx) (h : ExcF X.K X.mg x) (hg : Gl X x := by rfl) (hdb : (x == ("__debug__" : Str)) = false := by decide) :
    JS X C (.Raise (some (.Call (.Name x p) [.Constant (.str msg) j p2] [] cp)) none pos) (dRaise x) := by
  obtain ⟨Cc, bmB, newId, initId, Fx, gC, qx, kC, r1, r2⟩ := h
  refine ⟨_, ps_raise hc tk (pmk_own Fx qx gC kC (raises_own r1 r2) hg hdb), fun σ H Pr F ρ m E D' S l h => ?_⟩
  exact l.ex σ ρ x (.ref Cc) Pr F m H gC S Tr.refl h
end
end RR
namespace RR
open PySem PySem.Spec PyProof.Rows L2
structure LkL (X : Cx) (C : Cn) (E : DE C.W.M) (D' : Ends) : Prop where
  nx : ∀ σ' H' ρ' m' Pr' F', SR X.K C Pr' F' σ' ρ' m' H' → E.nx ρ' m' → D'.nx σ' H'
  rt : ∀ v H' d m' Pr' F' σ' ρ' H1, SR X.K C Pr' F' σ' ρ' m' H' → Dv X.K C .r Pr' F' H1 H' v d → E.rt d m' → D'.rt v H'
  bk : ∀ σ' H' ρ' m' Pr' F', SR X.K C Pr' F' σ' ρ' m' H' → E.bk ρ' m' → D'.bk σ' H'
  ct : ∀ σ' H' ρ' m' Pr' F', SR X.K C Pr' F' σ' ρ' m' H' → E.ct ρ' m' → D'.ct σ' H'
  ex : ∀ σ ρ x cls Pr' F' m' H', X.mg x = some cls → SR X.K C Pr' F' σ ρ m' H' → E.ex x m' → C.wx cls none σ H'
section
variable {X : Cx} {C : Cn} {e : Expr} {st : Stmt} {rest body els : List Stmt} {pos pos' : Pos} {t u : DS C.W.M}
theorem LkL.lk {E : DE C.W.M} {D' : Ends} {Pr : Addr → Prop} {F : List Addr} {H : Hp} (l : LkL X C E D') : Lk X C Pr F H E D' :=
  ⟨fun σ' H' ρ' m' P F S _ q => l.nx σ' H' ρ' m' P F S q, fun v H' d m' P F σ' ρ' H1 S _ dv q => l.rt v H' d m' P F σ' ρ' H1 S dv q, fun σ' H' ρ' m' P F S _ q => l.bk σ' H' ρ' m' P F S q, fun σ' H' ρ' m' P F S _ q => l.ct σ' H' ρ' m' P F S q, fun σ' ρ' x cls P F m' H' hm S _ z => l.ex σ' ρ' x cls P F m' H' hm S z⟩
def JSLs (X : Cx) (C : Cn) (st : List Stmt) (t : DS C.W.M) : Prop := ∃ ts, PSs X st ts ∧ ∀ σ H Pr F ρ m E D', SR X.K C Pr F σ ρ m H → LkL X C E D' → t E ρ m → ts D' σ H
theorem jls_of (h : JSs X C rest t) : JSLs X C rest t := by
  obtain ⟨t1, p, q⟩ := h
  exact ⟨t1, p, fun σ H Pr F ρ m E D' S l h => q σ H Pr F ρ m E D' S l.lk h⟩
noncomputable def bef (Hs G : Hp) : Hp := fun a => if (Hs a).isSome then G a else none
theorem bef_iff {Hs G : Hp} {a : Addr} {o : HO} : bef Hs G a = some o ↔ (Hs a).isSome = true ∧ G a = some o := by
  unfold bef
  by_cases h : (Hs a).isSome = true
  · rw [if_pos h]; simp [h]
  · rw [if_neg h]; simp [h]
structure Sole (K : PySem.W.Frag) (C : Cn) (i : Nat) (Hs : Hp) (Pr : Addr → Prop) (F : List Addr) (H : Hp) (σ : L2.St) (ρ : En) : Prop where
  h0 : ∀ a, Hs a = none → C.K0 a = none
  me : ∀ d, ρ[i]? = some (.val d) → ∃ v, σ[i]? = some (some v) ∧ Dn true K F (sv Hs Pr H) v d
  others : ∀ k d, k ≠ i → ρ[k]? = some (.val d) → ∃ v, σ[k]? = some (some v) ∧ Dn true K F (bef Hs (sv C.H0 Pr H)) v d
  owns : ∀ (k : Nat) (ds : List D), ρ[k]? = some (Sl.own ds) → ∃ p vs, σ[k]? = some (some (.ref p)) ∧ H p = some (.lst vs) ∧ Pr p ∧ p ∉ F ∧ DnA true K F (bef Hs (sv C.H0 Pr H)) vs ds
theorem Sole.tr {K : PySem.W.Frag} {i : Nat} {Hs : Hp} {Pr Pr1 : Addr → Prop} {F F1 : List Addr} {H H1 : Hp} {σ : L2.St} {ρ : En} (s : Sole K C i Hs Pr F H σ ρ) (t : Te Pr F H Pr1 F1 H1) (hp : ∀ a, Pr a → ∃ o, H a = some o ∧ ¬ IsT o) : Sole K C i Hs Pr1 F1 H1 σ ρ :=
  ⟨s.h0, fun d e => let ⟨v, a, c⟩ := s.me d e; ⟨v, a, c.tr t.toTr hp⟩, fun k d n e => let ⟨v, a, b⟩ := s.others k d n e; ⟨v, a, b.mono t.pre fun a o h => bef_iff.mpr ⟨(bef_iff.mp h).1, sv_tr t.toTr hp a o (bef_iff.mp h).2⟩⟩, fun k ds e => let ⟨p, vs, a, hq, pq, nf, b⟩ := s.owns k ds e; ⟨p, vs, a, t.all p _ nf hq, t.prm p pq, (fun z => by
    have y := t.fn p z nf
    rw [hq] at y; cases y), b.mono t.pre fun a o h => bef_iff.mpr ⟨(bef_iff.mp h).1, sv_tr t.toTr hp a o (bef_iff.mp h).2⟩⟩⟩
end
end RR
namespace RR
open PySem PySem.Spec PyProof.Rows L2
theorem ncl_w : Cl.w ≠ Cl.f := fun h => nomatch h
theorem ncl_s : Cl.s ≠ Cl.f := fun h => nomatch h
def st0 : List Bool → List D → Nat → En
  | b :: ks, d :: ds, n + 1 => (if b = true then .bor d else .val d) :: st0 ks ds n
  | _, _, n => List.replicate n .un
def okK : List Bool → List D → Prop
  | b :: ks, d :: ds => (b = false → d.nl = true) ∧ okK ks ds
  | [], [] => True
  | _, _ => False
theorem st0_len : ∀ {ks : List Bool} {ds : List D} {n : Nat}, (st0 ks ds n).length = n
  | _ :: ks, _ :: ds, n + 1 => congrArg (· + 1) (st0_len (ks := ks) (ds := ds) (n := n))
  | [], _, n => by simp [st0]
  | _ :: _, [], n => by simp [st0]
  | _ :: _, _ :: _, 0 => by simp [st0]
theorem st0_slot {K : PySem.W.Frag} {C : Cn} {F : List Addr} {H : Hp} (hF : C.F0 = F) (hH : C.K0 = H) : ∀ {ks : List Bool} {ds : List D} {vs : List V} {n : Nat}, DnA false K F (wv F H) vs ds → okK ks ds →
    ∀ (i : Nat) (s : Sl), (st0 ks ds n)[i]? = some s → Sk K C (· ∈ F) F H (vs.map some ++ List.replicate (n - vs.length) none)[i]? s
  | [], _, _, n, _, _, i, s, e => by
    have z : s = .un := by
      simp only [st0] at e
      exact (List.mem_replicate.mp (List.mem_of_getElem? e)).2
    subst z; trivial
  | _ :: _, [], _, n, _, _, i, s, e => by
    have z : s = .un := by
      simp only [st0] at e
      exact (List.mem_replicate.mp (List.mem_of_getElem? e)).2
    subst z; trivial
  | _ :: _, _ :: _, _, 0, _, _, i, s, e => by simp [st0] at e
  | b :: ks, d :: ds, _, n + 1, .cons (v := v) (vs := vs) h r, ok, 0, s, e => by
    have e : (if b = true then Sl.bor d else Sl.val d) = s := by simpa [st0] using e
    subst e
    cases b with
    | true =>
      rw [if_pos rfl]
      exact ⟨v, by simp, by rw [hF, hH]; exact h⟩
    | false =>
      rw [if_neg Bool.false_ne_true]
      exact ⟨v, by simp, h.up (ok.1 rfl)⟩
  | b :: ks, d :: ds, _, n + 1, .cons (v := v) (vs := vs) h r, ok, i + 1, s, e => by
    have e : (st0 ks ds n)[i]? = some s := by simpa [st0] using e
    have := st0_slot (n := n) hF hH r ok.2 i s e
    simpa [Nat.add_sub_add_right] using this
theorem st0_own {ks : List Bool} {ds : List D} {n : Nat} : ∀ (i : Nat) (es : List D), (st0 ks ds n)[i]? ≠ some (.own es) := by
  intro i es e
  induction ks generalizing ds n i with
  | nil =>
    simp only [st0] at e
    exact nomatch (List.mem_replicate.mp (List.mem_of_getElem? e)).2
  | cons b ks ih =>
    cases ds with
    | nil =>
      simp only [st0] at e
      exact nomatch (List.mem_replicate.mp (List.mem_of_getElem? e)).2
    | cons d ds =>
      cases n with
      | zero => simp [st0] at e
      | succ n =>
        cases i with
        | zero =>
          simp only [st0, List.getElem?_cons_zero, Option.some.injEq] at e
          split at e <;> cases e
        | succ i => exact ih i (by simpa [st0] using e)
section
variable {P : Program} {w : World} {K : PySem.W.Frag} {mg : Str → Option Value} {base : Heap} {W : Wd}
theorem sr_entry {C : Cn} {F : List Addr} {H : Hp} {m : C.W.M} {ks : List Bool} {ds : List D} {vs : List V} {N : List Str} (hF : C.F0 = F) (hH : C.K0 = H) (rz : C.W.Rz m F H) (dv : DnA false K F (wv F H) vs ds) (ok : okK ks ds) (hl : vs.length ≤ N.length) :
    SR K C (· ∈ F) F (L2.start N vs) (st0 ks ds N.length) m H where
  keep := fun a o _ e => by rw [hH] at e; exact e
  pre := ⟨[], by rw [hF]; simp⟩
  new := fun a h n => absurd h (by rw [hF] at n; exact n)
  prs := fun a h => C.W.there rz a h
  prn := fun a h n => absurd h n
  prf := fun a h => h
  rz := rz
  len := by
    rw [st0_len]
    unfold L2.start
    rw [List.length_append, List.length_map, List.length_replicate]
    omega
  slot := st0_slot hF hH dv ok
  dist := fun i j ds' es p _ e => absurd e (st0_own i ds')
abbrev XOf (P : Program) (w : World) (K : PySem.W.Frag) (mg : Str → Option Value) (base : Heap) (N : List Str) (x : Str) (sc : Scope) (f : Addr) (cdv : Value) (A : Around) (outer : List Env) (s : Shared) (H : Hp) (E : XK) : Cx := cxOf (L2.CX P w) P w K mg base N x sc f cdv A outer s H E
theorem fn_dataR {x : Str} {st : Stmt} {f : Addr} {fd : FuncData} {N ps : List Str} {k : Nat} {sp : DSp W.M} {t : DS W.M} (ks : List Bool)
    (rule : ∀ {sq : Sp}, (∀ vs H Q E, sq vs H Q E → vs.length = ps.length) → (∀ (cdv : Value) (A : Around) (out : List Env) (s : Shared) (H : Hp) (vs : List V) (Q : VK) (E : XK), RoomG k (A.deeper (envOfC x (defScope st) s.heap.objs.size f cdv)) → sq vs H Q E →
      ∃ t, PSs (cxOf (L2.CX P w) P w K mg base N x (defScope st) f cdv A out s H E) (defBody st) t ∧ t { nx := fun _ H1 => Q .non H1, rt := Q } (start N vs) H) → FnG P w K mg base (L2.CX P w) (k + 1) f fd ps sq)
    (len : ∀ ds m Q Z, sp ds m Q Z → ds.length = ps.length) (hn : ps.length ≤ N.length)
    (body : ∀ (cdv : Value) (A : Around) (outer : List Env) (s : Shared) (H : Hp) (E : XK) (F0 : List Addr), RoomG k (A.deeper (envOfC x (defScope st) s.heap.objs.size f cdv)) →
      JSLs (XOf P w K mg base N x (defScope st) f cdv A outer s H E) ⟨W, H, F0, fun cls d _ H' => E cls d H', H, fun _ _ h => h⟩ (defBody st) t)
    (vc : ∀ ds m Q Z, sp ds m Q Z → okK ks ds ∧ t { nx := fun _ m' => Q .non m', rt := Q, ex := Z } (st0 ks ds N.length) m) :
    FnG P w K mg base (L2.CX P w) (k + 1) f fd ps (spD K mg W sp) := by
  have ln : ∀ vs H Q E, spD K mg W sp vs H Q E → vs.length = ps.length := fun vs H Q E h => by
    obtain ⟨F, m, ds, Qd, Zd, rz, dv, q, _⟩ := h
    rw [dv.length]
    exact len _ _ _ _ q
  refine rule ln fun cdv A outer s H vs Q E hr h => ?_
  have lv := ln _ _ _ _ h
  obtain ⟨F0, m, ds, Qd, Zd, rz, dv, q, hq, hz⟩ := h
  obtain ⟨ts, p, r⟩ := body cdv A outer s H E F0 hr
  obtain ⟨ok, v⟩ := vc _ _ _ _ q
  refine ⟨ts, p, r (L2.start N vs) H (· ∈ F0) F0 _ m { nx := fun _ m' => Qd .non m', rt := Qd, ex := Zd } _ (sr_entry (C := ⟨W, H, F0, fun cls d _ H' => E cls d H', H, fun _ _ h => h⟩) rfl rfl rz dv ok (by omega)) ⟨fun σ' H' ρ' m' P1 F1 S1 q => ?_, fun v H' d m' P1 F1 σ' ρ' H1 S1 dv q => ?_, fun _ _ _ _ _ _ _ q => q.elim, fun _ _ _ _ _ _ _ q => q.elim, fun σ' ρ' y cls P1 F1 m' H' hm S1 q => ?_⟩ v⟩
  · exact hq .non H' F1 .non m' S1.rz S1.pre (fun a h n => S1.new a h n) (fun a o n e => S1.keep a o n e) .non q
  · exact hq v H' F1 d m' S1.rz S1.pre (fun a h n => S1.new a h n) (fun a o n e => S1.keep a o n e) dv q
  · exact hz y cls H' F1 m' hm S1.rz S1.pre (fun a h n => S1.new a h n) (fun a o n e => S1.keep a o n e) q
theorem fn_data {x : Str} {st : Stmt} {f : Addr} {fd : FuncData} {N ps : List Str} {k : Nat} {sp : DSp W.M} {t : DS W.M} (ks : List Bool) (F : Fun K x x st f fd) (S : FnScope N ps (defScope st))
    (len : ∀ ds m Q Z, sp ds m Q Z → ds.length = ps.length) (hn : ps.length ≤ N.length)
    (body : ∀ (cdv : Value) (A : Around) (outer : List Env) (s : Shared) (H : Hp) (E : XK) (F0 : List Addr), RoomG k (A.deeper (envOfC x (defScope st) s.heap.objs.size f cdv)) →
      JSLs (XOf P w K mg base N x (defScope st) f cdv A outer s H E) ⟨W, H, F0, fun cls d _ H' => E cls d H', H, fun _ _ h => h⟩ (defBody st) t)
    (vc : ∀ ds m Q Z, sp ds m Q Z → okK ks ds ∧ t { nx := fun _ m' => Q .non m', rt := Q, ex := Z } (st0 ks ds N.length) m) :
    FnG P w K mg base (L2.CX P w) (k + 1) f fd ps (spD K mg W sp) := fn_dataR ks (fun ln bd => okG F S ln bd) len hn body vc
theorem fd_of {g x : Str} {st : Stmt} {f : Addr} {fd : FuncData} {N ps : List Str} {k : Nat} {sp : DSp W.M} {t : DS W.M} (ks : List Bool) (F : Fun K x x st f fd) (gf : mg g = some (.ref f)) (b : Binds K fd ps []) (S : FnScope N ps (defScope st))
    (len : ∀ ds m Q Z, sp ds m Q Z → ds.length = ps.length) (hn : ps.length ≤ N.length)
    (body : ∀ (cdv : Value) (A : Around) (outer : List Env) (s : Shared) (H : Hp) (E : XK) (F0 : List Addr), RoomG k (A.deeper (envOfC x (defScope st) s.heap.objs.size f cdv)) →
      JSLs (XOf P w K mg base N x (defScope st) f cdv A outer s H E) ⟨W, H, F0, fun cls d _ H' => E cls d H', H, fun _ _ h => h⟩ (defBody st) t)
    (vc : ∀ ds m Q Z, sp ds m Q Z → okK ks ds ∧ t { nx := fun _ m' => Q .non m', rt := Q, ex := Z } (st0 ks ds N.length) m) : FD P w K mg base W (k + 1) g [] sp :=
  ⟨f, fd, ps, [], [], fn_data ks F S len hn body vc, gf, F.kp, b, .nil, fun _ _ => .nil⟩
structure Dfn (K : PySem.W.Frag) (mg : Str → Option Value) (g x : Str) (st : Stmt) (ps : List Str) : Prop where
  ex : ∃ f fd, Fun K x x st f fd ∧ mg g = some (.ref f) ∧ Binds K fd ps []
abbrev BodyJ (P : Program) (w : World) (K : PySem.W.Frag) (mg : Str → Option Value) (base : Heap) (W : Wd) (k : Nat) (N : List Str) (x : Str) (st : Stmt) (t : DS W.M) : Prop :=
  ∀ (f : Addr) (cdv : Value) (A : Around) (outer : List Env) (s : Shared) (H : Hp) (E : XK) (F0 : List Addr), RoomG k (A.deeper (envOfC x (defScope st) s.heap.objs.size f cdv)) →
      JSLs (XOf P w K mg base N x (defScope st) f cdv A outer s H E) ⟨W, H, F0, fun cls d _ H' => E cls d H', H, fun _ _ h => h⟩ (defBody st) t
theorem Dfn.fd {g x : Str} {st : Stmt} {N ps : List Str} {k : Nat} {sp : DSp W.M} {t : DS W.M} (F : Dfn K mg g x st ps) (ks : List Bool) (S : FnScope N ps (defScope st)) (body : BodyJ P w K mg base W k N x st t)
    (len : ∀ ds m Q Z, sp ds m Q Z → ds.length = ps.length) (vc : ∀ ds m Q Z, sp ds m Q Z → okK ks ds ∧ t { nx := fun _ m' => Q .non m', rt := Q, ex := Z } (st0 ks ds N.length) m) (hn : ps.length ≤ N.length := by decide) : FD P w K mg base W (k + 1) g [] sp := by
  obtain ⟨f, fd, Fn, gf, b⟩ := F.ex
  exact fd_of ks Fn gf b S len hn (body f) vc
theorem FD.mono {j k : Nat} {x : Str} {dds : List D} {sp : DSp W.M} (h : FD P w K mg base W j x dds sp) (l : j ≤ k) : FD P w K mg base W k x dds sp := by
  obtain ⟨f, fd, ps, ds, dvs, F, r⟩ := h
  exact ⟨f, fd, ps, ds, dvs, F.mono l, r⟩
end
def W0 : Wd where
  M := Unit
  Rz := fun _ F _ => F = []
  keep := fun h _ _ => h
  there := fun h a ha => by rw [h] at ha; cases ha
def spLaw (K : PySem.W.Frag) : Sp := fun vs H Q _ => ∃ (a : Addr) (ns : List Int), vs = [.ref a] ∧ SqL K H a (ns.map V.int) ∧ ns.length ≤ 63 ∧ ∀ H', Q (.bl true) H'
theorem ints_dn {s : Bool} {K : PySem.W.Frag} {F : List Addr} {G : Hp} : ∀ ns : List Int, DnA s K F G (ns.map V.int) (ns.map D.int)
  | [] => .nil
  | n :: ns => .cons (.int n) (ints_dn ns)
theorem law_of {P : Program} {w : World} {K : PySem.W.Frag} {mg : Str → Option Value} {base : Heap} {W : Wd} {k : Nat} {f : Addr} {fd : FuncData} {ps : List Str} {sp : DSp W.M} {m0 : W.M} (F : FnG P w K mg base (L2.CX P w) k f fd ps (spD K mg W sp)) (r0 : ∀ H, W.Rz m0 [] H)
    (h : ∀ ns : List Int, ns.length ≤ 63 → sp [.lst (ns.map D.int)] m0 (fun d _ => d = .bl true) (fun _ _ => False)) : FnG P w K mg base (L2.CX P w) k f fd ps (spLaw K) := by
  refine F.imp fun vs H Q E h' => ?_
  obtain ⟨a, ns, rfl, hs, hl, q⟩ := h'
  refine ⟨[], m0, [.lst (ns.map D.int)], _, _, r0 H, .cons (.lst (Ls.mono (s := false) (fun a o e => vw_iff.mpr ⟨e, by simp⟩) (show Ls false K H a _ from hs)) (ints_dn ns)) .nil, h ns hl, fun v H' F' d m' _ _ _ _ dn e => ?_, fun _ _ _ _ _ _ _ _ _ _ z => z.elim⟩
  subst e
  cases dn
  exact q H'
end RR
namespace RR
open PySem PySem.Spec PyProof.Rows L2
structure DfD (K : PySem.W.Frag) (mg : Str → Option Value) (g x : Str) (st : Stmt) (ps : List Str) (zs : List Int) : Prop where
  ex : ∃ f fd, FunD K x x (defArgs st) (defBody st) (defScope st) (zs.map V.int) [] f fd ∧ mg g = some (.ref f) ∧ ∀ j, j ≤ zs.length → ∃ ds, Vals ((zs.map V.int).drop j) ds ∧ Binds K fd ps ds
section
variable {P : Program} {w : World} {K : PySem.W.Frag} {mg : Str → Option Value} {base : Heap} {W : Wd}
theorem DfD.go {g x : Str} {st : Stmt} {N ps : List Str} {zs : List Int} {k : Nat} {sp : DSp W.M} {t : DS W.M} (F : DfD K mg g x st ps zs) (j : Nat) (ks : List Bool) (S : FnScope N ps (defScope st)) (body : BodyJ P w K mg base W k N x st t)
    (vc : ∀ ds m Q Z, sp ds m Q Z → okK ks ds ∧ t { nx := fun _ m' => Q .non m', rt := Q, ex := Z } (st0 ks ds N.length) m) (len : ∀ ds m Q Z, sp ds m Q Z → ds.length = ps.length) (hj : j ≤ zs.length := by decide) (hn : ps.length ≤ N.length := by decide) :
    FD P w K mg base W (k + 1) g ((zs.drop j).map D.int) sp := by
  obtain ⟨f, fd, G, gf, bn⟩ := F.ex
  obtain ⟨ds, vds, bd⟩ := bn j hj
  have kp := G.kp
  obtain ⟨_, _, _, _, _, _, _, cdv, _, _, rfl, lk, cd, _, _⟩ := G.ex
  have ln : ∀ vs H Q E, spD K mg W sp vs H Q E → vs.length = ps.length := fun vs H Q E h => by
    obtain ⟨F0, m, ds, Qd, Zd, rz, dv, q, _⟩ := h
    rw [dv.length]
    exact len _ _ _ _ q
  refine ⟨f, _, ps, ds, (zs.map V.int).drop j, ?_, gf, kp, bd, vds, fun F0 G0 => by rw [← List.map_drop]; exact ints_dn _⟩
  exact fn_dataR (x := x) (st := st) ks (fun ln bd => fnG_mk lk cd S ln fun room asked => bd cdv _ _ _ _ _ _ _ room asked) len hn (body f) vc
end
end RR
namespace RR
open PySem PySem.Spec PyProof.Rows L2
def bd (n : Nat) (x : Int) : Prop := x.natAbs < 2 ^ n
theorem mulok {i j : Int} {a b : Nat} (ha : bd a i) (hb : bd b j) (h : a + b ≤ 100000000 := by decide) : IntMulOk i j := by
  have l : ∀ {x : Int} {n : Nat}, x.natAbs < 2 ^ n → Builtin.Int.intBits x ≤ n := fun {x n} h => by
    unfold Builtin.Int.intBits
    split
    · exact Nat.zero_le _
    · rename_i h0
      have h0 : x.natAbs ≠ 0 := by simpa using h0
      exact (Nat.log2_lt h0).mpr h
  have h1 := l ha
  have h2 := l hb
  have e : bitsLine = 134217728 := by decide
  intro z
  rw [Bool.and_eq_true] at z
  have z2 := z.2
  unfold Builtin.Int.intTooBig at z2
  have z3 := of_decide_eq_true z2
  rw [e] at z3
  omega
theorem bd_mul {a b : Nat} {x y : Int} (h : bd a x) (h' : bd b y) : bd (a + b) (x * y) := by
  unfold bd at *
  rw [Int.natAbs_mul, Nat.pow_add]
  exact Nat.mul_lt_mul'' h h'
theorem bd_mono {a b : Nat} {x : Int} (h : bd a x) (l : a ≤ b) : bd b x := Nat.lt_of_lt_of_le h (Nat.pow_le_pow_right (by decide) l)
theorem bd_add {a b : Nat} {x y : Int} (h : bd a x) (h' : bd b y) : bd (max a b + 1) (x + y) := by
  have h1 : bd (max a b) x := bd_mono h (by omega)
  have h2 : bd (max a b) y := bd_mono h' (by omega)
  unfold bd at *
  rw [Nat.pow_succ]
  omega
theorem bd_neg {a : Nat} {x : Int} (h : bd a x) : bd a (-x) := by unfold bd at *; omega
theorem bd_sub {a b : Nat} {x y : Int} (h : bd a x) (h' : bd b y) : bd (max a b + 1) (x - y) := by
  have := bd_add h (bd_neg h')
  rwa [← Int.sub_eq_add_neg] at this
theorem bd_lit {n : Nat} {x : Int} (h : x.natAbs < 2 ^ n) : bd n x := h
theorem bd_fmod {b : Nat} {x y : Int} (h : bd b y) (h0 : 0 < y) : bd b (x.fmod y) := by
  have h1 := Int.fmod_nonneg_of_pos x h0
  have h2 := Int.fmod_lt_of_pos x h0
  unfold bd at *
  omega
theorem iabs_eq (x : Int) : iabs x = (x.natAbs : Int) := by unfold iabs; split <;> omega
theorem imax_eq (x y : Int) : imax x y = max x y := by unfold imax; omega
theorem nd_small {i j : Int} {b : Nat} (h : j ≠ 0) (hb : bd b j) (l : b ≤ 9000 := by decide) : Nd i j := by
  refine ⟨h, PyProof.noPylong_of_log2 ?_⟩
  have h0 : j.natAbs ≠ 0 := by omega
  have := (Nat.log2_lt h0).mpr hb
  omega
theorem fdiv_pos {i j : Int} (h : 0 ≤ j) : i.fdiv j = i / j := Int.fdiv_eq_ediv_of_nonneg i h
theorem small_line {n : Nat} (h : n ≤ 16777216) : n ≤ sizeLine := by rw [sizeLine_eq]; exact h
theorem lt_line {n : Nat} (h : n < 16777216) : n < sizeLine := by rw [sizeLine_eq]; exact h
abbrev zz (xs : List Int) : List D := xs.map D.int
theorem nls_ints : ∀ xs : List Int, D.nls (zz xs) = true
  | [] => rfl
  | _ :: xs => nls_ints xs
theorem nl_row (xs : List Int) : D.nl (.tup (zz xs)) = true := nls_ints xs
theorem q_int {n : Nat} {i : Int} : (D.int i).q n = true := by cases n <;> rfl
theorem q_row {n : Nat} (xs : List Int) : (D.tup (zz xs)).q (n + 1) = true := List.all_eq_true.mpr fun d hd => by
  obtain ⟨i, _, rfl⟩ := List.mem_map.mp hd
  exact q_int
theorem q_lst {n : Nat} (xs : List Int) : (D.lst (zz xs)).q (n + 1) = true := List.all_eq_true.mpr fun d hd => by
  obtain ⟨i, _, rfl⟩ := List.mem_map.mp hd
  exact q_int
theorem eqvs_ints : ∀ xs ys : List Int, D.eqvs (zz xs) (zz ys) = decide (xs = ys)
  | [], [] => rfl
  | [], _ :: _ => rfl
  | _ :: _, [] => rfl
  | x :: xs, y :: ys => by
    show ((D.int x).eqv (.int y) && D.eqvs (zz xs) (zz ys)) = _
    rw [eqvs_ints xs ys]
    show (decide (x = y) && decide (xs = ys)) = _
    rw [Bool.eq_iff_iff]
    simp
theorem eqv_row (xs ys : List Int) : (D.tup (zz xs)).eqv (.tup (zz ys)) = decide (xs = ys) := eqvs_ints xs ys
theorem eqv_lst (xs ys : List Int) : (D.lst (zz xs)).eqv (.lst (zz ys)) = decide (xs = ys) := eqvs_ints xs ys
theorem eqv_int (x y : Int) : (D.int x).eqv (.int y) = decide (x = y) := rfl
theorem atI_ints {xs : List Int} {i : Int} : atI (zz xs) i = (atI xs i).map D.int := by
  unfold atI
  rw [List.length_map]
  cases ixN xs.length i with
  | none => rfl
  | some j => simp
theorem atI_at {α : Type} {xs : List α} {i : Int} (h0 : 0 ≤ i) (h1 : i < xs.length) : atI xs i = some (xs[i.toNat]'(by omega)) := by
  unfold atI ixN
  rw [if_pos h0, if_pos h1]
  simp
theorem ixN_at {n : Nat} {i : Int} (h0 : 0 ≤ i) (h1 : i < n) : ixN n i = some i.toNat := by
  unfold ixN
  rw [if_pos h0, if_pos h1]
theorem iota_map (n : Nat) : iota 0 n = (List.range n).map fun k => D.int (k : Nat) := by
  unfold iota
  refine List.map_congr_left fun k _ => ?_
  rw [Int.zero_add]
theorem cut_upto {ds : List D} {k : Int} (h0 : 0 ≤ k) : cutD ds none (some k) = ds.take k.toNat := by
  unfold cutD
  obtain ⟨n, rfl⟩ := Int.eq_ofNat_of_zero_le h0
  rw [HT.sIx_none, HT.sIx_nat, List.drop_zero, Nat.sub_zero]
  simp only [Int.toNat_natCast]
  rcases Nat.le_total n ds.length with h | h
  · rw [Nat.min_eq_left h]
  · rw [Nat.min_eq_right h, List.take_length, List.take_of_length_le h]
section
variable {M : Type} {α : Type} {g : DG} {tt : DTT M} {te : DT M} {ρ : En}
theorem lcGo_filter {inj h : α → D} {keep : α → Bool} : ∀ (xs : List α) {acc : List D} {m : M} {Q : List D → M → Prop},
    (∀ a ∈ xs, ∀ m (k : D → M → Prop) (l : M → Prop), (keep a = true → k (h a) m) → (keep a = false → l m) → g (inj a) ρ fun ρ2 => tt ρ2 m (fun b m1 => if b = true then te ρ2 m1 k (fun _ _ => False) else l m1) (fun _ _ => False)) →
    acc.length + xs.length ≤ sizeLine → Q (acc ++ (xs.filter keep).map h) m → lcGo g tt te ρ (xs.map inj) acc m Q
  | [], acc, m, Q, _, _, q => by
    show Q acc m
    simpa using q
  | a :: xs, acc, m, Q, st, hl, q => by
    rw [List.length_cons] at hl
    refine st a List.mem_cons_self m _ _ (fun hk => ⟨by omega, ?_⟩) fun hk => ?_
    · refine lcGo_filter xs (fun b hb => st b (List.mem_cons_of_mem _ hb)) (by rw [List.length_append, List.length_cons, List.length_nil]; omega) ?_
      rw [List.filter_cons_of_pos hk, List.map_cons] at q
      simpa using q
    · refine lcGo_filter xs (fun b hb => st b (List.mem_cons_of_mem _ hb)) (by omega) ?_
      rw [List.filter_cons_of_neg (by simp [hk])] at q
      exact q
theorem lcGo_map {inj h : α → D} (xs : List α) {m : M} {Q : List D → M → Prop}
    (st : ∀ a ∈ xs, ∀ m (k : D → M → Prop) (l : M → Prop), k (h a) m → g (inj a) ρ fun ρ2 => tt ρ2 m (fun b m1 => if b = true then te ρ2 m1 k (fun _ _ => False) else l m1) (fun _ _ => False))
    (hl : xs.length ≤ sizeLine) (q : Q (xs.map h) m) : lcGo g tt te ρ (xs.map inj) [] m Q := by
  refine lcGo_filter (keep := fun _ => true) xs (fun a ha m k l h1 _ => st a ha m k l (h1 rfl)) (by simpa using hl) ?_
  rw [List.filter_eq_self.mpr fun _ _ => rfl]
  simpa using q
theorem lcGo_any {P : D → Prop} {S : Nat → M → Prop} : ∀ (items : List D) {acc : List D} {m : M} {Q : List D → M → Prop},
    (∀ x ∈ items, ∀ n m (k : D → M → Prop) (l : M → Prop), S (n + 1) m → (∀ y m1, P y → S n m1 → k y m1) → g x ρ fun ρ2 => tt ρ2 m (fun b m1 => if b = true then te ρ2 m1 k (fun _ _ => False) else l m1) (fun _ _ => False)) →
    acc.length + items.length ≤ sizeLine → S items.length m → (∀ ds m1, ds.length = items.length → (∀ d ∈ ds, P d) → S 0 m1 → Q (acc ++ ds) m1) → lcGo g tt te ρ items acc m Q
  | [], acc, m, Q, _, _, s, q => by
    have := q [] m rfl (fun _ h => nomatch h) s
    rw [List.append_nil] at this
    exact this
  | x :: xs, acc, m, Q, st, hl, s, q => by
    rw [List.length_cons] at hl
    refine st x List.mem_cons_self xs.length m _ _ s fun y m1 py s1 => ⟨by omega, ?_⟩
    refine lcGo_any xs (fun b hb => st b (List.mem_cons_of_mem _ hb)) (by rw [List.length_append, List.length_cons, List.length_nil]; omega) s1 fun ds m2 l p s2 => ?_
    have := q (y :: ds) m2 (by rw [List.length_cons, List.length_cons, l]) (fun d hd => (List.mem_cons.mp hd).elim (fun e => e ▸ py) (p d)) s2
    simpa using this
end
theorem ints_of {P : Int → Prop} : ∀ {ds : List D}, (∀ d ∈ ds, ∃ x, d = .int x ∧ P x) → ∃ xs : List Int, ds = zz xs ∧ ∀ x ∈ xs, P x
  | [], _ => ⟨[], rfl, fun _ h => nomatch h⟩
  | d :: ds, h => by
    obtain ⟨x, rfl, px⟩ := h d List.mem_cons_self
    obtain ⟨xs, rfl, p⟩ := ints_of fun e he => h e (List.mem_cons_of_mem _ he)
    exact ⟨x :: xs, rfl, fun y hy => (List.mem_cons.mp hy).elim (fun e => e ▸ px) (p y)⟩
end RR
namespace RR
open PySem PySem.Spec PyProof.Rows L2
section
variable {X : Cx}
end
mutual
theorem py_nodict : ∀ d : D, d.py.hasDict = false
  | .non => by simp only [D.py, PyData.hasDict]
  | .bl b => by simp only [D.py, PyData.hasDict]
  | .int i => by simp only [D.py, PyData.hasDict]
  | .str x => by simp only [D.py, PyData.hasDict]
  | .hnd n => by simp only [D.py, PyData.hasDict]
  | .dic => by simp only [D.py, PyData.hasDict]
  | .exc n => by simp only [D.py, PyData.hasDict]
  | .fn n => by simp only [D.py, PyData.hasDict]
  | .ptr n => by simp only [D.py, PyData.hasDict]
  | .dc1 _ _ => by simp only [D.py, PyData.hasDict]
  | .tup xs => by simp only [D.py, PyData.hasDict]; exact pys_nodict xs
  | .lst xs => by simp only [D.py, PyData.hasDict]; exact pys_nodict xs
theorem pys_nodict : ∀ ds : List D, PyData.hasDictAll (D.pys ds) = false
  | [] => by simp only [D.pys, PyData.hasDictAll]
  | d :: ds => by simp only [D.pys, PyData.hasDictAll, py_nodict d, pys_nodict ds, Bool.or_self]
end
def D.rep (d : D) : Str := d.py.shown
def D.sho (d : D) : Prop := d.q 8 = true ∧ d.py.showable = true ∧ d.py.shown.length ≤ sizeLine
section
variable {X : Cx} {C : Cn}
end
end RR
namespace RR
open PySem PySem.Spec PyProof.Rows L2
theorem q_up : ∀ {n : Nat} {d : D}, d.q n = true → d.q (n + 1) = true
  | n, .non, _ => by cases n <;> rfl
  | n, .bl b, _ => by cases n <;> rfl
  | n, .int i, _ => by cases n <;> rfl
  | n, .str x, h => by cases n <;> exact h
  | n, .hnd x, h => by cases n <;> cases h
  | n, .dic, h => by cases n <;> cases h
  | n, .exc x, h => by cases n <;> cases h
  | n, .fn x, h => by cases n <;> cases h
  | n, .ptr x, h => by cases n <;> cases h
  | n, .dc1 _ _, h => by cases n <;> cases h
  | 0, .tup xs, h => by cases h
  | 0, .lst xs, h => by cases h
  | n + 1, .tup xs, h => List.all_eq_true.mpr fun d hd => q_up (List.all_eq_true.mp h d hd)
  | n + 1, .lst xs, h => List.all_eq_true.mpr fun d hd => q_up (List.all_eq_true.mp h d hd)
theorem q_le {n k : Nat} {d : D} (h : d.q n = true) (l : n ≤ k) : d.q k = true := by
  induction l with
  | refl => exact h
  | step _ ih => exact q_up ih
structure Sh (k c : Nat) (d : D) : Prop where
  q : d.q k = true
  s : d.py.showable = true
  l : d.py.shown.length ≤ c
theorem Sh.le {k k' c c' : Nat} {d : D} (h : Sh k c d) (hk : k ≤ k') (hc : c ≤ c') : Sh k' c' d := ⟨q_le h.q hk, h.s, Nat.le_trans h.l hc⟩
theorem Sh.sho {k c : Nat} {d : D} (h : Sh k c d) (hk : k ≤ 8 := by decide) (hc : c ≤ 16777216 := by decide) : d.sho := ⟨q_le h.q hk, h.s, small_line (Nat.le_trans h.l hc)⟩
theorem log_of_bd {n : Nat} {i : Int} (h : bd n i) (hn : 0 < n) : i.natAbs.log2 < n := by
  by_cases z : i.natAbs = 0
  · rw [z]
    exact Nat.lt_of_le_of_lt (Nat.le_of_eq (by decide : Nat.log2 0 = 0)) hn
  · exact (Nat.log2_lt z).mpr h
end RR
namespace RR
open PySem PySem.Spec PyProof.Rows L2
section
variable {X : Cx} {pins : List (Addr × Obj)} {σ : L2.St} {H : Hp} {s : Shared}
theorem Inv.told {a : Addr} {o : HO} (I : Inv X pins σ H s) (h0 : X.s_0.heap.get? a = none) (hn : H a = none) (nL : a ≠ X.env.locals) (nC : ∀ x c, X.env.cells.lookup x = some c → c ≠ a) (nP : ∀ p ∈ X.pn ++ pins, p.1 ≠ a)
    (new : ObjOk X.prog X.w (upd H a o) s.heap a o) : Inv X pins σ (upd H a o) s := by
  have ne0 : ∀ {b u}, X.s_0.heap.get? b = some u → b ≠ a := fun e z => by rw [z, h0] at e; cases e
  have neH : ∀ {b u}, H b = some u → b ≠ a := fun e => ne_of_none e hn
  refine ⟨I.ok, I.os, I.bare, ⟨I.base.keep, I.base.slot, fun b u e n hx => ?_, I.base.there, fun b xs e => ?_, fun b u v e => ?_, fun b ps e => ?_⟩, I.loc, I.cell, ?_, fun x c e => ?_, fun p hp => ?_, fun b u e => ?_, I.len⟩
  · rw [upd_ne (ne0 e)]; exact I.base.free b u e n hx
  · have q := I.base.tups b xs e
    rw [upd_ne (neH q)]; exact q
  · have q := I.base.frzs b u v e
    rw [upd_ne (neH q)]; exact q
  · obtain ⟨m, q⟩ := I.base.tbls b ps e
    exact ⟨m, by rw [upd_ne (neH q)]; exact q⟩
  · rw [upd_ne nL.symm]; exact I.free
  · rw [upd_ne (nC x c e)]; exact I.freeC x c e
  · obtain ⟨e1, e2, e3⟩ := I.pin p hp
    exact ⟨e1, by rw [upd_ne (nP p hp)]; exact e2, e3⟩
  · by_cases hb : b = a
    · subst hb
      rw [upd_same] at e; cases e
      exact new
    · rw [upd_ne hb] at e
      exact (I.hok b u e).stay (fun c v _ q => q) (fun c q => by rw [upd_ne (neH q)]; exact q) fun c xs q => by rw [upd_ne (neH q)]; exact q
end
section
variable {X : Cx} {x n y : Str} {c : Value} {i j : Nat} {body : List Stmt} {np n2 yp ap pos pos' : Pos} {tb : WX → TS} {Wout : WX}
end
end RR
namespace RR
open PySem PySem.Spec PyProof.Rows L2
section
variable {X : Cx} {C : Cn} {e a b : Expr} {es : List Expr} {pos : Pos} {ta tb : DT C.W.M}
theorem j_dic : J .f X C (.Dict [] [] pos) (dC .dic) := by
  refine ⟨_, pe_dnewK, fun σ H Pr F ρ m Q Z R S E q k p hp => k _ _ ?_⟩
  obtain ⟨S2, t2⟩ := S.new1 (o := .dK []) hp
  have np := S.np hp
  exact ⟨Pr, F, m, .dic, S2, t2, ⟨.dic (vw_iff.mpr ⟨upd_same, .inr ⟨trivial, np, S.h0n hp⟩⟩), fun ds e => nomatch e⟩, q⟩
def gIsB : G2 := fun x y Q => match x, y with | .bl i, .bl j => Q (.bl (decide (i = j))) | _, _ => False
def gNotB : G2 := fun x y Q => match x, y with | .bl i, .bl j => Q (.bl (!decide (i = j))) | _, _ => False
theorem DnA.bls {s : Bool} {K : PySem.W.Frag} {F : List Addr} {G : Hp} : ∀ {vs : List V} {bs : List Bool}, DnA s K F G vs (bs.map D.bl) → vs = bs.map V.bl
  | _, [], h => by cases h; rfl
  | _, b :: bs, h => by
    have h : DnA s K F G _ (.bl b :: bs.map D.bl) := h
    cases h with
    | cons x y => cases x; rw [DnA.bls y, List.map_cons]
def gAll : List D → (D → Prop) → Prop
  | [.lst ds], Q => ∃ bs : List Bool, ds = bs.map D.bl ∧ Q (.bl (bs.all id))
  | _, _ => False
theorem ca_all (hc : X.calm = true) : CaOk X C .w (.builtin "all") gAll := by
  refine ⟨_, cr_all hc, fun σ H Pr F ρ m vs ds Q R S dv q k => ?_⟩
  have dv : DnA false X.K F (wv F H) vs ds := dv
  unfold gAll at q
  split at q
  · obtain ⟨bs, rfl, q⟩ := q
    cases dv with
    | cons h r =>
      cases r
      obtain ⟨a, us, rfl, hs, hl, hr⟩ := h.sqL (fun _ _ => wv_le)
      rw [hr.bls] at hs
      exact ⟨a, bs, rfl, hs, k _ _ (post_here S (.bl _) (fun _ h => nomatch h) q)⟩
  · exact q.elim
theorem j_ixww (ha : J .w X C a ta) (hb : J .w X C b tb) (hs : PlainIx b := by exact fun _ _ => rfl) : J .w X C (.Subscript a b pos) (dBin (gIx false) ta tb) := by
  obtain ⟨te, p, q1⟩ := ha
  obtain ⟨te', p', q2⟩ := hb
  refine ⟨_, pe_ix ix_seq p p' hs, fun σ H Pr F ρ m Q Z R S E h k => ?_⟩
  refine q1 σ H Pr F ρ m _ Z _ S E h fun v H1 ⟨P1, F1, m1, d, S1, t1, dv, z⟩ => ?_
  refine q2 σ H1 P1 F1 ρ m1 _ Z _ S1 (E.te t1.toTr) z fun w H2 ⟨P2, F2, m2, d2, S2, t2, dv2, z2⟩ => ?_
  have dv2 : Dn false X.K F2 (wv F2 H2) w d2 := dv2
  have hw : ∀ i, d2 = .int i → w = .int i := fun i e => by rw [e] at dv2; exact dv2.toInt
  exact ix_core (fun _ _ => wv_le) (Dn.te t2 dv) (.inr hw) hw z2 fun v' d' h n q => k _ _ ⟨P2, F2, m2, d', S2, t1.trans t2, h, q⟩
def dIsE {M : Type} (bs : List (Str × Bool)) (t : DT M) : DT M := fun ρ m Q Z => t ρ m (fun d m1 => match d with | .exc x => (match bs.lookup x with | some b => Q (.bl b) m1 | none => False) | _ => False) Z
variable {t u : DS C.W.M} {body els : List Stmt}
def dTry {M : Type} (xs : List Str) (i j : Nat) (t : DS M) : DS M := fun E ρ m => t ⟨E.nx, fun _ _ => False, fun _ _ => False, fun _ _ => False, fun x m' => x ∈ xs ∧ E.nx (((ρ.set i .un).set j (.val (.exc x))).set i .un) m'⟩ ρ m
end
end RR
namespace RR
open PySem PySem.Spec PyProof.Rows L2
section
variable {K : PySem.W.Frag} {mg : Str → Option Value} {T x : Str}
end
end RR
namespace RR
open PySem PySem.Spec PyProof.Rows L2
section
variable {X : Cx} {C : Cn} {pos : Pos}
def dPar3 {M : Type} (i j l : Nat) (t : DTA M) : DS M := fun E ρ m => t ρ m (fun ds m' => match ds with | [x, y, z] => E.nx (((ρ.set i (.val x)).set j (.val y)).set l (.val z)) m' | _ => False) E.ex
end
end RR
namespace RR
open PySem PySem.Spec PyProof.Rows L2
section
variable {X : Cx} {C : Cn} {e : Expr} {es : List Expr} {pos : Pos} {k : Nat}
end
end RR
namespace RR
open PySem PySem.Spec PyProof.Rows L2 HT
section
variable {prog : Program} {w : World} {A : Around} {E : Value → Shared → Prop} {s : Shared}
end
section
variable {X : Cx}
end
section
variable {X : Cx} {C : Cn} {e : Expr}
def dRvs {M : Type} (t : DT M) : DT M := fun ρ m Q Z => t ρ m (fun x m1 => match x with
  | .lst ds => D.nls ds = true ∧ Q (.lst ds.reverse) m1
  | .tup ds => D.nls ds = true ∧ Q (.tup ds.reverse) m1
  | _ => False) Z
end
end RR
namespace RR
open PySem PySem.Spec PyProof.Rows L2
section
variable {X : Cx} {C : Cn} {e f : Expr} {pos : Pos}
end
section
variable {M : Type} {ρ : En} {m : M} {Q : D → M → Prop} {Z : Str → M → Prop} {nx : En → M → Prop} {rt : D → M → Prop} {bk ct : En → M → Prop} {ex : Str → M → Prop} {ds es : List D}
theorem v_appL {i : Nat} {te : DT M} (e : ρ[i]? = some (.own ds)) (h : te ρ m (fun d m' => ds.length < sizeLine ∧ nx (ρ.set i (.own (ds ++ [d]))) m') ex) : dAppL i te ⟨nx, rt, bk, ct, ex⟩ ρ m := by
  unfold dAppL; rw [e]; exact h
theorem v_setIL {i : Nat} {te tk : DT M} (e : ρ[i]? = some (.own ds)) (h : te ρ m (fun d m1 => tk ρ m1 (fun k m2 => match k with
    | .int k => (match ixN ds.length k with | some j => nx (ρ.set i (.own (ds.set j d))) m2 | none => False) | _ => False) ex) ex) : dSetIL i te tk ⟨nx, rt, bk, ct, ex⟩ ρ m := by
  unfold dSetIL; rw [e]; exact h
end
end RR
namespace RR.ZM
open PySem PySem.Spec PyProof.Rows L2 RZ
section
variable {prog : Program} {w : World} {A : Around} {E : Value → Shared → Prop} {s : Shared} {z TI TO i1 i2 l1 l2 : Addr} {k1 k2 : Nat} {xs ys : Array Value} {x y a b : Value}
structure Wk2 (h : Heap) (z TI TO i1 i2 l1 l2 : Addr) (k1 k2 : Nat) (xs ys : Array Value) (a b : Value) : Prop where
  z0 : IsZip h z TI TO .none
  ti : IsPair h TI (.ref i1) (.ref i2)
  tg : IsPair h TO a b
  j1 : h.IsListIter i1 l1 k1
  j2 : h.IsTupleIter i2 l2 k2
  s1 : h.IsList l1 xs
  s2 : h.IsTuple l2 ys
def Stay (h h' : Heap) (z TO i1 i2 : Addr) : Prop := ∀ c o, c ≠ z → c ≠ TO → c ≠ i1 → c ≠ i2 → h.get? c = some o → h'.get? c = some o
theorem one_item {Q : Value → Shared → Prop} (D : ZipApart z TI TO i1 i2 l1 l2) (S : Wk2 s.heap z TI TO i1 i2 l1 l2 k1 k2 xs ys a b) (hx : xs[k1]? = some x) (hy : ys[k2]? = some y)
    (q : ∀ h', IsZip h' z TI TO (rawInt s.heap.objs.size) → IsPair h' TO x y → h'.IsListIter i1 l1 (k1 + 1) → h'.IsTupleIter i2 l2 (k2 + 1) → IsPair h' s.heap.objs.size x y → h'.objs.size = s.heap.objs.size + 1 → Stay s.heap h' z TO i1 i2 → Q (.ref s.heap.objs.size) { s with heap := h' }) :
    wpAny (model prog w) A (Builtin.«zip.__next__» ⟨[.ref z], []⟩) (fun r s' => ∃ v, r = .done (.ret v) ∧ Q v s') E s := by
  obtain ⟨z0, ti, tg, j1, j2, t1, t2⟩ := S
  (show wpAny _ _ (field (.ref _) 2 >>= _) _ _ _; refine wpAny_bind (wpAny_field z0 rfl (x := (.bool false)) rfl ?_))
  (show wpAny _ _ (field (.ref _) 3 >>= _) _ _ _; refine wpAny_bind (wpAny_field z0 rfl (x := (.ref TI)) rfl ?_))
  refine wpAny_bind (wpAny_seqItems ti rfl ?_)
  (show wpAny _ _ (Builtin.SmallTypes.ownedTupleIsFree (.ref z) >>= _) _ _ _); refine wpAny_bind ?_; unfold Builtin.SmallTypes.ownedTupleIsFree
  refine wpAny_bind (wpAny_field z0 rfl (x := .none) rfl (wpAny_pure ?_)); simp only [if_true]; refine wpAny_bind (wpAny_rule ?_); refine wpAny_bind (wpAny_field z0 rfl (x := .ref TO) rfl ?_)
  refine wpAny_bind (wpAny_setField_rec z0 (by simp) fun ha za ea => ?_); replace za : IsZip ha z TI TO .ellipsis := za
  refine wpAny_bind ?_; simp only [List.zipIdx_cons, List.zipIdx_nil, List.forIn_cons, List.forIn_nil]
  refine wpAny_bind (wpAny_bind (wpAny_onRaise ?_)); show wpAny _ _ (Builtin.SmallTypes.nextOf (.ref i1) >>= _) _ _ _
  refine wpAny_bind (wpAny_nextOf_list_item (j1.extBut ea.extBut D.i1z) (t1.extBut ea.extBut D.l1z) hx fun hb jb eb => wpAny_pure ?_)
  have pb : IsPair hb TO a b := eb.extBut _ _ D.TOi1 (ea.extBut _ _ D.TOz tg)
  refine wpAny_bind (wpAny_seqItems pb rfl ?_); refine wpAny_bind (wpAny_updateSeq_pair pb fun hc pc ec => ?_); replace pc : IsPair hc TO x b := pc
  refine wpAny_bind (wpAny_letGo (wpAny_pure ?_)); refine wpAny_bind (wpAny_bind (wpAny_onRaise ?_)); show wpAny _ _ (Builtin.SmallTypes.nextOf (.ref i2) >>= _) _ _ _
  have j2c : hc.IsTupleIter i2 l2 k2 := ((j2.extBut ea.extBut D.i2z).extBut eb.extBut D.i12.symm).extBut ec.extBut D.TOi2.symm
  have t2c : hc.IsTuple l2 ys := ((t2.extBut ea.extBut D.l2z).extBut eb.extBut D.l2i1).extBut ec.extBut D.l2TO
  refine wpAny_bind (nextOf_tuple_item j2c t2c hy fun hd jd ed => wpAny_pure ?_)
  have pd : IsPair hd TO x b := ed.extBut _ _ D.TOi2 pc
  refine wpAny_bind (wpAny_seqItems pd rfl ?_); refine wpAny_bind (wpAny_updateSeq_pair pd fun he pe ee => ?_); replace pe : IsPair he TO x y := pe
  refine wpAny_bind (wpAny_letGo (wpAny_pure (wpAny_pure ?_))); refine wpAny_bind (wpAny_seqItems pe rfl ?_); refine wpAny_bind (wpAny_newTuple ?_)
  have sz : he.objs.size = s.heap.objs.size := by rw [ee.1, ed.1, ec.1, eb.1, ea.1]
  have ze : IsZip he z TI TO .ellipsis := ee.extBut _ _ D.TOz.symm (ed.extBut _ _ D.i2z.symm (ec.extBut _ _ D.TOz.symm (eb.extBut _ _ D.i1z.symm za)))
  have st : Stay s.heap he z TO i1 i2 := fun c o c1 c2 c3 c4 e => ee.extBut _ _ c2 (ed.extBut _ _ c4 (ec.extBut _ _ c2 (eb.extBut _ _ c3 (ea.extBut _ _ c1 e))))
  have f1 : he.IsListIter i1 l1 (k1 + 1) := ((jb.extBut ec.extBut D.TOi1.symm).extBut ed.extBut D.i12).extBut ee.extBut D.TOi1.symm
  have f2 : he.IsTupleIter i2 l2 (k2 + 1) := jd.extBut ee.extBut D.TOi2.symm
  have zl : z < he.objs.size := Heap.lt_size ze
  (show wpAny _ _ (Builtin.SmallTypes.ownedTupleHandOut (.ref z) (.ref he.objs.size) >>= _) _ _ _); refine wpAny_bind ?_; unfold Builtin.SmallTypes.ownedTupleHandOut
  have zf : IsZip (he.push { cls := .type "tuple", data := .seq #[x, y] }) z TI TO .ellipsis := Heap.get?_push_of_some _ ze
  refine wpAny_bind (wpAny_setField_rec zf (by simp) fun hg zg eg => ?_); replace zg : IsZip hg z TI TO (rawInt he.objs.size) := zg
  refine wpAny_setField_rec zg (by simp) fun hi zi ei => ?_; replace zi : IsZip hi z TI TO (rawInt he.objs.size) := zi
  have go : ∀ c o, c ≠ z → he.get? c = some o → hi.get? c = some o := fun c o c1 e => ei.extBut _ _ c1 (eg.extBut _ _ c1 (Heap.get?_push_of_some _ e))
  have np : IsPair hi he.objs.size x y := ei.extBut _ _ (Nat.ne_of_gt zl) (eg.extBut _ _ (Nat.ne_of_gt zl) (Heap.get?_push_size _ rfl))
  have ns : hi.objs.size = he.objs.size + 1 := by rw [ei.1, eg.1, Heap.size_push]
  rw [sz] at zi np ns
  refine wpAny_pure ⟨_, rfl, ?_⟩
  show Q (.ref he.objs.size) _
  rw [sz]
  exact q hi zi (go _ _ D.TOz pe) (f1.at fun o e => go _ o D.i1z e) (f2.at fun o e => go _ o D.i2z e) np ns fun c o c1 c2 c3 c4 e => go c o c1 (st c o c1 c2 c3 c4 e)
theorem one_end {Q : Fin → Shared → Prop} (hh : A.handled = none) (D : ZipApart z TI TO i1 i2 l1 l2) (S : Wk2 s.heap z TI TO i1 i2 l1 l2 k1 k2 xs ys a b) (en : xs[k1]? = none ∨ ys[k2]? = none)
    (q : ∀ h' e, Stay s.heap h' z TO i1 i2 → (∃ o, h'.get? e = some o ∧ o.cls = .type "StopIteration") → E (.ref e) { s with heap := h' }) :
    wpAny (model prog w) A (Builtin.«zip.__next__» ⟨[.ref z], []⟩) Q E s := by
  obtain ⟨z0, ti, tg, j1, j2, t1, t2⟩ := S
  (show wpAny _ _ (field (.ref _) 2 >>= _) _ _ _; refine wpAny_bind (wpAny_field z0 rfl (x := (.bool false)) rfl ?_))
  (show wpAny _ _ (field (.ref _) 3 >>= _) _ _ _; refine wpAny_bind (wpAny_field z0 rfl (x := (.ref TI)) rfl ?_))
  refine wpAny_bind (wpAny_seqItems ti rfl ?_)
  (show wpAny _ _ (Builtin.SmallTypes.ownedTupleIsFree (.ref z) >>= _) _ _ _); refine wpAny_bind ?_; unfold Builtin.SmallTypes.ownedTupleIsFree
  refine wpAny_bind (wpAny_field z0 rfl (x := .none) rfl (wpAny_pure ?_)); simp only [if_true]; refine wpAny_bind (wpAny_rule ?_); refine wpAny_bind (wpAny_field z0 rfl (x := .ref TO) rfl ?_)
  refine wpAny_bind (wpAny_setField_rec z0 (by simp) fun ha za ea => ?_); replace za : IsZip ha z TI TO .ellipsis := za
  refine wpAny_bind ?_; simp only [List.zipIdx_cons, List.zipIdx_nil, List.forIn_cons, List.forIn_nil]
  refine wpAny_bind (wpAny_bind (wpAny_onRaise ?_)); show wpAny _ _ (Builtin.SmallTypes.nextOf (.ref i1) >>= _) _ _ _
  cases hx : xs[k1]? with
  | none =>
    refine wpAny_bind (wpAny_nextOf_list_end hh (j1.extBut ea.extBut D.i1z) (t1.extBut ea.extBut D.l1z) hx fun hb e eb he => ?_)
    obtain ⟨oe, oh, oc⟩ := he
    have zb : IsZip hb z TI TO .ellipsis := eb _ _ D.i1z.symm za
    have ne : e ≠ z := fun t => by subst t; rw [zb] at oh; cases oh; simp at oc
    exact wpAny_setField_rec zb (by simp) fun hc _ ec => q hc e (fun c o c1 _ c3 _ t => ec.extBut _ _ c1 (eb _ _ c3 (ea.extBut _ _ c1 t))) ⟨oe, ec.extBut _ _ ne oh, oc⟩
  | some x =>
    have hy : ys[k2]? = none := en.resolve_left fun t => by rw [hx] at t; cases t
    refine wpAny_bind (wpAny_nextOf_list_item (j1.extBut ea.extBut D.i1z) (t1.extBut ea.extBut D.l1z) hx fun hb jb eb => wpAny_pure ?_)
    have pb : IsPair hb TO a b := eb.extBut _ _ D.TOi1 (ea.extBut _ _ D.TOz tg)
    refine wpAny_bind (wpAny_seqItems pb rfl ?_); refine wpAny_bind (wpAny_updateSeq_pair pb fun hc pc ec => ?_)
    refine wpAny_bind (wpAny_letGo (wpAny_pure ?_)); refine wpAny_bind (wpAny_bind (wpAny_onRaise ?_)); show wpAny _ _ (Builtin.SmallTypes.nextOf (.ref i2) >>= _) _ _ _
    have j2c : hc.IsTupleIter i2 l2 k2 := ((j2.extBut ea.extBut D.i2z).extBut eb.extBut D.i12.symm).extBut ec.extBut D.TOi2.symm
    have t2c : hc.IsTuple l2 ys := ((t2.extBut ea.extBut D.l2z).extBut eb.extBut D.l2i1).extBut ec.extBut D.l2TO
    refine wpAny_bind (nextOf_tuple_end hh j2c t2c hy fun hd e ed he => ?_)
    obtain ⟨oe, oh, oc⟩ := he
    have zd : IsZip hd z TI TO .ellipsis := ed _ _ D.i2z.symm (ec.extBut _ _ D.TOz.symm (eb.extBut _ _ D.i1z.symm za))
    have ne : e ≠ z := fun t => by subst t; rw [zd] at oh; cases oh; simp at oc
    exact wpAny_setField_rec zd (by simp) fun hg _ eg => q hg e (fun c o c1 c2 c3 c4 t => eg.extBut _ _ c1 (ed _ _ c4 (ec.extBut _ _ c2 (eb.extBut _ _ c3 (ea.extBut _ _ c1 t))))) ⟨oe, eg.extBut _ _ ne oh, oc⟩
theorem next_item {Q : Option Value → Shared → Prop} (D : ZipApart z TI TO i1 i2 l1 l2) (S : Wk2 s.heap z TI TO i1 i2 l1 l2 k1 k2 xs ys a b) (hx : xs[k1]? = some x) (hy : ys[k2]? = some y)
    (q : ∀ h', IsZip h' z TI TO (rawInt s.heap.objs.size) → IsPair h' TO x y → h'.IsListIter i1 l1 (k1 + 1) → h'.IsTupleIter i2 l2 (k2 + 1) → IsPair h' s.heap.objs.size x y → h'.objs.size = s.heap.objs.size + 1 → Stay s.heap h' z TO i1 i2 → Q (some (.ref s.heap.objs.size)) { s with heap := h' }) :
    wpAny (model prog w) A (pyNext (.ref z)) Q E s := by
  have ty : s.TypeIs (.ref z) "zip" := ⟨_, S.z0, rfl⟩
  unfold pyNext
  refine wpAny_bind (wpAny_attempt (wpAny_callSpecial?_slot (name := Str.ofString "__next__") ty F.slot_zip_next (wpAny_call_entry F.slot_zip_next ty F.entry_zip_next ?_ (F.args_zip_next_1 _))))
  exact one_item D S hx hy fun h' p1 p2 p3 p4 p5 p6 p7 => wpAny_pure (q h' p1 p2 p3 p4 p5 p6 p7)
theorem next_end {Q : Option Value → Shared → Prop} (hh : A.handled = none) (D : ZipApart z TI TO i1 i2 l1 l2) (S : Wk2 s.heap z TI TO i1 i2 l1 l2 k1 k2 xs ys a b) (en : xs[k1]? = none ∨ ys[k2]? = none)
    (q : ∀ h', Stay s.heap h' z TO i1 i2 → Q none { s with heap := h' }) : wpAny (model prog w) A (pyNext (.ref z)) Q E s := by
  have ty : s.TypeIs (.ref z) "zip" := ⟨_, S.z0, rfl⟩
  unfold pyNext
  refine wpAny_bind (wpAny_attempt (wpAny_callSpecial?_slot (name := Str.ofString "__next__") ty F.slot_zip_next (wpAny_call_entry F.slot_zip_next ty F.entry_zip_next ?_ (F.args_zip_next_1 _))))
  refine one_end hh D S en fun h' e st oe => ?_
  obtain ⟨o, oh, oc⟩ := oe
  refine wpAny_bind (wpAny_isInstance (T := "StopIteration") (b := true) ⟨o, oh, oc⟩ isSubtype_stop ?_)
  exact wpAny_pure (q _ st)
end
abbrev y1 (h : Heap) (l1 : Addr) : Heap := h.push { cls := .type "list_iterator", data := .fields #[.ref l1, .int 0 0] }
abbrev y2 (h : Heap) (l1 l2 : Addr) : Heap := (y1 h l1).push { cls := .type "tuple_iterator", data := .fields #[.ref l2, .int 0 0] }
abbrev y3 (h : Heap) (l1 l2 : Addr) : Heap := (y2 h l1 l2).push { cls := .type "tuple", data := .seq #[.ref h.objs.size, .ref (y1 h l1).objs.size] }
abbrev y4 (h : Heap) (l1 l2 : Addr) : Heap := (y3 h l1 l2).push { cls := .type "tuple", data := .seq #[.none, .none] }
abbrev y5 (h : Heap) (l1 l2 : Addr) : Heap := (y4 h l1 l2).push { cls := .type "zip", data := .fields #[.none, .bool false, .bool false, .ref (y2 h l1 l2).objs.size, .ref (y3 h l1 l2).objs.size] }
section
variable {prog : Program} {w : World} {A : Around} {E : Value → Shared → Prop} {s : Shared}
end
def ItM (K : PySem.W.Frag) (a b : Addr) : It :=
  ⟨fun i H => ∃ (us vs : List V) (u v : V), (SqL K H a us ∧ SqT K H b vs) ∧ us[i]? = some u ∧ vs[i]? = some v,
    fun i H p H' => ∃ T u v, p = .ref T ∧ H T = none ∧ H' = upd H T (.tup [u, v]) ∧ (∀ us, SqL K H a us → us[i]? = some u) ∧ ∀ vs, SqT K H b vs → vs[i]? = some v,
    fun i H => ∃ us vs : List V, (SqL K H a us ∧ SqT K H b vs) ∧ (us.length ≤ i ∨ vs.length ≤ i)⟩
abbrev five (z TI TO i1 i2 : Addr) : List Addr := [z, TI, TO, i1, i2]
theorem five_mem {z TI TO i1 i2 c : Addr} (h : c ∈ five z TI TO i1 i2) : c = z ∨ c = TI ∨ c = TO ∨ c = i1 ∨ c = i2 := by simpa using h
def Now (a b z TI TO i1 i2 : Addr) (i : Nat) (h : Heap) : Prop := IsZip h z TI TO .none ∧ IsPair h TI (.ref i1) (.ref i2) ∧ (∃ x y, IsPair h TO x y) ∧ h.IsListIter i1 a i ∧ h.IsTupleIter i2 b i
theorem Now.lt {a b z TI TO i1 i2 : Addr} {i : Nat} {h : Heap} (n : Now a b z TI TO i1 i2 i h) {c : Addr} (hc : c ∈ five z TI TO i1 i2) : c < h.objs.size := by
  obtain ⟨p1, p2, ⟨_, _, p3⟩, ⟨_, p4, _⟩, ⟨_, p5, _⟩⟩ := n
  rcases five_mem hc with rfl | rfl | rfl | rfl | rfl
  · exact Heap.lt_size p1
  · exact Heap.lt_size p2
  · exact Heap.lt_size p3
  · exact Heap.lt_size p4
  · exact Heap.lt_size p5
theorem turn {P : Program} {w : World} {K : PySem.W.Frag} {elts : List Expr} {kk : Nat} {tpos : Pos} {a b z TI TO i1 i2 : Addr} (D : ZipApart z TI TO i1 i2 a b) : Turn P w K (.Tuple elts kk tpos) (ItM K a b) (five z TI TO i1 i2) z (Now a b z TI TO i1 i2) where
  mem := by simp
  obj := fun i h n c hc => by
    obtain ⟨p1, p2, ⟨_, _, p3⟩, ⟨o1, p4, _, d1⟩, ⟨o2, p5, _, d2⟩⟩ := n
    rcases five_mem hc with rfl | rfl | rfl | rfl | rfl
    · exact ⟨_, p1, fun v t => nomatch t⟩
    · exact ⟨_, p2, fun v t => nomatch t⟩
    · exact ⟨_, p3, fun v t => nomatch t⟩
    · exact ⟨o1, p4, fun v t => by rw [d1] at t; cases t⟩
    · exact ⟨o2, p5, fun v t => by rw [d2] at t; cases t⟩
  keep := fun i h h' n k => by
    obtain ⟨p1, p2, ⟨u, v, p3⟩, p4, p5⟩ := n
    exact ⟨k z (by simp) _ p1, k TI (by simp) _ p2, ⟨u, v, k TO (by simp) _ p3⟩, p4.at fun o t => k i1 (by simp) o t, p5.at fun o t => k i2 (by simp) o t⟩
  item := by
    intro X hP hw hK hc i pins s σ H E I hf n hg
    subst hP hw hK
    have lt := @Now.lt _ _ _ _ _ _ _ _ _ n
    obtain ⟨p1, p2, ⟨u0, v0, p3⟩, p4, p5⟩ := n
    obtain ⟨us, vs, u, v, ⟨hu, hv⟩, eu, ev⟩ := hg
    obtain ⟨its, ru, lu, _⟩ := I.list hu
    obtain ⟨jts, rv, lv, _⟩ := I.tuple hv
    obtain ⟨m, mu, ru'⟩ := ru.get eu
    obtain ⟨m2, mv, rv'⟩ := rv.get ev
    have zl := lt (c := z) (by simp)
    refine next_item D ⟨p1, p2, p3, p4, p5, lu.isList, lv⟩ (x := m) (y := m2) (by simpa using mu) (by simpa using mv) fun h' g1 g2 g3 g4 g5 _ st => ?_
    refine ⟨_, rfl, wpAny_letOwnedTupleGo_zip (s := { s with heap := h' }) g1 fun h2 g6 sb => ?_⟩
    have nt : h2.get? s.heap.objs.size = some { cls := .type "tuple", data := .seq #[m, m2] } := (sb.2 _ (Nat.ne_of_gt zl)).trans g5
    have ok : ObjOk X.prog X.w (upd H s.heap.objs.size (.tup [u, v])) h2 s.heap.objs.size (.tup [u, v]) := ⟨by show 2 ≤ sizeLine; decide, [m, m2], .cons ru' (.cons rv' .nil), ⟨_, nt, rfl, _, rfl⟩⟩
    have I1 : Inv X pins σ (upd H s.heap.objs.size (.tup [u, v])) { s with heap := h2 } := I.turnedNew (t' := s.toks) (ch := five z TI TO i1 i2) (fun c o hb t => by
      have nz : c ≠ z := fun e => hb (by simp [e])
      exact (sb.2 c nz).trans (st c o nz (fun e => hb (by simp [e])) (fun e => hb (by simp [e])) (fun e => hb (by simp [e])) t)) hf (Nat.le_refl _) ok
    refine ⟨.ref s.heap.objs.size, _, I1, rfl, ⟨_, u, v, rfl, I.hok.fresh (Nat.le_refl _), rfl, fun l hl => by rw [I.list_inj hl hu]; exact eu, fun l hl => by rw [I.tuple_inj hl hv]; exact ev⟩, ⟨g6, (sb.2 _ D.TIz).trans (st _ _ D.TIz D.TITO D.TIi1 D.TIi2 p2), ⟨m, m2, (sb.2 _ D.TOz).trans g2⟩, g3.at fun o t => (sb.2 _ D.i1z).trans t, g4.at fun o t => (sb.2 _ D.i2z).trans t⟩, fun c hcm => ?_⟩
    rw [upd_ne (Nat.ne_of_lt (lt hcm))]
    exact (hf c hcm).1
  done := by
    intro X hP hw hK hc i pins s σ H E I hf n hg
    subst hP hw hK
    obtain ⟨p1, p2, ⟨u0, v0, p3⟩, p4, p5⟩ := n
    obtain ⟨us, vs, ⟨hu, hv⟩, en⟩ := hg
    obtain ⟨its, ru, lu, _⟩ := I.list hu
    obtain ⟨jts, rv, lv, _⟩ := I.tuple hv
    have n1 := ru.length
    have n2 := rv.length
    refine next_end (I.ok.hd hc) D ⟨p1, p2, p3, p4, p5, lu.isList, lv⟩ (en.imp (fun t => by simp; omega) fun t => by simp; omega) fun h' st => ⟨rfl, ?_⟩
    exact I.turnedL (t' := s.toks) (ch := five z TI TO i1 i2) (fun c o hb t => st c o (fun e => hb (by simp [e])) (fun e => hb (by simp [e])) (fun e => hb (by simp [e])) (fun e => hb (by simp [e])) t) hf
  self := fun A i s Q E n h => wpAny_pyIter_zip n.1 h
end RR.ZM
namespace RR
open PySem PySem.Spec PyProof.Rows L2
section
variable {X : Cx} {C : Cn} {a b : Expr} {pos : Pos}
end
section
variable {M : Type} {ρ : En} {m : M} {Z : Str → M → Prop} {QL : List D → M → Prop} {ds es : List D} {t u : DT M}
end
end RR
namespace RR.ZN
open PySem PySem.Spec PyProof.Rows L2 RZ
section
variable {prog : Program} {w : World} {A : Around} {E : Value → Shared → Prop} {s : Shared} {z TI TO i1 i2 l1 l2 : Addr} {k1 k2 : Nat} {xs ys : Array Value} {x y a b : Value}
structure Wk2 (h : Heap) (z TI TO i1 i2 l1 l2 : Addr) (k1 k2 : Nat) (xs ys : Array Value) (a b : Value) : Prop where
  z0 : IsZip h z TI TO .none
  ti : IsPair h TI (.ref i1) (.ref i2)
  tg : IsPair h TO a b
  j1 : h.IsTupleIter i1 l1 k1
  j2 : h.IsListIter i2 l2 k2
  s1 : h.IsTuple l1 xs
  s2 : h.IsList l2 ys
def Stay (h h' : Heap) (z TO i1 i2 : Addr) : Prop := ∀ c o, c ≠ z → c ≠ TO → c ≠ i1 → c ≠ i2 → h.get? c = some o → h'.get? c = some o
theorem one_item {Q : Value → Shared → Prop} (D : ZipApart z TI TO i1 i2 l1 l2) (S : Wk2 s.heap z TI TO i1 i2 l1 l2 k1 k2 xs ys a b) (hx : xs[k1]? = some x) (hy : ys[k2]? = some y)
    (q : ∀ h', IsZip h' z TI TO (rawInt s.heap.objs.size) → IsPair h' TO x y → h'.IsTupleIter i1 l1 (k1 + 1) → h'.IsListIter i2 l2 (k2 + 1) → IsPair h' s.heap.objs.size x y → h'.objs.size = s.heap.objs.size + 1 → Stay s.heap h' z TO i1 i2 → Q (.ref s.heap.objs.size) { s with heap := h' }) :
    wpAny (model prog w) A (Builtin.«zip.__next__» ⟨[.ref z], []⟩) (fun r s' => ∃ v, r = .done (.ret v) ∧ Q v s') E s := by
  obtain ⟨z0, ti, tg, j1, j2, t1, t2⟩ := S
  (show wpAny _ _ (field (.ref _) 2 >>= _) _ _ _; refine wpAny_bind (wpAny_field z0 rfl (x := (.bool false)) rfl ?_))
  (show wpAny _ _ (field (.ref _) 3 >>= _) _ _ _; refine wpAny_bind (wpAny_field z0 rfl (x := (.ref TI)) rfl ?_))
  refine wpAny_bind (wpAny_seqItems ti rfl ?_)
  (show wpAny _ _ (Builtin.SmallTypes.ownedTupleIsFree (.ref z) >>= _) _ _ _); refine wpAny_bind ?_; unfold Builtin.SmallTypes.ownedTupleIsFree
  refine wpAny_bind (wpAny_field z0 rfl (x := .none) rfl (wpAny_pure ?_)); simp only [if_true]; refine wpAny_bind (wpAny_rule ?_); refine wpAny_bind (wpAny_field z0 rfl (x := .ref TO) rfl ?_)
  refine wpAny_bind (wpAny_setField_rec z0 (by simp) fun ha za ea => ?_); replace za : IsZip ha z TI TO .ellipsis := za
  refine wpAny_bind ?_; simp only [List.zipIdx_cons, List.zipIdx_nil, List.forIn_cons, List.forIn_nil]
  refine wpAny_bind (wpAny_bind (wpAny_onRaise ?_)); show wpAny _ _ (Builtin.SmallTypes.nextOf (.ref i1) >>= _) _ _ _
  refine wpAny_bind (nextOf_tuple_item (j1.extBut ea.extBut D.i1z) (t1.extBut ea.extBut D.l1z) hx fun hb jb eb => wpAny_pure ?_)
  have pb : IsPair hb TO a b := eb.extBut _ _ D.TOi1 (ea.extBut _ _ D.TOz tg)
  refine wpAny_bind (wpAny_seqItems pb rfl ?_); refine wpAny_bind (wpAny_updateSeq_pair pb fun hc pc ec => ?_); replace pc : IsPair hc TO x b := pc
  refine wpAny_bind (wpAny_letGo (wpAny_pure ?_)); refine wpAny_bind (wpAny_bind (wpAny_onRaise ?_)); show wpAny _ _ (Builtin.SmallTypes.nextOf (.ref i2) >>= _) _ _ _
  have j2c : hc.IsListIter i2 l2 k2 := ((j2.extBut ea.extBut D.i2z).extBut eb.extBut D.i12.symm).extBut ec.extBut D.TOi2.symm
  have t2c : hc.IsList l2 ys := ((t2.extBut ea.extBut D.l2z).extBut eb.extBut D.l2i1).extBut ec.extBut D.l2TO
  refine wpAny_bind (wpAny_nextOf_list_item j2c t2c hy fun hd jd ed => wpAny_pure ?_)
  have pd : IsPair hd TO x b := ed.extBut _ _ D.TOi2 pc
  refine wpAny_bind (wpAny_seqItems pd rfl ?_); refine wpAny_bind (wpAny_updateSeq_pair pd fun he pe ee => ?_); replace pe : IsPair he TO x y := pe
  refine wpAny_bind (wpAny_letGo (wpAny_pure (wpAny_pure ?_))); refine wpAny_bind (wpAny_seqItems pe rfl ?_); refine wpAny_bind (wpAny_newTuple ?_)
  have sz : he.objs.size = s.heap.objs.size := by rw [ee.1, ed.1, ec.1, eb.1, ea.1]
  have ze : IsZip he z TI TO .ellipsis := ee.extBut _ _ D.TOz.symm (ed.extBut _ _ D.i2z.symm (ec.extBut _ _ D.TOz.symm (eb.extBut _ _ D.i1z.symm za)))
  have st : Stay s.heap he z TO i1 i2 := fun c o c1 c2 c3 c4 e => ee.extBut _ _ c2 (ed.extBut _ _ c4 (ec.extBut _ _ c2 (eb.extBut _ _ c3 (ea.extBut _ _ c1 e))))
  have f1 : he.IsTupleIter i1 l1 (k1 + 1) := ((jb.extBut ec.extBut D.TOi1.symm).extBut ed.extBut D.i12).extBut ee.extBut D.TOi1.symm
  have f2 : he.IsListIter i2 l2 (k2 + 1) := jd.extBut ee.extBut D.TOi2.symm
  have zl : z < he.objs.size := Heap.lt_size ze
  (show wpAny _ _ (Builtin.SmallTypes.ownedTupleHandOut (.ref z) (.ref he.objs.size) >>= _) _ _ _); refine wpAny_bind ?_; unfold Builtin.SmallTypes.ownedTupleHandOut
  have zf : IsZip (he.push { cls := .type "tuple", data := .seq #[x, y] }) z TI TO .ellipsis := Heap.get?_push_of_some _ ze
  refine wpAny_bind (wpAny_setField_rec zf (by simp) fun hg zg eg => ?_); replace zg : IsZip hg z TI TO (rawInt he.objs.size) := zg
  refine wpAny_setField_rec zg (by simp) fun hi zi ei => ?_; replace zi : IsZip hi z TI TO (rawInt he.objs.size) := zi
  have go : ∀ c o, c ≠ z → he.get? c = some o → hi.get? c = some o := fun c o c1 e => ei.extBut _ _ c1 (eg.extBut _ _ c1 (Heap.get?_push_of_some _ e))
  have np : IsPair hi he.objs.size x y := ei.extBut _ _ (Nat.ne_of_gt zl) (eg.extBut _ _ (Nat.ne_of_gt zl) (Heap.get?_push_size _ rfl))
  have ns : hi.objs.size = he.objs.size + 1 := by rw [ei.1, eg.1, Heap.size_push]
  rw [sz] at zi np ns
  refine wpAny_pure ⟨_, rfl, ?_⟩
  show Q (.ref he.objs.size) _
  rw [sz]
  exact q hi zi (go _ _ D.TOz pe) (f1.at fun o e => go _ o D.i1z e) (f2.at fun o e => go _ o D.i2z e) np ns fun c o c1 c2 c3 c4 e => go c o c1 (st c o c1 c2 c3 c4 e)
theorem one_end {Q : Fin → Shared → Prop} (hh : A.handled = none) (D : ZipApart z TI TO i1 i2 l1 l2) (S : Wk2 s.heap z TI TO i1 i2 l1 l2 k1 k2 xs ys a b) (en : xs[k1]? = none ∨ ys[k2]? = none)
    (q : ∀ h' e, Stay s.heap h' z TO i1 i2 → (∃ o, h'.get? e = some o ∧ o.cls = .type "StopIteration") → E (.ref e) { s with heap := h' }) :
    wpAny (model prog w) A (Builtin.«zip.__next__» ⟨[.ref z], []⟩) Q E s := by
  obtain ⟨z0, ti, tg, j1, j2, t1, t2⟩ := S
  (show wpAny _ _ (field (.ref _) 2 >>= _) _ _ _; refine wpAny_bind (wpAny_field z0 rfl (x := (.bool false)) rfl ?_))
  (show wpAny _ _ (field (.ref _) 3 >>= _) _ _ _; refine wpAny_bind (wpAny_field z0 rfl (x := (.ref TI)) rfl ?_))
  refine wpAny_bind (wpAny_seqItems ti rfl ?_)
  (show wpAny _ _ (Builtin.SmallTypes.ownedTupleIsFree (.ref z) >>= _) _ _ _); refine wpAny_bind ?_; unfold Builtin.SmallTypes.ownedTupleIsFree
  refine wpAny_bind (wpAny_field z0 rfl (x := .none) rfl (wpAny_pure ?_)); simp only [if_true]; refine wpAny_bind (wpAny_rule ?_); refine wpAny_bind (wpAny_field z0 rfl (x := .ref TO) rfl ?_)
  refine wpAny_bind (wpAny_setField_rec z0 (by simp) fun ha za ea => ?_); replace za : IsZip ha z TI TO .ellipsis := za
  refine wpAny_bind ?_; simp only [List.zipIdx_cons, List.zipIdx_nil, List.forIn_cons, List.forIn_nil]
  refine wpAny_bind (wpAny_bind (wpAny_onRaise ?_)); show wpAny _ _ (Builtin.SmallTypes.nextOf (.ref i1) >>= _) _ _ _
  cases hx : xs[k1]? with
  | none =>
    refine wpAny_bind (nextOf_tuple_end hh (j1.extBut ea.extBut D.i1z) (t1.extBut ea.extBut D.l1z) hx fun hb e eb he => ?_)
    obtain ⟨oe, oh, oc⟩ := he
    have zb : IsZip hb z TI TO .ellipsis := eb _ _ D.i1z.symm za
    have ne : e ≠ z := fun t => by subst t; rw [zb] at oh; cases oh; simp at oc
    exact wpAny_setField_rec zb (by simp) fun hc _ ec => q hc e (fun c o c1 _ c3 _ t => ec.extBut _ _ c1 (eb _ _ c3 (ea.extBut _ _ c1 t))) ⟨oe, ec.extBut _ _ ne oh, oc⟩
  | some x =>
    have hy : ys[k2]? = none := en.resolve_left fun t => by rw [hx] at t; cases t
    refine wpAny_bind (nextOf_tuple_item (j1.extBut ea.extBut D.i1z) (t1.extBut ea.extBut D.l1z) hx fun hb jb eb => wpAny_pure ?_)
    have pb : IsPair hb TO a b := eb.extBut _ _ D.TOi1 (ea.extBut _ _ D.TOz tg)
    refine wpAny_bind (wpAny_seqItems pb rfl ?_); refine wpAny_bind (wpAny_updateSeq_pair pb fun hc pc ec => ?_)
    refine wpAny_bind (wpAny_letGo (wpAny_pure ?_)); refine wpAny_bind (wpAny_bind (wpAny_onRaise ?_)); show wpAny _ _ (Builtin.SmallTypes.nextOf (.ref i2) >>= _) _ _ _
    have j2c : hc.IsListIter i2 l2 k2 := ((j2.extBut ea.extBut D.i2z).extBut eb.extBut D.i12.symm).extBut ec.extBut D.TOi2.symm
    have t2c : hc.IsList l2 ys := ((t2.extBut ea.extBut D.l2z).extBut eb.extBut D.l2i1).extBut ec.extBut D.l2TO
    refine wpAny_bind (wpAny_nextOf_list_end hh j2c t2c hy fun hd e ed he => ?_)
    obtain ⟨oe, oh, oc⟩ := he
    have zd : IsZip hd z TI TO .ellipsis := ed _ _ D.i2z.symm (ec.extBut _ _ D.TOz.symm (eb.extBut _ _ D.i1z.symm za))
    have ne : e ≠ z := fun t => by subst t; rw [zd] at oh; cases oh; simp at oc
    exact wpAny_setField_rec zd (by simp) fun hg _ eg => q hg e (fun c o c1 c2 c3 c4 t => eg.extBut _ _ c1 (ed _ _ c4 (ec.extBut _ _ c2 (eb.extBut _ _ c3 (ea.extBut _ _ c1 t))))) ⟨oe, eg.extBut _ _ ne oh, oc⟩
theorem next_item {Q : Option Value → Shared → Prop} (D : ZipApart z TI TO i1 i2 l1 l2) (S : Wk2 s.heap z TI TO i1 i2 l1 l2 k1 k2 xs ys a b) (hx : xs[k1]? = some x) (hy : ys[k2]? = some y)
    (q : ∀ h', IsZip h' z TI TO (rawInt s.heap.objs.size) → IsPair h' TO x y → h'.IsTupleIter i1 l1 (k1 + 1) → h'.IsListIter i2 l2 (k2 + 1) → IsPair h' s.heap.objs.size x y → h'.objs.size = s.heap.objs.size + 1 → Stay s.heap h' z TO i1 i2 → Q (some (.ref s.heap.objs.size)) { s with heap := h' }) :
    wpAny (model prog w) A (pyNext (.ref z)) Q E s := by
  have ty : s.TypeIs (.ref z) "zip" := ⟨_, S.z0, rfl⟩
  unfold pyNext
  refine wpAny_bind (wpAny_attempt (wpAny_callSpecial?_slot (name := Str.ofString "__next__") ty F.slot_zip_next (wpAny_call_entry F.slot_zip_next ty F.entry_zip_next ?_ (F.args_zip_next_1 _))))
  exact one_item D S hx hy fun h' p1 p2 p3 p4 p5 p6 p7 => wpAny_pure (q h' p1 p2 p3 p4 p5 p6 p7)
theorem next_end {Q : Option Value → Shared → Prop} (hh : A.handled = none) (D : ZipApart z TI TO i1 i2 l1 l2) (S : Wk2 s.heap z TI TO i1 i2 l1 l2 k1 k2 xs ys a b) (en : xs[k1]? = none ∨ ys[k2]? = none)
    (q : ∀ h', Stay s.heap h' z TO i1 i2 → Q none { s with heap := h' }) : wpAny (model prog w) A (pyNext (.ref z)) Q E s := by
  have ty : s.TypeIs (.ref z) "zip" := ⟨_, S.z0, rfl⟩
  unfold pyNext
  refine wpAny_bind (wpAny_attempt (wpAny_callSpecial?_slot (name := Str.ofString "__next__") ty F.slot_zip_next (wpAny_call_entry F.slot_zip_next ty F.entry_zip_next ?_ (F.args_zip_next_1 _))))
  refine one_end hh D S en fun h' e st oe => ?_
  obtain ⟨o, oh, oc⟩ := oe
  refine wpAny_bind (wpAny_isInstance (T := "StopIteration") (b := true) ⟨o, oh, oc⟩ isSubtype_stop ?_)
  exact wpAny_pure (q _ st)
end
abbrev y1 (h : Heap) (l1 : Addr) : Heap := h.push { cls := .type "tuple_iterator", data := .fields #[.ref l1, .int 0 0] }
abbrev y2 (h : Heap) (l1 l2 : Addr) : Heap := (y1 h l1).push { cls := .type "list_iterator", data := .fields #[.ref l2, .int 0 0] }
abbrev y3 (h : Heap) (l1 l2 : Addr) : Heap := (y2 h l1 l2).push { cls := .type "tuple", data := .seq #[.ref h.objs.size, .ref (y1 h l1).objs.size] }
abbrev y4 (h : Heap) (l1 l2 : Addr) : Heap := (y3 h l1 l2).push { cls := .type "tuple", data := .seq #[.none, .none] }
abbrev y5 (h : Heap) (l1 l2 : Addr) : Heap := (y4 h l1 l2).push { cls := .type "zip", data := .fields #[.none, .bool false, .bool false, .ref (y2 h l1 l2).objs.size, .ref (y3 h l1 l2).objs.size] }
section
variable {prog : Program} {w : World} {A : Around} {E : Value → Shared → Prop} {s : Shared}
end
def ItM (K : PySem.W.Frag) (a b : Addr) : It :=
  ⟨fun i H => ∃ (us vs : List V) (u v : V), (SqT K H a us ∧ SqL K H b vs) ∧ us[i]? = some u ∧ vs[i]? = some v,
    fun i H p H' => ∃ T u v, p = .ref T ∧ H T = none ∧ H' = upd H T (.tup [u, v]) ∧ (∀ us, SqT K H a us → us[i]? = some u) ∧ ∀ vs, SqL K H b vs → vs[i]? = some v,
    fun i H => ∃ us vs : List V, (SqT K H a us ∧ SqL K H b vs) ∧ (us.length ≤ i ∨ vs.length ≤ i)⟩
abbrev five (z TI TO i1 i2 : Addr) : List Addr := [z, TI, TO, i1, i2]
theorem five_mem {z TI TO i1 i2 c : Addr} (h : c ∈ five z TI TO i1 i2) : c = z ∨ c = TI ∨ c = TO ∨ c = i1 ∨ c = i2 := by simpa using h
def Now (a b z TI TO i1 i2 : Addr) (i : Nat) (h : Heap) : Prop := IsZip h z TI TO .none ∧ IsPair h TI (.ref i1) (.ref i2) ∧ (∃ x y, IsPair h TO x y) ∧ h.IsTupleIter i1 a i ∧ h.IsListIter i2 b i
theorem Now.lt {a b z TI TO i1 i2 : Addr} {i : Nat} {h : Heap} (n : Now a b z TI TO i1 i2 i h) {c : Addr} (hc : c ∈ five z TI TO i1 i2) : c < h.objs.size := by
  obtain ⟨p1, p2, ⟨_, _, p3⟩, ⟨_, p4, _⟩, ⟨_, p5, _⟩⟩ := n
  rcases five_mem hc with rfl | rfl | rfl | rfl | rfl
  · exact Heap.lt_size p1
  · exact Heap.lt_size p2
  · exact Heap.lt_size p3
  · exact Heap.lt_size p4
  · exact Heap.lt_size p5
theorem turn {P : Program} {w : World} {K : PySem.W.Frag} {elts : List Expr} {kk : Nat} {tpos : Pos} {a b z TI TO i1 i2 : Addr} (D : ZipApart z TI TO i1 i2 a b) : Turn P w K (.Tuple elts kk tpos) (ItM K a b) (five z TI TO i1 i2) z (Now a b z TI TO i1 i2) where
  mem := by simp
  obj := fun i h n c hc => by
    obtain ⟨p1, p2, ⟨_, _, p3⟩, ⟨o1, p4, _, d1⟩, ⟨o2, p5, _, d2⟩⟩ := n
    rcases five_mem hc with rfl | rfl | rfl | rfl | rfl
    · exact ⟨_, p1, fun v t => nomatch t⟩
    · exact ⟨_, p2, fun v t => nomatch t⟩
    · exact ⟨_, p3, fun v t => nomatch t⟩
    · exact ⟨o1, p4, fun v t => by rw [d1] at t; cases t⟩
    · exact ⟨o2, p5, fun v t => by rw [d2] at t; cases t⟩
  keep := fun i h h' n k => by
    obtain ⟨p1, p2, ⟨u, v, p3⟩, p4, p5⟩ := n
    exact ⟨k z (by simp) _ p1, k TI (by simp) _ p2, ⟨u, v, k TO (by simp) _ p3⟩, p4.at fun o t => k i1 (by simp) o t, p5.at fun o t => k i2 (by simp) o t⟩
  item := by
    intro X hP hw hK hc i pins s σ H E I hf n hg
    subst hP hw hK
    have lt := @Now.lt _ _ _ _ _ _ _ _ _ n
    obtain ⟨p1, p2, ⟨u0, v0, p3⟩, p4, p5⟩ := n
    obtain ⟨us, vs, u, v, ⟨hu, hv⟩, eu, ev⟩ := hg
    obtain ⟨its, ru, lu, _⟩ := I.tuple hu
    obtain ⟨jts, rv, lv, _⟩ := I.list hv
    obtain ⟨m, mu, ru'⟩ := ru.get eu
    obtain ⟨m2, mv, rv'⟩ := rv.get ev
    have zl := lt (c := z) (by simp)
    refine next_item D ⟨p1, p2, p3, p4, p5, lu, lv.isList⟩ (x := m) (y := m2) (by simpa using mu) (by simpa using mv) fun h' g1 g2 g3 g4 g5 _ st => ?_
    refine ⟨_, rfl, wpAny_letOwnedTupleGo_zip (s := { s with heap := h' }) g1 fun h2 g6 sb => ?_⟩
    have nt : h2.get? s.heap.objs.size = some { cls := .type "tuple", data := .seq #[m, m2] } := (sb.2 _ (Nat.ne_of_gt zl)).trans g5
    have ok : ObjOk X.prog X.w (upd H s.heap.objs.size (.tup [u, v])) h2 s.heap.objs.size (.tup [u, v]) := ⟨by show 2 ≤ sizeLine; decide, [m, m2], .cons ru' (.cons rv' .nil), ⟨_, nt, rfl, _, rfl⟩⟩
    have I1 : Inv X pins σ (upd H s.heap.objs.size (.tup [u, v])) { s with heap := h2 } := I.turnedNew (t' := s.toks) (ch := five z TI TO i1 i2) (fun c o hb t => by
      have nz : c ≠ z := fun e => hb (by simp [e])
      exact (sb.2 c nz).trans (st c o nz (fun e => hb (by simp [e])) (fun e => hb (by simp [e])) (fun e => hb (by simp [e])) t)) hf (Nat.le_refl _) ok
    refine ⟨.ref s.heap.objs.size, _, I1, rfl, ⟨_, u, v, rfl, I.hok.fresh (Nat.le_refl _), rfl, fun l hl => by rw [I.tuple_inj hl hu]; exact eu, fun l hl => by rw [I.list_inj hl hv]; exact ev⟩, ⟨g6, (sb.2 _ D.TIz).trans (st _ _ D.TIz D.TITO D.TIi1 D.TIi2 p2), ⟨m, m2, (sb.2 _ D.TOz).trans g2⟩, g3.at fun o t => (sb.2 _ D.i1z).trans t, g4.at fun o t => (sb.2 _ D.i2z).trans t⟩, fun c hcm => ?_⟩
    rw [upd_ne (Nat.ne_of_lt (lt hcm))]
    exact (hf c hcm).1
  done := by
    intro X hP hw hK hc i pins s σ H E I hf n hg
    subst hP hw hK
    obtain ⟨p1, p2, ⟨u0, v0, p3⟩, p4, p5⟩ := n
    obtain ⟨us, vs, ⟨hu, hv⟩, en⟩ := hg
    obtain ⟨its, ru, lu, _⟩ := I.tuple hu
    obtain ⟨jts, rv, lv, _⟩ := I.list hv
    have n1 := ru.length
    have n2 := rv.length
    refine next_end (I.ok.hd hc) D ⟨p1, p2, p3, p4, p5, lu, lv.isList⟩ (en.imp (fun t => by simp; omega) fun t => by simp; omega) fun h' st => ⟨rfl, ?_⟩
    exact I.turnedL (t' := s.toks) (ch := five z TI TO i1 i2) (fun c o hb t => st c o (fun e => hb (by simp [e])) (fun e => hb (by simp [e])) (fun e => hb (by simp [e])) (fun e => hb (by simp [e])) t) hf
  self := fun A i s Q E n h => wpAny_pyIter_zip n.1 h
end RR.ZN
namespace RR
open PySem PySem.Spec PyProof.Rows L2
section
variable {X : Cx} {C : Cn} {a b : Expr} {pos : Pos}
end
section
variable {M : Type} {ρ : En} {m : M} {Z : Str → M → Prop} {QL : List D → M → Prop} {ds es : List D} {t u : DT M}
end
end RR
namespace RR
open PySem PySem.Spec PyProof.Rows L2
section
variable {X : Cx} {C : Cn} {a b : Expr} {pos : Pos} {ta tb : DT C.W.M}
end
end RR
namespace RR
open PySem PySem.Spec PyProof.Rows L2
section
variable {X : Cx} {C : Cn} {pos : Pos}
end
section
variable {M : Type} {ρ : En} {m : M} {nx bk ct : En → M → Prop} {rt : D → M → Prop} {ex : Str → M → Prop} {ds : List D} {d : D} {g : DG}
end
end RR
namespace RR
open PySem PySem.Spec PyProof.Rows L2
mutual
def D.pln : D → Bool
  | .non | .bl _ | .int _ | .str _ => true
  | .tup xs => D.plns xs
  | _ => false
def D.plns : List D → Bool
  | [] => true
  | x :: r => x.pln && D.plns r
end
section
variable {K : PySem.W.Frag} {F F' : List Addr} {G G' : Hp}
mutual
theorem Dn.kept (hG : ∀ a xs, G a = some (.tup xs) → G' a = some (.tup xs)) : ∀ {v : V} {d : D}, d.pln = true → Dn false K F G v d → Dn true K F' G' v d
  | _, _, _, .non => .non
  | _, _, _, .bl b => .bl b
  | _, _, _, .int i => .int i
  | _, _, _, .str x => .str x
  | _, _, p, .tup h r => .tup (h.mono hG) (DnA.kept hG p r)
  | _, _, p, .lst _ _ => by cases p
  | _, _, p, .hnd _ => by cases p
  | _, _, p, .dic _ => by cases p
  | _, _, p, .exc _ _ => by cases p
  | _, _, p, .fn _ => by cases p
  | _, _, p, .ptr => by cases p
  | _, _, p, .dc1 _ _ => by cases p
theorem DnA.kept (hG : ∀ a xs, G a = some (.tup xs) → G' a = some (.tup xs)) : ∀ {v : List V} {d : List D}, D.plns d = true → DnA false K F G v d → DnA true K F' G' v d
  | _, _, _, .nil => .nil
  | _, _, p, .cons h r => by
    rw [D.plns, Bool.and_eq_true] at p
    exact .cons (Dn.kept hG p.1 h) (DnA.kept hG p.2 r)
end
end
section
variable {X : Cx} {C : Cn} {pos : Pos}
end
section
variable {M : Type} {ρ : En} {m : M} {Q : D → M → Prop} {Z : Str → M → Prop} {d : D}
end
end RR
namespace RR
open PySem PySem.Spec PyProof.Rows L2
section
variable {X : Cx} {C : Cn}
end
end RR
namespace RR
open PySem PySem.Spec PyProof.Rows L2 RZ RT
section
variable {X : Cx} {C : Cn}
end
end RR
namespace RR
open PySem PySem.Spec PyProof.Rows L2
section
variable {X : Cx} {C : Cn}
end
end RR
namespace RR
open PySem PySem.Spec PyProof.Rows L2 HT
section
variable {prog : Program} {w : World} {A : Around} {E : Value → Shared → Prop} {s : Shared}
end
section
variable {X : Cx} {C : Cn} {e f : Expr}
end
section
variable {M : Type} {ρ : En} {m : M} {Q : D → M → Prop} {Z : Str → M → Prop} {t u : DT M}
end
end RR
namespace RR
open PySem PySem.Spec PyProof.Rows L2 HT
section
variable {X : Cx} {C : Cn} {e f : Expr}
end
section
variable {M : Type} {ρ : En} {m : M} {Q : D → M → Prop} {Z : Str → M → Prop} {t u : DT M}
end
end RR
namespace RR
open PySem PySem.Spec PyProof.Rows L2
section
variable {K : PySem.W.Frag} {C : Cn} {Pr : Addr → Prop} {F : List Addr} {σ : L2.St} {ρ : En} {m : C.W.M} {H : Hp}
theorem set_far {α : Type} (l : List α) (x : α) : l.set l.length x = l := List.set_eq_of_length_le (Nat.le_refl _)
theorem SR.own_at (S : SR K C Pr F σ ρ m H) {p : Addr} {vs : List V} {ds : List D} (i : Nat) (hp : H p = some (.lst vs)) (pp : Pr p) (nf : p ∉ F) (h : DnA true K F (sv C.H0 Pr H) vs ds) (one : ∀ (j : Nat) (es : List D), ρ[j]? = some (Sl.own es) → σ[j]? ≠ some (some (V.ref p))) :
    SR K C Pr F (σ.set i (some (.ref p))) (ρ.set i (.own ds)) m H where
  keep := S.keep
  pre := S.pre
  new := S.new
  prs := S.prs
  prn := S.prn
  prf := S.prf
  rz := S.rz
  len := by simpa using S.len
  slot := fun j s e => by
    rcases get_set e with ⟨rfl, rfl⟩ | ⟨ne, e⟩
    · have hi : j < σ.length := by rw [← S.len]; exact lt_of_set e
      exact ⟨p, vs, by rw [List.getElem?_set_self hi], hp, pp, nf, h⟩
    · rw [List.getElem?_set_ne (Ne.symm ne)]
      exact S.slot j s e
  dist := fun a b ds' es q ne ea eb sa sb => by
    rcases get_set ea with ⟨rfl, _⟩ | ⟨na, ea⟩
    · have hi : a < σ.length := by rw [← S.len]; exact lt_of_set ea
      rw [List.getElem?_set_self hi] at sa
      cases sa
      rw [List.getElem?_set_ne ne] at eb sb
      exact one b _ eb sb
    · rcases get_set eb with ⟨rfl, _⟩ | ⟨nb, eb⟩
      · have hi : b < σ.length := by rw [← S.len]; exact lt_of_set eb
        rw [List.getElem?_set_self hi] at sb
        cases sb
        rw [List.getElem?_set_ne (Ne.symm na)] at sa ea
        exact one a _ ea sa
      · rw [List.getElem?_set_ne (Ne.symm na)] at sa
        rw [List.getElem?_set_ne (Ne.symm nb)] at sb
        exact S.dist a b ds' es q ne ea eb sa sb
end
section
variable {X : Cx} {C : Cn} {pos : Pos}
def kPO {M : Type} (ρ : En) (i j : Nat) (nx : En → M → Prop) (x y : D) (m2 : M) : Prop := match x, y with | .lst xs, .lst ys => D.nls xs = true ∧ D.nls ys = true ∧ nx ((ρ.set i (.own xs)).set j (.own ys)) m2 | _, _ => False
def dParO {M : Type} (i j : Nat) (t u : DT M) : DS M := fun E ρ m => t ρ m (fun x m1 => u ρ m1 (fun y m2 => kPO ρ i j E.nx x y m2) E.ex) E.ex
theorem js_parO (i j : Nat) {x y : Str} {a b : Expr} {ta tb : DT C.W.M} {px py pt : Pos} {kt k2 pt2} (hc : X.calm = true) (hN : X.N.Nodup) (ha : J .f X C a ta) (hb : J .f X C b tb) (hw : swappedStores [.Tuple [.Name x px, .Name y py] kt pt] (.Tuple [a, b] k2 pt2) X.env = pure (some [x, y]) := by rfl)
    (hi : X.N[i]? = some x := by rfl) (hj : X.N[j]? = some y := by rfl) (hij : i ≠ j := by decide) (hx : X.env.scope.names.lookup x = some .local := by rfl) (hy : X.env.scope.names.lookup y = some .local := by rfl)
    (hs : swapsWithSole [.Tuple [.Name x px, .Name y py] kt pt] (.Tuple [a, b] k2 pt2) pos.line X.env = pure false := by rfl) (h1 : starEach [a, b] X.env = (false, eval a X.env) :: starEach [b] X.env := by rfl) (h2 : starEach [b] X.env = (false, eval b X.env) :: starEach [] X.env := by rfl) :
    JS X C (.Assign [.Tuple [.Name x px, .Name y py] kt pt] (.Tuple [a, b] k2 pt2) pos) (dParO i j ta tb) := by
  obtain ⟨t1, p1, q1⟩ := ha
  obtain ⟨t2, p2, q2⟩ := hb
  refine ⟨_, ps_par hc hN hi hj hij hx hy (pa_cons p1 (pa_cons p2 pa_nil h2) h1) hw hs, fun σ H Pr F ρ m E D' S l h => ?_⟩
  refine q1 σ H Pr F ρ m _ _ _ S (l.ex σ ρ) h fun v H1 ⟨P1, F1, m1, d, S1, te1, dv, z⟩ => ?_
  -- the first list, set aside before the second one is made
  by_cases hl : ∃ xs, d = .lst xs
  rotate_left
  · refine q2 σ H1 P1 F1 ρ m1 _ _ _ S1 ((l.ex σ ρ).te te1.toTr) z fun w H2 ⟨P2, F2, m2, d2, S2, te2, dv2, z2⟩ => ?_
    have z2 : kPO ρ i j E.nx d d2 m2 := z2
    unfold kPO at z2
    split at z2
    · exact absurd ⟨_, rfl⟩ hl
    · exact z2.elim
  obtain ⟨xs, rfl⟩ := hl
  obtain ⟨a1, vs1, rfl, n1, np1, e1, d1⟩ := dv.2 xs rfl
  by_cases nx1 : D.nls xs = true
  rotate_left
  · refine q2 σ H1 P1 F1 ρ m1 _ _ _ S1 ((l.ex σ ρ).te te1.toTr) z fun w H2 ⟨P2, F2, m2, d2, S2, te2, dv2, z2⟩ => ?_
    have z2 : kPO ρ i j E.nx (.lst xs) d2 m2 := z2
    cases d2 with
    | lst ys => exact absurd z2.1 nx1
    | _ => exact z2.elim
  obtain ⟨S1', te1'⟩ := S.owned te1 S1 σ.length n1 e1 np1 d1 nx1
  rw [set_far, show ρ.set σ.length (.own xs) = ρ from by rw [← S.len]; exact set_far _ _] at S1'
  have nf1 : a1 ∉ F1 := fun z => np1 (S1.prf _ z)
  refine q2 σ H1 _ F1 ρ m1 _ _ _ S1' ((l.ex σ ρ).te te1'.toTr) z fun w H2 ⟨P2, F2, m2, d2, S2, te2, dv2, z2⟩ => ?_
  have z2 : kPO ρ i j E.nx (.lst xs) d2 m2 := z2
  cases d2 with
  | lst ys =>
    obtain ⟨nx, ny, z2⟩ := z2
    obtain ⟨a2, vs2, rfl, n2, np2, e2, d2⟩ := dv2.2 ys rfl
    obtain ⟨S3, te3⟩ := S1'.owned te2 S2 σ.length n2 e2 np2 d2 ny
    rw [set_far, show ρ.set σ.length (.own ys) = ρ from by rw [← S.len]; exact set_far _ _] at S3
    have e1' : H2 a1 = some (.lst vs1) := te2.all a1 _ nf1 e1
    have nf1' : a1 ∉ F2 := fun q => by
      have := te2.fn a1 q nf1
      rw [e1] at this; cases this
    have nf2 : a2 ∉ F2 := fun q => np2 (S2.prf _ q)
    have pp1 : P2 a1 := te2.prm a1 (.inr rfl)
    have fl : ∀ {vs ds} {P : Addr → Prop} {F' : List Addr} {G : Hp}, DnA true X.K F' (sv C.H0 P G) vs ds → (∀ a o, IsT o → G a = some o → H2 a = some o) → (∃ G1, F2 = F' ++ G1) → D.nls ds = true → DnA true X.K F2 (sv C.H0 (fun a => P2 a ∨ a = a2) H2) vs ds := fun h k pre n => h.flat pre (fun a o it e => vw_iff.mpr ⟨k a o it (sv_le e), .inl it⟩) n
    have kT : ∀ a o, IsT o → H1 a = some o → H2 a = some o := fun a o it e => te2.all a o (fun q => by
      obtain ⟨o', e', n⟩ := S1.prs a (S1.prf a q)
      rw [e] at e'; cases e'
      exact n it) e
    have S4 := S3.own_at i e1' (.inl pp1) nf1' (fl d1 kT te2.pre nx) fun k es ek sk => by
      obtain ⟨q, ws, s1, s2, _⟩ := S.slot k _ ek
      rw [sk] at s1; cases s1
      rw [n1] at s2; cases s2
    have S5 := S4.own_at j e2 (.inr rfl) nf2 (fl d2 (fun _ _ _ e => e) ⟨[], by simp⟩ ny) fun k es ek sk => by
      by_cases hk : k = i
      · subst hk
        have hi : k < σ.length := by
          have := lt_of_set ek
          rw [S.len] at this; exact this
        rw [List.getElem?_set_self hi] at sk
        cases sk
        rw [e1] at n2; cases n2
      · rw [List.getElem?_set_ne (Ne.symm hk)] at ek sk
        obtain ⟨q, ws, s1, s2, _⟩ := S.slot k _ ek
        rw [sk] at s1; cases s1
        obtain ⟨o', z⟩ := te1.stay _ _ s2
        rw [n2] at z; cases z
    exact ⟨_, _, rfl, l.nx _ _ _ _ _ _ S5 ((te1'.trans te3).toTr) z2⟩
  | _ => exact z2.elim
theorem v_parO {M : Type} {ρ : En} {m : M} {i j : Nat} {t u : DT M} {nx : En → M → Prop} {rt : D → M → Prop} {bk ct : En → M → Prop} {ex : Str → M → Prop} (h : t ρ m (fun x m1 => u ρ m1 (fun y m2 => kPO ρ i j nx x y m2) ex) ex) : dParO i j t u ⟨nx, rt, bk, ct, ex⟩ ρ m := h
theorem v_kPO {M : Type} {ρ : En} {m : M} {i j : Nat} {nx : En → M → Prop} {xs ys : List D} (a : D.nls xs = true) (b : D.nls ys = true) (h : nx ((ρ.set i (.own xs)).set j (.own ys)) m) : kPO ρ i j nx (.lst xs) (.lst ys) m := ⟨a, b, h⟩
end
end RR
namespace RR
open PySem PySem.Spec PyProof.Rows L2
section
variable {X : Cx} {C : Cn}
end
end RR
namespace RR
open PySem PySem.Spec PyProof.Rows L2
section
variable {K : PySem.W.Frag} {C : Cn} {Pr : Addr → Prop} {F : List Addr} {σ : L2.St} {ρ : En} {m : C.W.M} {H : Hp}
theorem SR.setB (S : SR K C Pr F σ ρ m H) {v : V} {d : D} (i : Nat) (h : Dn false K C.F0 (wv C.F0 C.K0) v d) : SR K C Pr F (σ.set i (some v)) (ρ.set i (.bor d)) m H where
  keep := S.keep
  pre := S.pre
  new := S.new
  prs := S.prs
  prn := S.prn
  prf := S.prf
  rz := S.rz
  len := by simpa using S.len
  slot := fun j s e => by
    rcases get_set e with ⟨rfl, rfl⟩ | ⟨ne, e⟩
    · have hi : j < σ.length := by rw [← S.len]; exact lt_of_set e
      exact ⟨v, by rw [List.getElem?_set_self hi], h⟩
    · rw [List.getElem?_set_ne (Ne.symm ne)]
      exact S.slot j s e
  dist := fun a b ds es p ne ea eb sa sb => by
    rcases get_set ea with ⟨rfl, q⟩ | ⟨na, ea⟩
    · cases q
    · rcases get_set eb with ⟨rfl, q⟩ | ⟨nb, eb⟩
      · cases q
      · rw [List.getElem?_set_ne (Ne.symm na)] at sa
        rw [List.getElem?_set_ne (Ne.symm nb)] at sb
        exact S.dist a b ds es p ne ea eb sa sb
end
section
variable {X : Cx} {C : Cn} {e a b : Expr} {pos : Pos}
def JGB (X : Cx) (C : Cn) (tg : Expr) (ws : List Nat) (g : DG) : Prop := ∃ tgt, PG X tg tgt ∧
  ∀ σ H Pr F ρ (m : C.W.M) v d Q (R : L2.St → Hp → Prop), SR X.K C Pr F σ ρ m H → Dn false X.K C.F0 (wv C.F0 C.K0) v d → g d ρ Q →
    (∀ σ' ρ', SR X.K C Pr F σ' ρ' m H → (∀ vs, (∀ i ∈ ws, i ∈ vs) → L2.wipe σ' vs = L2.wipe σ vs) → Q ρ' → R σ' H) → tgt v σ H R
def dgB (i : Nat) : DG := fun d ρ Q => Q (ρ.set i (.bor d))
theorem jgb_name (i : Nat) {x : Str} (hN : X.N.Nodup) (hi : X.N[i]? = some x := by rfl) (hx : Loc X.env.scope x := by first | exact .inl rfl | exact .inr rfl) (hf : X.fn x = true ∨ X.env.scope.names.lookup x = some .local := by first | exact .inl rfl | exact .inr rfl) : JGB X C (.Name x pos) [i] (dgB i) := by
  refine ⟨_, pg_name hN hi hx hf, fun σ H Pr F ρ m v d Q R S dv q k => ?_⟩
  exact k _ _ (S.setB i dv) (fun vs h => wipe_set (h i (by simp))) q
def WkB (K : PySem.W.Frag) (C : Cn) (Pr : Addr → Prop) (F : List Addr) (H : Hp) (items : List D) (J : It) : Prop := ∃ (G : Hp → Prop) (Y : Nat → Hp → V → Hp → Prop), Walk J items.length G Y ∧
  ∀ Pr' F' H', Te Pr F H Pr' F' H' → G H' ∧ ∀ i v H2, Y i H' v H2 → (∀ a o, H' a = some o → H2 a = some o) ∧ ∃ d, items[i]? = some d ∧ Dn false K C.F0 (wv C.F0 C.K0) v d
def JIB (X : Cx) (C : Cn) (tg iter : Expr) (t : DTA C.W.M) : Prop := ∃ wi, PI X tg iter wi ∧
  ∀ σ H Pr F ρ m Q Z (R : It → Hp → Prop), SR X.K C Pr F σ ρ m H → Ex X C Pr F H σ ρ Z → t ρ m Q Z →
    (∀ J H', (∃ Pr' F' m' items, SR X.K C Pr' F' σ ρ m' H' ∧ Te Pr F H Pr' F' H' ∧ WkB X.K C Pr' F' H' items J ∧ Q items m') → R J H') → wi σ H R
def dSeqB {M : Type} (i : Nat) : DTA M := fun ρ m Q _ => match ρ[i]? with | some (.bor (.lst ds)) | some (.bor (.tup ds)) => Q ds m | _ => False
theorem ji_borB {tg : Expr} (i : Nat) {x : Str} (hN : X.N[i]? = some x := by rfl) (hv : Vis X.env.scope x := by first | exact Or.inl rfl | exact Or.inr (Or.inl rfl) | exact Or.inr (Or.inr rfl)) (hd : (x == ("__debug__" : Str)) = false := by decide)
    (hcd : (x == ("__classdict__" : Str)) = false := by decide) : JIB X C tg (.Name x pos) (dSeqB i) := by
  refine ⟨_, pi_seq (pe_var hN hv hd hcd), fun σ H Pr F ρ m Q Z R S E h k => ?_⟩
  unfold dSeqB at h
  split at h
  · rename_i ds e
    obtain ⟨v, e1, dv⟩ := S.slot i _ e
    refine ⟨v, e1, ?_⟩
    have b1 := bor_tr S (Tr.refl (Pr := Pr))
    cases dv with
    | lst hl r =>
      refine ⟨_, _, rfl, .inl ⟨(hl.mono b1).wv, k _ _ ⟨Pr, F, m, _, S, Te.refl, ⟨_, _, by rw [← r.length]; exact walk_list, fun P2 F2 H2 t2 => ⟨(hl.mono (bor_tr S t2.toTr)).wv, fun i v H3 y => ?_⟩⟩, h⟩⟩⟩
      obtain ⟨rfl, e⟩ := y
      exact ⟨fun _ _ h => h, dn_get r e⟩
  · rename_i ds e
    obtain ⟨v, e1, dv⟩ := S.slot i _ e
    refine ⟨v, e1, ?_⟩
    have b1 := bor_tr S (Tr.refl (Pr := Pr))
    cases dv with
    | tup hl r =>
      refine ⟨_, _, rfl, .inr ⟨(hl.mono fun a xs => b1 a _).wv, k _ _ ⟨Pr, F, m, _, S, Te.refl, ⟨_, _, by rw [← r.length]; exact walk_tup, fun P2 F2 H2 t2 => ⟨(hl.mono fun a xs => bor_tr S t2.toTr a _).wv, fun i v H3 y => ?_⟩⟩, h⟩⟩⟩
      obtain ⟨rfl, e⟩ := y
      exact ⟨fun _ _ h => h, dn_get r e⟩
  · exact h.elim
theorem lc_readB {wi : TI} {tg : TG} {tt : TT} {te : TE} {ti : DTA C.W.M} {g : DG} {dt : DTT C.W.M} {de : DT C.W.M} {vs ws : List Nat} {σ : L2.St} {H : Hp} {Pr : Addr → Prop} {F : List Addr} {ρ : En} {m : C.W.M} {Q : D → C.W.M → Prop} {Z : Str → C.W.M → Prop} {R : VK}
    (hw : ∀ i ∈ ws, i ∈ vs)
    (qi : ∀ (R : It → Hp → Prop), (∀ J H', (∃ Pr' F' m' items, SR X.K C Pr' F' σ ρ m' H' ∧ Te Pr F H Pr' F' H' ∧ WkB X.K C Pr' F' H' items J ∧ lcGo g dt de (wipeD ρ vs) items [] m' (fun ds m2 => Q (.lst ds) m2)) → R J H') → wi σ H R)
    (qg : ∀ σ H Pr F ρ (m : C.W.M) v d Q (R : L2.St → Hp → Prop), SR X.K C.nox Pr F σ ρ m H → Dn false X.K C.F0 (wv C.F0 C.K0) v d → g d ρ Q → (∀ σ' ρ', SR X.K C.nox Pr F σ' ρ' m H → (∀ vs, (∀ i ∈ ws, i ∈ vs) → L2.wipe σ' vs = L2.wipe σ vs) → Q ρ' → R σ' H) → tg v σ H R)
    (qt : ∀ σ H Pr F ρ m Q (R : Bool → Hp → Prop), SR X.K C.nox Pr F σ ρ m H → dt ρ m Q (fun _ _ => False) → (∀ v H', PostT X.K C.nox Pr F H σ ρ Q v H' → R v H') → tt σ H R)
    (qe : ∀ σ H Pr F ρ m Q (R : VK), SR X.K C.nox Pr F σ ρ m H → de ρ m Q (fun _ _ => False) → (∀ v H', Post X.K C.nox .s Pr F H σ ρ Q v H' → R v H') → te σ H R)
    (S : SR X.K C Pr F σ ρ m H) (k : ∀ v H', Post X.K C .f Pr F H σ ρ Q v H' → R v H') : tLc wi tg tt te vs σ H R := by
  refine qi _ fun J H1 ⟨P1, F1, m1, items, S1, t1, wk, z⟩ L0 hD => ?_
  obtain ⟨G, Y, w, hG⟩ := wk
  obtain ⟨SD, tD⟩ := S1.new1 (o := .lst []) hD
  obtain ⟨SD, tD⟩ := S1.guard (vs := []) hD
  generalize hP1 : (fun a => P1 a ∨ a = L0) = P1' at SD tD
  let Pv : Nat → Hp → Prop := fun i H' => ∃ P' F' m' acc ds, SR X.K C P' F' σ ρ m' H' ∧ Te P1 F1 H1 P' F' H' ∧ P' L0 ∧ L0 ∉ F' ∧ H' L0 = some (.lst acc) ∧ DnA true X.K F' (sv C.H0 P' H') acc ds ∧ lcGo g dt de (wipeD ρ vs) (items.drop i) ds m' (fun ds m2 => Q (.lst ds) m2)
  have hn0 : C.K0 L0 = none := S1.k0n hD
  have nown : ∀ (i : Nat) (ds : List D) (p : Addr), ρ[i]? = some (.own ds) → σ[i]? = some (some (.ref p)) → p ≠ L0 := fun i ds p e e1 z => by
    obtain ⟨p', us, e2, hp, _⟩ := S1.slot i _ e
    rw [e1] at e2; cases e2
    rw [z, hD] at hp; cases hp
  refine lc_it w Pv ⟨P1', F1, m1, [], [], SD, tD, (by rw [← hP1]; exact .inr rfl), S1.nf hD, upd_same, .nil, z⟩ (fun i H' _ p => ?_) (fun i x H' H2 hi p y => ?_) (fun H' p => ?_)
  · obtain ⟨P', F', m', acc, ds, S', t', _⟩ := p
    exact (hG P' F' H' t').1
  · obtain ⟨P', F', m', acc, ds, S', t', pD, nF, eD, da, z⟩ := p
    obtain ⟨k2, d, ed, hd⟩ := (hG P' F' H' t').2 i x H2 y
    have S2 := S'.grow k2
    have t2 := S'.te k2
    have ei : items.drop i = d :: items.drop (i + 1) := by
      obtain ⟨hlt, e⟩ := List.getElem?_eq_some_iff.mp ed
      rw [List.drop_eq_getElem_cons hlt, e]
    rw [ei] at z
    unfold lcGo at z
    refine qg (L2.wipe σ vs) H2 P' F' (wipeD ρ vs) m' x d _ _ (S2.wipe vs).nox hd z fun σ2 ρ2 S3 hw2 z => ?_
    refine ⟨by rw [hw2 vs hw, wipe_wipe fun _ h => h], ?_⟩
    refine qt σ2 H2 P' F' ρ2 m' _ _ S3 z fun b H3 ⟨P3, F3, m3, S4, t3, z⟩ => ?_
    have t3 := t2.trans t3
    have stepD : ∀ {P4 F4 H4}, Te P' F' H' P4 F4 H4 → P4 L0 ∧ L0 ∉ F4 ∧ H4 L0 = some (.lst acc) := fun {P4 F4 H4} t => ⟨t.prm L0 pD, (fun z => by
      have q := t.fn L0 z nF
      rw [eD] at q
      cases q), t.all L0 _ nF eD⟩
    cases b with
    | false =>
      refine iteF ?_
      have z : lcGo g dt de (wipeD ρ vs) (items.drop (i + 1)) ds m3 (fun ds m2 => Q (.lst ds) m2) := z
      obtain ⟨d1, d2, d3⟩ := stepD t3
      exact ⟨P3, F3, m3, acc, ds, S'.back t3 S4.unnox, t'.trans t3, d1, d2, d3, DnA.mono t3.pre (sv_tr t3.toTr S'.prs) da, z⟩
    | true =>
      refine iteT ?_
      refine qe σ2 H3 P3 F3 ρ2 m3 _ _ S4 z fun v H4 ⟨P4, F4, m4, y4, S5, t4, dv, z⟩ => ?_
      have t4 := t3.trans t4
      obtain ⟨d1, d2, d3⟩ := stepD t4
      have dv : Dn true X.K F4 (sv C.H0 P4 H4) v y4 := dv
      have S6 := S'.back t4 S5.unnox
      obtain ⟨S7, up⟩ := S6.poke (ws := acc ++ [v]) d1 d2 d3 hn0 nown
      have la : acc.length = ds.length := da.length
      refine ⟨acc, d3, by rw [la]; exact z.1, P4, F4, m4, acc ++ [v], ds ++ [y4], S7, ⟨⟨(t'.trans t4).pre, (t'.trans t4).prn, (t'.trans t4).fn, fun a o h => ?_, fun a o n h => ?_⟩, (t'.trans t4).prm, fun a o n h => ?_⟩, d1, d2, upd_same,
        DnA.mono ⟨[], by simp⟩ up (DnA.app (DnA.mono t4.pre (sv_tr t4.toTr S'.prs) da) (.cons dv .nil)), z.2⟩
      · obtain ⟨o', e⟩ := (t'.trans t4).stay a o h
        exact ⟨o', by rw [upd_ne (ne_of_none h hD)]; exact e⟩
      · rw [upd_ne (ne_of_none h hD)]
        exact (t'.trans t4).keep a o n h
      · rw [upd_ne (ne_of_none h hD)]
        exact (t'.trans t4).all a o n h
  · obtain ⟨P', F', m', acc, ds, S', t', pD, nF, eD, da, z⟩ := p
    rw [List.drop_length] at z
    unfold lcGo at z
    obtain ⟨S2, up⟩ := S'.unguard eD nF (C.k0 hn0) nown
    refine k _ _ ⟨fun a => P' a ∧ a ≠ L0, F', m', .lst ds, S2, t1.trans ⟨⟨t'.pre, fun a h n => t'.prn a h.1 n, t'.fn, t'.stay, t'.keep⟩, fun a h => ⟨t'.prm a h, fun z => S1.np hD (z ▸ h)⟩, t'.all⟩, ?_, z⟩
    have da2 : DnA true X.K F' (sv C.H0 (fun a => P' a ∧ a ≠ L0) H') acc ds := DnA.mono ⟨[], by simp⟩ up da
    exact ⟨.lst (vw_iff.mpr ⟨eD, .inr ⟨trivial, fun z => z.2 rfl, C.k0 hn0⟩⟩) da2, fun ds' e => by cases e; exact ⟨L0, acc, rfl, some_of (t1.stay L0) hD, fun z => z.2 rfl, eD, da2⟩⟩
variable {elt tg iter : Expr} {ifs : List Expr} {scope : Scope} {own : List (Str × Nat)} {ti : DTA C.W.M} {g : DG} {dt : DTT C.W.M} {de : DT C.W.M} {ws : List Nat}
def cnGB (K : PySem.W.Frag) (C : Cn) (ws : List Nat) (g : DG) : TG := fun v σ H R => ∃ Pr F ρ, ∃ m : C.W.M, ∃ d Q, SR K C Pr F σ ρ m H ∧ Dn false K C.F0 (wv C.F0 C.K0) v d ∧ g d ρ Q ∧
    (∀ σ' ρ', SR K C Pr F σ' ρ' m H → (∀ vs, (∀ i ∈ ws, i ∈ vs) → L2.wipe σ' vs = L2.wipe σ vs) → Q ρ' → R σ' H)
theorem JGB.cn {X : Cx} {C : Cn} {ws : List Nat} {e : Expr} {g : DG} (h : JGB X C e ws g) : PG X e (cnGB X.K C ws g) := by
  obtain ⟨te, p, q⟩ := h
  exact ⟨fun pins s σ H v u R I r ⟨Pr, F, ρ, m, d, Q, S, dv, z, k⟩ => p.run pins s σ H v u R I r (q σ H Pr F ρ m v d Q R S dv z k)⟩
theorem lc_allB {wi : TI} (qi : ∀ σ H Pr F ρ m Q Z (R : It → Hp → Prop), SR X.K C Pr F σ ρ m H → Ex X C Pr F H σ ρ Z → ti ρ m Q Z →
    (∀ J H', (∃ Pr' F' m' items, SR X.K C Pr' F' σ ρ m' H' ∧ Te Pr F H Pr' F' H' ∧ WkB X.K C Pr' F' H' items J ∧ Q items m') → R J H') → wi σ H R) (hw : ∀ i ∈ ws, i ∈ own.map (·.2))
    {σ : L2.St} {H : Hp} {Pr : Addr → Prop} {F : List Addr} {ρ : En} {m : C.W.M} {Q : D → C.W.M → Prop} {Z : Str → C.W.M → Prop} {R : VK} (S : SR X.K C Pr F σ ρ m H) (E : Ex X C Pr F H σ ρ Z) (h : dLc ti g dt de (own.map (·.2)) ρ m Q Z)
    (k : ∀ v H', Post X.K C .f Pr F H σ ρ Q v H' → R v H') : tLc wi (cnGB X.K C.nox ws g) (cnT X.K C.nox dt) (cnE .s X.K C.nox de) (own.map (·.2)) σ H R :=
  lc_readB (ti := ti) (Z := Z) (g := g) (dt := dt) (de := de) hw (fun R' k' => qi σ H Pr F ρ m _ Z R' S E h k') (fun σ H Pr F ρ m v d Q R S dv z k => ⟨Pr, F, ρ, m, d, Q, S, dv, z, k⟩) (fun σ H Pr F ρ m Q R S z k => ⟨Pr, F, ρ, m, Q, S, z, k⟩) (fun σ H Pr F ρ m Q R S z k => ⟨Pr, F, ρ, m, Q, S, z, k⟩) S k
theorem j_lcB (hc : X.calm = true) (hN : X.N.Nodup) (hi : JIB X C tg iter ti) (ok : BlkOk X.N X.env.scope scope own) (hg : ∀ s H c cl fp, JGB (Blk X scope s H c cl fp) C.nox tg ws g) (ht : ∀ s H c cl fp, JTs (Blk X scope s H c cl fp) C.nox ifs dt) (he : ∀ s H c cl fp, J .s (Blk X scope s H c cl fp) C.nox elt de)
    (hw : ∀ i ∈ ws, i ∈ own.map (·.2)) (hs : ∀ x, foldedSetIterable iter X.env x = pure x := by intro _; rfl) : J .f X C (.ListComp elt [⟨tg, iter, ifs, 0⟩] scope pos) (dLc ti g dt de (own.map (·.2))) := by
  obtain ⟨wi, pi, qi⟩ := hi
  refine ⟨_, pe_lc (g := cnGB X.K C.nox ws g) (tt := cnT X.K C.nox dt) (te := cnE .s X.K C.nox de) hc hN pi ok (fun s H c cl fp => (hg s H c cl fp).cn) (fun s H c cl fp => (ht s H c cl fp).cn) (fun s H c cl fp => (he s H c cl fp).cn) hs, fun σ H Pr F ρ m Q Z R S E h k => ?_⟩
  exact lc_allB qi hw S E h k
end
section
variable {M : Type} {ρ : En} {m : M} {nx : En → M → Prop} {rt : D → M → Prop} {bk ct : En → M → Prop} {ex : Str → M → Prop} {Q : List D → M → Prop} {Z : Str → M → Prop} {ds : List D} {d : D}
theorem v_seqBt {i : Nat} (e : ρ[i]? = some (.bor (.tup ds))) (h : Q ds m) : dSeqB i ρ m Q Z := by unfold dSeqB; rw [e]; exact h
theorem v_gB {i : Nat} {q : En → Prop} (h : q (ρ.set i (.bor d))) : dgB i d ρ q := h
end
end RR
namespace RR
open PySem PySem.Spec PyProof.Rows L2
theorem DnA.ints_inv {s : Bool} {K : PySem.W.Frag} {F : List Addr} {G : Hp} : ∀ {vs : List V} {ns : List Int}, DnA s K F G vs (zz ns) → vs = ns.map V.int
  | _, [], h => by cases h; rfl
  | _, n :: ns, h => by
    have h : DnA s K F G _ (.int n :: zz ns) := h
    cases h with
    | cons a b =>
      cases a
      rw [DnA.ints_inv b, List.map_cons]
def DrSt (N : Nat) (F : List Addr) (H : Hp) : Prop := ∃ (am ac ad : Addr) (cs ds : List Int) (n : Int), F = [am, ac, ad] ∧ am ≠ ac ∧ am ≠ ad ∧ ac ≠ ad ∧
  H am = some (.dK [(Sum.inr "cells", .ref ac), (Sum.inr "digits", .ref ad), (Sum.inr "at", .int n)]) ∧ H ac = some (.lst (cs.map V.int)) ∧ H ad = some (.lst (ds.map V.int)) ∧
  0 ≤ n ∧ n + (N : Int) ≤ 2 ^ 60 ∧ cs.length = 64 ∧ (∀ c ∈ cs, 0 ≤ c ∧ c < 2147483647) ∧ ds.length < sizeLine
def DrW : Wd where
  M := Option Nat
  Rz := fun m F H => match m with | none => F = [] | some N => DrSt N F H
  keep := fun {m F H H'} h k _ => by
    cases m with
    | none => exact h
    | some N =>
      obtain ⟨am, ac, ad, cs, ds, n, rfl, x1, x2, x3, e1, e2, e3, r⟩ := h
      exact ⟨am, ac, ad, cs, ds, n, rfl, x1, x2, x3, (k _ (by simp)).trans e1, (k _ (by simp)).trans e2, (k _ (by simp)).trans e3, r⟩
  there := fun {m F H} h a ha => by
    cases m with
    | none =>
      have h : F = [] := h
      rw [h] at ha; cases ha
    | some N =>
      obtain ⟨am, ac, ad, cs, ds, n, rfl, x1, x2, x3, e1, e2, e3, r⟩ := h
      simp only [List.mem_cons, List.not_mem_nil, or_false] at ha
      rcases ha with rfl | rfl | rfl
      · exact ⟨_, e1, fun h => h⟩
      · exact ⟨_, e2, fun h => h⟩
      · exact ⟨_, e3, fun h => h⟩
def s__law_mixed {M : Type} : DSp M := fun ds m Q Z => ∃ c k, ds = [.int c, .int k] ∧ c.natAbs < 2 ^ 70 ∧ 0 ≤ k ∧ k < 2 ^ 62 ∧ ∀ x, 0 ≤ x → x < 2 ^ 30 → Q (.int x) m
def s__law_folded {M : Type} : DSp M := fun ds m Q Z => ∃ ns, ds = [.lst (zz ns)] ∧ ns.length ≤ 63 ∧ ∀ cs : List Int, cs.length = 64 → (∀ c ∈ cs, 0 ≤ c ∧ c < 2147483647) → Q (.lst (zz cs)) m
abbrev hdl : Nat := 0
def s__law_draw : DSp (Option Nat) := fun ds m Q Z => ∃ N many, ds = [.hnd hdl, .int many] ∧ m = some (N + 1) ∧ 0 < many ∧ many.natAbs < 2 ^ 8000 ∧ ∀ x, 0 ≤ x → x < many → Q (.int x) (some N)
def s__law_begun : DSp (Option Nat) := fun ds m Q Z => ∃ ns, ds = [.lst (zz ns)] ∧ ns.length ≤ 63 ∧ m = none ∧ Q (.hnd hdl) (some (2 ^ 50))
def s0__law_draw : DSp (Option Nat) := fun ds m Q Z => ∃ N many, ds = [.hnd 0, .int many] ∧ m = some (N + 1) ∧ 0 < many ∧ many.natAbs < 2 ^ 8000 ∧ ∀ x, 0 ≤ x → x < many → Q (.int x) (some N)
def s0__law_begun : DSp (Option Nat) := fun ds m Q Z => ∃ ns, ds = [.lst (zz ns)] ∧ ns.length ≤ 63 ∧ m = none ∧ Q (.hnd 0) (some (2 ^ 50))
def hMix : Sp := fun vs H Q _ => ∃ c k, vs = [.int c, .int k] ∧ c.natAbs < 2 ^ 70 ∧ 0 ≤ k ∧ k < 2 ^ 62 ∧ ∀ x H', 0 ≤ x → x < 2 ^ 30 → Same H H' → Q (.int x) H'
def hFold (K : PySem.W.Frag) : Sp := fun vs H Q _ => ∃ (a : Addr) (ns : List Int), vs = [.ref a] ∧ SqL K H a (ns.map V.int) ∧ ns.length ≤ 63 ∧ ∀ (cs : List Int) p H', Same H H' → H p = none → H' p = some (.lst (cs.map V.int)) → cs.length = 64 → (∀ c ∈ cs, 0 ≤ c ∧ c < 2147483647) → Q (.ref p) H'
section
variable {P : Program} {w : World} {K : PySem.W.Frag} {mg : Str → Option Value} {base : Heap} {k : Nat} {f : Addr} {fd : FuncData} {ps : List Str}
theorem hMix_of (F : FnG P w K mg base (L2.CX P w) k f fd ps (spD K mg W0 s__law_mixed)) : FnG P w K mg base (L2.CX P w) k f fd ps hMix := by
  refine F.imp fun vs H Q E h => ?_
  obtain ⟨c, n, rfl, h1, h2, h3, q⟩ := h
  refine ⟨[], (), [.int c, .int n], fun d _ => ∃ x, d = .int x ∧ 0 ≤ x ∧ x < 2 ^ 30, fun _ _ => False, rfl, .cons (.int c) (.cons (.int n) .nil), ⟨c, n, rfl, h1, h2, h3, fun x a b => ⟨x, rfl, a, b⟩⟩, fun v H' F' d m' _ _ _ kp dn e => ?_, fun _ _ _ _ _ _ _ _ _ _ z => z.elim⟩
  obtain ⟨x, rfl, a, b⟩ := e
  cases dn
  exact q x H' a b fun a o e => kp a o (by simp) e
theorem hFold_of (F : FnG P w K mg base (L2.CX P w) k f fd ps (spD K mg W0 s__law_folded)) : FnG P w K mg base (L2.CX P w) k f fd ps (hFold K) := by
  refine F.imp fun vs H Q E h => ?_
  obtain ⟨a, ns, rfl, hs, hl, q⟩ := h
  refine ⟨[], (), [.lst (zz ns)], fun d _ => ∃ cs : List Int, d = .lst (zz cs) ∧ cs.length = 64 ∧ ∀ c ∈ cs, 0 ≤ c ∧ c < 2147483647, fun _ _ => False, rfl, .cons (.lst (Ls.mono (s := false) (fun a o e => vw_iff.mpr ⟨e, by simp⟩) (show Ls false K H a _ from hs)) (ints_dn ns)) .nil, ⟨ns, rfl, hl, fun cs a b => ⟨cs, rfl, a, b⟩⟩, fun v H' F' d m' _ _ _ kp dn e => ?_, fun _ _ _ _ _ _ _ _ _ _ z => z.elim⟩
  obtain ⟨cs, rfl, c1, c2⟩ := e
  cases dn with
  | lst g r =>
    rename_i p xs
    have g : sv H (· ∈ F') H' p = some (.lst xs) := g
    obtain ⟨e1, e2⟩ := vw_iff.mp g
    rcases e2 with e2 | e2
    · exact e2.elim
    · rw [r.ints_inv] at e1
      exact q cs p H' (fun a o e => kp a o (by simp) e) e2.2.2 e1 c1 c2
end
abbrev drV (ac ad : Addr) (n : Int) : List (L2.Key × V) := [(Sum.inr "cells", .ref ac), (Sum.inr "digits", .ref ad), (Sum.inr "at", .int n)]
abbrev N__law_draw : List Str := ["_law_m", "_law_many", "_law_k", "_law_at", "_law_cell"]
abbrev N__law_begun : List Str := ["_law_script", "_law_m"]
end RR
namespace RR
open PySem PySem.Spec PyProof.Rows L2
section
variable {K : PySem.W.Frag} {E : L2.St → XK}
abbrev tLen (K : PySem.W.Frag) (t : TA) : TE := tCB (fun xs H Q => ∃ p ys, xs = [V.ref p] ∧ (SqL K H p ys ∨ SqT K H p ys) ∧ Q (V.int ys.length) H) t
abbrev tFld (i : Nat) (x : Str) : TE := tDGet (tVar i) (tC (V.str x))
abbrev tMod (a b : TE) : TE := tOp (rI (fun _ j => j ≠ 0) fun i j => V.int (i.fmod j)) a b
abbrev tDiv (a b : TE) : TE := tOp (rI Nd fun i j => V.int (i.fdiv j)) a b
abbrev tAdd (a b : TE) : TE := tOp (rI0 fun i j => V.int (i + j)) a b
abbrev t_last (K : PySem.W.Frag) (E : L2.St → XK) : TE :=
  tMod (tCallSD hMix [] E (tCons (tCallSD hMix [] E (tCons (tAdd (tOp (rIxL K) (tFld 0 "cells") (tMod (tVar 2) (tC (V.int 64)))) (tOp (rI IntMulOk fun i j => V.int (i * j)) (tC (V.int 31)) (tDiv (tVar 2) (tC (V.int 64))))) (tCons (tVar 2) tNil)))
    (tCons (tAdd (tVar 2) (tC (V.int 7))) tNil))) (tVar 1)
abbrev t_draw (K : PySem.W.Frag) (E : L2.St → XK) : TS :=
  tSeq (tAsg (tFld 0 "at") (gName 2))
    (tSeq (sDPut (tVar 0) (tC (V.str "at")) (tAdd (tVar 2) (tC (V.int 1))))
    (tSeq (tIfS (tTest (tOp (rNeD K) (tFld 0 "digits") (tLst tNil)))
      (tSeq (tAsg (tMod (tVar 2) (tLen K (tCons (tFld 0 "digits") tNil))) (gName 3))
      (tSeq (tAsg (tOp (rIxL K) (tFld 0 "digits") (tVar 3)) (gName 4))
        (tIfS (tTest (tOp (rIn K true) (tVar 4) (tTup (tCons (tC (V.int 0)) (tCons (tUn (rU fun i => V.int (-i)) (tC (V.int 1))) tNil)))))
          (tSeq (tAsg (tDiv (tVar 4) (tVar 1)) (gSub (tFld 0 "digits") (tVar 3) rSetL)) (tRet (tMod (tVar 4) (tVar 1))))
          tNext)))
      tNext)
    (tRet (t_last K E))))
theorem rd_last {am ac ad : Addr} {cs : List Int} {n many : Int} {y3 y4 : Option V} {Q : VK} {H : Hp} (e1 : H am = some (.dK (drV ac ad (n + 1)))) (e2 : H ac = some (.lst (cs.map V.int))) (n0 : 0 ≤ n) (n1 : n < 2 ^ 60)
    (lc : cs.length = 64) (bc : ∀ c ∈ cs, 0 ≤ c ∧ c < 2147483647) (hp : 0 < many) (fin : ∀ H' x, Same H H' → 0 ≤ x → x < many → Q (.int x) H') :
    t_last K E [some (.ref am), some (.int many), some (.int n), y3, y4] H Q := by
  have k0 : 0 ≤ n.fmod 64 := Int.fmod_nonneg_of_pos _ (by decide)
  have k1 : n.fmod 64 < 64 := Int.fmod_lt_of_pos _ (by decide)
  have ci : (n.fmod 64).toNat < cs.length := by omega
  obtain ⟨b0, b1⟩ := bc _ (List.getElem_mem ci)
  have g : atI (cs.map V.int) (n.fmod 64) = some (.int cs[(n.fmod 64).toNat]) := by
    rw [atI_at k0 (by rw [List.length_map, lc]; exact k1), List.getElem_map]
  have d0 : n.fdiv 64 = n / 64 := fdiv_pos (by decide)
  refine ⟨.ref am, rfl, am, .ref ac, rfl, DGet.k (k := Sum.inr "cells") e1,   .int n, rfl, n, 64, rfl, rfl, (by decide : (64 : Int) ≠ 0), ac, _, _, _, rfl, rfl, .inl (.inl e2), g,
    .int n, rfl, n, 64, rfl, rfl, nd_small (b := 8) (by decide) (bd_lit (by decide)), 31, n.fdiv 64, rfl, rfl, mulok (a := 5) (b := 62) (bd_lit (by decide)) ?_, _, _, rfl, rfl, .int n, rfl, _, n, rfl, ?_, n0, by omega, fun x H1 h0 h1 s1 =>
    ⟨.int n, rfl, n, 7, rfl, rfl, x, n + 7, rfl, ?_, by omega, by omega, fun y H2 h2 h3 s2 => ⟨.int many, rfl, y, many, rfl, rfl, by omega, fin H2 _ (s1.trans s2) (Int.fmod_nonneg_of_pos _ hp) (Int.fmod_lt_of_pos _ hp)⟩⟩⟩
  · rw [d0]; unfold bd; omega
  · rw [d0]; omega
  · omega
theorem rd_draw {mg : Str → Option Value} {vs : List V} {H : Hp} {Q : VK} {X : XK} (h : spD K mg DrW s0__law_draw vs H Q X) : t_draw K E { nx := fun _ H' => Q .non H', rt := Q } (L2.start N__law_draw vs) H := by
  obtain ⟨F0, m, ds, Qd, Zd, rz, dv, ⟨N, many, rfl, rfl, hp, hb, q⟩, hq, _⟩ := h
  obtain ⟨am, ac, ad, cs, dg, n, rfl, x1, x2, x3, e1, e2, e3, n0, nN, lc, bc, ld⟩ := rz
  cases dv with
  | cons d1 dv =>
  cases dv with
  | cons d2 dv =>
  cases dv
  cases d1 with
  | hnd e =>
  cases d2
  cases (Option.some.inj e)
  have e1 : H am = some (.dK (drV ac ad n)) := e1
  have nN' : n + N + 1 ≤ 2 ^ 60 := by omega
  have fin : ∀ (H' : Hp) (dg' : List Int) x, H' am = some (.dK (drV ac ad (n + 1))) → H' ac = some (.lst (cs.map V.int)) → H' ad = some (.lst (dg'.map V.int)) → dg'.length = dg.length → (∀ a o, a ∉ [am, ac, ad] → H a = some o → H' a = some o) → 0 ≤ x → x < many → Q (.int x) H' :=
    fun H' dg' x f1 f2 f3 l kp h0 h1 => hq (.int x) H' [am, ac, ad] (.int x) (some N) ⟨am, ac, ad, cs, dg', n + 1, rfl, x1, x2, x3, f1, f2, f3, by omega, by omega, lc, bc, by omega⟩ ⟨[], by simp⟩ (fun a h z => absurd h z) kp (.int x) (q x h0 h1)
  refine ⟨.ref am, rfl, am, .int n, rfl, DGet.k (k := Sum.inr "at") e1, .int n, rfl, n, 1, rfl, rfl, .ref am, rfl, am, upd H am (.dK (drV ac ad (n + 1))), rfl, DPut.k (k := Sum.inr "at") e1 (lt_line (show 3 < 16777216 by decide)), ?_⟩
  have f1 : upd H am (.dK (drV ac ad (n + 1))) am = some (.dK (drV ac ad (n + 1))) := upd_same
  have f2 : upd H am (.dK (drV ac ad (n + 1))) ac = some (.lst (cs.map V.int)) := by rw [upd_ne x1.symm]; exact e2
  have f3 : upd H am (.dK (drV ac ad (n + 1))) ad = some (.lst (dg.map V.int)) := by rw [upd_ne x2.symm]; exact e3
  have kp : ∀ a o, a ∉ [am, ac, ad] → H a = some o → upd H am (.dK (drV ac ad (n + 1))) a = some o := fun a o z e => by
    rw [upd_ne (fun q => z (by rw [q]; simp))]; exact e
  generalize upd H am (.dK (drV ac ad (n + 1))) = H1 at f1 f2 f3 kp ⊢
  have last : ∀ (H' : Hp) (y3 y4 : Option V), Same H1 H' → t_last K E [some (.ref am), some (.int many), some (.int n), y3, y4] H' Q := fun H' y3 y4 s =>
    rd_last (s _ _ f1) (s _ _ f2) n0 (by omega) lc bc hp fun H2 x s2 h0 h1 => fin H2 dg x (s2 _ _ (s _ _ f1)) (s2 _ _ (s _ _ f2)) (s2 _ _ (s _ _ f3)) rfl (fun a o z e => s2 _ _ (s _ _ (kp a o z e))) h0 h1
  refine ⟨.ref am, rfl, am, .ref ad, rfl, DGet.k (k := Sum.inr "digits") f1, Nat.zero_le _, fun p np => ?_⟩
  have s1 : Same H1 (upd H1 p (.lst [])) := fun b o z => by rw [upd_ne (fun q => by rw [q, np] at z; cases z)]; exact z
  have fp : upd H1 p (.lst []) p = some (.lst []) := upd_same
  generalize upd H1 p (.lst []) = H2 at s1 fp ⊢
  have g1 := s1 _ _ f1
  have g2 := s1 _ _ f2
  have g3 := s1 _ _ f3
  have dn : Dn true K [] H2 (.ref ad) (.lst (zz dg)) := .lst (show Ls true K H2 ad _ from g3) (ints_dn dg)
  have dn0 : Dn true K [] H2 (.ref p) (.lst (zz [])) := .lst (show Ls true K H2 p _ from fp) .nil
  refine ⟨_, _, dn.dp (n := 8) (fun _ _ h => h) (q_lst dg), dn0.dp (n := 8) (fun _ _ h => h) (q_lst []), shaped_q (q_lst dg), shaped_q (q_lst []), _, rfl, ?_⟩
  rw [py_eqv (q_lst (n := 7) dg) (q_lst []), eqv_lst]
  by_cases hd : dg = []
  · rw [decide_eq_true hd]
    exact iteF (last H2 none none s1)
  · rw [decide_eq_false hd]
    refine iteT ?_
    have l0 : 0 < dg.length := List.length_pos_iff.mpr hd
    have k0 : 0 ≤ n.fmod dg.length := Int.fmod_nonneg_of_pos _ (by omega)
    have k1 : n.fmod dg.length < dg.length := Int.fmod_lt_of_pos _ (by omega)
    have em : n.fmod ((dg.map V.int).length : Int) = n.fmod dg.length := by rw [List.length_map]
    refine ⟨.int n, rfl, .ref am, rfl, am, .ref ad, rfl, DGet.k (k := Sum.inr "digits") g1, ad, _, rfl, .inl (.inl (.inl g3)), n, _, rfl, rfl, by rw [List.length_map]; omega, ?_⟩
    show gName 3 (.int (n.fmod ((dg.map V.int).length : Int))) _ _ _
    rw [em]
    generalize n.fmod dg.length = j at k0 k1 ⊢
    obtain ⟨c, gj⟩ : ∃ c, atI (dg.map V.int) j = some (.int c) := ⟨dg[j.toNat]'(by omega), by rw [atI_at k0 (by rw [List.length_map]; exact k1), List.getElem_map]⟩
    refine ⟨.ref am, rfl, am, .ref ad, rfl, DGet.k (k := Sum.inr "digits") g1, .int j, rfl, ad, _, _, _, rfl, rfl, .inl (.inl g3), gj, .int c, rfl, 1, rfl, show 2 ≤ sizeLine from small_line (by decide), fun t nt => ?_⟩
    have s2 : Same H2 (upd H2 t (.tup [.int 0, .int (-1)])) := fun b o z => by rw [upd_ne (fun q => by rw [q, nt] at z; cases z)]; exact z
    have ft : upd H2 t (.tup [.int 0, .int (-1)]) t = some (.tup [.int 0, .int (-1)]) := upd_same
    generalize upd H2 t (.tup [.int 0, .int (-1)]) = H3 at s2 ft ⊢
    refine ⟨t, _, rfl, .inr (.inl (.inl ft)), rfl, rfl, _, rfl, ite2 (fun z => ?_) fun z => ?_⟩
    · have nj : ixN (dg.map V.int).length j = some j.toNat := ixN_at k0 (by rw [List.length_map]; exact k1)
      refine ⟨.int c, rfl, .int many, rfl, c, many, rfl, rfl, nd_small (b := 8000) (by omega) hb, .ref am, rfl, am, .ref ad, rfl, DGet.k (k := Sum.inr "digits") (s2 _ _ g1), .int j, rfl, ad, _, j, j.toNat, rfl, rfl, s2 _ _ g3, nj,
        .int c, rfl, .int many, rfl, c, many, rfl, rfl, by omega, ?_⟩
      refine fin _ (dg.set j.toNat (c.fdiv many)) _ ?_ ?_ ?_ (List.length_set ..) (fun a o z e => ?_) (Int.fmod_nonneg_of_pos _ hp) (Int.fmod_lt_of_pos _ hp)
      · rw [upd_ne x2]; exact s2 _ _ g1
      · rw [upd_ne x3]; exact s2 _ _ g2
      · rw [upd_same, List.map_set]
      · rw [upd_ne (fun q => z (by rw [q]; simp))]; exact s2 _ _ (s1 _ _ (kp a o z e))
    · exact last H3 _ _ (s1.trans s2)
abbrev t_begun (K : PySem.W.Frag) (E : L2.St → XK) : TS :=
  tSeq (tAsg (tDisp [(tC (V.str "cells"), tCallSD (hFold K) [] E (tCons (tVar 0) tNil)), (tC (V.str "digits"), tLst tNil), (tC (V.str "at"), tC (V.int 0))]) (gName 1))
    (tSeq (tIfS (tAnd (tTest (tOp (rNeD K) (tVar 0) (tLst tNil))) (tTest (tOp rEq (tMod (tOp (rIxL K) (tVar 0) (tC (V.int 0))) (tC (V.int 2))) (tC (V.int 1)))))
      (sDPut (tVar 1) (tC (V.str "digits")) (tOp rCat (tLst (tCons (tDiv (tOp (rIxL K) (tVar 0) (tC (V.int 0))) (tC (V.int 2))) tNil)) (tSl (rSlL K) (tVar 0) (tPart (tC (V.int 1))) tNoPart)))
      tNext)
    (tRet (tVar 1)))
theorem same_new {H : Hp} {p : Addr} {o : HO} (n : H p = none) : Same H (upd H p o) := fun b x z => by rw [upd_ne (fun q => by rw [q, n] at z; cases z)]; exact z
theorem ne_none {H : Hp} {p q : Addr} {o : HO} (e : H p = some o) (n : H q = none) : p ≠ q := fun z => by rw [z, n] at e; cases e
theorem none_back {H H' : Hp} {a : Addr} (s : Same H H') (n : H' a = none) : H a = none := by
  cases e : H a with
  | none => rfl
  | some o => rw [s _ _ e] at n; cases n
theorem rd_begun {mg : Str → Option Value} {vs : List V} {H : Hp} {Q : VK} {X : XK} (h : spD K mg DrW s0__law_begun vs H Q X) : t_begun K E { nx := fun _ H' => Q .non H', rt := Q } (L2.start N__law_begun vs) H := by
  obtain ⟨F0, m, ds, Qd, Zd, rz, dv, ⟨ns, rfl, hl, rfl, q⟩, hq, _⟩ := h
  have rz : F0 = [] := rz
  subst rz
  cases dv with
  | cons d1 dv =>
  cases dv
  cases d1 with
  | lst hs hr =>
  rename_i a xs
  have hx := hr.ints_inv
  subst hx
  have hs : SqL K H a (ns.map V.int) := Ls.mono (s := false) (fun _ _ => wv_le) hs
  refine fun p np => ⟨.ref a, rfl, a, ns, rfl, (same_new np).seq hs, hl, fun cs c H1 s1 nc ec lc bc => ⟨Nat.zero_le _, fun g ng => ⟨?_, [(Sum.inr "cells", .ref c), (Sum.inr "digits", .ref g), (Sum.inr "at", .int 0)], rfl, (show 3 ≤ 15 by decide), ?_⟩⟩⟩
  · exact same_new ng _ _ (s1 _ _ upd_same)
  show tSeq _ _ _ [some (.ref a), some (.ref p)] (upd (upd H1 g (.lst [])) p (.dK (drV c g 0)))
  have npc : p ≠ c := fun z => by rw [← z, upd_same] at nc; cases nc
  have ncH : H c = none := by rw [upd_ne npc.symm] at nc; exact nc
  have ep1 : H1 p = some (.dK []) := s1 _ _ upd_same
  have npg : p ≠ g := ne_none ep1 ng
  have ncg : c ≠ g := ne_none ec ng
  have sH : ∀ b o, H b = some o → H1 b = some o := fun b o e => s1 _ _ (same_new np _ _ e)
  have ngH : H g = none := none_back sH ng
  have f1 : upd (upd H1 g (.lst [])) p (.dK (drV c g 0)) p = some (.dK (drV c g 0)) := upd_same
  have f2 : upd (upd H1 g (.lst [])) p (.dK (drV c g 0)) c = some (.lst (cs.map V.int)) := by rw [upd_ne npc.symm, upd_ne ncg]; exact ec
  have f3 : upd (upd H1 g (.lst [])) p (.dK (drV c g 0)) g = some (.lst []) := by rw [upd_ne npg.symm, upd_same]
  have s2 : Same H (upd (upd H1 g (.lst [])) p (.dK (drV c g 0))) := fun b o e => by
    rw [upd_ne (fun z => by rw [z, np] at e; cases e), upd_ne (fun z => by rw [z, ngH] at e; cases e)]
    exact sH b o e
  generalize upd (upd H1 g (.lst [])) p (.dK (drV c g 0)) = H2 at f1 f2 f3 s2 ⊢
  have fin : ∀ (H' : Hp) (d : Addr) (dg : List Int), H d = none → d ≠ p → d ≠ c → H' p = some (.dK (drV c d 0)) → H' c = some (.lst (cs.map V.int)) → H' d = some (.lst (dg.map V.int)) → dg.length < sizeLine → Same H H' → Q (.ref p) H' :=
    fun H' d dg nd n1 n2 e1 e2 e3 ld s => hq (.ref p) H' [p, c, d] (.hnd 0) (some (2 ^ 50)) ⟨p, c, d, cs, dg, 0, rfl, npc, n1.symm, n2.symm, e1, e2, e3, by decide, by decide, lc, bc, ld⟩ ⟨[p, c, d], rfl⟩
      (fun x hx _ => by simp only [List.mem_cons, List.not_mem_nil, or_false] at hx; rcases hx with rfl | rfl | rfl <;> assumption) (fun x o _ e => s x o e) (.hnd rfl) q
  have hs2 : SqL K H2 a (ns.map V.int) := s2.seq hs
  refine ⟨.ref a, rfl, Nat.zero_le _, fun t nt => ?_⟩
  have s3 := same_new (o := .lst []) nt
  have et : upd H2 t (.lst []) t = some (.lst []) := upd_same
  generalize upd H2 t (.lst []) = H3 at s3 et ⊢
  have dn : Dn false K [] H3 (.ref a) (.lst (zz ns)) := .lst (show Ls false K H3 a _ from s3.seq hs2) (ints_dn ns)
  have dn0 : Dn true K [] H3 (.ref t) (.lst (zz [])) := .lst (show Ls true K H3 t _ from et) .nil
  refine ⟨_, _, dn.dp (n := 8) (fun _ _ h => h) (q_lst ns), dn0.dp (n := 8) (fun _ _ h => h) (q_lst []), shaped_q (q_lst ns), shaped_q (q_lst []), _, rfl, ?_⟩
  rw [py_eqv (q_lst (n := 7) ns) (q_lst []), eqv_lst]
  have skip : ∀ H', Same H2 H' → Q (.ref p) H' := fun H' s => fin H' g [] ngH npg.symm ncg.symm (s _ _ f1) (s _ _ f2) (s _ _ f3) (lt_line (show 0 < 16777216 by decide)) (s2.trans s)
  by_cases hn : ns = []
  · rw [decide_eq_true hn]
    exact iteF ⟨.ref p, rfl, skip _ s3⟩
  · rw [decide_eq_false hn]
    refine iteT ?_
    obtain ⟨x, r, rfl⟩ := List.exists_cons_of_ne_nil hn
    have hs3 := s3.seq hs2
    have g0 : atI ((x :: r).map V.int) 0 = some (.int x) := atI_nat (j := 0) rfl
    refine ⟨.ref a, rfl, a, _, 0, _, rfl, rfl, hs3, g0, x, 2, rfl, rfl, (by decide : (2 : Int) ≠ 0), rfl, _, rfl, ite2 (fun _ => ?_) fun _ => ⟨.ref p, rfl, skip _ s3⟩⟩
    refine ⟨.ref a, rfl, a, _, 0, _, rfl, rfl, hs3, g0, x, 2, rfl, rfl, nd_small (b := 8) (by decide) (bd_lit (by decide)), show 1 ≤ sizeLine from small_line (by decide), fun u nu => ?_⟩
    have s4 := same_new (o := .lst [.int (x.fdiv 2)]) nu
    have eu : upd H3 u (.lst [.int (x.fdiv 2)]) u = some (.lst [.int (x.fdiv 2)]) := upd_same
    generalize upd H3 u (.lst [.int (x.fdiv 2)]) = H4 at s4 eu ⊢
    refine ⟨.ref a, rfl, 1, rfl, a, _, rfl, s4.seq hs3, fun v nv => ?_⟩
    have s5 := same_new (o := .lst (cutV ((x :: r).map V.int) (some 1) none)) nv
    have ev : upd H4 v (.lst (cutV ((x :: r).map V.int) (some 1) none)) v = some (.lst (cutV ((x :: r).map V.int) (some 1) none)) := upd_same
    generalize upd H4 v (.lst (cutV ((x :: r).map V.int) (some 1) none)) = H5 at s5 ev ⊢
    have lcut := cutV_length ((x :: r).map V.int) (some 1) none
    rw [List.length_map] at lcut
    refine ⟨u, v, _, _, rfl, rfl, s5 _ _ eu, ev, small_line (by rw [List.length_singleton]; omega), fun y ny => ?_⟩
    obtain ⟨more, em, lm⟩ : ∃ more : List Int, cutV ((x :: r).map V.int) (some 1) none = more.map V.int ∧ more.length ≤ 63 := by
      refine ⟨_, show List.take _ (List.drop _ (List.map V.int (x :: r))) = _ by rw [← List.map_drop, ← List.map_take], ?_⟩
      rw [List.length_take, List.length_drop]; omega
    rw [em]
    have s6 := same_new (o := .lst ([V.int (x.fdiv 2)] ++ more.map V.int)) ny
    have ey : upd H5 y (.lst ([V.int (x.fdiv 2)] ++ more.map V.int)) y = some (.lst ([V.int (x.fdiv 2)] ++ more.map V.int)) := upd_same
    have sA := ((s3.trans s4).trans s5)
    have nyH : H2 y = none := none_back sA ny
    generalize upd H5 y (.lst ([V.int (x.fdiv 2)] ++ more.map V.int)) = H6 at s6 ey ⊢
    have sB := sA.trans s6
    have nyp : y ≠ p := (ne_none f1 nyH).symm
    have nyc : y ≠ c := (ne_none f2 nyH).symm
    refine ⟨.ref p, rfl, p, upd H6 p (.dK (drV c y 0)), rfl, DPut.k (k := Sum.inr "digits") (sB _ _ f1) (lt_line (show 3 < 16777216 by decide)), .ref p, rfl, ?_⟩
    refine fin _ y (x.fdiv 2 :: more) (none_back s2 nyH) nyp nyc upd_same ?_ ?_ (lt_line (by rw [List.length_cons]; omega)) fun b o e => ?_
    · rw [upd_ne npc.symm]; exact sB _ _ f2
    · rw [upd_ne nyp]; exact ey
    · rw [upd_ne (fun z => by rw [z, np] at e; cases e)]; exact sB _ _ (s2 _ _ e)
end
theorem okK_len : ∀ {ks : List Bool} {ds : List D}, okK ks ds → ds.length = ks.length
  | [], [], _ => rfl
  | [], _ :: _, h => h.elim
  | _ :: _, [], h => h.elim
  | _ :: _, _ :: _, h => congrArg (· + 1) (okK_len h.2)
section
variable {P : Program} {w : World} {K : PySem.W.Frag} {mg : Str → Option Value} {base : Heap} {W : Wd}
theorem Dfn.go {g x : Str} {st : Stmt} {N ps : List Str} {k : Nat} {sp : DSp W.M} {t : DS W.M} (F : Dfn K mg g x st ps) (ks : List Bool) (S : FnScope N ps (defScope st)) (body : BodyJ P w K mg base W k N x st t)
    (vc : ∀ ds m Q Z, sp ds m Q Z → okK ks ds ∧ t { nx := fun _ m' => Q .non m', rt := Q, ex := Z } (st0 ks ds N.length) m) (hk : ks.length = ps.length := by rfl) (hn : ps.length ≤ N.length := by decide) : FD P w K mg base W (k + 1) g [] sp :=
  F.fd ks S body (fun ds m Q Z h => by rw [okK_len (vc ds m Q Z h).1, hk]) vc hn
def s_law : DSp (Option Nat) := fun ds m Q Z => ∃ ns : List Int, ds = [.lst (zz ns)] ∧ ns.length ≤ 63 ∧ m = none ∧ ∀ m', Q (.bl true) m'
theorem law_go {st : Stmt} {f : Addr} {fd : FuncData} {N ps : List Str} {k : Nat} {t : DS (Option Nat)} (F : Fun K "law" "law" st f fd) (S : FnScope N ps (defScope st)) (body : BodyJ P w K mg base DrW k N "law" st t)
    (vc : ∀ ds m Q Z, s_law ds m Q Z → okK [true] ds ∧ t { nx := fun _ m' => Q .non m', rt := Q, ex := Z } (st0 [true] ds N.length) m) (hk : ps.length = 1 := by rfl) (hn : ps.length ≤ N.length := by decide) : FnG P w K mg base (L2.CX P w) (k + 1) f fd ps (spLaw K) :=
  law_of (W := DrW) (m0 := none) (sp := s_law) (fn_data (W := DrW) [true] F S (fun ds m Q Z h => (okK_len (vc ds m Q Z h).1).trans hk.symm) hn (body f) vc) (fun _ => (rfl : ([] : List Addr) = [])) fun ns hl => ⟨ns, rfl, hl, rfl, fun _ => rfl⟩
end
end RR
namespace RR
open PySem PySem.Spec PyProof.Rows L2
section
variable {P : Program} {w : World} {K : PySem.W.Frag} {mg : Str → Option Value} {base : Heap} {W : Wd}
theorem jss_false {X : Cx} {C : Cn} {st : List Stmt} : JSs X C st (fun _ _ _ => False) := ⟨fun _ _ _ => False, ⟨fun _ _ _ _ _ _ h => h.elim⟩, fun _ _ _ _ _ _ _ _ _ _ h => h.elim⟩
end
end RR
namespace RR
open PySem PySem.Spec PyProof.Rows L2
abbrev Mx := Nat × List (List Int)
section
variable {X : Cx} {W : Wd} {n0 : Nat} {H0 : Hp} {F0 : List Addr} {wx : WX}
def SV (K : PySem.W.Frag) (C : Cn) (Pr : Addr → Prop) (F : List Addr) (σ : L2.St) (ρ : En) (H : Hp) : Prop := ∀ (i : Nat) (d : D), ρ[i]? = some (.val d) → ∃ v, σ[i]? = some (some v) ∧ Dn true K F (sv C.H0 Pr H) v d
theorem SR.toSV {K : PySem.W.Frag} {C : Cn} {Pr : Addr → Prop} {F : List Addr} {σ : L2.St} {ρ : En} {m : C.W.M} {H : Hp} (S : SR K C Pr F σ ρ m H) : SV K C Pr F σ ρ H := fun i d e => S.slot i _ e
theorem SV.poke {K : PySem.W.Frag} {C : Cn} {Pr : Addr → Prop} {F : List Addr} {σ : L2.St} {ρ : En} {H : Hp} {p : Addr} {us vs : List V} (S : SV K C Pr F σ ρ H) (pp : Pr p) (hp : H p = some (.lst us)) : SV K C Pr F σ ρ (upd H p (.lst vs)) := fun i d e => by
  obtain ⟨v, a, h⟩ := S i d e
  refine ⟨v, a, h.mono ⟨[], by simp⟩ fun a o e => ?_⟩
  obtain ⟨x, y⟩ := vw_iff.mp e
  refine vw_iff.mpr ⟨?_, y⟩
  rw [upd_ne]
  · exact x
  · intro z
    rcases y with y | y
    · rw [z, hp] at x; cases x; exact y
    · exact y.2.1 (z ▸ pp)
abbrev PR := En → (Int → Prop) → Prop
def JP (X : Cx) (C : Cn) (e : Expr) (t : PR) : Prop := ∃ te, PE X e te ∧
  ∀ σ H Pr F ρ Q (R : VK), SV X.K C Pr F σ ρ H → t ρ Q → (∀ n, Q n → R (.int n) H) → te σ H R
def pVar (i : Nat) : PR := fun ρ Q => match ρ[i]? with | some (.val (.int j)) => Q j | _ => False
theorem jp_var {C : Cn} {pos : Pos} (i : Nat) {x : Str} (hN : X.N[i]? = some x := by rfl) (hv : Vis X.env.scope x := by first | exact Or.inl rfl | exact Or.inr (Or.inl rfl) | exact Or.inr (Or.inr rfl)) (hd : (x == ("__debug__" : Str)) = false := by decide)
    (hcd : (x == ("__classdict__" : Str)) = false := by decide) : JP X C (.Name x pos) (pVar i) := by
  refine ⟨_, pe_var hN hv hd hcd, fun σ H Pr F ρ Q R S h k => ?_⟩
  unfold pVar at h
  split at h
  · rename_i j e
    obtain ⟨v, e1, q⟩ := S i _ e
    cases q
    exact ⟨_, e1, k _ h⟩
  · exact h.elim
end
end RR
namespace RR
open PySem PySem.Spec PyProof.Rows L2
section
variable {X : Cx} {W : Wd} {n0 : Nat} {H0 : Hp} {F0 : List Addr} {wx : WX}
variable {elt tg iter : Expr} {scope : Scope} {own : List (Str × Nat)} {ti : DTA (W.M × Option Mx)} {g : DG} {de : DT (W.M × Option Mx)} {ws : List Nat}
end
section
variable {P : Program} {w : World} {K : PySem.W.Frag} {mg : Str → Option Value} {base : Heap} {W : Wd}
end
end RR
namespace RR
open PySem PySem.Spec PyProof.Rows L2
section
variable {X : Cx} {C : Cn}
end
end RR
namespace RR
open PySem PySem.Spec PyProof.Rows L2
section
variable {X : Cx} {C : Cn} {e f a b : Expr} {ta tb : DT C.W.M} {pos : Pos}
end
section
variable {X : Cx} {C : Cn}
end
def ValT (d : D) (v : Value) : Prop := (∃ i t, d = .int i ∧ v = .int i t) ∨ ∃ z t, d = .str z ∧ v = .str z t
theorem ValT.rel {d : D} {u : Value} (h : ValT d u) : ∃ v, RelV v u ∧ (∀ (s : Bool) (K : PySem.W.Frag) (F : List Addr) (G : Hp), Dn s K F G v d) ∧ ∀ ds, d ≠ .lst ds := by
  rcases h with ⟨i, t, rfl, rfl⟩ | ⟨i, t, rfl, rfl⟩
  · exact ⟨.int i, ⟨t, rfl⟩, fun _ _ _ _ => .int i, fun _ h => nomatch h⟩
  · exact ⟨.str i, ⟨t, rfl⟩, fun _ _ _ _ => .str i, fun _ h => nomatch h⟩
section
variable {X : Cx} {C : Cn} {e f a b : Expr} {ta tb : DT C.W.M} {pos : Pos} {nm : Str} {tab : List (Str × D)}
end
end RR
namespace RR
open PySem PySem.Spec PyProof.Rows L2
section
variable {X : Cx} {C : Cn} {e : Expr} {es : List Expr} {pos : Pos}
end
section
variable {M : Type} {ρ : En} {m : M} {nx bk ct : En → M → Prop} {rt : D → M → Prop} {ex : Str → M → Prop} {ds : List D} {d : D} {Z : Str → M → Prop}
end
end RR
namespace RR
open PySem PySem.Spec PyProof.Rows L2
section
variable {X : Cx} {CT : CXT} {k : Nat} {f C : Addr} {fd : FuncData} {ps : List Str} {sp : Sp} {ds : List Value} {dvs : List V} {E : L2.St → XK} {x m : Str} {p pos apos : Pos} {e o : Expr} {es : List Expr} {ta : TE} {t : TA}
end
end RR
namespace RR
open PySem PySem.Spec PyProof.Rows L2
mutual
def D.pl : D → Bool
  | .non => true
  | .bl _ => true
  | .int _ => true
  | .str _ => true
  | .tup xs => D.pls xs
  | _ => false
def D.pls : List D → Bool
  | [] => true
  | x :: r => x.pl && D.pls r
end
mutual
theorem pl_nl : ∀ {d : D}, d.pl = true → d.nl = true
  | .non, _ => rfl
  | .bl _, _ => rfl
  | .int _, _ => rfl
  | .str _, _ => rfl
  | .tup xs, h => pls_nls (show D.pls xs = true from h)
  | .lst _, h => by cases h
  | .hnd _, h => by cases h
  | .dic, h => by cases h
  | .exc _, h => by cases h
  | .fn _, h => by cases h
  | .ptr _, h => by cases h
  | .dc1 _ _, h => by cases h
theorem pls_nls : ∀ {ds : List D}, D.pls ds = true → D.nls ds = true
  | [], _ => rfl
  | x :: r, h => by
    rw [D.pls, Bool.and_eq_true] at h
    rw [D.nls, pl_nl h.1, pls_nls h.2]; rfl
end
mutual
theorem Dn.plain {s s' : Bool} {K : PySem.W.Frag} {F F' : List Addr} {G G' : Hp} (hG : ∀ a xs, G a = some (.tup xs) → G' a = some (.tup xs)) : ∀ {v : V} {d : D}, Dn s K F G v d → d.pl = true → Dn s' K F' G' v d
  | _, _, .non, _ => .non
  | _, _, .bl b, _ => .bl b
  | _, _, .int i, _ => .int i
  | _, _, .str x, _ => .str x
  | _, _, .tup h r, n => .tup (h.mono hG) (DnA.plain hG r n)
  | _, _, .lst h r, n => by cases n
  | _, _, .hnd h, n => by cases n
  | _, _, .dic h, n => by cases n
  | _, _, .exc h c, n => by cases n
  | _, _, .fn h, n => by cases n
  | _, _, .ptr, n => by cases n
  | _, _, .dc1 _ _, n => by cases n
theorem DnA.plain {s s' : Bool} {K : PySem.W.Frag} {F F' : List Addr} {G G' : Hp} (hG : ∀ a xs, G a = some (.tup xs) → G' a = some (.tup xs)) : ∀ {vs : List V} {ds : List D}, DnA s K F G vs ds → D.pls ds = true → DnA s' K F' G' vs ds
  | _, _, .nil, _ => .nil
  | _, _, .cons h r, n => by
    rw [D.pls, Bool.and_eq_true] at n
    exact .cons (Dn.plain hG h n.1) (DnA.plain hG r n.2)
end
inductive FV where
  | val (d : D) | lst (ds : List D) | free (ds : List D)
noncomputable def tv (H : Hp) : Hp := vw (fun _ o => IsT o) H
theorem tv_mono {H H' : Hp} (t : ∀ a o, IsT o → H a = some o → H' a = some o) : ∀ a o, tv H a = some o → tv H' a = some o := fun a o h => by
  obtain ⟨e, i⟩ := vw_iff.mp h
  exact vw_iff.mpr ⟨t a o i e, i⟩
inductive FvAt (K : PySem.W.Frag) (H : Hp) : List Addr → List (Str × FV) → List (Str × V) → Prop
  | nil : FvAt K H [] [] []
  | val {ls : List Addr} {fs : List (Str × FV)} {fv : List (Str × V)} {n : Str} {d : D} {v : V} : Dn true K [] (tv H) v d → d.pl = true → FvAt K H ls fs fv → FvAt K H ls ((n, .val d) :: fs) ((n, v) :: fv)
  | lst {ls : List Addr} {fs : List (Str × FV)} {fv : List (Str × V)} {n : Str} {ds : List D} {vs : List V} {l : Addr} : H l = some (.lst vs) → DnA true K [] (tv H) vs ds → D.pls ds = true → FvAt K H ls fs fv → FvAt K H (l :: ls) ((n, .lst ds) :: fs) ((n, .ref l) :: fv)
  | free {ls : List Addr} {fs : List (Str × FV)} {fv : List (Str × V)} {n : Str} {ds : List D} {vs : List V} {l : Addr} : H l = some (.lst vs) → DnA true K [] (tv H) vs ds → D.pls ds = true → FvAt K H ls fs fv → FvAt K H (l :: ls) ((n, .free ds) :: fs) fv
theorem FvAt.mono {K : PySem.W.Frag} {H H' : Hp} {ls : List Addr} {fs : List (Str × FV)} {fv : List (Str × V)} (h : FvAt K H ls fs fv) (k : ∀ a ∈ ls, H' a = H a) (t : ∀ a o, IsT o → H a = some o → H' a = some o) : FvAt K H' ls fs fv := by
  induction h with
  | nil => exact .nil
  | val a b _ ih => exact .val (a.mono ⟨[], rfl⟩ (tv_mono t)) b (ih k)
  | @lst ls fs fv n ds vs l a b c _ ih => exact .lst (by rw [k l (List.mem_cons_self ..)]; exact a) (b.mono ⟨[], rfl⟩ (tv_mono t)) c (ih fun x hx => k x (List.mem_cons_of_mem _ hx))
  | @free ls fs fv n ds vs l a b c _ ih => exact .free (by rw [k l (List.mem_cons_self ..)]; exact a) (b.mono ⟨[], rfl⟩ (tv_mono t)) c (ih fun x hx => k x (List.mem_cons_of_mem _ hx))
theorem FvAt.there {K : PySem.W.Frag} {H : Hp} {ls : List Addr} {fs : List (Str × FV)} {fv : List (Str × V)} (h : FvAt K H ls fs fv) : ∀ a ∈ ls, ∃ vs, H a = some (.lst vs) := by
  induction h with
  | nil => intro a ha; exact absurd ha List.not_mem_nil
  | val _ _ _ ih => exact ih
  | lst a _ _ _ ih =>
    intro x hx
    rcases List.mem_cons.mp hx with rfl | hx
    · exact ⟨_, a⟩
    · exact ih x hx
  | free a _ _ _ ih =>
    intro x hx
    rcases List.mem_cons.mp hx with rfl | hx
    · exact ⟨_, a⟩
    · exact ih x hx
def fget (f : Str) (fs : List (Str × FV)) : Option FV := fs.lookup f
theorem FvAt.get {K : PySem.W.Frag} {H : Hp} {ls : List Addr} {fs : List (Str × FV)} {fv : List (Str × V)} (h : FvAt K H ls fs fv) (f : Str) : (fget f fs = none → fv.lookup f = none) ∧ (∀ d, fget f fs = some (.val d) → ∃ v, fv.lookup f = some v ∧ Dn true K [] (tv H) v d ∧ d.pl = true) ∧
    ∀ ds, fget f fs = some (.lst ds) → ∃ l vs, fv.lookup f = some (.ref l) ∧ l ∈ ls ∧ H l = some (.lst vs) ∧ DnA true K [] (tv H) vs ds ∧ D.pls ds = true := by
  unfold fget
  induction h with
  | nil => exact ⟨fun _ => rfl, fun d e => (nomatch e), fun ds e => (nomatch e)⟩
  | @val ls fs fv n d v a b _ ih =>
    by_cases q : f = n
    · subst q
      have hb : (f == f) = true := beq_self_eq_true f
      simp only [List.lookup, hb]
      exact ⟨fun e => (nomatch e), fun d' e => by cases e; exact ⟨v, rfl, a, b⟩, fun ds e => (nomatch e)⟩
    · have hb : (f == n) = false := beq_eq_false_iff_ne.mpr q
      simp only [List.lookup, hb]
      exact ih
  | @lst ls fs fv n ds vs l a b c _ ih =>
    by_cases q : f = n
    · subst q
      have hb : (f == f) = true := beq_self_eq_true f
      simp only [List.lookup, hb]
      exact ⟨fun e => (nomatch e), fun d e => (nomatch e), fun ds' e => by cases e; exact ⟨l, vs, rfl, List.mem_cons_self .., a, b, c⟩⟩
    · have hb : (f == n) = false := beq_eq_false_iff_ne.mpr q
      simp only [List.lookup, hb]
      exact ⟨ih.1, ih.2.1, fun ds' e => by
        obtain ⟨l', vs', x1, x2, x3⟩ := ih.2.2 ds' e
        exact ⟨l', vs', x1, List.mem_cons_of_mem _ x2, x3⟩⟩
  | @free ls fs fv n ds vs l a b c _ ih =>
    by_cases q : f = n
    · subst q
      have hb : (f == f) = true := beq_self_eq_true f
      simp only [List.lookup, hb]
      exact ⟨fun e => (nomatch e), fun d e => (nomatch e), fun ds' e => (nomatch e)⟩
    · have hb : (f == n) = false := beq_eq_false_iff_ne.mpr q
      simp only [List.lookup, hb]
      exact ⟨ih.1, ih.2.1, fun ds' e => by
        obtain ⟨l', vs', x1, x2, x3⟩ := ih.2.2 ds' e
        exact ⟨l', vs', x1, List.mem_cons_of_mem _ x2, x3⟩⟩
section
variable {X : Cx} {Cl : Addr} {W : Wd} {H0 : Hp} {F0 : List Addr} {wx : WX}
def JH (X : Cx) (C : Cn) (e : Expr) (t : En → C.W.M → (D → Prop) → Prop) : Prop := ∃ te, PE X e te ∧
  ∀ σ H Pr F ρ m Q (R : VK), SR X.K C Pr F σ ρ m H → t ρ m Q → (∀ v d, Dn true X.K F (sv C.H0 Pr H) v d → (∀ ds, d ≠ .lst ds) → Q d → R v H) → te σ H R
def dH {M : Type} (t : En → M → (D → Prop) → Prop) : DT M := fun ρ m Q _ => t ρ m fun d => Q d m
theorem JH.j {C : Cn} {e : Expr} {t : En → C.W.M → (D → Prop) → Prop} (h : JH X C e t) : J .f X C e (dH t) := by
  obtain ⟨te, p, q⟩ := h
  exact ⟨te, p, fun σ H Pr F ρ m Q Z R S E h k => q σ H Pr F ρ m _ R S h fun v d dv n z => k v H (post_here S dv n z)⟩
end
end RR
namespace RR
open PySem PySem.Spec PyProof.Rows L2
theorem FvAt.other {K : PySem.W.Frag} {H : Hp} {l : Addr} {us vs : List V} {ls : List Addr} {fs : List (Str × FV)} {fv : List (Str × V)} (h : FvAt K H ls fs fv) (n : l ∉ ls) (hl : H l = some (.lst us)) : FvAt K (upd H l (.lst vs)) ls fs fv :=
  h.mono (fun a ha => upd_ne fun z => n (z ▸ ha)) fun a o it e => by rw [upd_ne (fun z => by rw [z, hl] at e; cases e; exact it)]; exact e
section
variable {X : Cx} {Cl : Addr} {W : Wd} {H0 : Hp} {F0 : List Addr} {wx : WX}
end
end RR
namespace RR
open PySem PySem.Spec PyProof.Rows L2
def FM (P : Program) (w : World) (K : PySem.W.Frag) (mg : Str → Option Value) (base : Heap) (W : Wd) (k : Nat) (Cl : Addr) (m : Str) (sp : DSp W.M) : Prop :=
  ∃ f fd ps, FnG P w K mg base (L2.CX P w) k f fd ps (spD K mg W sp) ∧ Meth K Cl m f ∧ Binds K fd ps []
theorem FM.mono {P : Program} {w : World} {K : PySem.W.Frag} {mg : Str → Option Value} {base : Heap} {W : Wd} {Cl : Addr} {m : Str} {sp : DSp W.M} {j k : Nat} (h : FM P w K mg base W j Cl m sp) (l : j ≤ k) : FM P w K mg base W k Cl m sp := by
  obtain ⟨f, fd, ps, F, r⟩ := h
  exact ⟨f, fd, ps, F.mono l, r⟩
section
variable {X : Cx} {Cl : Addr} {W : Wd} {H0 : Hp} {F0 : List Addr} {wx : WX}
end
structure DfnM (K : PySem.W.Frag) (Cl : Addr) (m ql : Str) (st : Stmt) (ps : List Str) : Prop where
  ex : ∃ f fd, Fun K m ql st f fd ∧ Meth K Cl m f ∧ Binds K fd ps []
section
variable {P : Program} {w : World} {K : PySem.W.Frag} {mg : Str → Option Value} {base : Heap} {W : Wd} {Cl : Addr}
theorem DfnM.go {m ql : Str} {st : Stmt} {N ps : List Str} {k : Nat} {sp : DSp W.M} {t : DS W.M} (F : DfnM K Cl m ql st ps) (ks : List Bool) (S : FnScope N ps (defScope st)) (body : BodyJ P w K mg base W k N ql st t)
    (vc : ∀ ds m Q Z, sp ds m Q Z → okK ks ds ∧ t { nx := fun _ m' => Q .non m', rt := Q, ex := Z } (st0 ks ds N.length) m) (hk : ks.length = ps.length := by rfl) (hn : ps.length ≤ N.length := by decide) : FM P w K mg base W (k + 1) Cl m sp := by
  obtain ⟨f, fd, Fn, hm, b⟩ := F.ex
  exact ⟨f, fd, ps, fn_dataR ks (fun ln bd => okG Fn S ln bd) (fun ds m Q Z h => by rw [okK_len (vc ds m Q Z h).1, hk]) hn (body f) vc, hm, b⟩
end
end RR
namespace RR
open PySem PySem.Spec PyProof.Rows L2
def lnth : Nat → List (Str × FV) → Option (List D)
  | _, [] => none
  | n, (_, .val _) :: r => lnth n r
  | 0, (_, .lst ds) :: _ => some ds
  | n + 1, (_, .lst _) :: r => lnth n r
  | 0, (_, .free _) :: _ => none
  | n + 1, (_, .free _) :: r => lnth n r
theorem FvAt.nth {K : PySem.W.Frag} {H : Hp} {ls : List Addr} {fs : List (Str × FV)} {fv : List (Str × V)} (h : FvAt K H ls fs fv) : ∀ {n : Nat} {ds : List D} {l : Addr}, lnth n fs = some ds → ls[n]? = some l → ∃ vs, H l = some (.lst vs) ∧ DnA true K [] (tv H) vs ds ∧ D.pls ds = true := by
  induction h with
  | nil => intro n ds l e; cases n <;> cases e
  | val _ _ _ ih =>
    intro n ds l e el
    cases n <;> exact ih e el
  | lst a b c _ ih =>
    intro n ds l e el
    cases n with
    | zero => cases e; cases el; exact ⟨_, a, b, c⟩
    | succ n => exact ih e el
  | free a b c _ ih =>
    intro n ds l e el
    cases n with
    | zero => cases e
    | succ n => exact ih e el
section
variable {X : Cx} {Cl : Addr} {W : Wd} {H0 : Hp} {F0 : List Addr} {wx : WX}
theorem FvAt.few {K : PySem.W.Frag} {H : Hp} {ls : List Addr} {fs : List (Str × FV)} {fv : List (Str × V)} (h : FvAt K H ls fs fv) : fv.length ≤ fs.length := by
  induction h with
  | nil => exact Nat.le_refl _
  | val _ _ _ ih => simp only [List.length_cons]; omega
  | lst _ _ _ _ ih => simp only [List.length_cons]; omega
  | free _ _ _ _ ih => simp only [List.length_cons]; omega
end
end RR
namespace RR
open PySem PySem.Spec PyProof.Rows L2
section
variable {X : Cx} {Cl : Addr} {W : Wd} {H0 : Hp} {F0 : List Addr} {wx : WX}
end
end RR
namespace RR
open PySem PySem.Spec PyProof.Rows L2
def hdel (H : Hp) (p : Addr) : Hp := fun a => if a = p then none else H a
theorem hdel_ne {H : Hp} {p a : Addr} (h : a ≠ p) : hdel H p a = H a := if_neg h
section
variable {K : PySem.W.Frag} {C : Cn} {Pr : Addr → Prop} {F : List Addr} {σ : L2.St} {ρ : En} {m : C.W.M} {H : Hp}
theorem SR.without (S : SR K C Pr F σ ρ m H) {i : Nat} {ds : List D} {p : Addr} (e : ρ[i]? = some (.own ds)) (e1 : σ[i]? = some (some (.ref p))) : SR K C (fun a => Pr a ∧ a ≠ p) F σ (ρ.set i .un) m (hdel H p) := by
  obtain ⟨p', vs, e2, hp, pp, nf, h4⟩ := S.slot i _ e
  rw [e1] at e2; cases e2
  have h0p : C.K0 p = none := S.prn p pp nf
  have up : ∀ a o, sv C.H0 Pr H a = some o → sv C.H0 (fun a => Pr a ∧ a ≠ p) (hdel H p) a = some o := fun a o h => by
    obtain ⟨h1, h2⟩ := vw_iff.mp h
    have na : a ≠ p := fun q => by
      subst q
      rcases h2 with h2 | h2
      · rw [hp] at h1; cases h1; exact h2
      · exact h2.2.1 pp
    exact vw_iff.mpr ⟨by rw [hdel_ne na]; exact h1, h2.imp id fun q => ⟨q.1, fun z => q.2.1 z.1, q.2.2⟩⟩
  refine ⟨fun a o n h => ?_, S.pre, S.new, fun a h => ?_, fun a h n => S.prn a h.1 n, fun a h => ⟨S.prf a h, fun q => nf (q ▸ h)⟩, C.W.keep S.rz (fun a h => hdel_ne fun q => nf (q ▸ h)) (fun a o it h => by rw [hdel_ne (fun q => by rw [q, hp] at h; cases h; exact it)]; exact h), by simpa using S.len, fun j s ej => ?_, fun a b ds' es' q ne ea eb sa sb => ?_⟩
  · rw [hdel_ne (fun q => by rw [q, h0p] at h; cases h)]
    exact S.keep a o n h
  · obtain ⟨o, h1, h2⟩ := S.prs a h.1
    exact ⟨o, by rw [hdel_ne h.2]; exact h1, h2⟩
  · rcases get_set ej with ⟨rfl, rfl⟩ | ⟨ne, ej⟩
    · trivial
    · cases s with
      | un => trivial
      | bor d => exact S.slot j _ ej
      | val d =>
        obtain ⟨v, e1, q⟩ := S.slot j _ ej
        exact ⟨v, e1, q.mono ⟨[], by simp⟩ up⟩
      | dct kvs =>
        obtain ⟨q, e3, h1, h2, h3⟩ := S.slot j _ ej
        have nq : q ≠ p := fun z => by subst z; rw [hp] at h1; cases h1
        exact ⟨q, e3, by rw [hdel_ne nq]; exact h1, ⟨h2, nq⟩, h3⟩
      | own ds' =>
        obtain ⟨q, ws', e3, h1, h2, h3, h4⟩ := S.slot j _ ej
        have nq : q ≠ p := fun z => by
          subst z
          exact S.dist j i _ _ _ ne ej e e3 e1
        exact ⟨q, ws', e3, by rw [hdel_ne nq]; exact h1, ⟨h2, nq⟩, h3, h4.mono ⟨[], by simp⟩ up⟩
  · rcases get_set ea with ⟨rfl, z⟩ | ⟨na, ea⟩
    · cases z
    · rcases get_set eb with ⟨rfl, z⟩ | ⟨nb, eb⟩
      · cases z
      · exact S.dist a b _ _ q ne ea eb sa sb
end
section
variable {X : Cx} {Cl : Addr} {W : Wd} {H0 : Hp} {F0 : List Addr} {wx : WX}
end
section
variable {X : Cx} {C : Cn} {e : Expr} {pos pos' : Pos}
theorem DnA.eraseIdx {s : Bool} {K : PySem.W.Frag} {F : List Addr} {G : Hp} : ∀ {vs : List V} {ds : List D} (k : Nat), DnA s K F G vs ds → DnA s K F G (vs.eraseIdx k) (ds.eraseIdx k)
  | _, _, _, .nil => by simpa using DnA.nil
  | _, _, 0, .cons h r => by simpa using r
  | _, _, k + 1, .cons h r => by simpa using DnA.cons h (DnA.eraseIdx k r)
end
section
variable {M : Type} {ρ : En} {m : M} {nx bk ct : En → M → Prop} {rt : D → M → Prop} {ex : Str → M → Prop} {ds : List D} {d : D} {g : DG} {t : DT M} {Z : Str → M → Prop}
variable {ta : DTA M} {QL : List D → M → Prop} {i j : Int}
end
end RR
namespace RR
open PySem PySem.Spec PyProof.Rows L2
def strip (xs : List Int) : List Int := (xs.reverse.dropWhile (· == 0)).reverse
theorem strip_snoc (xs : List Int) (a : Int) : strip (xs ++ [a]) = if a = 0 then strip xs else xs ++ [a] := by
  unfold strip
  rw [List.reverse_append, List.reverse_singleton, List.singleton_append, List.dropWhile_cons]
  by_cases h : a = 0
  · rw [if_pos h, if_pos (by simp [h])]
  · rw [if_neg h, if_neg (by simp [h]), List.reverse_cons, List.reverse_reverse]
theorem strip_ind {P : List Int → Prop} (h0 : P []) (h1 : ∀ xs a, P xs → P (xs ++ [a])) : ∀ xs, P xs := fun xs => by
  have : ∀ ys : List Int, P ys.reverse := fun ys => by
    induction ys with
    | nil => exact h0
    | cons y ys ih => rw [List.reverse_cons]; exact h1 _ _ ih
  have := this xs.reverse
  rwa [List.reverse_reverse] at this
theorem strip_len (xs : List Int) : (strip xs).length ≤ xs.length := by
  induction xs using strip_ind with
  | h0 => exact Nat.le_refl _
  | h1 xs a ih =>
    rw [strip_snoc]
    split
    · rw [List.length_append]; omega
    · exact Nat.le_refl _
theorem strip_mem {xs : List Int} {x : Int} : x ∈ strip xs → x ∈ xs := by
  induction xs using strip_ind with
  | h0 => exact id
  | h1 xs a ih =>
    rw [strip_snoc]
    split
    · exact fun h => List.mem_append_left _ (ih h)
    · exact id
def done (xs : List Int) : Prop := strip xs = xs
theorem strip_done (xs : List Int) : strip (strip xs) = strip xs := by
  induction xs using strip_ind with
  | h0 => rfl
  | h1 xs a ih =>
    by_cases h : a = 0
    · rw [strip_snoc, if_pos h]; exact ih
    · rw [strip_snoc, if_neg h, strip_snoc, if_neg h]
theorem take_snoc {xs : List Int} {n : Nat} (h : n < xs.length) : xs.take (n + 1) = xs.take n ++ [xs[n]] := by
  rw [List.take_add_one, List.getElem?_eq_getElem h]; rfl
theorem strip_step {xs : List Int} {n : Nat} (h : n < xs.length) (z : xs[n] = 0) : strip (xs.take (n + 1)) = strip (xs.take n) := by
  rw [take_snoc h, strip_snoc, if_pos z]
theorem strip_stop {xs : List Int} {n : Nat} (h : n < xs.length) (z : xs[n] ≠ 0) : strip (xs.take (n + 1)) = xs.take (n + 1) := by
  rw [take_snoc h, strip_snoc, if_neg z]
end RR
namespace RR
open PySem PySem.Spec PyProof.Rows L2
section
variable {M : Type} {ρ : En} {m : M} {Q : D → M → Prop} {QL : List D → M → Prop} {QB : Bool → M → Prop} {QO : Option Int → M → Prop} {Z ex : Str → M → Prop} {nx bk ct : En → M → Prop} {rt : D → M → Prop} {t u w : DT M} {ta : DTA M} {tt tu : DTT M} {s1 s2 : DS M} {q : D → Prop} {i j : Int} {d x y : D} {xs ys : List Int} {ds es : List D}
theorem v_then (h : s1 ⟨s2 ⟨nx, rt, bk, ct, ex⟩, rt, bk, ct, ex⟩ ρ m) : dThen s1 s2 ⟨nx, rt, bk, ct, ex⟩ ρ m := h
theorem v_next (h : nx ρ m) : dNext ⟨nx, rt, bk, ct, ex⟩ ρ m := h
theorem v_set {i : Nat} (h : t ρ m (fun d m' => nx (ρ.set i (.val d)) m') ex) : dSet i t ⟨nx, rt, bk, ct, ex⟩ ρ m := h
def kO (ρ : En) (i : Nat) (nx : En → M → Prop) : D → M → Prop := fun d m' => match d with | .lst ds => D.nls ds = true ∧ nx (ρ.set i (.own ds)) m' | _ => False
theorem v_setO {i : Nat} (h : t ρ m (kO ρ i nx) ex) : dSetO i t ⟨nx, rt, bk, ct, ex⟩ ρ m := h
theorem v_kO {i : Nat} (n : D.nls ds = true) (h : nx (ρ.set i (.own ds)) m) : kO ρ i nx (.lst ds) m := ⟨n, h⟩
theorem v_ret (h : t ρ m rt ex) : dRet t ⟨nx, rt, bk, ct, ex⟩ ρ m := h
theorem v_drop (h : t ρ m (fun _ m' => nx ρ m') ex) : dDrop t ⟨nx, rt, bk, ct, ex⟩ ρ m := h
theorem v_ite (h : tt ρ m (fun b m1 => if b = true then s1 ⟨nx, rt, bk, ct, ex⟩ ρ m1 else s2 ⟨nx, rt, bk, ct, ex⟩ ρ m1) ex) : dIte tt s1 s2 ⟨nx, rt, bk, ct, ex⟩ ρ m := h
theorem v_ifT {A B : Prop} (h : A) : if true = true then A else B := by rw [if_pos rfl]; exact h
theorem v_ifF {A B : Prop} (h : B) : if false = true then A else B := by rw [if_neg Bool.false_ne_true]; exact h
theorem v_ifd {p : Prop} [Decidable p] {A B : Prop} (h : p → A) (h' : ¬ p → B) : if decide p = true then A else B := by
  by_cases e : p
  · rw [if_pos (decide_eq_true e)]; exact h e
  · rw [if_neg (by simpa using e)]; exact h' e
theorem v_ifn {p : Prop} [Decidable p] {A B : Prop} (h : ¬ p → A) (h' : p → B) : if (!decide p) = true then A else B := by
  by_cases e : p
  · rw [if_neg (by simpa using e)]; exact h' e
  · rw [if_pos (by simpa using e)]; exact h e
theorem v_if {b : Bool} {A B : Prop} (h : b = true → A) (h' : b = false → B) : if b = true then A else B := by
  cases b with
  | true => rw [if_pos rfl]; exact h rfl
  | false => rw [if_neg Bool.false_ne_true]; exact h' rfl
theorem v_var {i : Nat} (e : ρ[i]? = some (.val d)) (h : Q d m) : dVar i ρ m Q Z := by unfold dVar; rw [e]; exact h
theorem v_bor {i : Nat} (e : ρ[i]? = some (.bor d)) (h : Q d m) : dBor i ρ m Q Z := by unfold dBor; rw [e]; exact h
theorem v_own {i : Nat} (e : ρ[i]? = some (.own ds)) (h : Q (.lst ds) m) : dOwn i ρ m Q Z := by unfold dOwn; rw [e]; exact h
theorem v_c (h : Q d m) : dC d ρ m Q Z := h
theorem v_nil (h : QL [] m) : dNil ρ m QL Z := h
theorem v_cons (h : t ρ m (fun d m1 => ta ρ m1 (fun ds m2 => QL (d :: ds) m2) Z) Z) : dCons t ta ρ m QL Z := h
theorem v_tup (h : ta ρ m (fun ds m1 => ds.length ≤ sizeLine ∧ Q (.tup ds) m1) Z) : dTup ta ρ m Q Z := h
theorem v_lst (h : ta ρ m (fun ds m1 => ds.length ≤ sizeLine ∧ Q (.lst ds) m1) Z) : dLst ta ρ m Q Z := h
theorem v_sz {n : Nat} {A : Prop} (e : n ≤ 16777216) (h : A) : n ≤ sizeLine ∧ A := ⟨small_line e, h⟩
theorem v_bin {g : G2} (h : t ρ m (fun x m1 => u ρ m1 (fun y m2 => g x y fun d => Q d m2) Z) Z) : dBin g t u ρ m Q Z := h
theorem v_g0 {f : Int → Int → D} (h : q (f i j)) : g0 f (.int i) (.int j) q := h
theorem v_gII {P : Int → Int → Prop} {f : Int → Int → D} (p : P i j) (h : q (f i j)) : gII P f (.int i) (.int j) q := ⟨p, h⟩
theorem v_gIIz {f : Int → Int → D} (p : j ≠ 0) (h : q (f i j)) : gII Nz f (.int i) (.int j) q := ⟨p, h⟩
theorem v_add (h : q (.int (i + j))) : gAdd (.int i) (.int j) q := h
theorem v_addl (a : ds.length + es.length ≤ 16777216) (b : D.nls ds = true) (c : D.nls es = true) (h : q (.lst (ds ++ es))) : gAdd (.lst ds) (.lst es) q := ⟨small_line a, b, c, h⟩
theorem v_mul (p : IntMulOk i j) (h : q (.int (i * j))) : gMul (.int i) (.int j) q := ⟨p, h⟩
theorem v_repl {k : Int} (a : 0 ≤ k) (b : ds.length * k.toNat ≤ 16777216) (hk : k < 2 ^ 63) (n : D.nls ds = true) (h : q (.lst (rep k ds))) : gMul (.lst ds) (.int k) q := ⟨by omega, hk, small_line b, n, h⟩
theorem v_eqi (h : q (.bl (decide (i = j)))) : gEq (.int i) (.int j) q := .inl ⟨q_int, q_int, h⟩
theorem v_nei (h : q (.bl (!decide (i = j)))) : gNe (.int i) (.int j) q := .inl ⟨q_int, q_int, h⟩
theorem v_eqr (h : q (.bl (decide (xs = ys)))) : gEq (.tup (zz xs)) (.tup (zz ys)) q := .inl ⟨q_row xs, q_row ys, by rw [eqv_row]; exact h⟩
theorem v_ner (h : q (.bl (!decide (xs = ys)))) : gNe (.tup (zz xs)) (.tup (zz ys)) q := .inl ⟨q_row xs, q_row ys, by rw [eqv_row]; exact h⟩
theorem v_eqr0 (h : q (.bl (decide (xs = [])))) : gEq (.tup (zz xs)) (.tup []) q := v_eqr (ys := []) h
theorem v_ner0 (h : q (.bl (!decide (xs = [])))) : gNe (.tup (zz xs)) (.tup []) q := v_ner (ys := []) h
theorem v_eql (h : q (.bl (decide (xs = ys)))) : gEq (.lst (zz xs)) (.lst (zz ys)) q := .inl ⟨q_lst xs, q_lst ys, by rw [eqv_lst]; exact h⟩
theorem v_nel (h : q (.bl (!decide (xs = ys)))) : gNe (.lst (zz xs)) (.lst (zz ys)) q := .inl ⟨q_lst xs, q_lst ys, by rw [eqv_lst]; exact h⟩
theorem v_eql0 (h : q (.bl (decide (xs = [])))) : gEq (.lst (zz xs)) (.lst []) q := v_eql (ys := []) h
theorem v_nel0 (h : q (.bl (!decide (xs = [])))) : gNe (.lst (zz xs)) (.lst []) q := v_nel (ys := []) h
theorem v_isN (h : q (.bl x.isN)) : gIsN x .non q := ⟨rfl, h⟩
theorem v_notN (h : q (.bl (!x.isN))) : gNotN x .non q := ⟨rfl, h⟩
def nth (xs : List Int) (i : Int) : Int := xs.getD i.toNat 0
theorem nth_get {n : Nat} (h : n < xs.length) : nth xs (n : Int) = xs[n] := by unfold nth; simp [List.getD, List.getElem?_eq_getElem h]
theorem nth_mem (h0 : 0 ≤ i) (h1 : i < xs.length) : nth xs i ∈ xs := by
  obtain ⟨n, rfl⟩ := Int.eq_ofNat_of_zero_le h0
  rw [nth_get (by omega)]
  exact List.getElem_mem _
theorem atI_nth (h0 : 0 ≤ i) (h1 : i < xs.length) : atI (zz xs) i = some (.int (nth xs i)) := by
  rw [atI_ints, atI_at h0 h1]
  obtain ⟨n, rfl⟩ := Int.eq_ofNat_of_zero_le h0
  rw [nth_get (by omega)]
  rfl
theorem v_ixl {n : Bool} (h0 : 0 ≤ i) (h1 : i < xs.length) (h : q (.int (nth xs i))) : gIx n (.lst (zz xs)) (.int i) q := by
  unfold gIx; dsimp only; rw [atI_nth h0 h1]; exact ⟨fun _ => rfl, h⟩
theorem v_ixt {n : Bool} (h0 : 0 ≤ i) (h1 : i < xs.length) (h : q (.int (nth xs i))) : gIx n (.tup (zz xs)) (.int i) q := by
  unfold gIx; dsimp only; rw [atI_nth h0 h1]; exact ⟨fun _ => rfl, h⟩
theorem v_dB {g : List D → (D → Prop) → Prop} (h : ta ρ m (fun ds m1 => g ds fun d => Q d m1) Z) : dB g ta ρ m Q Z := h
theorem v_lent (h : q (.int ds.length)) : gLen [.tup ds] q := h
theorem v_lenl (h : q (.int ds.length)) : gLen [.lst ds] q := h
theorem v_lentz (h : q (.int xs.length)) : gLen [.tup (zz xs)] q := by show q (.int (zz xs).length); rw [show (zz xs).length = xs.length from List.length_map _]; exact h
theorem v_lenlz (h : q (.int xs.length)) : gLen [.lst (zz xs)] q := by show q (.int (zz xs).length); rw [show (zz xs).length = xs.length from List.length_map _]; exact h
theorem v_I1 {f : Int → Int} (h : q (.int (f i))) : gI1 f [.int i] q := h
theorem v_I2 {f : Int → Int → Int} (h : q (.int (f i j))) : gI2 f [.int i, .int j] q := h
theorem v_int (h : q (.int i)) : gInt [.int i] q := h
theorem v_seql {mk : List D → D} (n : D.nls ds = true) (h : q (mk ds)) : gSeq mk [.lst ds] q := ⟨n, h⟩
theorem v_seqt {mk : List D → D} (n : D.nls ds = true) (h : q (mk ds)) : gSeq mk [.tup ds] q := ⟨n, h⟩
theorem v_seqlz {mk : List D → D} (h : q (mk (zz xs))) : gSeq mk [.lst (zz xs)] q := ⟨nls_ints xs, h⟩
theorem v_seqtz {mk : List D → D} (h : q (mk (zz xs))) : gSeq mk [.tup (zz xs)] q := ⟨nls_ints xs, h⟩
def kSl (x : D) (l u : Option Int) (Q : D → M → Prop) (m3 : M) : Prop := match x with
  | .lst ds => D.nls ds = true ∧ Q (.lst (cutD ds l u)) m3
  | .tup ds => D.nls ds = true ∧ Q (.tup (cutD ds l u)) m3
  | _ => False
theorem v_sl {lo hi : DTO M} (h : t ρ m (fun x m1 => lo ρ m1 (fun l m2 => hi ρ m2 (fun u m3 => kSl x l u Q m3) Z) Z) Z) : dSl t lo hi ρ m Q Z := h
theorem v_kSll {l u : Option Int} (h : Q (.lst (cutD (zz xs) l u)) m) : kSl (.lst (zz xs)) l u Q m := ⟨nls_ints xs, h⟩
theorem v_kSlt {l u : Option Int} (h : Q (.tup (cutD (zz xs) l u)) m) : kSl (.tup (zz xs)) l u Q m := ⟨nls_ints xs, h⟩
theorem v_kSlT {l u : Option Int} (n : D.nls ds = true) (h : Q (.tup (cutD ds l u)) m) : kSl (.tup ds) l u Q m := ⟨n, h⟩
theorem v_ono (h : QO none m) : dONone ρ m QO Z := h
def kOS (Q : Option Int → M → Prop) (d : D) (m1 : M) : Prop := match d with | .int i => Q (some i) m1 | _ => False
theorem v_oso (h : t ρ m (fun d m1 => kOS QO d m1) Z) : dOSome t ρ m QO Z := h
theorem v_kOS (h : QO (some i) m) : kOS QO (.int i) m := h
def kT (Q : Bool → M → Prop) (d : D) (m' : M) : Prop := match d with | .bl b => Q b m' | _ => False
theorem v_tst (h : t ρ m (fun d m' => kT QB d m') Z) : dTst t ρ m QB Z := h
theorem v_kT {b : Bool} (h : QB b m) : kT QB (.bl b) m := h
def kV (Q : Bool → M → Prop) (d : D) (m' : M) : Prop := match d.tr with | some b => Q b m' | none => False
theorem v_val (h : t ρ m (fun d m' => RR.kV QB d m') Z) : dVal t ρ m QB Z := h
theorem v_kVb {b : Bool} (h : QB b m) : RR.kV QB (.bl b) m := h
theorem v_kVi (h : QB (i != 0) m) : RR.kV QB (.int i) m := h
theorem v_kVt (h : QB (!ds.isEmpty) m) : RR.kV QB (.tup ds) m := h
theorem v_kVl (h : QB (!ds.isEmpty) m) : RR.kV QB (.lst ds) m := h
theorem v_and (h : tt ρ m (fun b m1 => if b = true then tu ρ m1 QB Z else QB false m1) Z) : dAnd tt tu ρ m QB Z := h
theorem v_or (h : tt ρ m (fun b m1 => if b = true then QB true m1 else tu ρ m1 QB Z) Z) : dOr tt tu ρ m QB Z := h
theorem v_not (h : tt ρ m (fun b m1 => QB (!b) m1) Z) : dNot tt ρ m QB Z := h
theorem v_yes (h : QB true m) : dYes ρ m QB Z := h
theorem v_if' (h : tt ρ m (fun b m1 => if b = true then t ρ m1 Q Z else u ρ m1 Q Z) Z) : dIf tt t u ρ m Q Z := h
def kI (T : String) (Q : D → M → Prop) (d : D) (m1 : M) : Prop := match d.ty with | some ty => Q (.bl (isiB ty T)) m1 | none => False
theorem v_isi {T : String} (h : t ρ m (fun d m1 => kI T Q d m1) Z) : dIsi T t ρ m Q Z := h
theorem v_kIii (h : Q (.bl true) m) : kI "int" Q (.int i) m := h
theorem v_kIib (h : Q (.bl false) m) : kI "bool" Q (.int i) m := h
theorem v_kItt (h : Q (.bl true) m) : kI "tuple" Q (.tup ds) m := h
theorem v_kI {T ty : String} {b : Bool} (e : d.ty = some ty) (e2 : isiB ty T = b) (h : Q (.bl b) m) : kI T Q d m := by unfold kI; rw [e]; dsimp only; rw [e2]; exact h
def kAV (A : Prop) (Q : D → M → Prop) (d : D) (m1 : M) : Prop := match d with | .bl true => A | .bl false => Q (.bl false) m1 | _ => False
theorem v_andV (h : t ρ m (fun d m1 => kAV (u ρ m1 Q Z) Q d m1) Z) : dAndV t u ρ m Q Z := by
  unfold dAndV
  refine (?_ : t ρ m _ Z)
  exact h
def kOV (A : Prop) (Q : D → M → Prop) (d : D) (m1 : M) : Prop := match d with | .bl false => A | .bl true => Q (.bl true) m1 | _ => False
theorem v_orV (h : t ρ m (fun d m1 => kOV (u ρ m1 Q Z) Q d m1) Z) : dOrV t u ρ m Q Z := h
theorem v_kAV {b : Bool} {A : Prop} (h : b = true → A) (h' : b = false → Q (.bl false) m) : kAV A Q (.bl b) m := by
  cases b with
  | true => exact h rfl
  | false => exact h' rfl
theorem v_kOV {b : Bool} {A : Prop} (h : b = false → A) (h' : b = true → Q (.bl true) m) : kOV A Q (.bl b) m := by
  cases b with
  | false => exact h rfl
  | true => exact h' rfl
def kNV (Q : D → M → Prop) (d : D) (m1 : M) : Prop := match d with | .bl b => Q (.bl (!b)) m1 | _ => False
theorem v_notV (h : t ρ m (fun d m1 => kNV Q d m1) Z) : dNotV t ρ m Q Z := h
theorem v_kNV {b : Bool} (h : Q (.bl (!b)) m) : kNV Q (.bl b) m := h
def kNeg (Q : D → M → Prop) (d : D) (m1 : M) : Prop := match d with | .int i => Q (.int (-i)) m1 | _ => False
theorem v_neg (h : t ρ m (fun d m1 => kNeg Q d m1) Z) : dNeg t ρ m Q Z := h
theorem v_kNeg (h : Q (.int (-i)) m) : kNeg Q (.int i) m := h
theorem v_call {sp : DSp M} {dds : List D} (h : ta ρ m (fun ds m1 => sp (ds ++ dds) m1 Q Z) Z) : dCall sp dds ta ρ m Q Z := h
theorem v_call0 {sp : DSp M} (h : sp ds m Q Z) : sp (ds ++ []) m Q Z := by rw [List.append_nil]; exact h
def kSeq (n : Bool) (Q : List D → M → Prop) (d : D) (m1 : M) : Prop := match d with | .lst ds | .tup ds => (n = true → D.nls ds = true) ∧ Q ds m1 | _ => False
theorem v_seq {n : Bool} (h : t ρ m (fun d m1 => kSeq n QL d m1) Z) : dSeq n t ρ m QL Z := by
  refine (?_ : t ρ m _ Z); exact h
theorem v_kSeql {n : Bool} (h : QL (zz xs) m) : kSeq n QL (.lst (zz xs)) m := ⟨fun _ => nls_ints xs, h⟩
theorem v_kSeqt {n : Bool} (h : QL (zz xs) m) : kSeq n QL (.tup (zz xs)) m := ⟨fun _ => nls_ints xs, h⟩
theorem v_kSeqL (h : QL ds m) : kSeq false QL (.lst ds) m := ⟨fun z => (nomatch z), h⟩
theorem v_kSeqT (h : QL ds m) : kSeq false QL (.tup ds) m := ⟨fun z => (nomatch z), h⟩
def kR1 (Q : List D → M → Prop) (ds : List D) (m1 : M) : Prop := match ds with | [.int j] => -(2 ^ 62) ≤ j ∧ j < 2 ^ 62 ∧ Q (iota 0 j.toNat) m1 | _ => False
theorem v_rng1 (h : ta ρ m (fun ds m1 => kR1 QL ds m1) Z) : dRng1 ta ρ m QL Z := by
  refine (?_ : ta ρ m _ Z); exact h
theorem v_kR1 (a : -(2 ^ 62) ≤ j) (b : j < 2 ^ 62) (h : QL (iota 0 j.toNat) m) : kR1 QL [.int j] m := ⟨a, b, h⟩
def kR2 (Q : List D → M → Prop) (ds : List D) (m1 : M) : Prop := match ds with | [.int i, .int j] => (-(2 ^ 62) ≤ i ∧ i < 2 ^ 62 ∧ -(2 ^ 62) ≤ j ∧ j < 2 ^ 62) ∧ Q (iota i (j - i).toNat) m1 | _ => False
theorem v_rng2 (h : ta ρ m (fun ds m1 => kR2 QL ds m1) Z) : dRng2 ta ρ m QL Z := by
  refine (?_ : ta ρ m _ Z); exact h
theorem v_kR2 (a : -(2 ^ 62) ≤ i) (b : i < 2 ^ 62) (c : -(2 ^ 62) ≤ j) (e : j < 2 ^ 62) (h : QL (iota i (j - i).toNat) m) : kR2 QL [.int i, .int j] m := ⟨⟨a, b, c, e⟩, h⟩
theorem v_enum {n : Bool} (h : dSeq n t ρ m (fun ds m1 => QL (enumD 0 ds) m1) Z) : dEnum n t ρ m QL Z := h
def kRR (Q : List D → M → Prop) (d : D) (m1 : M) : Prop := match d with | .int j => -(2 ^ 62) ≤ j ∧ j < 2 ^ 62 ∧ Q (iota 0 j.toNat).reverse m1 | _ => False
theorem v_revr (h : t ρ m (fun d m1 => kRR QL d m1) Z) : dRevR t ρ m QL Z := h
theorem v_kRR (a : -(2 ^ 62) ≤ j) (b : j < 2 ^ 62) (h : QL (iota 0 j.toNat).reverse m) : kRR QL (.int j) m := ⟨a, b, h⟩
theorem v_rev {n : Bool} (h : dSeq n t ρ m (fun ds m1 => QL ds.reverse m1) Z) : dRev n t ρ m QL Z := h
theorem v_gn {i : Nat} {P : En → Prop} (h : P (ρ.set i (.val d))) : dgN i d ρ P := h
theorem v_gt2 {i j : Nat} {P : En → Prop} (h : P ((ρ.set i (.val x)).set j (.val y))) : dgT 2 (dgCons (dgN i) (dgCons (dgN j) dgNil)) (.tup [x, y]) ρ P := ⟨rfl, h⟩
theorem v_gt3 {i j k : Nat} {P : En → Prop} (h : P (((ρ.set i (.val x)).set j (.val y)).set k (.val d))) : dgT 3 (dgCons (dgN i) (dgCons (dgN j) (dgCons (dgN k) dgNil))) (.tup [x, y, d]) ρ P := ⟨rfl, h⟩
theorem v_lc {g : DG} {vs : List Nat} (h : ta ρ m (fun items m1 => lcGo g tt t (wipeD ρ vs) items [] m1 (fun ds m2 => Q (.lst ds) m2)) Z) : dLc ta g tt t vs ρ m Q Z := h
theorem v_while {c : DTT M} (W : Nat → En → M → Prop) (n : Nat) (h : W n ρ m) (st : ∀ n ρ m, W n ρ m → c ρ m (fun b m1 => if b = true then s1 ⟨fun ρ' m' => ∃ n', n' < n ∧ W n' ρ' m', rt, nx, fun ρ' m' => ∃ n', n' < n ∧ W n' ρ' m', ex⟩ ρ m1 else nx ρ m1) ex) : dWhile c s1 ⟨nx, rt, bk, ct, ex⟩ ρ m := ⟨W, ⟨n, h⟩, st⟩
def kFor (g : DG) (s1 : DS M) (E : DE M) (ρ : En) (items : List D) (m1 : M) : Prop := ∃ W : List D → En → M → Prop, W items ρ m1 ∧ (∀ ρ m, W [] ρ m → E.nx ρ m) ∧
  ∀ x r ρ m, W (x :: r) ρ m → g x ρ fun ρ2 => s1 { E with nx := W r, ct := W r, bk := E.nx } ρ2 m
theorem v_for {g : DG} (h : ta ρ m (fun items m1 => kFor g s1 ⟨nx, rt, bk, ct, ex⟩ ρ items m1) ex) : dFor ta g s1 ⟨nx, rt, bk, ct, ex⟩ ρ m := h
theorem v_kfor {g : DG} (W : List D → En → M → Prop) (h : W ds ρ m) (e : ∀ ρ m, W [] ρ m → nx ρ m) (st : ∀ x r ρ m, W (x :: r) ρ m → g x ρ fun ρ2 => s1 ⟨W r, rt, nx, W r, ex⟩ ρ2 m) : kFor g s1 ⟨nx, rt, bk, ct, ex⟩ ρ ds m := ⟨W, h, e, st⟩
theorem v_app {i : Nat} (e : ρ[i]? = some (.own ds)) (h : t ρ m (fun d m' => d.nl = true ∧ ds.length < sizeLine ∧ nx (ρ.set i (.own (ds ++ [d]))) m') ex) : dApp i t ⟨nx, rt, bk, ct, ex⟩ ρ m := by
  unfold dApp; rw [e]; exact h
theorem v_appk {A : Prop} (n : d.nl = true) (l : ds.length < 16777216) (h : A) : d.nl = true ∧ ds.length < sizeLine ∧ A := ⟨n, lt_line l, h⟩
def kSI (ρ : En) (i : Nat) (ds : List D) (nx : En → M → Prop) (d k : D) (m2 : M) : Prop := match k with
    | .int k => (match ixN ds.length k with | some j => d.nl = true ∧ nx (ρ.set i (.own (ds.set j d))) m2 | none => False) | _ => False
theorem v_setI {i : Nat} (e : ρ[i]? = some (.own ds)) (h : t ρ m (fun d m1 => u ρ m1 (fun k m2 => kSI ρ i ds nx d k m2) ex) ex) : dSetI i t u ⟨nx, rt, bk, ct, ex⟩ ρ m := by
  unfold dSetI; rw [e]; exact h
theorem v_kSI {i : Nat} {k : Int} (h0 : 0 ≤ k) (h1 : k < ds.length) (n : d.nl = true) (h : nx (ρ.set i (.own (ds.set k.toNat d))) m) : kSI ρ i ds nx d (.int k) m := by
  unfold kSI; dsimp only; rw [ixN_at h0 h1]; exact ⟨n, h⟩
theorem v_rel {i : Nat} (e : ρ[i]? = some (.own ds)) (h : s1 ⟨nx, rt, bk, ct, ex⟩ (ρ.set i (.val (.lst ds))) m) : dRel i s1 ⟨nx, rt, bk, ct, ex⟩ ρ m := by
  unfold dRel; rw [e]; exact h
theorem v_raise {x : Str} (h : ex x m) : dRaise x ⟨nx, rt, bk, ct, ex⟩ ρ m := h
def kP (ρ : En) (i j : Nat) (nx : En → M → Prop) (ds : List D) (m' : M) : Prop := match ds with | [x, y] => nx ((ρ.set i (.val x)).set j (.val y)) m' | _ => False
theorem v_par {i j : Nat} (h : ta ρ m (fun ds m' => kP ρ i j nx ds m') ex) : dPar i j ta ⟨nx, rt, bk, ct, ex⟩ ρ m := h
theorem v_kP {i j : Nat} (h : nx ((ρ.set i (.val x)).set j (.val y)) m) : kP ρ i j nx [x, y] m := h
theorem v_asg {g : DG} (h : t ρ m (fun d m' => g d ρ fun ρ' => nx ρ' m') ex) : dAsg t g ⟨nx, rt, bk, ct, ex⟩ ρ m := h
theorem v_aug {i : Nat} {f : Int → Int → Int} {a : Int} (e : ρ[i]? = some (.val (.int a))) (h : t ρ m (fun y m' => kOS (fun o m' => match o with | some y => nx (ρ.set i (.val (.int (f a y)))) m' | none => False) y m') ex) : dAug i f t ⟨nx, rt, bk, ct, ex⟩ ρ m := by
  unfold dAug; rw [e]
  exact h
def isRow (d : D) (xs : List Int) : Prop := d = .tup (zz xs) ∨ d = .lst (zz xs)
theorem isRow_t : isRow (.tup (zz xs)) xs := .inl rfl
theorem isRow_l : isRow (.lst (zz xs)) xs := .inr rfl
theorem v_lenr (hd : isRow d xs) (h : q (.int xs.length)) : gLen [d] q := by
  rcases hd with rfl | rfl
  · exact v_lentz h
  · exact v_lenlz h
theorem v_ixr {n : Bool} (hd : isRow d xs) (h0 : 0 ≤ i) (h1 : i < xs.length) (h : q (.int (nth xs i))) : gIx n d (.int i) q := by
  rcases hd with rfl | rfl
  · exact v_ixt h0 h1 h
  · exact v_ixl h0 h1 h
def cutZ (xs : List Int) (lo hi : Option Int) : List Int := (xs.drop (HT.sIx xs.length 0 lo)).take (HT.sIx xs.length xs.length hi - HT.sIx xs.length 0 lo)
theorem cutD_zz {l u : Option Int} : cutD (zz xs) l u = zz (cutZ xs l u) := by
  unfold cutD cutZ zz
  rw [List.length_map, List.map_take, List.map_drop]
theorem zz_inj {xs ys : List Int} (h : zz xs = zz ys) : xs = ys := by
  induction xs generalizing ys with
  | nil => cases ys with
    | nil => rfl
    | cons y ys => cases h
  | cons x xs ih => cases ys with
    | nil => cases h
    | cons y ys =>
      obtain ⟨h1, h2⟩ := List.cons.inj h
      cases h1
      rw [ih h2]
theorem cutZ_to {k : Int} (h0 : 0 ≤ k) : cutZ xs none (some k) = xs.take k.toNat := zz_inj (by rw [← cutD_zz, cut_upto h0]; exact (List.map_take ..).symm)
theorem v_kSlr {l u : Option Int} (hd : isRow d xs) (h : ∀ d', isRow d' (cutZ xs l u) → Q d' m) : kSl d l u Q m := by
  rcases hd with rfl | rfl
  · exact ⟨nls_ints xs, h _ (by rw [cutD_zz]; exact isRow_t)⟩
  · exact ⟨nls_ints xs, h _ (by rw [cutD_zz]; exact isRow_l)⟩
theorem v_seqr {mk : List D → D} (hd : isRow d xs) (h : q (mk (zz xs))) : gSeq mk [d] q := by
  rcases hd with rfl | rfl
  · exact v_seqtz h
  · exact v_seqlz h
theorem v_kSeqr {n : Bool} (hd : isRow d xs) (h : QL (zz xs) m) : kSeq n QL d m := by
  rcases hd with rfl | rfl
  · exact v_kSeqt h
  · exact v_kSeql h
theorem lc_zz {g : DG} {f : Int → Int} (xs : List Int) (st : ∀ a ∈ xs, ∀ m (k : D → M → Prop) (l : M → Prop), k (.int (f a)) m → g (.int a) ρ fun ρ2 => tt ρ2 m (fun b m1 => if b = true then t ρ2 m1 k (fun _ _ => False) else l m1) (fun _ _ => False))
    (hl : xs.length ≤ 16777216) (h : QL (zz (xs.map f)) m) : lcGo g tt t ρ (zz xs) [] m QL := by
  refine lcGo_map (h := fun a => .int (f a)) xs st (small_line hl) ?_
  rw [show xs.map (fun a => D.int (f a)) = zz (xs.map f) from (List.map_map ..).symm]
  exact h
theorem lc_rz {g : DG} {f : Nat → Int} (n : Nat) (st : ∀ a, a < n → ∀ m (k : D → M → Prop) (l : M → Prop), k (.int (f a)) m → g (.int a) ρ fun ρ2 => tt ρ2 m (fun b m1 => if b = true then t ρ2 m1 k (fun _ _ => False) else l m1) (fun _ _ => False))
    (hl : n ≤ 16777216) (h : QL (zz ((List.range n).map f)) m) : lcGo g tt t ρ (iota 0 n) [] m QL := by
  rw [iota_map]
  refine lcGo_map (h := fun a => .int (f a)) (List.range n) (fun a ha => st a (List.mem_range.mp ha)) (small_line (by rw [List.length_range]; exact hl)) ?_
  rw [show (List.range n).map (fun a => D.int (f a)) = zz ((List.range n).map f) from (List.map_map ..).symm]
  exact h
theorem lc_rany {g : DG} {P : Int → Prop} {S : Nat → M → Prop} (n : Nat) (st : ∀ j ds m (k : D → M → Prop) (l : M → Prop), S (j + 1) m → (∀ y m1, P y → S j m1 → k (.int y) m1) → g ds ρ fun ρ2 => tt ρ2 m (fun b m1 => if b = true then t ρ2 m1 k (fun _ _ => False) else l m1) (fun _ _ => False))
    (hl : n ≤ 16777216) (s : S n m) (h : ∀ xs m1, xs.length = n → (∀ x ∈ xs, P x) → S 0 m1 → QL (zz xs) m1) : lcGo g tt t ρ (iota 0 n) [] m QL := by
  have ln : (iota 0 n).length = n := by rw [iota_map, List.length_map, List.length_range]
  refine lcGo_any (P := fun d => ∃ x, d = .int x ∧ P x) (S := S) (iota 0 n) (fun x _ j m k l s h => st j x m k l s fun y m1 p s => h _ _ ⟨y, rfl, p⟩ s) (by rw [ln]; exact small_line (by simpa using hl)) (by rw [ln]; exact s) fun ds m1 l p s => ?_
  obtain ⟨xs, rfl, hp⟩ := ints_of p
  rw [List.nil_append]
  exact h xs m1 (by rw [ln] at l; simpa using l) hp s
theorem v_kforZ {g : DG} (W : List Int → En → M → Prop) (l : List Int) (h : W l ρ m) (e : ∀ ρ m, W [] ρ m → nx ρ m) (st : ∀ x r ρ m, W (x :: r) ρ m → g (.int x) ρ fun ρ2 => s1 ⟨fun ρ m => W r ρ m, rt, nx, fun ρ m => W r ρ m, ex⟩ ρ2 m) :
    kFor g s1 ⟨nx, rt, bk, ct, ex⟩ ρ (zz l) m := by
  refine ⟨fun it ρ m => ∃ r', it = zz r' ∧ W r' ρ m, ⟨l, rfl, h⟩, fun ρ m h => ?_, fun x r ρ m h => ?_⟩
  · obtain ⟨r', e1, h⟩ := h
    cases r' with
    | nil => exact e ρ m h
    | cons a r' => cases e1
  · obtain ⟨r', e1, h⟩ := h
    cases r' with
    | nil => cases e1
    | cons a r' =>
      cases e1
      have z := st a r' ρ m h
      have f1 : (fun ρ m => ∃ r'', zz r' = zz r'' ∧ W r'' ρ m) = fun ρ m => W r' ρ m := by
        funext ρ m
        refine propext ⟨fun ⟨r'', e, h⟩ => ?_, fun h => ⟨r', rfl, h⟩⟩
        rw [zz_inj e]; exact h
      show g (.int a) ρ fun ρ2 => s1 ⟨fun ρ m => ∃ r'', zz r' = zz r'' ∧ W r'' ρ m, rt, nx, fun ρ m => ∃ r'', zz r' = zz r'' ∧ W r'' ρ m, ex⟩ ρ2 m
      rw [f1]
      exact z
theorem v_kforR {g : DG} {i : Int} (n : Nat) (W : Nat → En → M → Prop) (h : W 0 ρ m) (e : ∀ ρ m, W n ρ m → nx ρ m) (st : ∀ k ρ m, k < n → W k ρ m → g (.int (i + k)) ρ fun ρ2 => s1 ⟨fun ρ m => W (k + 1) ρ m, rt, nx, fun ρ m => W (k + 1) ρ m, ex⟩ ρ2 m) :
    kFor g s1 ⟨nx, rt, bk, ct, ex⟩ ρ (iota i n) m := by
  have key : ∀ j, j ≤ n → ∀ it, it = (List.range' j (n - j)).map (fun k : Nat => D.int (i + k)) → True := fun _ _ _ _ => trivial
  refine ⟨fun it ρ m => ∃ j, j ≤ n ∧ it = (List.range' j (n - j)).map (fun k : Nat => D.int (i + k)) ∧ W j ρ m, ⟨0, Nat.zero_le _, ?_, h⟩, fun ρ m h => ?_, fun x r ρ m h => ?_⟩
  · unfold iota; rw [Nat.sub_zero, List.range_eq_range']
  · obtain ⟨j, hj, e1, h⟩ := h
    have : n - j = 0 := by
      have := congrArg List.length e1
      rw [List.length_map, List.length_range'] at this
      exact this.symm
    have : j = n := by omega
    subst this
    exact e ρ m h
  · obtain ⟨j, hj, e1, h⟩ := h
    have hlt : j < n := by
      have := congrArg List.length e1
      rw [List.length_map, List.length_range', List.length_cons] at this
      omega
    obtain ⟨p, hp⟩ : ∃ p, n - j = p + 1 := ⟨n - j - 1, by omega⟩
    rw [hp, List.range'_succ, List.map_cons] at e1
    obtain ⟨e2, e3⟩ := List.cons.inj e1
    subst e2
    have z := st j ρ m hlt h
    have f1 : (fun ρ m => ∃ j', j' ≤ n ∧ r = (List.range' j' (n - j')).map (fun k : Nat => D.int (i + k)) ∧ W j' ρ m) = fun ρ m => W (j + 1) ρ m := by
      funext ρ m
      refine propext ⟨fun ⟨j', h1, h2, h⟩ => ?_, fun h => ⟨j + 1, hlt, by rw [e3, show n - (j + 1) = p by omega], h⟩⟩
      have := congrArg List.length (e3.symm.trans h2)
      rw [List.length_map, List.length_range', List.length_map, List.length_range'] at this
      have : j' = j + 1 := by omega
      subst this
      exact h
    show g _ ρ fun ρ2 => s1 ⟨fun ρ m => ∃ j', j' ≤ n ∧ r = (List.range' j' (n - j')).map (fun k : Nat => D.int (i + k)) ∧ W j' ρ m, rt, nx, fun ρ m => ∃ j', j' ≤ n ∧ r = (List.range' j' (n - j')).map (fun k : Nat => D.int (i + k)) ∧ W j' ρ m, ex⟩ ρ2 m
    rw [f1]
    exact z
theorem v_kforE {g : DG} {i : Nat} (W : Nat → List Int → En → M → Prop) (l : List Int) (h : W i l ρ m) (e : ∀ j ρ m, W j [] ρ m → nx ρ m) (st : ∀ (j : Nat) x r ρ m (N : En → M → Prop), W j (x :: r) ρ m → (∀ ρ m, W (j + 1) r ρ m → N ρ m) → g (.tup [.int j, .int x]) ρ fun ρ2 => s1 ⟨N, rt, nx, N, ex⟩ ρ2 m) :
    kFor g s1 ⟨nx, rt, bk, ct, ex⟩ ρ (enumD i (zz l)) m := by
  refine ⟨fun it ρ m => ∃ j r', it = enumD j (zz r') ∧ W j r' ρ m, ⟨i, l, rfl, h⟩, fun ρ m h => ?_, fun x r ρ m h => ?_⟩
  · obtain ⟨j, r', e1, h⟩ := h
    cases r' with
    | nil => exact e j ρ m h
    | cons a r' => cases e1
  · obtain ⟨j, r', e1, h⟩ := h
    cases r' with
    | nil => cases e1
    | cons a r' =>
      cases e1
      exact st j a r' ρ m _ h fun ρ m h => ⟨_, _, rfl, h⟩
theorem v_kSIz {i : Nat} {k v : Int} (h0 : 0 ≤ k) (h1 : k < xs.length) (h : nx (ρ.set i (.own (zz (xs.set k.toNat v)))) m) : kSI ρ i (zz xs) nx (.int v) (.int k) m := by
  refine v_kSI h0 (by rw [List.length_map]; exact h1) rfl ?_
  rw [show zz (xs.set k.toNat v) = (zz xs).set k.toNat (.int v) from List.map_set ..] at h
  exact h
theorem v_pow (a : 0 ≤ j) (b : j ≤ 1000000) (c : i.natAbs < 2 ^ 64) (h : q (.int (i ^ j.toNat))) : gII CPow (fun i j => .int (i ^ j.toNat)) (.int i) (.int j) q := ⟨⟨a, b, c⟩, h⟩
theorem v_draw {N : Nat} {many : Int} {Q : D → Option Nat → Prop} {Z : Str → Option Nat → Prop} (h0 : 0 < many) (hb : many.natAbs < 2 ^ 250) (h : ∀ x, 0 ≤ x → x < many → Q (.int x) (some N)) : s__law_draw [.hnd hdl, .int many] (some (N + 1)) Q Z := ⟨N, many, rfl, rfl, h0, Nat.lt_of_lt_of_le hb (Nat.pow_le_pow_right (by decide) (by decide)), h⟩
end
end RR
namespace RR
structure Ser (K : Type) where
  co : Nat → K
namespace Ser
variable {K : Type}
theorem ext {f g : Ser K} (h : ∀ k, f.co k = g.co k) : f = g := by
  cases f; cases g; congr; funext k; exact h k
def tl (f : Ser K) : Ser K := ⟨fun k => f.co (k + 1)⟩
variable [Lean.Grind.CommRing K]
def mulc : Nat → Ser K → Ser K → K
  | 0, f, g => f.co 0 * g.co 0
  | k + 1, f, g => f.co 0 * g.co (k + 1) + mulc k f.tl g
def add (f g : Ser K) : Ser K := ⟨fun k => f.co k + g.co k⟩
def neg (f : Ser K) : Ser K := ⟨fun k => - f.co k⟩
def mul (f g : Ser K) : Ser K := ⟨fun k => mulc k f g⟩
def C (c : K) : Ser K := ⟨fun k => if k = 0 then c else 0⟩
instance : Add (Ser K) := ⟨add⟩
instance : Mul (Ser K) := ⟨mul⟩
instance : Neg (Ser K) := ⟨neg⟩
instance : Sub (Ser K) := ⟨fun f g => add f (neg g)⟩
local instance : NatCast K := Lean.Grind.Semiring.natCast
local instance : IntCast K := Lean.Grind.Ring.intCast
instance (n : Nat) : OfNat (Ser K) n := ⟨C (OfNat.ofNat n)⟩
instance : NatCast (Ser K) := ⟨fun n => C (NatCast.natCast n)⟩
instance : IntCast (Ser K) := ⟨fun n => C (IntCast.intCast n)⟩
def pow (f : Ser K) : Nat → Ser K
  | 0 => C 1
  | n + 1 => mul (pow f n) f
instance : HPow (Ser K) Nat (Ser K) := ⟨pow⟩
instance : SMul Nat (Ser K) := ⟨fun n f => ⟨fun k => n • f.co k⟩⟩
instance : SMul Int (Ser K) := ⟨fun n f => ⟨fun k => n • f.co k⟩⟩
theorem add_co (f g : Ser K) (k : Nat) : (f + g).co k = f.co k + g.co k := rfl
theorem neg_co (f : Ser K) (k : Nat) : (-f).co k = - f.co k := rfl
theorem sub_co (f g : Ser K) (k : Nat) : (f - g).co k = f.co k - g.co k := by show f.co k + - g.co k = _; grind
theorem mul_co (f g : Ser K) (k : Nat) : (f * g).co k = mulc k f g := rfl
theorem C_co (c : K) (k : Nat) : (C c).co k = if k = 0 then c else 0 := rfl
theorem mulc_right : ∀ (k : Nat) (f g : Ser K), mulc (k + 1) f g = f.co (k + 1) * g.co 0 + mulc k f g.tl
  | 0, f, g => by show f.co 0 * g.co 1 + f.co 1 * g.co 0 = f.co 1 * g.co 0 + f.co 0 * g.co 1; grind
  | k + 1, f, g => by
    have := mulc_right k f.tl g
    show f.co 0 * g.co (k + 2) + mulc (k + 1) f.tl g = f.co (k + 2) * g.co 0 + (f.co 0 * g.co (k + 2) + mulc k f.tl g.tl)
    rw [this]
    show _ + (f.co (k + 2) * g.co 0 + _) = _
    grind
theorem mulc_comm : ∀ (k : Nat) (f g : Ser K), mulc k f g = mulc k g f
  | 0, f, g => by show f.co 0 * g.co 0 = g.co 0 * f.co 0; grind
  | k + 1, f, g => by
    rw [mulc_right k g f]
    show f.co 0 * g.co (k + 1) + mulc k f.tl g = _
    rw [mulc_comm k f.tl g]; grind
theorem mulc_add : ∀ (k : Nat) (f g h : Ser K), mulc k (f + g) h = mulc k f h + mulc k g h
  | 0, f, g, h => by show (f.co 0 + g.co 0) * h.co 0 = f.co 0 * h.co 0 + g.co 0 * h.co 0; grind
  | k + 1, f, g, h => by
    show (f.co 0 + g.co 0) * h.co (k + 1) + mulc k (f.tl + g.tl) h = f.co 0 * h.co (k + 1) + mulc k f.tl h + (g.co 0 * h.co (k + 1) + mulc k g.tl h)
    rw [mulc_add k f.tl g.tl h]; grind
theorem mulc_scale : ∀ (k : Nat) (c : K) (f h : Ser K), mulc k ⟨fun j => c * f.co j⟩ h = c * mulc k f h
  | 0, c, f, h => by show c * f.co 0 * h.co 0 = c * (f.co 0 * h.co 0); grind
  | k + 1, c, f, h => by
    show (c * f.co 0) * h.co (k + 1) + mulc k ⟨fun j => c * f.tl.co j⟩ h = c * (f.co 0 * h.co (k + 1) + mulc k f.tl h)
    rw [mulc_scale k c f.tl h]; grind
theorem tl_mul (f g : Ser K) : (f * g).tl = (⟨fun j => f.co 0 * g.tl.co j⟩ : Ser K) + f.tl * g := ext fun k => rfl
theorem mulc_assoc : ∀ (k : Nat) (f g h : Ser K), mulc k (f * g) h = mulc k f (g * h)
  | 0, f, g, h => by show f.co 0 * g.co 0 * h.co 0 = f.co 0 * (g.co 0 * h.co 0); grind
  | k + 1, f, g, h => by
    show (f.co 0 * g.co 0) * h.co (k + 1) + mulc k (f * g).tl h = f.co 0 * mulc (k + 1) g h + mulc k f.tl (g * h)
    rw [tl_mul, mulc_add, mulc_assoc k f.tl g h, mulc_scale k (f.co 0) g.tl h]
    show _ = f.co 0 * (g.co 0 * h.co (k + 1) + mulc k g.tl h) + _
    grind
theorem tl_C (c : K) : (C c).tl = C 0 := ext fun j => by
  show (if j + 1 = 0 then c else 0) = if j = 0 then 0 else 0
  rw [if_neg (by omega)]; split <;> rfl
theorem mulc_zero : ∀ (k : Nat) (g : Ser K), mulc k (C 0) g = 0
  | 0, g => by show (if 0 = 0 then (0 : K) else 0) * g.co 0 = 0; rw [if_pos rfl]; grind
  | k + 1, g => by
    show (if 0 = 0 then (0 : K) else 0) * g.co (k + 1) + mulc k (C 0).tl g = 0
    rw [tl_C, mulc_zero k g, if_pos rfl]; grind
theorem mulc_C (k : Nat) (c : K) (g : Ser K) : mulc k (C c) g = c * g.co k := by
  cases k with
  | zero => rfl
  | succ k =>
    show (if 0 = 0 then c else 0) * g.co (k + 1) + mulc k (C c).tl g = c * g.co (k + 1)
    rw [tl_C, mulc_zero, if_pos rfl]; grind
theorem C_mul_co (c : K) (g : Ser K) (k : Nat) : (C c * g).co k = c * g.co k := mulc_C k c g
instance : Lean.Grind.CommRing (Ser K) where
  add_zero f := ext fun k => by show f.co k + (if k = 0 then (0 : K) else 0) = f.co k; split <;> grind
  add_comm f g := ext fun k => by show f.co k + g.co k = g.co k + f.co k; grind
  add_assoc f g h := ext fun k => by show f.co k + g.co k + h.co k = f.co k + (g.co k + h.co k); grind
  mul_assoc f g h := ext fun k => mulc_assoc k f g h
  mul_one f := ext fun k => by show mulc k f (C 1) = _; rw [mulc_comm, mulc_C]; grind
  one_mul f := ext fun k => by show mulc k (C 1) f = _; rw [mulc_C]; grind
  left_distrib f g h := ext fun k => by show mulc k f (g + h) = mulc k f g + mulc k f h; rw [mulc_comm, mulc_add, mulc_comm k g, mulc_comm k h]
  right_distrib f g h := ext fun k => mulc_add k f g h
  zero_mul f := ext fun k => by show mulc k (C 0) f = _; rw [mulc_C]; show (0 : K) * f.co k = if k = 0 then 0 else 0; split <;> grind
  mul_zero f := ext fun k => by show mulc k f (C 0) = _; rw [mulc_comm, mulc_C]; show (0 : K) * f.co k = if k = 0 then 0 else 0; split <;> grind
  pow_zero f := rfl
  pow_succ f n := rfl
  neg_add_cancel f := ext fun k => by show - f.co k + f.co k = if k = 0 then 0 else 0; split <;> grind
  sub_eq_add_neg f g := rfl
  mul_comm f g := ext fun k => mulc_comm k f g
  nsmul_eq_natCast_mul n f := ext fun k => by show n • f.co k = mulc k (C (NatCast.natCast n)) f; rw [mulc_C]; exact Lean.Grind.Semiring.nsmul_eq_natCast_mul n (f.co k)
  zsmul_natCast_eq_nsmul n f := ext fun k => Lean.Grind.Ring.zsmul_natCast_eq_nsmul n (f.co k)
  ofNat_succ n := ext fun k => by
    show (if k = 0 then (OfNat.ofNat (n + 1) : K) else 0) = (if k = 0 then (OfNat.ofNat n : K) else 0) + (if k = 0 then (1 : K) else 0)
    split
    · exact Lean.Grind.Semiring.ofNat_succ n
    · grind
  ofNat_eq_natCast n := ext fun k => by
    show (if k = 0 then (OfNat.ofNat n : K) else 0) = (if k = 0 then (NatCast.natCast n : K) else 0)
    split
    · exact Lean.Grind.Semiring.ofNat_eq_natCast n
    · rfl
  intCast_ofNat n := ext fun k => by
    show (if k = 0 then (IntCast.intCast (OfNat.ofNat n : Int) : K) else 0) = (if k = 0 then (OfNat.ofNat n : K) else 0)
    split
    · exact Lean.Grind.Ring.intCast_ofNat n
    · rfl
  intCast_neg i := ext fun k => by
    show (if k = 0 then (IntCast.intCast (-i) : K) else 0) = - (if k = 0 then (IntCast.intCast i : K) else 0)
    split
    · exact Lean.Grind.Ring.intCast_neg i
    · grind
  neg_zsmul i f := ext fun k => Lean.Grind.Ring.neg_zsmul i (f.co k)
end Ser
end RR
namespace RR
section
variable {K : Type} [Lean.Grind.CommRing K]
theorem zero_co (k : Nat) : (0 : Ser K).co k = 0 := by
  show (if k = 0 then (0 : K) else 0) = 0
  split <;> rfl
theorem one_co (k : Nat) : (1 : Ser K).co k = if k = 0 then 1 else 0 := rfl
def xp (k : Nat) : Ser K := ⟨fun j => if j = k then 1 else 0⟩
theorem xp_co (k j : Nat) : (xp k : Ser K).co j = if j = k then 1 else 0 := rfl
theorem xp0 : (xp 0 : Ser K) = 1 := Ser.ext fun j => rfl
theorem tl_xp (k : Nat) : (xp (k + 1) : Ser K).tl = xp k := Ser.ext fun j => by
  show (if j + 1 = k + 1 then (1 : K) else 0) = if j = k then 1 else 0
  by_cases h : j = k
  · rw [if_pos h, if_pos (by omega)]
  · rw [if_neg h, if_neg (by omega)]
theorem xp_mul_co (k : Nat) (f : Ser K) (j : Nat) : (xp k * f).co j = if k ≤ j then f.co (j - k) else 0 := by
  induction k generalizing j with
  | zero => rw [xp0, Lean.Grind.Semiring.one_mul, if_pos (Nat.zero_le _), Nat.sub_zero]
  | succ k ih =>
    cases j with
    | zero =>
      rw [if_neg (by omega)]
      show (if 0 = k + 1 then (1 : K) else 0) * f.co 0 = 0
      rw [if_neg (by omega)]; grind
    | succ j =>
      show (if 0 = k + 1 then (1 : K) else 0) * f.co (j + 1) + Ser.mulc j (xp (k + 1)).tl f = _
      rw [if_neg (by omega), tl_xp]
      rw [show Ser.mulc j (xp k) f = (xp k * f).co j from rfl, ih]
      by_cases h : k ≤ j
      · rw [if_pos h, if_pos (by omega), show j + 1 - (k + 1) = j - k by omega]; grind
      · rw [if_neg h, if_neg (by omega)]; grind
theorem xp_add (i j : Nat) : (xp (i + j) : Ser K) = xp i * xp j := Ser.ext fun k => by
  rw [xp_mul_co, xp_co, xp_co]
  by_cases h : i ≤ k
  · rw [if_pos h]
    by_cases e : k = i + j
    · rw [if_pos e, if_pos (by omega)]
    · rw [if_neg e, if_neg (by omega)]
  · rw [if_neg h, if_neg (by omega)]
theorem C_mul (a b : K) : Ser.C (a * b) = Ser.C a * Ser.C b := Ser.ext fun k => by
  rw [Ser.C_mul_co]; simp only [Ser.C_co]; split <;> grind
theorem C_neg (a : K) : Ser.C (-a) = - Ser.C a := Ser.ext fun k => by rw [Ser.neg_co]; simp only [Ser.C_co]; split <;> grind
theorem C_one : Ser.C (1 : K) = 1 := rfl
def far (n : Nat) (f : Ser K) : Prop := ∀ k, n ≤ k → f.co k = 0
theorem far_mono {n m : Nat} {f : Ser K} (h : far n f) (l : n ≤ m) : far m f := fun k hk => h k (Nat.le_trans l hk)
theorem far_zero {n : Nat} : far n (0 : Ser K) := fun k _ => zero_co k
theorem far_add {n : Nat} {f g : Ser K} (h : far n f) (h' : far n g) : far n (f + g) := fun k hk => by rw [Ser.add_co, h k hk, h' k hk]; grind
theorem far_sub {n : Nat} {f g : Ser K} (h : far n f) (h' : far n g) : far n (f - g) := fun k hk => by rw [Ser.sub_co, h k hk, h' k hk]; grind
theorem far_one : far 1 (1 : Ser K) := fun k hk => by rw [one_co, if_neg (by omega)]
theorem far_scale {n : Nat} {c : K} {f : Ser K} (h : far n f) : far n (Ser.C c * f) := fun k hk => by rw [Ser.C_mul_co, h k hk]; grind
theorem far0 {f : Ser K} (h : far 0 f) : f = 0 := Ser.ext fun j => by rw [h j (Nat.zero_le _), zero_co]
theorem mul_far {n k : Nat} {f g : Ser K} (hf : far n f) (hg : far k g) : ∀ j, n + k ≤ j + 1 → (f * g).co j = 0 := by
  induction n generalizing f with
  | zero =>
    intro j _
    rw [far0 hf, Lean.Grind.Semiring.zero_mul, zero_co]
  | succ n ih =>
    intro j hj
    cases j with
    | zero =>
      show f.co 0 * g.co 0 = 0
      rw [hg 0 (by omega)]; grind
    | succ j =>
      show f.co 0 * g.co (j + 1) + (f.tl * g).co j = 0
      rw [ih (f := f.tl) (fun i hi => hf (i + 1) (by omega)) j (by omega), hg _ (by omega)]
      grind
theorem far_mul {n k : Nat} {f g : Ser K} (hf : far n f) (hg : far k g) : far (n + k - 1) (f * g) := fun j hj => mul_far hf hg j (by omega)
theorem mul_top {n k : Nat} {f g : Ser K} (hf : far (n + 1) f) (hg : far (k + 1) g) : (f * g).co (n + k) = f.co n * g.co k := by
  induction n generalizing f with
  | zero =>
    cases k with
    | zero => rfl
    | succ k =>
      have e : f.tl = 0 := Ser.ext fun j => by rw [zero_co]; exact hf (j + 1) (by omega)
      rw [Nat.zero_add]
      show f.co 0 * g.co (k + 1) + (f.tl * g).co k = _
      rw [e, Lean.Grind.Semiring.zero_mul, zero_co]; grind
  | succ n ih =>
    rw [show n + 1 + k = (n + k) + 1 by omega]
    show f.co 0 * g.co (n + k + 1) + (f.tl * g).co (n + k) = _
    rw [ih (f := f.tl) (fun i hi => hf (i + 1) (by omega)), hg _ (by omega)]
    show f.co 0 * 0 + f.co (n + 1) * g.co k = _
    grind
def top (n : Nat) (f : Ser K) : Prop := far (n + 1) f ∧ f.co n ≠ 0
theorem top_ne {n : Nat} {f : Ser K} (h : top n f) : f ≠ 0 := fun e => h.2 (by rw [e, zero_co])
theorem top_of {n : Nat} {f : Ser K} (h : far n f) (h0 : f ≠ 0) : ∃ k, k < n ∧ top k f := by
  induction n with
  | zero => exact absurd (far0 h) h0
  | succ n ih =>
    by_cases e : f.co n = 0
    · obtain ⟨k, hk, t⟩ := ih fun j hj => by
        by_cases q : j = n
        · rw [q]; exact e
        · exact h j (by omega)
      exact ⟨k, by omega, t⟩
    · exact ⟨n, by omega, h, e⟩
theorem top_uniq {n k : Nat} {f : Ser K} (h : top n f) (h' : top k f) : n = k := by
  rcases Nat.lt_trichotomy n k with l | l | l
  · exact absurd (h.1 k (by omega)) h'.2
  · exact l
  · exact absurd (h'.1 n (by omega)) h.2
theorem top_lt {n k : Nat} {f : Ser K} (h : top n f) (h' : far k f) : n < k := by
  refine Nat.lt_of_not_le fun l => h.2 (h' n l)
def Dom (K : Type) [Lean.Grind.CommRing K] : Prop := ∀ a b : K, a * b = 0 → a = 0 ∨ b = 0
theorem top_mul (D : Dom K) {n k : Nat} {f g : Ser K} (h : top n f) (h' : top k g) : top (n + k) (f * g) :=
  ⟨fun j hj => mul_far h.1 h'.1 j (by omega), fun e => by
    rw [mul_top h.1 h'.1] at e
    exact (D _ _ e).elim h.2 h'.2⟩
theorem mul_zero_of (D : Dom K) {n k : Nat} {f g : Ser K} (hf : far n f) (hg : far k g) (e : f * g = 0) : f = 0 ∨ g = 0 := by
  by_cases f0 : f = 0
  · exact .inl f0
  · by_cases g0 : g = 0
    · exact .inr g0
    · obtain ⟨_, _, t⟩ := top_of hf f0
      obtain ⟨_, _, t'⟩ := top_of hg g0
      exact absurd e (top_ne (top_mul D t t'))
theorem cancel (D : Dom K) {n k : Nat} {f g h : Ser K} (hf : far n f) (hg : far k g) (hh : far k h) (f0 : f ≠ 0) (e : f * g = f * h) : g = h := by
  have : f * (g - h) = 0 := by grind
  rcases mul_zero_of D hf (far_sub hg hh) this with z | z
  · exact absurd z f0
  · grind
theorem div_uniq (D : Dom K) {n N : Nat} {g q q' r r' : Ser K} (hg : top n g) (hq : far N q) (hq' : far N q') (hr : far n r) (hr' : far n r') (e : q * g + r = q' * g + r') : q = q' ∧ r = r' := by
  have e1 : (q - q') * g = r' - r := by grind
  have e2 : q - q' = 0 := by
    refine Classical.byContradiction fun z => ?_
    obtain ⟨k, _, t⟩ := top_of (far_sub hq hq') z
    have := top_lt (top_mul D t hg) (f := (q - q') * g) (by rw [e1]; exact far_sub hr' hr)
    omega
  have e3 : q = q' := by grind
  subst e3
  exact ⟨rfl, by grind⟩
end
theorem dom_rat : Dom Rat := fun a b h => by
  by_cases e : a = 0
  · exact .inl e
  · refine .inr ?_
    have : b = a⁻¹ * (a * b) := by rw [← Lean.Grind.Semiring.mul_assoc, Rat.inv_mul_cancel a e]; grind
    rw [this, h]; grind
end RR
namespace RR
open PySem PySem.Spec PyProof.Rows L2
def ser (xs : List Int) : Ser Int := ⟨fun k => xs.getD k 0⟩
theorem ser_co (xs : List Int) (k : Nat) : (ser xs).co k = xs.getD k 0 := rfl
theorem ser_nil : ser [] = 0 := Ser.ext fun k => by
  show (0 : Int) = if k = 0 then ((0 : Nat) : Int) else 0
  split <;> rfl
theorem getD_snoc (xs : List Int) (a : Int) (k : Nat) : (xs ++ [a]).getD k 0 = if k = xs.length then a else xs.getD k 0 := by
  simp only [List.getD_eq_getElem?_getD, List.getElem?_append]
  by_cases h : k < xs.length
  · rw [if_pos h, if_neg (by omega)]
  · rw [if_neg h]
    by_cases e : k = xs.length
    · subst e; simp
    · rw [if_neg e, List.getElem?_eq_none (l := xs) (by omega), List.getElem?_eq_none (by simp; omega)]
theorem getD_far {xs : List Int} {k : Nat} (h : xs.length ≤ k) : xs.getD k 0 = 0 := by
  rw [List.getD_eq_getElem?_getD, List.getElem?_eq_none h]; rfl
theorem ser_strip (xs : List Int) : ser (strip xs) = ser xs := by
  refine Ser.ext fun k => ?_
  show (strip xs).getD k 0 = xs.getD k 0
  induction xs using strip_ind with
  | h0 => rfl
  | h1 xs a ih =>
    rw [strip_snoc]
    by_cases h : a = 0
    · rw [if_pos h, ih, getD_snoc, h]
      split
      · rename_i e; exact getD_far (Nat.le_of_eq e.symm)
      · rfl
    · rw [if_neg h]
theorem done_last {xs : List Int} (h : done xs) (n : xs ≠ []) : xs.getD (xs.length - 1) 0 ≠ 0 := by
  induction xs using strip_ind with
  | h0 => exact absurd rfl n
  | h1 xs a _ =>
    intro z
    rw [List.length_append, List.length_singleton, Nat.add_sub_cancel, getD_snoc, if_pos rfl] at z
    unfold done at h
    rw [strip_snoc, if_pos z] at h
    have := congrArg List.length h
    have := strip_len xs
    rw [List.length_append, List.length_singleton] at *
    omega
theorem done_uniq {xs ys : List Int} (hx : done xs) (hy : done ys) (h : ser xs = ser ys) : xs = ys := by
  have co : ∀ k, xs.getD k 0 = ys.getD k 0 := fun k => congrArg (fun f => Ser.co f k) h
  have le : ∀ {xs ys : List Int}, done xs → (∀ k, xs.getD k 0 = ys.getD k 0) → xs.length ≤ ys.length := fun {xs ys} hx co => by
    refine Nat.le_of_not_lt fun lt => ?_
    have n : xs ≠ [] := fun z => by rw [z] at lt; simp at lt
    exact done_last hx n (by rw [co, getD_far (by omega)])
  have el : xs.length = ys.length := Nat.le_antisymm (le hx co) (le hy fun k => (co k).symm)
  refine List.ext_getElem el fun i h1 h2 => ?_
  have := co i
  rwa [List.getD_eq_getElem?_getD, List.getD_eq_getElem?_getD, List.getElem?_eq_getElem h1, List.getElem?_eq_getElem h2] at this
theorem bd0 {n : Nat} : bd n 0 := by unfold bd; exact Nat.pow_pos (by decide)
def padTo (n : Nat) (xs : List Int) : List Int := xs ++ List.replicate (n - xs.length) 0
theorem pad_len {n : Nat} {xs : List Int} (h : xs.length ≤ n) : (padTo n xs).length = n := by unfold padTo; rw [List.length_append, List.length_replicate]; omega
theorem pad_co {n : Nat} {xs : List Int} (k : Nat) : (padTo n xs).getD k 0 = xs.getD k 0 := by
  unfold padTo
  simp only [List.getD_eq_getElem?_getD, List.getElem?_append]
  by_cases h : k < xs.length
  · rw [if_pos h]
  · rw [if_neg h, List.getElem?_eq_none (l := xs) (by omega), List.getElem?_replicate]
    split <;> rfl
theorem pad_mem {n : Nat} {xs : List Int} {x : Int} (h : x ∈ padTo n xs) : x ∈ xs ∨ x = 0 := (List.mem_append.mp h).imp id fun h => List.eq_of_mem_replicate h
theorem zip_co {g : Int → Int → Int} (h0 : g 0 0 = 0) {xs ys : List Int} (hl : xs.length = ys.length) (k : Nat) : (List.zipWith g xs ys).getD k 0 = g (xs.getD k 0) (ys.getD k 0) := by
  simp only [List.getD_eq_getElem?_getD]
  rw [List.getElem?_zipWith]
  by_cases h : k < xs.length
  · rw [List.getElem?_eq_getElem h, List.getElem?_eq_getElem (hl ▸ h)]; rfl
  · rw [List.getElem?_eq_none (Nat.le_of_not_lt h), List.getElem?_eq_none (by omega)]
    exact h0.symm
theorem map_co {g : Int → Int} (h0 : g 0 = 0) (xs : List Int) (k : Nat) : (xs.map g).getD k 0 = g (xs.getD k 0) := by
  simp only [List.getD_eq_getElem?_getD, List.getElem?_map]
  cases xs[k]? with
  | none => exact h0.symm
  | some x => rfl
theorem ser_scale (c : Int) (xs : List Int) : ser (xs.map fun x => c * x) = Ser.C c * ser xs := Ser.ext fun k => by rw [ser_co, map_co (by simp), Ser.C_mul_co]; rfl
theorem ser_scale' (c : Int) (xs : List Int) : ser (xs.map fun x => x * c) = Ser.C c * ser xs := by rw [← ser_scale]; simp only [Int.mul_comm]
theorem map_bd {a c : Nat} {g : Int → Int} {xs : List Int} (hx : ∀ x ∈ xs, bd a x) (hg : ∀ x, bd a x → bd c (g x)) : ∀ z ∈ xs.map g, bd c z := fun z hz => by
  obtain ⟨x, h, rfl⟩ := List.mem_map.mp hz
  exact hg x (hx x h)
theorem ser_cons (a : Int) (xs : List Int) : ser (a :: xs) = Ser.C a + xp 1 * ser xs := Ser.ext fun k => by
  rw [Ser.add_co, xp_mul_co]
  cases k with
  | zero => simp [ser, Ser.C]
  | succ k => simp [ser, Ser.C]
theorem ser_set {xs : List Int} {i : Nat} {v : Int} (h : i < xs.length) : ser (xs.set i v) = ser xs + Ser.C (v - xs.getD i 0) * xp i := Ser.ext fun k => by
  rw [ser_co, Ser.add_co, Ser.C_mul_co, xp_co, ser_co]
  simp only [List.getD_eq_getElem?_getD]
  by_cases e : k = i
  · subst e
    rw [List.getElem?_set_self h, List.getElem?_eq_getElem h]; simp; omega
  · rw [List.getElem?_set_ne (Ne.symm e), if_neg e]; simp
theorem ser_zeros (n : Nat) : ser (List.replicate n 0) = 0 := Ser.ext fun k => by
  rw [zero_co, ser_co, List.getD_eq_getElem?_getD, List.getElem?_replicate]
  split <;> rfl
structure R (f : Ser Int) (r : List Int) : Prop where
  dn : done r
  sr : ser r = f
structure B (n a : Nat) (f : Ser Int) : Prop where
  far : ∀ k, n ≤ k → f.co k = 0
  bd : ∀ k, RR.bd a (f.co k)
theorem R.uniq {f : Ser Int} {r r' : List Int} (h : R f r) (h' : R f r') : r = r' := done_uniq h.dn h'.dn (h.sr.trans h'.sr.symm)
theorem R.of {f : Ser Int} {xs : List Int} (e : ser xs = f) : R f (strip xs) := ⟨strip_done xs, (ser_strip xs).trans e⟩
theorem R.cong {f g : Ser Int} {r : List Int} (h : R f r) (e : f = g) : R g r := e ▸ h
theorem R.nil : R 0 [] := ⟨rfl, ser_nil⟩
theorem R.get {f : Ser Int} {r : List Int} (h : R f r) (k : Nat) : r.getD k 0 = f.co k := by rw [← h.sr]; rfl
theorem R.zero {f : Ser Int} {r : List Int} (h : R f r) : r = [] ↔ f = 0 := ⟨fun e => by rw [← h.sr, e, ser_nil], fun e => done_uniq h.dn rfl (by rw [h.sr, e, ser_nil])⟩
theorem R.len {n a : Nat} {f : Ser Int} {r : List Int} (h : R f r) (b : B n a f) : r.length ≤ n := by
  refine Nat.le_of_not_lt fun lt => ?_
  have n0 : r ≠ [] := fun z => by rw [z] at lt; simp at lt
  exact done_last h.dn n0 (by rw [h.get, b.far _ (by omega)])
theorem R.bds {n a : Nat} {f : Ser Int} {r : List Int} (h : R f r) (b : B n a f) : ∀ x ∈ r, RR.bd a x := fun x hx => by
  obtain ⟨i, hi, rfl⟩ := List.mem_iff_getElem.mp hx
  have := b.bd i
  rw [← h.get, List.getD_eq_getElem?_getD, List.getElem?_eq_getElem hi] at this
  exact this
theorem R.far {f : Ser Int} {r : List Int} (h : R f r) {k : Nat} (hk : r.length ≤ k) : f.co k = 0 := by rw [← h.get, getD_far hk]
theorem R.last {f : Ser Int} {r : List Int} (h : R f r) (n : r ≠ []) : f.co (r.length - 1) ≠ 0 := by rw [← h.get]; exact done_last h.dn n
theorem B.of {n a : Nat} {xs : List Int} (hl : xs.length ≤ n) (hb : ∀ x ∈ xs, RR.bd a x) : B n a (ser xs) := ⟨fun k hk => by rw [ser_co, getD_far (by omega)], fun k => by
  rw [ser_co]
  by_cases hk : k < xs.length
  · rw [List.getD_eq_getElem?_getD, List.getElem?_eq_getElem hk]; exact hb _ (List.getElem_mem hk)
  · rw [getD_far (by omega)]; exact bd0⟩
theorem B.mono {n a n' a' : Nat} {f : Ser Int} (h : B n a f) (hn : n ≤ n') (ha : a ≤ a') : B n' a' f := ⟨fun k hk => h.far k (by omega), fun k => bd_mono (h.bd k) ha⟩
theorem B.cong {n a : Nat} {f g : Ser Int} (h : B n a f) (e : f = g) : B n a g := e ▸ h
theorem B.zero {n a : Nat} : B n a 0 := ⟨fun k _ => zero_co k, fun k => by rw [zero_co]; exact bd0⟩
theorem B.add {n a k b : Nat} {f g : Ser Int} (h : B n a f) (h' : B k b g) : B (max n k) (max a b + 1) (f + g) := ⟨fun j hj => by rw [Ser.add_co, h.far j (by omega), h'.far j (by omega)]; rfl, fun j => by rw [Ser.add_co]; exact bd_add (h.bd j) (h'.bd j)⟩
theorem B.add' {n a : Nat} {f g : Ser Int} (h : B n a f) (h' : B n a g) : B n (a + 1) (f + g) := by
  have := h.add h'
  rwa [Nat.max_self, Nat.max_self] at this
theorem B.neg {n a : Nat} {f : Ser Int} (h : B n a f) : B n a (-f) := ⟨fun j hj => by rw [Ser.neg_co, h.far j hj]; rfl, fun j => by rw [Ser.neg_co]; exact bd_neg (h.bd j)⟩
theorem B.sub' {n a : Nat} {f g : Ser Int} (h : B n a f) (h' : B n a g) : B n (a + 1) (f - g) := by
  rw [Lean.Grind.Ring.sub_eq_add_neg]; exact h.add' h'.neg
theorem B.scale {n a c : Nat} {q : Int} {f : Ser Int} (hq : RR.bd c q) (h : B n a f) : B n (c + a) (Ser.C q * f) := ⟨fun j hj => by rw [Ser.C_mul_co, h.far j hj, Int.mul_zero], fun j => by rw [Ser.C_mul_co]; exact bd_mul hq (h.bd j)⟩
theorem B.shift {n a k : Nat} {f : Ser Int} (h : B n a f) : B (k + n) a (xp k * f) := ⟨fun j hj => by
  rw [xp_mul_co]; split
  · exact h.far _ (by omega)
  · rfl, fun j => by
  rw [xp_mul_co]; split
  · exact h.bd _
  · exact bd0⟩
theorem B.xp {k : Nat} : B (k + 1) 1 (RR.xp k : Ser Int) := ⟨fun j hj => by rw [xp_co, if_neg (by omega)], fun j => by rw [xp_co]; split <;> (unfold RR.bd; decide)⟩
theorem B.C {a : Nat} {c : Int} (h : RR.bd a c) : B 1 a (Ser.C c) := ⟨fun j hj => by rw [Ser.C_co, if_neg (by omega)], fun j => by
  rw [Ser.C_co]; split
  · exact h
  · exact bd0⟩
theorem mulc_le {a b : Nat} : ∀ (k n : Nat) (f g : Ser Int), (∀ j, n ≤ j → f.co j = 0) → (∀ j, (f.co j).natAbs ≤ 2 ^ a) → (∀ j, (g.co j).natAbs ≤ 2 ^ b) → (Ser.mulc k f g).natAbs ≤ n * 2 ^ (a + b)
  | k, 0, f, g, hf, ha, hb => by
    have e : f = 0 := Ser.ext fun j => by rw [hf j (Nat.zero_le _), zero_co]
    rw [e, show Ser.mulc k 0 g = 0 from Ser.mulc_zero k g]
    simp
  | 0, n + 1, f, g, hf, ha, hb => by
    show (f.co 0 * g.co 0).natAbs ≤ _
    rw [Int.natAbs_mul, Nat.pow_add]
    have := Nat.mul_le_mul (ha 0) (hb 0)
    rw [Nat.succ_mul]; omega
  | k + 1, n + 1, f, g, hf, ha, hb => by
    show (f.co 0 * g.co (k + 1) + Ser.mulc k f.tl g).natAbs ≤ _
    have h1 := mulc_le k n f.tl g (fun j hj => hf (j + 1) (by omega)) (fun j => ha (j + 1)) hb
    have h2 : (f.co 0 * g.co (k + 1)).natAbs ≤ 2 ^ (a + b) := by
      rw [Int.natAbs_mul, Nat.pow_add]; exact Nat.mul_le_mul (ha 0) (hb (k + 1))
    rw [Nat.succ_mul]; omega
theorem B.mul {n a k b : Nat} {f g : Ser Int} (h : B n a f) (h' : B k b g) : B (n + k) (a + b + n) (f * g) := ⟨fun j hj => mul_far h.far h'.far j (by omega), fun j => by
  have ha : ∀ j, (f.co j).natAbs ≤ 2 ^ a := fun j => Nat.le_of_lt (h.bd j)
  have hb : ∀ j, (g.co j).natAbs ≤ 2 ^ b := fun j => Nat.le_of_lt (h'.bd j)
  cases n with
  | zero =>
    have e : f = 0 := Ser.ext fun j => by rw [h.far j (Nat.zero_le _), zero_co]
    rw [e, Lean.Grind.Semiring.zero_mul, zero_co]; exact bd0
  | succ n =>
    have := mulc_le j (n + 1) f g h.far ha hb
    rw [Ser.mul_co]
    unfold RR.bd
    refine Nat.lt_of_le_of_lt this ?_
    rw [Nat.pow_add 2 (a + b), Nat.mul_comm]
    exact Nat.mul_lt_mul_of_pos_left (Nat.lt_two_pow_self) (Nat.pow_pos (by decide))⟩
theorem bd_pow {a : Nat} {d : Int} (h : bd a d) : ∀ k : Nat, bd (k * a + 1) (d ^ k)
  | 0 => by unfold bd; simp
  | k + 1 => by
    rw [Int.pow_succ]
    refine bd_mono (bd_mul (bd_pow h k) h) ?_
    rw [Nat.succ_mul]; omega
end RR
namespace RR
open PySem PySem.Spec PyProof.Rows L2
section
variable {M : Type} {ρ : En} {m : M} {Q : D → M → Prop} {QL : List D → M → Prop} {QB : Bool → M → Prop} {Z ex : Str → M → Prop} {nx bk ct : En → M → Prop} {rt : D → M → Prop} {t u w : DT M} {ta : DTA M} {tt tu : DTT M} {s1 s2 : DS M} {q : D → Prop} {i j : Int} {d x y : D} {xs ys : List Int} {ds es : List D}
theorem v_ix0 (h : q x) : gIx false (.tup (x :: ds)) (.int 0) q := by
  unfold gIx; dsimp only
  rw [show atI (x :: ds) 0 = some x from by unfold atI ixN; rw [if_pos (by decide), if_pos (by rw [List.length_cons]; omega)]; rfl]
  exact ⟨(fun z => nomatch z), h⟩
theorem v_ix1 (h : q y) : gIx false (.tup (x :: y :: ds)) (.int 1) q := by
  unfold gIx; dsimp only
  rw [show atI (x :: y :: ds) 1 = some y from by unfold atI ixN; rw [if_pos (by decide), if_pos (by rw [List.length_cons, List.length_cons]; omega)]; rfl]
  exact ⟨(fun z => nomatch z), h⟩
theorem v_ix2 {z : D} (h : q z) : gIx false (.tup (x :: y :: z :: ds)) (.int 2) q := by
  unfold gIx; dsimp only
  rw [show atI (x :: y :: z :: ds) 2 = some z from by unfold atI ixN; rw [if_pos (by decide), if_pos (by simp only [List.length_cons]; omega)]; rfl]
  exact ⟨(fun z => nomatch z), h⟩
theorem v_ixm {n : Bool} (h0 : xs ≠ []) (h : q (.int (xs.getD (xs.length - 1) 0))) : gIx n (.tup (zz xs)) (.int (-1)) q := by
  have l0 := List.length_pos_iff.mpr h0
  unfold gIx; dsimp only
  have e : atI (zz xs) (-1) = some (.int (xs.getD (xs.length - 1) 0)) := by
    unfold atI ixN
    rw [List.length_map, if_neg (by decide), if_pos (by omega)]
    have e2 : (-1 + (xs.length : Int)).toNat = xs.length - 1 := by omega
    first
      | (rw [Option.bind_some, e2, List.getElem?_map, List.getElem?_eq_getElem (by omega), List.getD_eq_getElem?_getD, List.getElem?_eq_getElem (by omega)]; rfl)
      | (simp only [e2, List.getElem?_map, List.getD_eq_getElem?_getD]; rw [List.getElem?_eq_getElem (by omega)]; rfl)
  rw [e]
  exact ⟨fun _ => rfl, h⟩
theorem v_mulb {a b : Nat} (ha : bd a i) (hb : bd b j) (l : a + b ≤ 100000000) (h : q (.int (i * j))) : gMul (.int i) (.int j) q := v_mul (mulok ha hb l) h
theorem v_fdivb {b : Nat} (h0 : j ≠ 0) (hb : bd b j) (l : b ≤ 9000) (h : q (.int (i.fdiv j))) : gII Nd (fun i j => .int (i.fdiv j)) (.int i) (.int j) q := v_gII (nd_small h0 hb l) h
theorem nd_big {i j : Int} (h : j ≠ 0) (hi : bd 13400 i) : Nd i j := by
  refine ⟨h, ?_⟩
  have e : Builtin.divisionGoesByPylong i j = (decide ((if j == 0 then 0 else j.natAbs.log2 / 30 + 1) > 300) && decide ((if i == 0 then 0 else i.natAbs.log2 / 30 + 1) > (if j == 0 then 0 else j.natAbs.log2 / 30 + 1) + 150)) := rfl
  rw [e]
  by_cases i0 : i = 0
  · subst i0
    rw [if_pos (by rfl : ((0 : Int) == 0) = true)]
    rw [Bool.and_eq_false_iff]
    exact .inr (decide_eq_false (by omega))
  · have hl := (Nat.log2_lt (show i.natAbs ≠ 0 by omega)).mpr hi
    have h2 : (if i == 0 then 0 else i.natAbs.log2 / 30 + 1) ≤ 447 := by split <;> omega
    rw [Bool.and_eq_false_iff]
    by_cases q : (if j == 0 then 0 else j.natAbs.log2 / 30 + 1) > 300
    · exact .inr (decide_eq_false (by omega))
    · exact .inl (decide_eq_false q)
theorem v_fdivs (h0 : j ≠ 0) (hb : bd 9000 j ∨ bd 13400 i) (h : q (.int (i.fdiv j))) : gII Nd (fun i j => .int (i.fdiv j)) (.int i) (.int j) q := v_gII (hb.elim (fun hb => nd_small h0 hb (Nat.le_refl _)) fun hb => nd_big h0 hb) h
def Sm (xs : List Int) (d : Int) : Prop := bd 9000 d ∨ (bd 13400 d ∧ ∀ x ∈ xs, bd 13400 x)
theorem Sm.of {xs : List Int} {d : Int} {k j : Nat} (h : bd k d) (hx : ∀ x ∈ xs, bd j x) (l : k ≤ 9000 ∨ (k ≤ 13400 ∧ j ≤ 13400)) : Sm xs d := by
  rcases l with l | ⟨l, l'⟩
  · exact .inl (bd_mono h l)
  · exact .inr ⟨bd_mono h l, fun x m => bd_mono (hx x m) l'⟩
theorem Sm.le {xs : List Int} {d e : Int} (h : Sm xs d) (l : ∀ k, bd k d → bd k e) : (∀ x ∈ d :: xs, bd 9000 e ∨ bd 13400 x) := fun x hx => by
  rcases h with h | ⟨h, h'⟩
  · exact .inl (l _ h)
  · rcases List.mem_cons.mp hx with rfl | hx
    · exact .inr h
    · exact .inr (h' x hx)
theorem v_repl1 {v : Int} {k : Int} (h1 : k ≤ 16777216) (hm : -16777216 ≤ k) (h : q (.lst (zz (List.replicate k.toNat v)))) : gMul (.lst [.int v]) (.int k) q := by
  by_cases h0 : 0 ≤ k
  · refine v_repl h0 (by simp; omega) (by omega) rfl ?_
    unfold rep
    rw [show (List.replicate k.toNat [D.int v]).flatten = zz (List.replicate k.toNat v) from by
      simp only [zz, List.map_replicate]
      induction k.toNat with
      | zero => rfl
      | succ n ih => rw [List.replicate_succ, List.replicate_succ, List.flatten_cons, ih]; rfl]
    exact h
  · refine ⟨by omega, by omega, small_line (by rw [show k.toNat = 0 by omega]; simp), rfl, ?_⟩
    unfold rep
    rw [show k.toNat = 0 by omega] at h ⊢
    exact h
theorem zz_app : zz xs ++ zz ys = zz (xs ++ ys) := (List.map_append ..).symm
theorem v_addlz (a : xs.length + ys.length ≤ 16777216) (h : q (.lst (zz (xs ++ ys)))) : gAdd (.lst (zz xs)) (.lst (zz ys)) q := by
  refine v_addl (by simpa using a) (nls_ints _) (nls_ints _) ?_
  rw [zz_app]; exact h
def kAI (ρ : En) (i : Nat) (f : Int → Int → Int) (ds : List D) (nx : En → M → Prop) (te : DT M) (ex : Str → M → Prop) (k : D) (m1 : M) : Prop := match k with
    | .int k => (match ixN ds.length k with
      | some j => (match ds[j]? with
        | some (.int x) => te ρ m1 (fun d m2 => match d with | .int y => nx (ρ.set i (.own (ds.set j (.int (f x y))))) m2 | _ => False) ex
        | _ => False)
      | none => False)
    | _ => False
theorem v_augI {i : Nat} {f : Int → Int → Int} (e : ρ[i]? = some (.own ds)) (h : t ρ m (fun k m1 => kAI ρ i f ds nx u ex k m1) ex) : dAugI i f t u ⟨nx, rt, bk, ct, ex⟩ ρ m := by
  unfold dAugI; rw [e]; exact h
theorem v_kAI {i : Nat} {f : Int → Int → Int} {k : Int} (h0 : 0 ≤ k) (h1 : k < xs.length) (h : u ρ m (fun d m2 => kOS (fun o m2 => match o with | some y => nx (ρ.set i (.own (zz (xs.set k.toNat (f (xs.getD k.toNat 0) y))))) m2 | none => False) d m2) ex) : kAI ρ i f (zz xs) nx u ex (.int k) m := by
  unfold kAI; dsimp only
  rw [ixN_at h0 (by rw [List.length_map]; exact h1)]
  dsimp only
  have lt : k.toNat < xs.length := by omega
  rw [List.getElem?_map, List.getElem?_eq_getElem lt]
  dsimp only [Option.map_some]
  have e : (fun (d : D) (m2 : M) => kOS (fun o m2 => match o with | some y => nx (ρ.set i (.own (zz (xs.set k.toNat (f (xs.getD k.toNat 0) y))))) m2 | none => False) d m2) = (fun d m2 => match d with | .int y => nx (ρ.set i (.own ((zz xs).set k.toNat (.int (f xs[k.toNat] y))))) m2 | _ => False) := by
    funext d m2
    cases d <;> try rfl
    show nx _ m2 = nx _ m2
    simp only [zz, List.map_set, List.getD_eq_getElem?_getD, List.getElem?_eq_getElem lt]
    rfl
  rw [← e]
  exact h
def kZip (n : Bool) (Q : List D → M → Prop) (x y : D) (m2 : M) : Prop := match x, y with
  | .lst xs, .lst ys | .tup xs, .tup ys => (n = true → D.nls xs = true ∧ D.nls ys = true) ∧ Q (zipD xs ys) m2
  | _, _ => False
theorem v_zip {n : Bool} (h : t ρ m (fun x m1 => u ρ m1 (fun y m2 => kZip n QL x y m2) Z) Z) : dZip n t u ρ m QL Z := by
  refine (?_ : t ρ m _ Z); exact h
abbrev pr2 (p : Int × Int) : D := .tup [.int p.1, .int p.2]
theorem zipD_zz : ∀ {xs ys : List Int}, zipD (zz xs) (zz ys) = (List.zip xs ys).map pr2
  | [], _ => by simp [zipD]
  | _ :: _, [] => by simp [zipD]
  | x :: xs, y :: ys => by
    show D.tup [.int x, .int y] :: zipD (zz xs) (zz ys) = _
    rw [zipD_zz, List.zip_cons_cons, List.map_cons]
theorem v_kZl {n : Bool} (h : QL ((List.zip xs ys).map pr2) m) : kZip n QL (.lst (zz xs)) (.lst (zz ys)) m := ⟨fun _ => ⟨nls_ints _, nls_ints _⟩, by rw [zipD_zz]; exact h⟩
theorem v_kZt {n : Bool} (h : QL ((List.zip xs ys).map pr2) m) : kZip n QL (.tup (zz xs)) (.tup (zz ys)) m := ⟨fun _ => ⟨nls_ints _, nls_ints _⟩, by rw [zipD_zz]; exact h⟩
theorem v_kZL {n : Bool} (e : n = true → D.nls ds = true ∧ D.nls es = true) (h : QL (zipD ds es) m) : kZip n QL (.lst ds) (.lst es) m := ⟨e, h⟩
theorem lc_zip {g : DG} {f : Int → Int → Int} (st : ∀ a ∈ xs, ∀ b ∈ ys, ∀ m (k : D → M → Prop) (l : M → Prop), k (.int (f a b)) m → g (.tup [.int a, .int b]) ρ fun ρ2 => tt ρ2 m (fun b m1 => if b = true then t ρ2 m1 k (fun _ _ => False) else l m1) (fun _ _ => False))
    (hl : xs.length ≤ 16777216) (q : QL (zz (List.zipWith f xs ys)) m) : lcGo g tt t ρ ((List.zip xs ys).map pr2) [] m QL := by
  refine lcGo_map (h := fun p => .int (f p.1 p.2)) (List.zip xs ys) (fun p hp m k l hk => ?_) (small_line (by rw [List.length_zip]; omega)) ?_
  · obtain ⟨h1, h2⟩ := List.of_mem_zip (show (p.1, p.2) ∈ _ from hp)
    exact st _ h1 _ h2 m k l hk
  · rw [show (List.zip xs ys).map (fun p => D.int (f p.1 p.2)) = zz (List.zipWith f xs ys) from by
      rw [List.zip, List.map_zipWith]
      exact (List.map_zipWith ..).symm]
    exact q
theorem v_kforRR {g : DG} (n : Nat) (W : Nat → En → M → Prop) (h : W n ρ m) (e : ∀ ρ m, W 0 ρ m → nx ρ m) (st : ∀ k ρ m, k < n → W (k + 1) ρ m → g (.int k) ρ fun ρ2 => s1 ⟨fun ρ m => W k ρ m, rt, nx, fun ρ m => W k ρ m, ex⟩ ρ2 m) :
    kFor g s1 ⟨nx, rt, bk, ct, ex⟩ ρ (iota 0 n).reverse m := by
  have len : ∀ j : Nat, (iota 0 j).reverse.length = j := fun j => by unfold iota; simp
  refine ⟨fun it ρ m => ∃ j, j ≤ n ∧ it = (iota 0 j).reverse ∧ W j ρ m, ⟨n, Nat.le_refl _, rfl, h⟩, fun ρ m h => ?_, fun x r ρ m h => ?_⟩
  · obtain ⟨j, hj, e1, h⟩ := h
    have := congrArg List.length e1
    rw [len, List.length_nil] at this
    subst this
    exact e ρ m h
  · obtain ⟨j, hj, e1, h⟩ := h
    cases j with
    | zero => unfold iota at e1; simp at e1
    | succ j =>
      have e2 : (iota 0 (j + 1)).reverse = D.int (j : Nat) :: (iota 0 j).reverse := by
        unfold iota
        rw [List.range_succ, List.map_append, List.reverse_append]
        simp
      rw [e2] at e1
      obtain ⟨rfl, rfl⟩ := List.cons.inj e1
      have z := st j ρ m hj h
      have f1 : (fun ρ m => ∃ j', j' ≤ n ∧ (iota 0 j).reverse = (iota 0 j').reverse ∧ W j' ρ m) = fun ρ m => W j ρ m := by
        funext ρ m
        refine propext ⟨fun ⟨j', h1, h2, h⟩ => ?_, fun h => ⟨j, Nat.le_of_succ_le hj, rfl, h⟩⟩
        have := congrArg List.length h2
        rw [len, len] at this
        subst this
        exact h
      show g _ ρ fun ρ2 => s1 ⟨fun ρ m => ∃ j', j' ≤ n ∧ (iota 0 j).reverse = (iota 0 j').reverse ∧ W j' ρ m, rt, nx, fun ρ m => ∃ j', j' ≤ n ∧ (iota 0 j).reverse = (iota 0 j').reverse ∧ W j' ρ m, ex⟩ ρ2 m
      rw [f1]
      exact z
theorem zz_rev : (zz xs).reverse = zz xs.reverse := (List.map_reverse ..).symm
theorem v_try {es : List Str} {i j : Nat} (h : s1 ⟨nx, fun _ _ => False, fun _ _ => False, fun _ _ => False, fun x m' => x ∈ es ∧ nx (((ρ.set i .un).set j (.val (.exc x))).set i .un) m'⟩ ρ m) : dTry es i j s1 ⟨nx, rt, bk, ct, ex⟩ ρ m := h
def kIE (bs : List (Str × Bool)) (Q : D → M → Prop) (d : D) (m1 : M) : Prop := match d with | .exc x => (match bs.lookup x with | some b => Q (.bl b) m1 | none => False) | _ => False
theorem v_isE {bs : List (Str × Bool)} (h : t ρ m (fun d m1 => kIE bs Q d m1) Z) : dIsE bs t ρ m Q Z := h
theorem v_kIE {bs : List (Str × Bool)} {x : Str} {b : Bool} (e : bs.lookup x = some b) (h : Q (.bl b) m) : kIE bs Q (.exc x) m := by unfold kIE; dsimp only; rw [e]; exact h
theorem v_isB {a b : Bool} (h : q (.bl (decide (a = b)))) : gIsB (.bl a) (.bl b) q := h
theorem v_notB {a b : Bool} (h : q (.bl (!decide (a = b)))) : gNotB (.bl a) (.bl b) q := h
theorem v_all {bs : List Bool} (h : q (.bl (bs.all id))) : gAll [.lst (bs.map D.bl)] q := ⟨bs, rfl, h⟩
def kRv (Q : D → M → Prop) (x : D) (m1 : M) : Prop := match x with
  | .lst ds => D.nls ds = true ∧ Q (.lst ds.reverse) m1
  | .tup ds => D.nls ds = true ∧ Q (.tup ds.reverse) m1
  | _ => False
theorem v_rvs (h : t ρ m (fun x m1 => kRv Q x m1) Z) : dRvs t ρ m Q Z := h
theorem v_kRvl (h : Q (.lst (zz xs.reverse)) m) : kRv Q (.lst (zz xs)) m := ⟨nls_ints xs, by rw [zz_rev]; exact h⟩
theorem v_kRvt (h : Q (.tup (zz xs.reverse)) m) : kRv Q (.tup (zz xs)) m := ⟨nls_ints xs, by rw [zz_rev]; exact h⟩
theorem v_par3 {i j l : Nat} (h : ta ρ m (fun ds m' => match ds with | [x, y, z] => nx (((ρ.set i (.val x)).set j (.val y)).set l (.val z)) m' | _ => False) ex) : dPar3 i j l ta ⟨nx, rt, bk, ct, ex⟩ ρ m := h
theorem v_nes {x y : Str} (h : q (.bl (!decide (x = y)))) : gNe (.str x) (.str y) q := .inr ⟨_, _, rfl, rfl, h⟩
theorem v_eqs {x y : Str} (h : q (.bl (decide (x = y)))) : gEq (.str x) (.str y) q := .inr ⟨_, _, rfl, rfl, h⟩
theorem v_ifnT {A E : Prop} (h : E) : if (!true) = true then A else E := h
theorem v_ifnF {A E : Prop} (h : A) : if (!false) = true then A else E := h
end
end RR
local macro_rules | `(tactic| walk_at "bd") => `(tactic| first | assumption | exact RR.bd_lit (by decide) | (with_reducible refine RR.bd_mul ?_ ?_ <;> walk_at "bd") | (with_reducible refine RR.bd_add ?_ ?_ <;> walk_at "bd") | (with_reducible refine RR.bd_sub ?_ ?_ <;> walk_at "bd") | (with_reducible refine RR.bd_neg ?_ <;> walk_at "bd"))
namespace RR
open PySem PySem.Spec PyProof.Rows L2
local macro_rules | `(tactic| walk_at "s") => `(tactic| with_reducible first
  | refine v_then ?_ | refine v_set ?_ | (apply v_var; · with_unfolding_all exact rfl) | refine v_bin ?_ | refine v_c ?_ | refine v_g0 ?_ | refine v_add ?_ | refine v_cons ?_ | refine v_nil ?_ | refine v_call ?_ | refine v_dB ?_ | refine v_next ?_ | refine v_ret ?_
  | refine v_ite ?_ | refine v_tst ?_ | refine v_kT ?_ | refine v_eqi ?_ | refine v_nei ?_ | refine v_eqr ?_ | refine v_ner ?_ | refine v_eqr0 ?_ | refine v_ner0 ?_ | refine v_eql ?_ | refine v_nel ?_ | refine v_eql0 ?_ | refine v_nel0 ?_ | refine v_isN ?_ | refine v_notN ?_
  | (apply v_bor; · with_unfolding_all exact rfl) | (apply v_own; · with_unfolding_all exact rfl) | refine v_tup ?_ | refine v_lst ?_ | (refine v_sz ?_ ?_; (· with_unfolding_all exact Nat.le_of_ble_eq_true rfl)) | (refine v_gIIz ?_ ?_; (· first | decide | omega))
  | refine v_lentz ?_ | refine v_lenlz ?_ | refine v_lent ?_ | refine v_lenl ?_ | refine v_I1 ?_ | refine v_I2 ?_ | refine v_int ?_ | refine v_seqlz ?_ | refine v_seqtz ?_ | refine v_sl ?_ | refine v_kSll ?_ | refine v_kSlt ?_ | refine v_ono ?_ | refine v_oso ?_ | refine v_kOS ?_
  | refine v_val ?_ | refine v_kVb ?_ | refine v_kVi ?_ | refine v_kVt ?_ | refine v_kVl ?_ | refine v_and ?_ | refine v_or ?_ | refine v_not ?_ | refine v_yes ?_ | refine v_if' ?_ | refine v_isi ?_ | refine v_kIii ?_ | refine v_kIib ?_ | refine v_kItt ?_
  | refine v_andV ?_ | refine v_orV ?_ | refine v_notV ?_ | refine v_kNV ?_ | refine v_neg ?_ | refine v_kNeg ?_ | refine v_seq ?_ | refine v_kSeql ?_ | refine v_kSeqt ?_ | refine v_rng1 ?_ | refine v_rng2 ?_ | refine v_enum ?_ | refine v_revr ?_ | refine v_rev ?_
  | (refine v_kR1 ?_ ?_ ?_; (· decide); (· decide))
  | (refine v_kR2 ?_ ?_ ?_ ?_ ?_; (· decide); (· decide); (· decide); (· decide))
  | refine v_gn ?_ | refine v_gt2 ?_ | refine v_gt3 ?_ | refine v_lc ?_ | refine v_for ?_ | refine v_setO ?_ | refine v_drop ?_ | (apply v_app; · with_unfolding_all exact rfl) | (apply v_setI; · with_unfolding_all exact rfl) | (apply v_rel; · with_unfolding_all exact rfl) | refine v_raise ?_ | refine v_par ?_ | refine v_kP ?_ | refine v_asg ?_
  | (apply v_aug; · with_unfolding_all exact rfl) | refine v_ifT ?_ | refine v_ifF ?_ | (refine v_pow ?_ ?_ ?_ ?_; (· decide); (· decide); (· decide)) | refine v_call0 ?_ | (apply v_lenr; · assumption) | (apply v_seqr; · assumption) | (apply v_kSeqr; · assumption) | (apply v_kSlr; · assumption))
def b__law_mixed {M : Type} : DS M :=
    (dThen (dSet 2 (dBin gAdd (dBin gAdd (dBin (gII Nz fun i j => .int (i.fmod j)) (dBin gMul (dBin gMul (dVar 0) (dBin gAdd (dC (.int 1)) (dBin gMul (dC (.int 2)) (dVar 1)))) (dC (.int 48271))) (dC (.int 2147483647))) (dBin gMul (dBin gMul (dC (.int 7919)) (dVar 1)) (dVar 1))) (dBin gMul (dC (.int 104729)) (dVar 1))))
    (dRet (dBin (gII Nd fun i j => .int (i.fdiv j)) (dBin (gII Nz fun i j => .int (i.fmod j)) (dBin gMul (dVar 2) (dC (.int 69621))) (dC (.int 2147483629))) (dC (.int 7)))))
theorem vc__law_mixed {M : Type} : ∀ ds (m : M) Q Z, s__law_mixed ds m Q Z → okK [false, false] ds ∧ b__law_mixed { nx := fun _ m' => Q .non m', rt := Q, ex := Z } (st0 [false, false] ds 3) m := by
  rintro ds m Q Z ⟨c, k, rfl, hc, k0, k1, q⟩
  refine ⟨⟨fun _ => rfl, fun _ => rfl, trivial⟩, ?_⟩
  have bc : bd 70 c := hc
  have bk : bd 62 k := by unfold bd; omega
  unfold b__law_mixed
  repeat walk_at "s"
  refine v_mul (mulok (bd_lit (n := 2) (by decide)) bk) ?_
  repeat walk_at "s"
  have b1 : bd 64 (1 + 2 * k) := by unfold bd; omega
  refine v_mul (mulok bc b1) ?_
  repeat walk_at "s"
  refine v_mul (mulok (bd_mul bc b1) (bd_lit (n := 16) (by decide))) ?_
  repeat walk_at "s"
  refine v_mul (mulok (bd_lit (n := 13) (by decide)) bk) ?_
  repeat walk_at "s"
  refine v_mul (mulok (bd_mul (bd_lit (n := 13) (by decide)) bk) bk) ?_
  repeat walk_at "s"
  refine v_mul (mulok (bd_lit (n := 17) (by decide)) bk) ?_
  repeat walk_at "s"
  have b2 : bd 31 ((c * (1 + 2 * k) * 48271).fmod 2147483647) := bd_fmod (bd_lit (by decide)) (by decide)
  have b3 := bd_add (bd_add b2 (bd_mul (bd_mul (bd_lit (n := 13) (x := 7919) (by decide)) bk) bk)) (bd_mul (bd_lit (n := 17) (x := 104729) (by decide)) bk)
  refine v_mul (mulok b3 (bd_lit (n := 17) (by decide))) ?_
  repeat walk_at "s"
  refine v_gII (nd_small (b := 8) (by decide) (bd_lit (by decide))) ?_
  have h0 := Int.fmod_nonneg_of_pos (((c * (1 + 2 * k) * 48271).fmod 2147483647 + 7919 * k * k + 104729 * k) * 69621) (show (0 : Int) < 2147483629 by decide)
  have h1 := Int.fmod_lt_of_pos (((c * (1 + 2 * k) * 48271).fmod 2147483647 + 7919 * k * k + 104729 * k) * 69621) (show (0 : Int) < 2147483629 by decide)
  refine q _ ?_ ?_
  · rw [fdiv_pos (by decide)]; omega
  · rw [fdiv_pos (by decide)]; omega
def b__law_folded {M : Type} : DS M :=
    (dThen (dSetO 1 (dLc (dRng1 (dCons (dC (.int 64)) dNil)) (dgN 2) dYes (dBin gAdd (dC (.int 17)) (dVar 2)) [2]))
    (dThen (dFor (dEnum true (dBor 0)) (dgT 2 (dgCons (dgN 2) (dgCons (dgN 3) dgNil)))
      (dSetI 1 (dBin (gII Nz fun i j => .int (i.fmod j)) (dBin gAdd (dBin gMul (dBin (gIx true) (dOwn 1) (dBin (gII Nz fun i j => .int (i.fmod j)) (dVar 2) (dC (.int 64)))) (dC (.int 48271))) (dVar 3)) (dC (.int 2147483647))) (dBin (gII Nz fun i j => .int (i.fmod j)) (dVar 2) (dC (.int 64)))))
    (dThen (dFor (dRng2 (dCons (dC (.int 1)) (dCons (dC (.int 64)) dNil))) (dgN 2)
      (dSetI 1 (dBin (gII Nz fun i j => .int (i.fmod j)) (dBin gAdd (dBin (gIx true) (dOwn 1) (dVar 2)) (dBin gMul (dBin (gIx true) (dOwn 1) (dBin (g0 fun i j => .int (i - j)) (dVar 2) (dC (.int 1)))) (dC (.int 16807)))) (dC (.int 2147483647))) (dVar 2)))
    (dRet (dOwn 1)))))
theorem fold_set {cs : List Int} {j : Nat} {v : Int} (l : cs.length = 64) (h : ∀ c ∈ cs, 0 ≤ c ∧ c < 2147483647) (h0 : 0 ≤ v) (h1 : v < 2147483647) : (cs.set j v).length = 64 ∧ ∀ c ∈ cs.set j v, 0 ≤ c ∧ c < 2147483647 :=
  ⟨by rw [List.length_set]; exact l, fun c hc => (List.mem_or_eq_of_mem_set hc).elim (h c) fun e => by rw [e]; exact ⟨h0, h1⟩⟩
theorem vc__law_folded {M : Type} : ∀ ds (m : M) Q Z, s__law_folded ds m Q Z → okK [true] ds ∧ b__law_folded { nx := fun _ m' => Q .non m', rt := Q, ex := Z } (st0 [true] ds 4) m := by
  rintro ds m Q Z ⟨ns, rfl, hl, q⟩
  refine ⟨⟨fun h => (nomatch h), trivial⟩, ?_⟩
  unfold b__law_folded
  repeat walk_at "s"
  refine lc_rz (f := fun j => 17 + (j : Int)) 64 (fun a _ m1 k l hk => ?_) (by decide) ?_
  · repeat walk_at "s"
    exact hk
  have c0 : ∀ c ∈ (List.range 64).map (fun j : Nat => 17 + (j : Int)), 0 ≤ c ∧ c < 2147483647 := fun c hc => by
    obtain ⟨j, hj, rfl⟩ := List.mem_map.mp hc
    have := List.mem_range.mp hj
    omega
  have l0 : ((List.range 64).map (fun j : Nat => 17 + (j : Int))).length = 64 := by rw [List.length_map, List.length_range]
  generalize (List.range 64).map (fun j : Nat => 17 + (j : Int)) = cs at c0 l0 ⊢
  refine v_kO (nls_ints cs) ?_
  repeat walk_at "s"
  refine v_kforE (fun j r ρ m' => ∃ a2 a3 cs, ρ = [.bor (.lst (zz ns)), .own (zz cs), a2, a3] ∧ m' = m ∧ cs.length = 64 ∧ ∀ c ∈ cs, 0 ≤ c ∧ c < 2147483647) ns ⟨_, _, _, rfl, rfl, l0, c0⟩ (fun j ρ m' h => ?_) fun j x r ρ m' N h hN => ?_
  · obtain ⟨a2, a3, cs, rfl, rfl, lc, hc⟩ := h
    repeat walk_at "s"
    refine v_kforR 63 (fun k ρ m1 => ∃ a2 a3 cs, ρ = [.bor (.lst (zz ns)), .own (zz cs), a2, a3] ∧ m1 = m' ∧ cs.length = 64 ∧ ∀ c ∈ cs, 0 ≤ c ∧ c < 2147483647) ⟨_, _, _, rfl, rfl, lc, hc⟩ (fun ρ m' h => ?_) fun k ρ m' hk h => ?_
    · obtain ⟨a2, a3, cs, rfl, rfl, lc, hc⟩ := h
      repeat walk_at "s"
      exact q cs lc hc
    obtain ⟨a2, a3, cs, rfl, rfl, lc, hc⟩ := h
    repeat walk_at "s"
    refine v_ixl (by omega) (by omega) ?_
    obtain ⟨y0, y1⟩ := hc _ (nth_mem (xs := cs) (i := 1 + (k : Int)) (by omega) (by omega))
    generalize nth cs (1 + (k : Int)) = y at y0 y1 ⊢
    repeat walk_at "s"
    refine v_ixl (by omega) (by omega) ?_
    obtain ⟨z0, z1⟩ := hc _ (nth_mem (xs := cs) (i := 1 + (k : Int) - 1) (by omega) (by omega))
    generalize nth cs (1 + (k : Int) - 1) = z at z0 z1 ⊢
    have bz : bd 31 z := by unfold bd; omega
    repeat walk_at "s"
    refine v_mul (mulok bz (bd_lit (n := 15) (by decide))) ?_
    repeat walk_at "s"
    have v0 := Int.fmod_nonneg_of_pos (y + z * 16807) (show (0 : Int) < 2147483647 by decide)
    have v1 := Int.fmod_lt_of_pos (y + z * 16807) (show (0 : Int) < 2147483647 by decide)
    refine v_kSIz (by omega) (by omega) ?_
    obtain ⟨p1, p2⟩ := fold_set (j := (1 + (k : Int)).toNat) lc hc v0 v1
    exact ⟨_, _, _, rfl, rfl, p1, p2⟩
  · obtain ⟨a2, a3, cs, rfl, rfl, lc, hc⟩ := h
    have k0 := Int.fmod_nonneg_of_pos (j : Int) (show (0 : Int) < 64 by decide)
    have k1 := Int.fmod_lt_of_pos (j : Int) (show (0 : Int) < 64 by decide)
    repeat walk_at "s"
    refine v_ixl k0 (by omega) ?_
    obtain ⟨z0, z1⟩ := hc _ (nth_mem (xs := cs) k0 (by omega))
    generalize nth cs ((j : Int).fmod 64) = z at z0 z1 ⊢
    have bz : bd 31 z := by unfold bd; omega
    repeat walk_at "s"
    refine v_mul (mulok bz (bd_lit (n := 16) (by decide))) ?_
    repeat walk_at "s"
    have v0 := Int.fmod_nonneg_of_pos (z * 48271 + x) (show (0 : Int) < 2147483647 by decide)
    have v1 := Int.fmod_lt_of_pos (z * 48271 + x) (show (0 : Int) < 2147483647 by decide)
    refine v_kSIz k0 (by omega) ?_
    obtain ⟨p1, p2⟩ := fold_set (j := ((j : Int).fmod 64).toNat) lc hc v0 v1
    exact hN _ _ ⟨_, _, _, rfl, rfl, p1, p2⟩
end RR
namespace RR
open PySem PySem.Spec PyProof.Rows L2
def topS (i : Nat) : Stmt := PySem.Challenge.pw_rootring_k40_papers_of_common_parts.main.body.getD i (.Pass ⟨0, 0, 0, 0⟩)
end RR
local macro_rules | `(tactic| walk_at "s") => `(tactic| with_reducible first
  | refine RR.v_then ?_ | refine RR.v_set ?_ | (apply RR.v_var; · with_unfolding_all exact rfl) | refine RR.v_bin ?_ | refine RR.v_c ?_ | refine RR.v_g0 ?_ | refine RR.v_add ?_ | refine RR.v_cons ?_ | refine RR.v_nil ?_ | refine RR.v_call ?_ | refine RR.v_dB ?_ | refine RR.v_next ?_ | refine RR.v_ret ?_
  | refine RR.v_ite ?_ | refine RR.v_tst ?_ | refine RR.v_kT ?_ | refine RR.v_eqi ?_ | refine RR.v_nei ?_ | refine RR.v_eqr ?_ | refine RR.v_ner ?_ | refine RR.v_eqr0 ?_ | refine RR.v_ner0 ?_ | refine RR.v_eql ?_ | refine RR.v_nel ?_ | refine RR.v_eql0 ?_ | refine RR.v_nel0 ?_ | refine RR.v_isN ?_ | refine RR.v_notN ?_
  | (apply RR.v_bor; · with_unfolding_all exact rfl) | (apply RR.v_own; · with_unfolding_all exact rfl) | refine RR.v_tup ?_ | refine RR.v_lst ?_ | (refine RR.v_sz ?_ ?_; (· with_unfolding_all exact Nat.le_of_ble_eq_true rfl)) | (refine RR.v_gIIz ?_ ?_; (· first | decide | omega))
  | refine RR.v_lentz ?_ | refine RR.v_lenlz ?_ | refine RR.v_lent ?_ | refine RR.v_lenl ?_ | refine RR.v_I1 ?_ | refine RR.v_I2 ?_ | refine RR.v_int ?_ | refine RR.v_seqlz ?_ | refine RR.v_seqtz ?_ | refine RR.v_sl ?_ | refine RR.v_kSll ?_ | refine RR.v_kSlt ?_ | refine RR.v_ono ?_ | refine RR.v_oso ?_ | refine RR.v_kOS ?_
  | refine RR.v_val ?_ | refine RR.v_kVb ?_ | refine RR.v_kVi ?_ | refine RR.v_kVt ?_ | refine RR.v_kVl ?_ | refine RR.v_and ?_ | refine RR.v_or ?_ | refine RR.v_not ?_ | refine RR.v_yes ?_ | refine RR.v_if' ?_ | refine RR.v_isi ?_ | refine RR.v_kIii ?_ | refine RR.v_kIib ?_ | refine RR.v_kItt ?_
  | refine RR.v_andV ?_ | refine RR.v_orV ?_ | refine RR.v_notV ?_ | refine RR.v_kNV ?_ | refine RR.v_neg ?_ | refine RR.v_kNeg ?_ | refine RR.v_seq ?_ | refine RR.v_kSeql ?_ | refine RR.v_kSeqt ?_ | refine RR.v_rng1 ?_ | refine RR.v_rng2 ?_ | refine RR.v_enum ?_ | refine RR.v_revr ?_ | refine RR.v_rev ?_
  | (refine RR.v_kR1 ?_ ?_ ?_; (· decide); (· decide))
  | (refine RR.v_kR2 ?_ ?_ ?_ ?_ ?_; (· decide); (· decide); (· decide); (· decide))
  | refine RR.v_gn ?_ | refine RR.v_gt2 ?_ | refine RR.v_gt3 ?_ | refine RR.v_lc ?_ | refine RR.v_for ?_ | refine RR.v_setO ?_ | refine RR.v_drop ?_ | (apply RR.v_app; · with_unfolding_all exact rfl) | (apply RR.v_setI; · with_unfolding_all exact rfl) | (apply RR.v_rel; · with_unfolding_all exact rfl) | refine RR.v_raise ?_ | refine RR.v_par ?_ | refine RR.v_kP ?_ | refine RR.v_asg ?_
  | (apply RR.v_aug; · with_unfolding_all exact rfl) | refine RR.v_ifT ?_ | refine RR.v_ifF ?_ | (refine RR.v_pow ?_ ?_ ?_ ?_; (· decide); (· decide); (· decide)) | refine RR.v_call0 ?_ | (apply RR.v_lenr; · assumption) | (apply RR.v_seqr; · assumption) | (apply RR.v_kSeqr; · assumption) | (apply RR.v_kSlr; · assumption)
  | refine RR.v_ix0 ?_ | refine RR.v_ix1 ?_ | refine RR.v_ix2 ?_ | refine RR.v_zip ?_ | refine RR.v_kZl ?_ | refine RR.v_kZt ?_ | (apply RR.v_augI; · with_unfolding_all exact rfl) | refine RR.v_try ?_ | refine RR.v_isE ?_ | (refine RR.v_kIE ?_ ?_; (· with_unfolding_all exact rfl)) | refine RR.v_isB ?_ | refine RR.v_notB ?_ | refine RR.v_all ?_ | refine RR.v_par3 ?_ | refine RR.v_ifnT ?_ | refine RR.v_ifnF ?_ | refine RR.v_eqs ?_ | refine RR.v_nes ?_ | refine RR.v_rvs ?_ | refine RR.v_kRvl ?_ | refine RR.v_kRvt ?_
  | (refine RR.v_mulb (a := ?a) (b := ?b) ?ha ?hb ?l ?h; (case ha => assumption); (case hb => assumption); (case l => omega)) | (refine RR.v_fdivb (b := ?b) ?h0 ?hb ?l ?h; (case h0 => assumption); (case hb => assumption); (case l => omega)))
namespace RR
open PySem PySem.Spec PyProof.Rows L2
theorem gcd_step {x y : Int} (h0 : 0 ≤ x) (h1 : 0 < y) : Int.gcd y (x.fmod y) = Int.gcd x y := by
  rw [Int.fmod_eq_emod_of_nonneg x (Int.le_of_lt h1)]
  obtain ⟨a, rfl⟩ := Int.eq_ofNat_of_zero_le h0
  obtain ⟨b, rfl⟩ := Int.eq_ofNat_of_zero_le (Int.le_of_lt h1)
  rw [← Int.natCast_emod]
  show Nat.gcd _ _ = Nat.gcd _ _
  simp only [Int.natAbs_natCast]
  rw [Nat.gcd_comm, ← Nat.gcd_rec, Nat.gcd_comm]
theorem gcd_abs (x y : Int) : Int.gcd (iabs x) (iabs y) = Int.gcd x y := by
  rw [iabs_eq, iabs_eq]; unfold Int.gcd; simp
theorem gcd_zero {x : Int} (h : 0 ≤ x) : (Int.gcd x 0 : Int) = x := by rw [Int.gcd_zero]; omega
def b_numbers_common {M : Type} : DS M :=
    (dThen (dPar 0 1 (dCons (dB (gI1 iabs) (dCons (dVar 0) dNil)) (dCons (dB (gI1 iabs) (dCons (dVar 1) dNil)) dNil)))
    (dThen (dWhile (dTst (dBin gGt (dVar 1) (dC (.int 0))))
      (dPar 0 1 (dCons (dVar 1) (dCons (dBin (gII Nz fun i j => .int (i.fmod j)) (dVar 0) (dVar 1)) dNil))))
    (dRet (dVar 0))))
def s_numbers_common {M : Type} : DSp M := fun ds m Q Z => ∃ x y, ds = [.int x, .int y] ∧ Q (.int (Int.gcd x y)) m
theorem vc_numbers_common {M : Type} : ∀ ds (m : M) Q Z, s_numbers_common ds m Q Z → okK [false, false] ds ∧ b_numbers_common { nx := fun _ m' => Q .non m', rt := Q, ex := Z } (st0 [false, false] ds 2) m := by
  rintro ds m Q Z ⟨x, y, rfl, q⟩
  refine ⟨⟨fun _ => rfl, fun _ => rfl, trivial⟩, ?_⟩
  unfold b_numbers_common
  repeat walk_at "s"
  refine v_while (fun n ρ m' => m' = m ∧ ∃ a b : Int, ρ = [.val (.int a), .val (.int b)] ∧ 0 ≤ a ∧ 0 ≤ b ∧ n = b.toNat ∧ Int.gcd a b = Int.gcd x y) _ ⟨rfl, _, _, rfl, by rw [iabs_eq]; omega, by rw [iabs_eq]; omega, rfl, gcd_abs x y⟩ fun n ρ m' h => ?_
  obtain ⟨rfl, a, b, rfl, ha, hb, rfl, e⟩ := h
  repeat walk_at "s"
  refine v_ifd (fun h => ?_) fun h => ?_
  · have h1 := Int.fmod_nonneg_of_pos a h
    have h2 := Int.fmod_lt_of_pos a h
    repeat walk_at "s"
    exact ⟨_, by omega, rfl, _, _, rfl, hb, h1, rfl, by rw [gcd_step ha h]; exact e⟩
  · repeat walk_at "s"
    obtain rfl : b = 0 := by omega
    rw [← e, gcd_zero ha] at q
    exact q
def gcdL (xs : List Int) : Nat := xs.foldl (fun g x => Int.gcd g x) 0
def b__law_common {M : Type} : DS M :=
    (dThen (dSet 1 (dC (.int 0)))
    (dThen (dFor (dSeq true (dBor 0)) (dgN 2)
      (dThen (dPar 3 4 (dCons (dVar 1) (dCons (dB (gI1 iabs) (dCons (dVar 2) dNil)) dNil)))
    (dThen (dWhile (dTst (dBin gGt (dVar 4) (dC (.int 0))))
      (dPar 3 4 (dCons (dVar 4) (dCons (dBin (gII Nz fun i j => .int (i.fmod j)) (dVar 3) (dVar 4)) dNil))))
    (dSet 1 (dVar 3)))))
    (dRet (dVar 1))))
def s__law_common {M : Type} : DSp M := fun ds m Q Z => ∃ xs, ds = [.lst (zz xs)] ∧ Q (.int (gcdL xs)) m
theorem vc__law_common {M : Type} : ∀ ds (m : M) Q Z, s__law_common ds m Q Z → okK [true] ds ∧ b__law_common { nx := fun _ m' => Q .non m', rt := Q, ex := Z } (st0 [true] ds 5) m := by
  rintro ds m Q Z ⟨xs, rfl, q⟩
  refine ⟨⟨fun z => (nomatch z), trivial⟩, ?_⟩
  unfold b__law_common
  repeat walk_at "s"
  refine v_kforZ (fun r ρ m' => m' = m ∧ ∃ (g : Nat) (a2 a3 a4 : Sl), ρ = [.bor (.lst (zz xs)), .val (.int g), a2, a3, a4] ∧ r.foldl (fun g x => Int.gcd g x) g = gcdL xs) xs ⟨rfl, 0, _, _, _, rfl, rfl⟩ (fun ρ m' h => ?_) fun x r ρ m' h => ?_
  · obtain ⟨rfl, g, _, _, _, rfl, e⟩ := h
    repeat walk_at "s"
    rw [← e] at q
    exact q
  · obtain ⟨rfl, g, _, _, _, rfl, e⟩ := h
    repeat walk_at "s"
    refine v_while (fun n ρ m1 => m1 = m' ∧ ∃ a b : Int, ρ = [.bor (.lst (zz xs)), .val (.int g), .val (.int x), .val (.int a), .val (.int b)] ∧ 0 ≤ a ∧ 0 ≤ b ∧ n = b.toNat ∧ Int.gcd a b = Int.gcd g x) _ ⟨rfl, _, _, rfl, by omega, by rw [iabs_eq]; omega, rfl, by rw [iabs_eq]; unfold Int.gcd; simp⟩ fun n ρ m' h => ?_
    obtain ⟨rfl, a, b, rfl, ha, hb, rfl, e2⟩ := h
    repeat walk_at "s"
    refine v_ifd (fun h => ?_) fun h => ?_
    · have h1 := Int.fmod_nonneg_of_pos a h
      have h2 := Int.fmod_lt_of_pos a h
      repeat walk_at "s"
      exact ⟨_, by omega, rfl, _, _, rfl, hb, h1, rfl, by rw [gcd_step ha h]; exact e2⟩
    · repeat walk_at "s"
      obtain rfl : b = 0 := by omega
      rw [gcd_zero ha |>.symm, e2]
      exact ⟨rfl, Int.gcd g x, _, _, _, rfl, e⟩
abbrev pq (r : Rat) : D := .tup [.int r.num, .int r.den]
def part (n d : Int) : Int := if 0 < d then (Int.gcd n d : Int) else 0 - (Int.gcd n d : Int)
theorem part_ne {n d : Int} (hd : d ≠ 0) : part n d ≠ 0 := by
  have : Int.gcd n d ≠ 0 := fun e => hd (Int.gcd_eq_zero_iff.mp e).2
  unfold part; split <;> omega
theorem part_bd {n d : Int} {b : Nat} (hd : d ≠ 0) (h : bd b d) : bd b (part n d) := by
  have h1 : Int.gcd n d ≤ d.natAbs := Nat.le_of_dvd (by omega) (Nat.gcd_dvd_right _ _)
  unfold bd at *
  unfold part; split <;> omega
theorem low_num {n d : Int} (hd : d ≠ 0) : n.fdiv (part n d) = ((n : Rat) / (d : Rat)).num := by
  rw [← Rat.divInt_eq_div, Rat.num_divInt]
  have g0 : Int.gcd n d ≠ 0 := fun e => hd (Int.gcd_eq_zero_iff.mp e).2
  obtain ⟨k, hk⟩ : ((Int.gcd n d : Nat) : Int) ∣ n := Int.gcd_dvd_left ..
  rw [Int.gcd_comm d n]
  unfold part
  generalize hg : Int.gcd n d = g at *
  have gp : (0 : Int) < g := by omega
  by_cases h : 0 < d
  · rw [if_pos h, Int.sign_eq_one_of_pos h, Int.one_mul, fdiv_pos (by omega)]
  · rw [if_neg h, Int.sign_eq_neg_one_of_neg (by omega), hk]
    rw [show -1 * ((g : Int) * k) = g * (-k) by rw [Int.mul_neg]; omega, Int.mul_ediv_cancel_left _ (by omega), show (0 : Int) - g = -g by omega]
    rw [show (g : Int) * k = (-g) * (-k) by rw [Int.neg_mul_neg], Int.mul_fdiv_cancel_left _ (by omega)]
theorem low_den {n d : Int} (hd : d ≠ 0) : d.fdiv (part n d) = (((n : Rat) / (d : Rat)).den : Int) := by
  rw [← Rat.divInt_eq_div, Rat.den_divInt, if_neg hd]
  have g0 : Int.gcd n d ≠ 0 := fun e => hd (Int.gcd_eq_zero_iff.mp e).2
  obtain ⟨k, hk⟩ : ((Int.gcd n d : Nat) : Int) ∣ d := Int.gcd_dvd_right ..
  rw [Int.gcd_comm d n, Int.natCast_ediv]
  unfold part
  generalize hg : Int.gcd n d = g at *
  have gp : (0 : Int) < g := by omega
  by_cases h : 0 < d
  · rw [if_pos h, fdiv_pos (by omega), Int.natAbs_of_nonneg (by omega)]
  · rw [if_neg h, Int.ofNat_natAbs_of_nonpos (by omega)]
    rw [hk, show (0 : Int) - g = -g by omega, show -((g : Int) * k) = g * (-k) by rw [Int.mul_neg], Int.mul_ediv_cancel_left _ (by omega)]
    rw [show (g : Int) * k = (-g) * (-k) by rw [Int.neg_mul_neg], Int.mul_fdiv_cancel_left _ (by omega)]
def b_fractions_fraction {M : Type} : DS M :=
    (dThen (dIte (dTst (dBin gEq (dVar 1) (dC (.int 0))))
      (dRaise "ByNought")
      dNext)
    (dThen (dSet 2 (dCall s_numbers_common [] (dCons (dVar 0) (dCons (dVar 1) dNil))))
    (dThen (dSet 2 (dIf (dTst (dBin gGt (dVar 1) (dC (.int 0)))) (dVar 2) (dBin (g0 fun i j => .int (i - j)) (dC (.int 0)) (dVar 2))))
    (dRet (dTup (dCons (dBin (gII Nd fun i j => .int (i.fdiv j)) (dVar 0) (dVar 2)) (dCons (dBin (gII Nd fun i j => .int (i.fdiv j)) (dVar 1) (dVar 2)) dNil)))))))
def s_fractions_fraction {M : Type} : DSp M := fun ds m Q Z => ∃ n d, ds = [.int n, .int d] ∧ (d = 0 → Z "ByNought" m) ∧ (d ≠ 0 → Sm [n] d ∧ Q (pq ((n : Rat) / (d : Rat))) m)
theorem vc_fractions_fraction {M : Type} : ∀ ds (m : M) Q Z, s_fractions_fraction ds m Q Z → okK [false, false] ds ∧ b_fractions_fraction { nx := fun _ m' => Q .non m', rt := Q, ex := Z } (st0 [false, false] ds 3) m := by
  rintro ds m Q Z ⟨n, d, rfl, z, q⟩
  refine ⟨⟨fun _ => rfl, fun _ => rfl, trivial⟩, ?_⟩
  unfold b_fractions_fraction
  repeat walk_at "s"
  refine v_ifd (fun h => ?_) fun h => ?_
  · repeat walk_at "s"
    exact z h
  obtain ⟨hb, q⟩ := q h
  repeat walk_at "s"
  refine ⟨n, d, rfl, ?_⟩
  have pn := part_ne (n := n) h
  have pb := Sm.le hb fun _ z => part_bd (n := n) h z
  repeat walk_at "s"
  have fin : ∀ p, p = part n d → (dRet (dTup (dCons (dBin (gII Nd fun i j => .int (i.fdiv j)) (dVar 0) (dVar 2)) (dCons (dBin (gII Nd fun i j => .int (i.fdiv j)) (dVar 1) (dVar 2)) dNil))) : DS M)
      { nx := fun _ m' => Q .non m', rt := Q, ex := Z } [.val (.int n), .val (.int d), .val (.int p)] m := fun p e => by
    subst e
    repeat walk_at "s"
    refine v_fdivs pn (pb n (by simp)) ?_
    repeat walk_at "s"
    refine v_fdivs pn (pb d (by simp)) ?_
    repeat walk_at "s"
    rw [low_num h, low_den h]
    exact q
  refine v_ifd (fun h => ?_) fun h => ?_
  · repeat walk_at "s"
    exact fin _ (by unfold part; rw [if_pos h])
  · repeat walk_at "s"
    exact fin _ (by unfold part; rw [if_neg h])
end RR
namespace RR
open PySem PySem.Spec PyProof.Rows L2
def b_rows_row_of {M : Type} : DS M :=
    (dThen (dSet 1 (dB gLen (dCons (dBor 0) dNil)))
    (dThen (dWhile (dAnd (dTst (dBin gGt (dVar 1) (dC (.int 0)))) (dTst (dBin gEq (dBin (gIx true) (dBor 0) (dBin (g0 fun i j => .int (i - j)) (dVar 1) (dC (.int 1)))) (dC (.int 0)))))
      (dAug 1 (fun i j => i - j) (dC (.int 1))))
    (dRet (dB (gSeq .tup) (dCons (dSl (dBor 0) dONone (dOSome (dVar 1))) dNil)))))
def s_rows_row_of {M : Type} : DSp M := fun ds m Q Z => ∃ d xs, ds = [d] ∧ isRow d xs ∧ xs.length ≤ 16000000 ∧ ∀ r, R (ser xs) r → Q (.tup (zz r)) m
theorem vc_rows_row_of {M : Type} : ∀ ds (m : M) Q Z, s_rows_row_of ds m Q Z → okK [true] ds ∧ b_rows_row_of { nx := fun _ m' => Q .non m', rt := Q, ex := Z } (st0 [true] ds 2) m := by
  rintro ds m Q Z ⟨d, xs, rfl, hd, hl, q⟩
  have q := q (strip xs) (R.of rfl)
  refine ⟨⟨fun h => (nomatch h), trivial⟩, ?_⟩
  unfold b_rows_row_of
  repeat walk_at "s"
  refine v_while (fun n ρ m' => m' = m ∧ ρ = [.bor d, .val (.int n)] ∧ n ≤ xs.length ∧ strip (xs.take n) = strip xs) xs.length ⟨rfl, rfl, Nat.le_refl _, by rw [List.take_length]⟩ fun n ρ m' h => ?_
  obtain ⟨rfl, rfl, hn, hs⟩ := h
  repeat walk_at "s"
  refine v_ifd (fun h => ?_) fun h => ?_
  · repeat walk_at "s"
    refine v_ixr hd (by omega) (by omega) ?_
    repeat walk_at "s"
    obtain ⟨k, rfl⟩ : ∃ k, n = k + 1 := ⟨n - 1, by omega⟩
    have e : ((k + 1 : Nat) : Int) - 1 = k := by omega
    rw [e, nth_get (by omega)]
    refine v_ifd (fun z => ?_) fun z => ?_
    · repeat walk_at "s"
      exact ⟨k, by omega, rfl, by rw [e]; rfl, by omega, by rw [← strip_step (by omega) z]; exact hs⟩
    · repeat walk_at "s"
      intro d' hd'
      rw [cutZ_to (by omega)] at hd'
      repeat walk_at "s"
      rw [Int.toNat_natCast, ← strip_stop (by omega) z, hs]
      exact q
  · repeat walk_at "s"
    intro d' hd'
    rw [cutZ_to (by omega)] at hd'
    repeat walk_at "s"
    have e : n = 0 := by omega
    subst e
    rw [← hs] at q
    exact q
def b__law_cut {M : Type} : DS M :=
    (dThen (dSet 1 (dB gLen (dCons (dBor 0) dNil)))
    (dThen (dWhile (dAnd (dTst (dBin gGt (dVar 1) (dC (.int 0)))) (dTst (dBin gEq (dBin (gIx true) (dBor 0) (dBin (g0 fun i j => .int (i - j)) (dVar 1) (dC (.int 1)))) (dC (.int 0)))))
      (dSet 1 (dBin (g0 fun i j => .int (i - j)) (dVar 1) (dC (.int 1)))))
    (dRet (dB (gSeq .tup) (dCons (dSl (dBor 0) dONone (dOSome (dVar 1))) dNil)))))
def s__law_cut {M : Type} : DSp M := s_rows_row_of
theorem vc__law_cut {M : Type} : ∀ ds (m : M) Q Z, s__law_cut ds m Q Z → okK [true] ds ∧ b__law_cut { nx := fun _ m' => Q .non m', rt := Q, ex := Z } (st0 [true] ds 2) m := by
  rintro ds m Q Z ⟨d, xs, rfl, hd, hl, q⟩
  have q := q (strip xs) (R.of rfl)
  refine ⟨⟨fun h => (nomatch h), trivial⟩, ?_⟩
  unfold b__law_cut
  repeat walk_at "s"
  refine v_while (fun n ρ m' => m' = m ∧ ρ = [.bor d, .val (.int n)] ∧ n ≤ xs.length ∧ strip (xs.take n) = strip xs) xs.length ⟨rfl, rfl, Nat.le_refl _, by rw [List.take_length]⟩ fun n ρ m' h => ?_
  obtain ⟨rfl, rfl, hn, hs⟩ := h
  repeat walk_at "s"
  refine v_ifd (fun h => ?_) fun h => ?_
  · repeat walk_at "s"
    refine v_ixr hd (by omega) (by omega) ?_
    repeat walk_at "s"
    obtain ⟨k, rfl⟩ : ∃ k, n = k + 1 := ⟨n - 1, by omega⟩
    have e : ((k + 1 : Nat) : Int) - 1 = k := by omega
    rw [e, nth_get (by omega)]
    refine v_ifd (fun z => ?_) fun z => ?_
    · repeat walk_at "s"
      exact ⟨k, by omega, rfl, by rw [e]; rfl, by omega, by rw [← strip_step (by omega) z]; exact hs⟩
    · repeat walk_at "s"
      intro d' hd'
      rw [cutZ_to (by omega)] at hd'
      repeat walk_at "s"
      rw [Int.toNat_natCast, ← strip_stop (by omega) z, hs]
      exact q
  · repeat walk_at "s"
    intro d' hd'
    rw [cutZ_to (by omega)] at hd'
    repeat walk_at "s"
    have e : n = 0 := by omega
    subst e
    rw [← hs] at q
    exact q
def b_rows_at_size {M : Type} : DS M :=
    (dRet (dBin gAdd (dB (gSeq .lst) (dCons (dVar 0) dNil)) (dBin gMul (dLst (dCons (dC (.int 0)) dNil)) (dBin (g0 fun i j => .int (i - j)) (dVar 1) (dB gLen (dCons (dVar 0) dNil))))))
def s_rows_at_size {M : Type} : DSp M := fun ds m Q Z => ∃ xs n, ds = [.tup (zz xs), .int n] ∧ xs.length ≤ n ∧ n ≤ 8000000 ∧ Q (.lst (zz (padTo n.toNat xs))) m
theorem pad_toNat {xs : List Int} {n : Int} : xs ++ List.replicate (n - (xs.length : Int)).toNat 0 = padTo n.toNat xs := by
  unfold padTo
  rw [show (n - (xs.length : Int)).toNat = n.toNat - xs.length by omega]
theorem vc_rows_at_size {M : Type} : ∀ ds (m : M) Q Z, s_rows_at_size ds m Q Z → okK [false, false] ds ∧ b_rows_at_size { nx := fun _ m' => Q .non m', rt := Q, ex := Z } (st0 [false, false] ds 2) m := by
  rintro ds m Q Z ⟨xs, n, rfl, h1, h2, q⟩
  refine ⟨⟨fun _ => nl_row xs, fun _ => rfl, trivial⟩, ?_⟩
  unfold b_rows_at_size
  repeat walk_at "s"
  refine v_repl1 (by omega) (by omega) ?_
  refine v_addlz (by rw [List.length_replicate]; omega) ?_
  rw [pad_toNat]
  exact q
def b_rows_plus {M : Type} : DS M :=
    (dThen (dSet 2 (dB (gI2 imax) (dCons (dB gLen (dCons (dVar 0) dNil)) (dCons (dB gLen (dCons (dVar 1) dNil)) dNil))))
    (dRet (dCall s_rows_row_of [] (dCons (dLc (dZip false (dCall s_rows_at_size [] (dCons (dVar 0) (dCons (dVar 2) dNil))) (dCall s_rows_at_size [] (dCons (dVar 1) (dCons (dVar 2) dNil)))) (dgT 2 (dgCons (dgN 3) (dgCons (dgN 4) dgNil))) dYes (dBin gAdd (dVar 3) (dVar 4)) [3, 4]) dNil))))
def s_rows_plus {M : Type} : DSp M := fun ds m Q Z => ∃ xs ys, ds = [.tup (zz xs), .tup (zz ys)] ∧ xs.length ≤ 1000000 ∧ ys.length ≤ 1000000 ∧ ∀ r, R (ser xs + ser ys) r → Q (.tup (zz r)) m
theorem ser_zip {q : Int} {k : Nat} {xs ys : List Int} (h1 : xs.length ≤ k) (h2 : ys.length ≤ k) : ser (List.zipWith (fun x y => x + q * y) (padTo k xs) (padTo k ys)) = ser xs + Ser.C q * ser ys := Ser.ext fun j => by
  rw [ser_co, zip_co (by simp) (by rw [pad_len h1, pad_len h2]), pad_co, pad_co, Ser.add_co, Ser.C_mul_co]; rfl
theorem ser_zip1 {k : Nat} {xs ys : List Int} (h1 : xs.length ≤ k) (h2 : ys.length ≤ k) : ser (List.zipWith (fun x y => x + y) (padTo k xs) (padTo k ys)) = ser xs + ser ys := Ser.ext fun j => by
  rw [ser_co, zip_co rfl (by rw [pad_len h1, pad_len h2]), pad_co, pad_co, Ser.add_co]; rfl
theorem vc_rows_plus {M : Type} : ∀ ds (m : M) Q Z, s_rows_plus ds m Q Z → okK [false, false] ds ∧ b_rows_plus { nx := fun _ m' => Q .non m', rt := Q, ex := Z } (st0 [false, false] ds 5) m := by
  rintro ds m Q Z ⟨xs, ys, rfl, h1, h2, q⟩
  refine ⟨⟨fun _ => nl_row xs, fun _ => nl_row ys, trivial⟩, ?_⟩
  unfold b_rows_plus
  repeat walk_at "s"
  rw [imax_eq]
  refine ⟨xs, _, rfl, by omega, by omega, ?_⟩
  repeat walk_at "s"
  refine ⟨ys, _, rfl, by omega, by omega, ?_⟩
  have e : (max (xs.length : Int) (ys.length : Int)).toNat = max xs.length ys.length := by omega
  rw [e]
  have p1 : (padTo (max xs.length ys.length) xs).length = max xs.length ys.length := pad_len (by omega)
  have p2 : (padTo (max xs.length ys.length) ys).length = max xs.length ys.length := pad_len (by omega)
  repeat walk_at "s"
  refine lc_zip (f := fun x y => x + y) (fun a _ b _ m k l hk => ?_) (by omega) ?_
  · repeat walk_at "s"
    exact hk
  repeat walk_at "s"
  refine ⟨_, _, rfl, isRow_l, by rw [List.length_zipWith]; omega, fun r hr => q r ?_⟩
  rw [ser_zip1 (by omega) (by omega)] at hr
  exact hr
def b__law_sum {M : Type} : DS M :=
    (dThen (dSet 3 (dB (gI2 imax) (dCons (dB gLen (dCons (dVar 0) dNil)) (dCons (dB gLen (dCons (dVar 1) dNil)) dNil))))
    (dThen (dSet 4 (dBin gAdd (dB (gSeq .lst) (dCons (dVar 0) dNil)) (dBin gMul (dLst (dCons (dC (.int 0)) dNil)) (dBin (g0 fun i j => .int (i - j)) (dVar 3) (dB gLen (dCons (dVar 0) dNil))))))
    (dThen (dSet 5 (dBin gAdd (dB (gSeq .lst) (dCons (dVar 1) dNil)) (dBin gMul (dLst (dCons (dC (.int 0)) dNil)) (dBin (g0 fun i j => .int (i - j)) (dVar 3) (dB gLen (dCons (dVar 1) dNil))))))
    (dRet (dCall s__law_cut [] (dCons (dLc (dZip false (dVar 4) (dVar 5)) (dgT 2 (dgCons (dgN 6) (dgCons (dgN 7) dgNil))) dYes (dBin gAdd (dVar 6) (dBin gMul (dVar 2) (dVar 7))) [6, 7]) dNil))))))
def s__law_sum {M : Type} : DSp M := fun ds m Q Z => ∃ xs ys q a b, ds = [.tup (zz xs), .tup (zz ys), .int q] ∧ xs.length ≤ 1000000 ∧ ys.length ≤ 1000000 ∧ bd a q ∧ (∀ y ∈ ys, bd b y) ∧ a + b ≤ 100000000 ∧ ∀ r, R (ser xs + Ser.C q * ser ys) r → Q (.tup (zz r)) m
theorem vc__law_sum {M : Type} : ∀ ds (m : M) Q Z, s__law_sum ds m Q Z → okK [false, false, false] ds ∧ b__law_sum { nx := fun _ m' => Q .non m', rt := Q, ex := Z } (st0 [false, false, false] ds 8) m := by
  rintro ds m Q Z ⟨xs, ys, f, a, b, rfl, h1, h2, ha, hb, hab, q⟩
  refine ⟨⟨fun _ => nl_row xs, fun _ => nl_row ys, fun _ => rfl, trivial⟩, ?_⟩
  unfold b__law_sum
  repeat walk_at "s"
  rw [imax_eq]
  refine v_repl1 (by omega) (by omega) ?_
  refine v_addlz (by rw [List.length_replicate]; omega) ?_
  repeat walk_at "s"
  refine v_repl1 (by omega) (by omega) ?_
  refine v_addlz (by rw [List.length_replicate]; omega) ?_
  rw [pad_toNat, pad_toNat]
  have e : (max (xs.length : Int) (ys.length : Int)).toNat = max xs.length ys.length := by omega
  rw [e]
  have p1 : (padTo (max xs.length ys.length) xs).length = max xs.length ys.length := pad_len (by omega)
  have p2 : (padTo (max xs.length ys.length) ys).length = max xs.length ys.length := pad_len (by omega)
  repeat walk_at "s"
  refine lc_zip (f := fun x y => x + f * y) (fun x _ y hy m k l hk => ?_) (by omega) ?_
  · have by_ : bd b y := (pad_mem hy).elim (hb y) fun e => by rw [e]; exact bd0
    repeat walk_at "s"
    exact hk
  repeat walk_at "s"
  refine ⟨_, _, rfl, isRow_l, by rw [List.length_zipWith]; omega, fun r hr => q r ?_⟩
  rw [ser_zip (by omega) (by omega)] at hr
  exact hr
def Lx (xs ys : List Int) : Int := imax 0 ((xs.length : Int) + ys.length - 1)
theorem prod_step {xs ys cs r r2 : List Int} {i j : Nat} {x y : Int} (hi : i + r.length + 1 = xs.length) (hj : j + (r2.length + 1) = ys.length) (hc : (cs.length : Int) = Lx xs ys) :
    0 ≤ (i : Int) + j ∧ (i : Int) + j < cs.length := by
  unfold Lx at hc; rw [imax_eq] at hc
  omega
theorem prod_ser {xs ys cs r r2 : List Int} {i j : Nat} {x y v : Int} (h : i + j < cs.length) (hv : v = cs.getD (i + j) 0 + x * y)
    (e : ser cs + xp (i + j) * Ser.C x * ser (y :: r2) + xp (i + 1) * ser r * ser ys = ser xs * ser ys) :
    ser (cs.set (i + j) v) + xp (i + (j + 1)) * Ser.C x * ser r2 + xp (i + 1) * ser r * ser ys = ser xs * ser ys := by
  rw [ser_set h, ← e, ser_cons, hv, show cs.getD (i + j) 0 + x * y - cs.getD (i + j) 0 = x * y by omega, C_mul, ← Nat.add_assoc, xp_add (i + j) 1]
  grind
def b_rows_times {M : Type} : DS M :=
    (dThen (dSetO 2 (dBin gMul (dLst (dCons (dC (.int 0)) dNil)) (dB (gI2 imax) (dCons (dC (.int 0)) (dCons (dBin (g0 fun i j => .int (i - j)) (dBin gAdd (dB gLen (dCons (dVar 0) dNil)) (dB gLen (dCons (dVar 1) dNil))) (dC (.int 1))) dNil)))))
    (dThen (dFor (dEnum false (dVar 0)) (dgT 2 (dgCons (dgN 3) (dgCons (dgN 4) dgNil)))
      (dFor (dEnum false (dVar 1)) (dgT 2 (dgCons (dgN 5) (dgCons (dgN 6) dgNil)))
      (dAugI 2 (fun i j => i + j) (dBin gAdd (dVar 3) (dVar 5)) (dBin gMul (dVar 4) (dVar 6)))))
    (dRet (dCall s_rows_row_of [] (dCons (dOwn 2) dNil)))))
def s_rows_times {M : Type} : DSp M := fun ds m Q Z => ∃ xs ys a b, ds = [.tup (zz xs), .tup (zz ys)] ∧ xs.length ≤ 100000 ∧ ys.length ≤ 100000 ∧ (∀ x ∈ xs, bd a x) ∧ (∀ y ∈ ys, bd b y) ∧ a + b ≤ 100000000 ∧ ∀ r, R (ser xs * ser ys) r → Q (.tup (zz r)) m
theorem vc_rows_times {M : Type} : ∀ ds (m : M) Q Z, s_rows_times ds m Q Z → okK [false, false] ds ∧ b_rows_times { nx := fun _ m' => Q .non m', rt := Q, ex := Z } (st0 [false, false] ds 7) m := by
  rintro ds m Q Z ⟨xs, ys, a, b, rfl, h1, h2, ha, hb, hab, q⟩
  refine ⟨⟨fun _ => nl_row xs, fun _ => nl_row ys, trivial⟩, ?_⟩
  unfold b_rows_times
  repeat walk_at "s"
  refine v_repl1 (by rw [imax_eq]; omega) (by rw [imax_eq]; omega) ?_
  refine v_kO (nls_ints _) ?_
  repeat walk_at "s"
  refine v_kforE (fun i r ρ m' => m' = m ∧ ∃ cs a3 a4 a5 a6, ρ = [.val (.tup (zz xs)), .val (.tup (zz ys)), .own (zz cs), a3, a4, a5, a6] ∧ (cs.length : Int) = Lx xs ys ∧ i + r.length = xs.length ∧ (∀ x ∈ r, bd a x) ∧ ser cs + xp i * ser r * ser ys = ser xs * ser ys) xs
    ⟨rfl, _, _, _, _, _, rfl, by rw [List.length_replicate]; unfold Lx; rw [imax_eq]; omega, by omega, ha, by rw [ser_zeros, xp0]; grind⟩ (fun i ρ m' h => ?_) fun i x r ρ m' N h hN => ?_
  · obtain ⟨rfl, cs, _, _, _, _, rfl, hc, hi, _, e⟩ := h
    repeat walk_at "s"
    refine ⟨_, cs, rfl, isRow_l, by unfold Lx at hc; rw [imax_eq] at hc; omega, fun s hs => q s ?_⟩
    rw [ser_nil] at e
    refine hs.cong ?_
    rw [← e]; grind
  · obtain ⟨rfl, cs, _, _, _, _, rfl, hc, hi, hx, e⟩ := h
    rw [List.length_cons] at hi
    have bx : bd a x := hx x List.mem_cons_self
    repeat walk_at "s"
    refine v_kforE (fun j r2 ρ m1 => m1 = m' ∧ ∃ cs a5 a6, ρ = [.val (.tup (zz xs)), .val (.tup (zz ys)), .own (zz cs), .val (.int i), .val (.int x), a5, a6] ∧ (cs.length : Int) = Lx xs ys ∧ j + r2.length = ys.length ∧ (∀ y ∈ r2, bd b y) ∧
      ser cs + xp (i + j) * Ser.C x * ser r2 + xp (i + 1) * ser r * ser ys = ser xs * ser ys) ys ⟨rfl, _, _, _, rfl, hc, by omega, hb, by rw [← e, ser_cons, xp_add]; rw [xp_add, xp0]; grind⟩ (fun j ρ m1 h => ?_) fun j y r2 ρ m1 N2 h hN2 => ?_
    · obtain ⟨rfl, cs, _, _, rfl, hc, hj, _, e⟩ := h
      repeat walk_at "s"
      refine hN _ _ ⟨rfl, cs, _, _, _, _, rfl, hc, by omega, fun z hz => hx z (List.mem_cons_of_mem _ hz), ?_⟩
      rw [ser_nil] at e
      rw [← e]; grind
    · obtain ⟨rfl, cs, _, _, rfl, hc, hj, hy, e⟩ := h
      rw [List.length_cons] at hj
      have by_ : bd b y := hy y List.mem_cons_self
      have hp := prod_step (x := x) (y := y) (by omega) hj hc
      repeat walk_at "s"
      refine v_kAI hp.1 hp.2 ?_
      repeat walk_at "s"
      have et : ((i : Int) + j).toNat = i + j := by omega
      rw [et]
      exact hN2 _ _ ⟨rfl, _, _, _, rfl, by rw [List.length_set]; exact hc, by omega, fun z hz => hy z (List.mem_cons_of_mem _ hz), prod_ser (by omega) rfl e⟩
def b__law_product {M : Type} : DS M :=
    (dThen (dSetO 2 (dBin gMul (dLst (dCons (dC (.int 0)) dNil)) (dB (gI2 imax) (dCons (dC (.int 0)) (dCons (dBin (g0 fun i j => .int (i - j)) (dBin gAdd (dB gLen (dCons (dVar 0) dNil)) (dB gLen (dCons (dVar 1) dNil))) (dC (.int 1))) dNil)))))
    (dThen (dFor (dEnum false (dVar 0)) (dgT 2 (dgCons (dgN 3) (dgCons (dgN 4) dgNil)))
      (dFor (dEnum false (dVar 1)) (dgT 2 (dgCons (dgN 5) (dgCons (dgN 6) dgNil)))
      (dSetI 2 (dBin gAdd (dBin (gIx true) (dOwn 2) (dBin gAdd (dVar 3) (dVar 5))) (dBin gMul (dVar 4) (dVar 6))) (dBin gAdd (dVar 3) (dVar 5)))))
    (dRet (dCall s__law_cut [] (dCons (dOwn 2) dNil)))))
def s__law_product {M : Type} : DSp M := s_rows_times
theorem vc__law_product {M : Type} : ∀ ds (m : M) Q Z, s__law_product ds m Q Z → okK [false, false] ds ∧ b__law_product { nx := fun _ m' => Q .non m', rt := Q, ex := Z } (st0 [false, false] ds 7) m := by
  rintro ds m Q Z ⟨xs, ys, a, b, rfl, h1, h2, ha, hb, hab, q⟩
  refine ⟨⟨fun _ => nl_row xs, fun _ => nl_row ys, trivial⟩, ?_⟩
  unfold b__law_product
  repeat walk_at "s"
  refine v_repl1 (by rw [imax_eq]; omega) (by rw [imax_eq]; omega) ?_
  refine v_kO (nls_ints _) ?_
  repeat walk_at "s"
  refine v_kforE (fun i r ρ m' => m' = m ∧ ∃ cs a3 a4 a5 a6, ρ = [.val (.tup (zz xs)), .val (.tup (zz ys)), .own (zz cs), a3, a4, a5, a6] ∧ (cs.length : Int) = Lx xs ys ∧ i + r.length = xs.length ∧ (∀ x ∈ r, bd a x) ∧ ser cs + xp i * ser r * ser ys = ser xs * ser ys) xs
    ⟨rfl, _, _, _, _, _, rfl, by rw [List.length_replicate]; unfold Lx; rw [imax_eq]; omega, by omega, ha, by rw [ser_zeros, xp0]; grind⟩ (fun i ρ m' h => ?_) fun i x r ρ m' N h hN => ?_
  · obtain ⟨rfl, cs, _, _, _, _, rfl, hc, hi, _, e⟩ := h
    repeat walk_at "s"
    refine ⟨_, cs, rfl, isRow_l, by unfold Lx at hc; rw [imax_eq] at hc; omega, fun s hs => q s ?_⟩
    rw [ser_nil] at e
    refine hs.cong ?_
    rw [← e]; grind
  · obtain ⟨rfl, cs, _, _, _, _, rfl, hc, hi, hx, e⟩ := h
    rw [List.length_cons] at hi
    have bx : bd a x := hx x List.mem_cons_self
    repeat walk_at "s"
    refine v_kforE (fun j r2 ρ m1 => m1 = m' ∧ ∃ cs a5 a6, ρ = [.val (.tup (zz xs)), .val (.tup (zz ys)), .own (zz cs), .val (.int i), .val (.int x), a5, a6] ∧ (cs.length : Int) = Lx xs ys ∧ j + r2.length = ys.length ∧ (∀ y ∈ r2, bd b y) ∧
      ser cs + xp (i + j) * Ser.C x * ser r2 + xp (i + 1) * ser r * ser ys = ser xs * ser ys) ys ⟨rfl, _, _, _, rfl, hc, by omega, hb, by rw [← e, ser_cons, xp_add]; rw [xp_add, xp0]; grind⟩ (fun j ρ m1 h => ?_) fun j y r2 ρ m1 N2 h hN2 => ?_
    · obtain ⟨rfl, cs, _, _, rfl, hc, hj, _, e⟩ := h
      repeat walk_at "s"
      refine hN _ _ ⟨rfl, cs, _, _, _, _, rfl, hc, by omega, fun z hz => hx z (List.mem_cons_of_mem _ hz), ?_⟩
      rw [ser_nil] at e
      rw [← e]; grind
    · obtain ⟨rfl, cs, _, _, rfl, hc, hj, hy, e⟩ := h
      rw [List.length_cons] at hj
      have by_ : bd b y := hy y List.mem_cons_self
      have hp := prod_step (x := x) (y := y) (by omega) hj hc
      repeat walk_at "s"
      refine v_ixl hp.1 hp.2 ?_
      repeat walk_at "s"
      refine v_kSIz hp.1 hp.2 ?_
      have et : ((i : Int) + j).toNat = i + j := by omega
      rw [et]
      exact hN2 _ _ ⟨rfl, _, _, _, rfl, by rw [List.length_set]; exact hc, by omega, fun z hz => hy z (List.mem_cons_of_mem _ hz), prod_ser (by omega) (by unfold nth; rw [et]) e⟩
end RR
namespace RR
open PySem PySem.Spec PyProof.Rows L2
theorem v_drawN {N : Nat} {many : Int} {Q : D → Option Nat → Prop} {Z : Str → Option Nat → Prop} (hN : 1 ≤ N) (h0 : 0 < many) (hb : many.natAbs < 2 ^ 250) (h : ∀ x, 0 ≤ x → x < many → Q (.int x) (some (N - 1))) : s__law_draw [.hnd hdl, .int many] (some N) Q Z := by
  obtain ⟨k, rfl⟩ : ∃ k, N = k + 1 := ⟨N - 1, by omega⟩
  exact v_draw h0 hb h
theorem lc_drawn {g : DG} {tt : DTT (Option Nat)} {t : DT (Option Nat)} {ρ : En} {QL : List D → Option Nat → Prop} {P : Int → Prop} (n c N : Nat) (hN : n * c ≤ N)
    (st : ∀ ds N' (k : D → Option Nat → Prop) (l : Option Nat → Prop), c ≤ N' → (∀ y N'', P y → N' - c ≤ N'' → k (.int y) (some N'')) → g ds ρ fun ρ2 => tt ρ2 (some N') (fun b m1 => if b = true then t ρ2 m1 k (fun _ _ => False) else l m1) (fun _ _ => False))
    (hl : n ≤ 16777216) (q : ∀ xs N', xs.length = n → (∀ x ∈ xs, P x) → N - n * c ≤ N' → QL (zz xs) (some N')) : lcGo g tt t ρ (iota 0 n) [] (some N) QL := by
  refine lc_rany (P := P) (S := fun j m => ∃ N', m = some N' ∧ j * c + (N - n * c) ≤ N') n (fun j d m k l s hk => ?_) hl ⟨N, rfl, by omega⟩ fun xs m1 lx px s1 => ?_
  · obtain ⟨N', rfl, h⟩ := s
    rw [Nat.succ_mul] at h
    exact st d N' k l (by omega) fun y N'' hy hn => hk y _ hy ⟨N'', rfl, by omega⟩
  · obtain ⟨N', rfl, h⟩ := s1
    exact q xs N' lx px (by omega)
end RR
namespace RR
open PySem PySem.Spec PyProof.Rows L2
def qs (f : Ser Int) : Ser Rat := ⟨fun k => (f.co k : Rat)⟩
theorem qs_co (f : Ser Int) (k : Nat) : (qs f).co k = (f.co k : Rat) := rfl
theorem qs_inj {f g : Ser Int} (h : qs f = qs g) : f = g := Ser.ext fun k => Rat.intCast_inj.mp (congrArg (fun f => Ser.co f k) h)
theorem qs_add (f g : Ser Int) : qs (f + g) = qs f + qs g := Ser.ext fun k => by rw [qs_co, Ser.add_co, Ser.add_co, Rat.intCast_add]; rfl
theorem qs_sub (f g : Ser Int) : qs (f - g) = qs f - qs g := Ser.ext fun k => by rw [qs_co, Ser.sub_co, Ser.sub_co, Rat.intCast_sub]; rfl
theorem qs_C (c : Int) : qs (Ser.C c) = Ser.C (c : Rat) := Ser.ext fun k => by
  rw [qs_co, Ser.C_co, Ser.C_co]; split <;> rfl
theorem qs_mulc : ∀ (k : Nat) (f g : Ser Int), ((Ser.mulc k f g : Int) : Rat) = Ser.mulc k (qs f) (qs g)
  | 0, f, g => by show ((f.co 0 * g.co 0 : Int) : Rat) = _; rw [Rat.intCast_mul]; rfl
  | k + 1, f, g => by
    show ((f.co 0 * g.co (k + 1) + Ser.mulc k f.tl g : Int) : Rat) = (f.co 0 : Rat) * (g.co (k + 1) : Rat) + Ser.mulc k (qs f).tl (qs g)
    rw [Rat.intCast_add, Rat.intCast_mul, qs_mulc k f.tl g]; rfl
theorem qs_mul (f g : Ser Int) : qs (f * g) = qs f * qs g := Ser.ext fun k => qs_mulc k f g
theorem qs_xp (k : Nat) : qs (xp k) = xp k := Ser.ext fun j => by rw [qs_co, xp_co, xp_co]; split <;> rfl
theorem qs_zero : qs 0 = 0 := Ser.ext fun k => by rw [qs_co, zero_co, zero_co]; rfl
theorem qs_one : qs 1 = 1 := Ser.ext fun k => by rw [qs_co, one_co, one_co]; split <;> rfl
theorem qs_far {n : Nat} {f : Ser Int} (h : far n f) : far n (qs f) := fun k hk => by rw [qs_co, h k hk]; rfl
theorem far_qs {n : Nat} {f : Ser Int} (h : far n (qs f)) : far n f := fun k hk => by
  have := h k hk
  rw [qs_co] at this
  exact Rat.intCast_inj.mp this
theorem cne {d : Int} (h : d ≠ 0) : (d : Rat) ≠ 0 := fun e => h (Rat.intCast_inj.mp e)
theorem Cq_cancel {c : Rat} {f g : Ser Rat} (hc : c ≠ 0) (h : Ser.C c * f = Ser.C c * g) : f = g := Ser.ext fun k => by
  have := congrArg (fun f => Ser.co f k) h
  simp only [Ser.C_mul_co] at this
  have e : c⁻¹ * (c * f.co k) = c⁻¹ * (c * g.co k) := by rw [this]
  rw [← Lean.Grind.Semiring.mul_assoc, ← Lean.Grind.Semiring.mul_assoc, Rat.inv_mul_cancel c hc] at e
  grind
theorem C_inv {c : Rat} (hc : c ≠ 0) : Ser.C c * Ser.C c⁻¹ = 1 := by
  rw [← C_mul, Rat.mul_inv_cancel c hc]; rfl
theorem gcd_fold_dvd : ∀ (xs : List Int) (g : Nat), (xs.foldl (fun g x => Int.gcd g x) g) ∣ g ∧ ∀ x ∈ xs, ((xs.foldl (fun g x => Int.gcd g x) g : Nat) : Int) ∣ x
  | [], g => ⟨Nat.dvd_refl _, fun _ h => nomatch h⟩
  | x :: xs, g => by
    obtain ⟨h1, h2⟩ := gcd_fold_dvd xs (Int.gcd g x)
    have a : Int.gcd g x ∣ g := by have := Int.gcd_dvd_natAbs_left (g : Int) x; simpa using this
    have b : ((Int.gcd g x : Nat) : Int) ∣ x := Int.gcd_dvd_right ..
    refine ⟨Nat.dvd_trans h1 a, fun y hy => ?_⟩
    rcases List.mem_cons.mp hy with rfl | hy
    · exact Int.dvd_trans (Int.natCast_dvd_natCast.mpr h1) b
    · exact h2 y hy
theorem gcdL_dvd {xs : List Int} {x : Int} (h : x ∈ xs) : ((gcdL xs : Nat) : Int) ∣ x := (gcd_fold_dvd xs 0).2 x h
theorem gcd_fold_great : ∀ (xs : List Int) (g k : Nat), k ∣ g → (∀ x ∈ xs, (k : Int) ∣ x) → k ∣ xs.foldl (fun g x => Int.gcd g x) g
  | [], g, k, h, _ => h
  | x :: xs, g, k, h, hx => gcd_fold_great xs _ k (Int.natCast_dvd_natCast.mp (Int.dvd_coe_gcd (Int.natCast_dvd_natCast.mpr h) (hx x List.mem_cons_self))) fun y hy => hx y (List.mem_cons_of_mem _ hy)
theorem gcdL_great {xs : List Int} {k : Nat} (h : ∀ x ∈ xs, (k : Int) ∣ x) : k ∣ gcdL xs := gcd_fold_great xs 0 k (Nat.dvd_zero k) h
structure P (f : Ser Rat) (r : List Int) (d : Int) : Prop where
  pos : 0 < d
  dn : done r
  low : Int.gcd (gcdL r) d = 1
  eq : Ser.C (d : Rat) * f = qs (ser r)
theorem dvd_of_all {r : List Int} {d e : Int} (h : Int.gcd (gcdL r) d = 1) (a : ∀ x ∈ r, d ∣ x * e) : d ∣ e := by
  have fold : ∀ (xs : List Int) (g : Nat), (d ∣ (g : Int) * e) → (∀ x ∈ xs, d ∣ x * e) → d ∣ ((xs.foldl (fun g x => Int.gcd g x) g : Nat) : Int) * e := by
    intro xs
    induction xs with
    | nil => exact fun g h _ => h
    | cons x xs ih =>
      intro g hg hx
      refine ih _ ?_ fun y hy => hx y (List.mem_cons_of_mem _ hy)
      have := Int.dvd_coe_gcd hg (hx x List.mem_cons_self)
      rw [Int.gcd_mul_right] at this
      have e2 : ((Int.gcd g x : Int) * e).natAbs = Int.gcd g x * e.natAbs := by rw [Int.natAbs_mul]; simp
      exact Int.dvd_natAbs.mp (by rw [e2]; exact this)
  have h1 := fold r 0 (by simp) a
  have h1 : d ∣ (gcdL r : Int) * e := h1
  have h2 : d ∣ d * e := Int.dvd_mul_right ..
  have h3 := Int.dvd_coe_gcd h1 h2
  rw [Int.gcd_mul_right, h, Nat.one_mul] at h3
  exact Int.dvd_natAbs.mp h3
theorem P.get {f : Ser Rat} {r : List Int} {d : Int} (h : P f r d) (k : Nat) : (d : Rat) * f.co k = (r.getD k 0 : Int) := by
  have := congrArg (fun f => Ser.co f k) h.eq
  simp only [Ser.C_mul_co, qs_co, ser_co] at this
  exact this
theorem P.dq {f : Ser Rat} {r : List Int} {d : Int} (h : P f r d) : (d : Rat) ≠ 0 := cne (by have := h.pos; omega)
theorem P.uniq {f : Ser Rat} {r r' : List Int} {d d' : Int} (h : P f r d) (h' : P f r' d') : r = r' ∧ d = d' := by
  have cross : ∀ k, r.getD k 0 * d' = r'.getD k 0 * d := fun k => by
    have e1 := h.get k
    have e2 := h'.get k
    refine Rat.intCast_inj.mp ?_
    rw [Rat.intCast_mul, Rat.intCast_mul, ← e1, ← e2]; grind
  have dv : ∀ {r r' : List Int} {d d' : Int}, Int.gcd (gcdL r) d = 1 → (∀ k, r.getD k 0 * d' = r'.getD k 0 * d) → d ∣ d' := fun {r r' d d'} g c => dvd_of_all g fun x hx => by
    obtain ⟨i, hi, rfl⟩ := List.mem_iff_getElem.mp hx
    have := c i
    rw [List.getD_eq_getElem?_getD, List.getElem?_eq_getElem hi] at this
    exact ⟨r'.getD i 0, by rw [Int.mul_comm d]; exact this⟩
  have e : d = d' := Int.dvd_antisymm (Int.le_of_lt h.pos) (Int.le_of_lt h'.pos) (dv h.low cross) (dv h'.low fun k => (cross k).symm)
  subst e
  refine ⟨done_uniq h.dn h'.dn (Ser.ext fun k => ?_), rfl⟩
  have := cross k
  have d0 := h.pos
  exact Int.eq_of_mul_eq_mul_right (by omega) this
theorem P.inj {f g : Ser Rat} {r : List Int} {d : Int} (h : P f r d) (h' : P g r d) : f = g := Cq_cancel h.dq (h.eq.trans h'.eq.symm)
theorem P.cong {f g : Ser Rat} {r : List Int} {d : Int} (h : P f r d) (e : f = g) : P g r d := e ▸ h
theorem P.far {f : Ser Rat} {r : List Int} {d : Int} (h : P f r d) : RR.far r.length f := fun k hk => by
  have := h.get k
  rw [getD_far hk, Rat.intCast_zero] at this
  have e : (d : Rat)⁻¹ * ((d : Rat) * f.co k) = (d : Rat)⁻¹ * 0 := by rw [this]
  rw [← Lean.Grind.Semiring.mul_assoc, Rat.inv_mul_cancel _ h.dq] at e
  grind
theorem P.top {f : Ser Rat} {r : List Int} {d : Int} (h : P f r d) (n : r ≠ []) : RR.top (r.length - 1) f := by
  have l0 := List.length_pos_iff.mpr n
  refine ⟨fun k hk => h.far k (by omega), fun e => done_last h.dn n ?_⟩
  have := h.get (r.length - 1)
  rw [e, Lean.Grind.Semiring.mul_zero] at this
  exact Rat.intCast_inj.mp this.symm
theorem P.nil : P 0 [] 1 := ⟨by decide, rfl, by decide, by rw [ser_nil, qs_zero]; grind⟩
theorem P.zero {f : Ser Rat} {r : List Int} {d : Int} (h : P f r d) : f = 0 ↔ (r = [] ∧ d = 1) := by
  refine ⟨fun e => ?_, fun ⟨e, e'⟩ => ?_⟩
  · subst e; exact h.uniq P.nil
  · subst e e'; exact h.inj P.nil
theorem P.nil_iff {f : Ser Rat} {r : List Int} {d : Int} (h : P f r d) : f = 0 ↔ r = [] := by
  refine ⟨fun e => (h.zero.mp e).1, fun e => ?_⟩
  subst e
  have := h.far
  exact far0 this
def lowR (xs : List Int) (d : Int) : List Int := xs.map fun x => x.fdiv (part (gcdL xs) d)
def lowD (xs : List Int) (d : Int) : Int := d.fdiv (part (gcdL xs) d)
theorem part_dvd {n d : Int} : part n d ∣ n ∧ part n d ∣ d := by
  have h1 : ((Int.gcd n d : Nat) : Int) ∣ n := Int.gcd_dvd_left ..
  have h2 : ((Int.gcd n d : Nat) : Int) ∣ d := Int.gcd_dvd_right ..
  unfold part; split
  · exact ⟨h1, h2⟩
  · rw [show (0 : Int) - (Int.gcd n d : Int) = -(Int.gcd n d : Int) by omega]
    exact ⟨Int.neg_dvd.mpr h1, Int.neg_dvd.mpr h2⟩
theorem lowR_mul {xs : List Int} {d : Int} (hd : d ≠ 0) : xs = (lowR xs d).map fun x => part (gcdL xs) d * x := by
  unfold lowR
  rw [List.map_map]
  refine (List.map_id xs).symm.trans (List.map_congr_left fun x hx => ?_)
  have p0 := part_ne (n := (gcdL xs : Int)) hd
  obtain ⟨k, hk⟩ := Int.dvd_trans (part_dvd (n := (gcdL xs : Int)) (d := d)).1 (gcdL_dvd hx)
  show x = part (gcdL xs) d * x.fdiv (part (gcdL xs) d)
  generalize part (gcdL xs) d = p at *
  rw [hk, Int.mul_fdiv_cancel_left _ p0]
theorem lowD_mul {xs : List Int} {d : Int} (hd : d ≠ 0) : d = part (gcdL xs) d * lowD xs d := by
  unfold lowD
  have p0 := part_ne (n := (gcdL xs : Int)) hd
  obtain ⟨k, hk⟩ := (part_dvd (n := (gcdL xs : Int)) (d := d)).2
  generalize hp : part (gcdL xs) d = p at *
  rw [hk, Int.mul_fdiv_cancel_left _ p0]
theorem lowD_pos {xs : List Int} {d : Int} (hd : d ≠ 0) : 0 < lowD xs d := by
  have e := lowD_mul (xs := xs) hd
  have g0 : Int.gcd (gcdL xs) d ≠ 0 := fun e => hd (Int.gcd_eq_zero_iff.mp e).2
  have p : (0 < d → 0 < part (gcdL xs) d) ∧ (¬ 0 < d → part (gcdL xs) d < 0) := by
    unfold part; refine ⟨fun h => ?_, fun h => ?_⟩
    · rw [if_pos h]; omega
    · rw [if_neg h]; omega
  generalize part (gcdL xs) d = q at *
  generalize lowD xs d = l at *
  refine Classical.byContradiction fun nl => ?_
  by_cases h : 0 < d
  · have := Int.mul_nonneg (Int.le_of_lt (p.1 h)) (show 0 ≤ -l by omega)
    rw [Int.mul_neg] at this; omega
  · have := Int.mul_nonneg (show 0 ≤ -q by have := p.2 h; omega) (show 0 ≤ -l by omega)
    rw [Int.neg_mul_neg] at this; omega
theorem low_gcd {xs : List Int} {d : Int} (hd : d ≠ 0) : Int.gcd (gcdL (lowR xs d)) (lowD xs d) = 1 := by
  have g0 : Int.gcd (gcdL xs) d ≠ 0 := fun e => hd (Int.gcd_eq_zero_iff.mp e).2
  generalize hk : Int.gcd (gcdL (lowR xs d)) (lowD xs d) = k
  have k1 : ((k : Nat) : Int) ∣ (gcdL (lowR xs d) : Int) := hk ▸ Int.gcd_dvd_left ..
  have k2 : ((k : Nat) : Int) ∣ lowD xs d := hk ▸ Int.gcd_dvd_right ..
  have pn : (part (gcdL xs) d).natAbs = Int.gcd (gcdL xs) d := by unfold part; split <;> omega
  -- k times the part divides all of xs and d
  have h1 : (part (gcdL xs) d).natAbs * k ∣ gcdL xs := gcdL_great fun x hx => by
    rw [lowR_mul (xs := xs) hd] at hx
    obtain ⟨y, hy, rfl⟩ := List.mem_map.mp hx
    have := Int.dvd_trans k1 (gcdL_dvd hy)
    rw [Int.natCast_mul]
    refine Int.mul_dvd_mul ?_ this
    exact Int.natAbs_dvd.mpr (Int.dvd_refl _)
  have h2 : (((part (gcdL xs) d).natAbs * k : Nat) : Int) ∣ d := by
    have e := lowD_mul (xs := xs) hd
    generalize hpp : part (gcdL xs) d = p at *
    rw [e, Int.natCast_mul]
    exact Int.mul_dvd_mul (Int.natAbs_dvd.mpr (Int.dvd_refl _)) k2
  have h3 : (part (gcdL xs) d).natAbs * k ∣ Int.gcd (gcdL xs) d := Int.natCast_dvd_natCast.mp (Int.dvd_coe_gcd (Int.natCast_dvd_natCast.mpr h1) h2)
  rw [pn] at h3
  have h4 := Nat.le_of_dvd (by omega) h3
  have h5 : k ≠ 0 := fun e => by rw [e, Nat.mul_zero] at h3; exact g0 (Nat.eq_zero_of_zero_dvd h3)
  refine Classical.byContradiction fun n => ?_
  have : Int.gcd (gcdL xs) d * 2 ≤ Int.gcd (gcdL xs) d * k := Nat.mul_le_mul_left _ (by omega)
  omega
theorem strip_map_ne {g : Int → Int} {xs : List Int} (h : done xs) (hg : ∀ x ∈ xs, x ≠ 0 → g x ≠ 0) : done (xs.map g) := by
  unfold done at *
  induction xs using strip_ind with
  | h0 => rfl
  | h1 xs a _ =>
    rw [strip_snoc] at h
    by_cases e : a = 0
    · rw [if_pos e] at h
      have := congrArg List.length h
      have := strip_len xs
      rw [List.length_append, List.length_singleton] at *
      omega
    · rw [List.map_append, List.map_singleton, strip_snoc, if_neg (hg a (by simp) e)]
theorem lowR_done {xs : List Int} {d : Int} (hd : d ≠ 0) (h : done xs) : done (lowR xs d) := by
  refine strip_map_ne h fun x hx x0 e => x0 ?_
  have p0 := part_ne (n := (gcdL xs : Int)) hd
  obtain ⟨k, hk⟩ := Int.dvd_trans (part_dvd (n := (gcdL xs : Int)) (d := d)).1 (gcdL_dvd hx)
  generalize part (gcdL xs) d = p at *
  rw [hk, Int.mul_fdiv_cancel_left _ p0] at e
  rw [hk, e, Int.mul_zero]
theorem low_P {f : Ser Rat} {xs : List Int} {d : Int} (hd : d ≠ 0) (h : done xs) (e : Ser.C (d : Rat) * f = qs (ser xs)) : P f (lowR xs d) (lowD xs d) := by
  refine ⟨lowD_pos hd, lowR_done hd h, low_gcd hd, ?_⟩
  have p0 := cne (part_ne (n := (gcdL xs : Int)) hd)
  refine Cq_cancel p0 ?_
  have e1 : Ser.C (d : Rat) = Ser.C ((part (gcdL xs) d : Int) : Rat) * Ser.C ((lowD xs d : Int) : Rat) := by
    rw [← C_mul, ← Rat.intCast_mul, ← lowD_mul hd]
  have e2 : qs (ser xs) = Ser.C ((part (gcdL xs) d : Int) : Rat) * qs (ser (lowR xs d)) := by
    conv => lhs; rw [lowR_mul (xs := xs) hd]
    rw [ser_scale, qs_mul, qs_C]
  rw [← Lean.Grind.Semiring.mul_assoc, ← e1, e, e2]
theorem abs_part {n x : Int} {d : Int} (hd : d ≠ 0) (h : part n d ∣ x) : (x.fdiv (part n d)).natAbs ≤ x.natAbs := by
  have p0 := part_ne (n := n) hd
  obtain ⟨k, hk⟩ := h
  generalize part n d = p at *
  rw [hk, Int.mul_fdiv_cancel_left _ p0, Int.natAbs_mul]
  exact Nat.le_mul_of_pos_left _ (by omega)
theorem lowR_bd {xs : List Int} {d : Int} {a : Nat} (hd : d ≠ 0) (h : ∀ x ∈ xs, bd a x) : ∀ x ∈ lowR xs d, bd a x := fun y hy => by
  obtain ⟨x, hx, rfl⟩ := List.mem_map.mp hy
  have := abs_part hd (Int.dvd_trans (part_dvd (n := (gcdL xs : Int)) (d := d)).1 (gcdL_dvd hx))
  have := h x hx
  unfold bd at *; omega
theorem lowD_bd {xs : List Int} {d : Int} {a : Nat} (hd : d ≠ 0) (h : bd a d) : bd a (lowD xs d) := by
  have := abs_part hd (part_dvd (n := (gcdL xs : Int)) (d := d)).2
  unfold lowD bd at *; omega
theorem lowR_len {xs : List Int} {d : Int} : (lowR xs d).length = xs.length := by unfold lowR; rw [List.length_map]
structure PB (n a : Nat) (r : List Int) (d : Int) : Prop where
  ln : r.length ≤ n
  bd : ∀ x ∈ r, RR.bd a x
  dd : RR.bd a d
theorem P.PB {f : Ser Rat} {r xs : List Int} {d e : Int} {n a : Nat} (h : P f r d) (e0 : e ≠ 0) (eq : Ser.C (e : Rat) * f = qs (ser xs)) (ln : xs.length ≤ n) (b1 : ∀ x ∈ xs, RR.bd a x) (b2 : RR.bd a e) : RR.PB n a r d := by
  have dn := strip_done xs
  have h' := low_P e0 dn (by rw [ser_strip]; exact eq)
  obtain ⟨rfl, rfl⟩ := h.uniq h'
  exact ⟨by rw [lowR_len]; exact Nat.le_trans (strip_len xs) ln, lowR_bd e0 fun x hx => b1 x (strip_mem hx), lowD_bd e0 b2⟩
theorem PB.mono {n a n' a' : Nat} {r : List Int} {d : Int} (h : PB n a r d) (hn : n ≤ n') (ha : a ≤ a') : PB n' a' r d := ⟨Nat.le_trans h.ln hn, fun x hx => bd_mono (h.bd x hx) ha, bd_mono h.dd ha⟩
abbrev pd (r : List Int) (d : Int) : D := .tup [.tup (zz r), .int d]
end RR
namespace RR
open PySem PySem.Spec PyProof.Rows L2
theorem eqv_pd {r r' : List Int} {d d' : Int} : (pd r d).eqv (pd r' d') = decide (r = r' ∧ d = d') := by
  show ((D.tup (zz r)).eqv (.tup (zz r')) && ((D.int d).eqv (.int d') && true)) = _
  rw [eqv_row, eqv_int, Bool.and_true, Bool.eq_iff_iff]
  simp
theorem q_pd {n : Nat} {r : List Int} {d : Int} : (pd r d).q (n + 2) = true := by
  simp only [D.q, List.all_cons, List.all_nil, Bool.and_true]
  exact List.all_eq_true.mpr fun x hx => by obtain ⟨i, _, rfl⟩ := List.mem_map.mp hx; exact q_int
section
variable {q : D → Prop} {r r' : List Int} {d d' : Int}
theorem v_eqpd (h : q (.bl (decide (r = r' ∧ d = d')))) : gEq (pd r d) (pd r' d') q := .inl ⟨q_pd, q_pd, by rw [eqv_pd]; exact h⟩
theorem v_nepd (h : q (.bl (!decide (r = r' ∧ d = d')))) : gNe (pd r d) (pd r' d') q := .inl ⟨q_pd, q_pd, by rw [eqv_pd]; exact h⟩
theorem v_eqpd0 (h : q (.bl (decide (r = [] ∧ d = d')))) : gEq (pd r d) (.tup [.tup [], .int d']) q := v_eqpd (r' := []) h
theorem v_nepd0 (h : q (.bl (!decide (r = [] ∧ d = d')))) : gNe (pd r d) (.tup [.tup [], .int d']) q := v_nepd (r' := []) h
theorem nl_pd : (pd r d).nl = true := by
  show (D.nls (zz r) && true) = true
  rw [nls_ints]; rfl
end
def b_rows_content {M : Type} : DS M :=
    (dThen (dSet 1 (dC (.int 0)))
    (dThen (dFor (dSeq false (dVar 0)) (dgN 2)
      (dSet 1 (dCall s_numbers_common [] (dCons (dVar 1) (dCons (dVar 2) dNil)))))
    (dRet (dVar 1))))
def s_rows_content {M : Type} : DSp M := fun ds m Q Z => ∃ xs, ds = [.tup (zz xs)] ∧ Q (.int (gcdL xs)) m
theorem vc_rows_content {M : Type} : ∀ ds (m : M) Q Z, s_rows_content ds m Q Z → okK [false] ds ∧ b_rows_content { nx := fun _ m' => Q .non m', rt := Q, ex := Z } (st0 [false] ds 3) m := by
  rintro ds m Q Z ⟨xs, rfl, q⟩
  refine ⟨⟨fun _ => nl_row xs, trivial⟩, ?_⟩
  unfold b_rows_content
  repeat walk_at "s"
  refine v_kforZ (fun r ρ m' => m' = m ∧ ∃ (g : Nat) (a2 : Sl), ρ = [.val (.tup (zz xs)), .val (.int g), a2] ∧ r.foldl (fun g x => Int.gcd g x) g = gcdL xs) xs ⟨rfl, 0, _, rfl, rfl⟩ (fun ρ m' h => ?_) fun x r ρ m' h => ?_
  · obtain ⟨rfl, g, _, rfl, e⟩ := h
    repeat walk_at "s"
    rw [← e] at q
    exact q
  · obtain ⟨rfl, g, _, rfl, e⟩ := h
    repeat walk_at "s"
    refine ⟨_, _, rfl, ?_⟩
    repeat walk_at "s"
    exact ⟨rfl, Int.gcd g x, _, rfl, e⟩
def b_polys_poly {M : Type} : DS M :=
    (dThen (dIte (dTst (dBin gEq (dVar 1) (dC (.int 0))))
      (dRaise "ByNought")
      dNext)
    (dThen (dSet 2 (dCall s_numbers_common [] (dCons (dCall s_rows_content [] (dCons (dVar 0) dNil)) (dCons (dVar 1) dNil))))
    (dThen (dSet 2 (dIf (dTst (dBin gGt (dVar 1) (dC (.int 0)))) (dVar 2) (dBin (g0 fun i j => .int (i - j)) (dC (.int 0)) (dVar 2))))
    (dRet (dTup (dCons (dB (gSeq .tup) (dCons (dLc (dSeq false (dVar 0)) (dgN 3) dYes (dBin (gII Nd fun i j => .int (i.fdiv j)) (dVar 3) (dVar 2)) [3]) dNil)) (dCons (dBin (gII Nd fun i j => .int (i.fdiv j)) (dVar 1) (dVar 2)) dNil)))))))
def s_polys_poly {M : Type} : DSp M := fun ds m Q Z => ∃ xs d, ds = [.tup (zz xs), .int d] ∧ xs.length ≤ 1000000 ∧ (d = 0 → Z "ByNought" m) ∧ (d ≠ 0 → Sm xs d ∧ Q (pd (lowR xs d) (lowD xs d)) m)
theorem vc_polys_poly {M : Type} : ∀ ds (m : M) Q Z, s_polys_poly ds m Q Z → okK [false, false] ds ∧ b_polys_poly { nx := fun _ m' => Q .non m', rt := Q, ex := Z } (st0 [false, false] ds 4) m := by
  rintro ds m Q Z ⟨xs, d, rfl, hl, z, q⟩
  refine ⟨⟨fun _ => nl_row xs, fun _ => rfl, trivial⟩, ?_⟩
  unfold b_polys_poly
  repeat walk_at "s"
  refine v_ifd (fun h => ?_) fun h => ?_
  · repeat walk_at "s"
    exact z h
  obtain ⟨hb, q⟩ := q h
  have pn := part_ne (n := (gcdL xs : Int)) h
  have pb := Sm.le hb fun _ z => part_bd (n := (gcdL xs : Int)) h z
  have e1 : 0 < d → (Int.gcd (gcdL xs) d : Int) = part (gcdL xs) d := fun h0 => by unfold part; rw [if_pos h0]
  have e2 : ¬ 0 < d → 0 - (Int.gcd (gcdL xs) d : Int) = part (gcdL xs) d := fun h0 => by unfold part; rw [if_neg h0]
  repeat walk_at "s"
  refine ⟨xs, rfl, ?_⟩
  repeat walk_at "s"
  refine ⟨_, d, rfl, ?_⟩
  repeat walk_at "s"
  refine v_ifd (fun h0 => ?_) fun h0 => ?_
  · repeat walk_at "s"
    rw [e1 h0]
    refine lc_zz (f := fun x => x.fdiv (part (gcdL xs) d)) xs (fun a ha m1 k l hk => ?_) (by omega) ?_
    · repeat walk_at "s"
      refine v_fdivs pn (pb a (List.mem_cons_of_mem _ ha)) ?_
      repeat walk_at "s"
      exact hk
    repeat walk_at "s"
    refine v_fdivs pn (pb d List.mem_cons_self) ?_
    repeat walk_at "s"
    exact q
  · repeat walk_at "s"
    rw [e2 h0]
    refine lc_zz (f := fun x => x.fdiv (part (gcdL xs) d)) xs (fun a ha m1 k l hk => ?_) (by omega) ?_
    · repeat walk_at "s"
      refine v_fdivs pn (pb a (List.mem_cons_of_mem _ ha)) ?_
      repeat walk_at "s"
      exact hk
    repeat walk_at "s"
    refine v_fdivs pn (pb d List.mem_cons_self) ?_
    repeat walk_at "s"
    exact q
def b__law_poly {M : Type} : DS M :=
    (dThen (dSet 2 (dIf (dTst (dBin gNe (dVar 0) (dTup dNil))) (dCall s__law_common [] (dCons (dBin gAdd (dB (gSeq .lst) (dCons (dVar 0) dNil)) (dLst (dCons (dVar 1) dNil))) dNil)) (dB (gI1 iabs) (dCons (dVar 1) dNil))))
    (dThen (dSet 2 (dIf (dTst (dBin gGt (dVar 1) (dC (.int 0)))) (dVar 2) (dBin (g0 fun i j => .int (i - j)) (dC (.int 0)) (dVar 2))))
    (dRet (dTup (dCons (dB (gSeq .tup) (dCons (dLc (dSeq false (dVar 0)) (dgN 3) dYes (dBin (gII Nd fun i j => .int (i.fdiv j)) (dVar 3) (dVar 2)) [3]) dNil)) (dCons (dBin (gII Nd fun i j => .int (i.fdiv j)) (dVar 1) (dVar 2)) dNil))))))
def s__law_poly {M : Type} : DSp M := fun ds m Q Z => ∃ xs d, ds = [.tup (zz xs), .int d] ∧ xs.length ≤ 1000000 ∧ d ≠ 0 ∧ Sm xs d ∧ Q (pd (lowR xs d) (lowD xs d)) m
theorem gcdL_snoc (xs : List Int) (d : Int) : gcdL (xs ++ [d]) = Int.gcd (gcdL xs) d := by
  unfold gcdL; rw [List.foldl_append]; rfl
theorem vc__law_poly {M : Type} : ∀ ds (m : M) Q Z, s__law_poly ds m Q Z → okK [false, false] ds ∧ b__law_poly { nx := fun _ m' => Q .non m', rt := Q, ex := Z } (st0 [false, false] ds 4) m := by
  rintro ds m Q Z ⟨xs, d, rfl, hl, h, hb, q⟩
  refine ⟨⟨fun _ => nl_row xs, fun _ => rfl, trivial⟩, ?_⟩
  unfold b__law_poly
  have pn := part_ne (n := (gcdL xs : Int)) h
  have pb := Sm.le hb fun _ z => part_bd (n := (gcdL xs : Int)) h z
  have e1 : 0 < d → (Int.gcd (gcdL xs) d : Int) = part (gcdL xs) d := fun h0 => by unfold part; rw [if_pos h0]
  have e2 : ¬ 0 < d → 0 - (Int.gcd (gcdL xs) d : Int) = part (gcdL xs) d := fun h0 => by unfold part; rw [if_neg h0]
  have fin : ∀ a2 a3 : Sl, (dThen (dSet 2 (dIf (dTst (dBin gGt (dVar 1) (dC (.int 0)))) (dVar 2) (dBin (g0 fun i j => .int (i - j)) (dC (.int 0)) (dVar 2))))
    (dRet (dTup (dCons (dB (gSeq .tup) (dCons (dLc (dSeq false (dVar 0)) (dgN 3) dYes (dBin (gII Nd fun i j => .int (i.fdiv j)) (dVar 3) (dVar 2)) [3]) dNil)) (dCons (dBin (gII Nd fun i j => .int (i.fdiv j)) (dVar 1) (dVar 2)) dNil)))) : DS M)
      { nx := fun _ m' => Q .non m', rt := Q, ex := Z } [.val (.tup (zz xs)), .val (.int d), .val (.int (Int.gcd (gcdL xs) d)), a3] m := fun a2 a3 => by
    repeat walk_at "s"
    refine v_ifd (fun h0 => ?_) fun h0 => ?_
    · repeat walk_at "s"
      rw [e1 h0]
      refine lc_zz (f := fun x => x.fdiv (part (gcdL xs) d)) xs (fun a ha m1 k l hk => ?_) (by omega) ?_
      · repeat walk_at "s"
        refine v_fdivs pn (pb a (List.mem_cons_of_mem _ ha)) ?_
        repeat walk_at "s"
        exact hk
      repeat walk_at "s"
      refine v_fdivs pn (pb d List.mem_cons_self) ?_
      repeat walk_at "s"
      exact q
    · repeat walk_at "s"
      rw [e2 h0]
      refine lc_zz (f := fun x => x.fdiv (part (gcdL xs) d)) xs (fun a ha m1 k l hk => ?_) (by omega) ?_
      · repeat walk_at "s"
        refine v_fdivs pn (pb a (List.mem_cons_of_mem _ ha)) ?_
        repeat walk_at "s"
        exact hk
      repeat walk_at "s"
      refine v_fdivs pn (pb d List.mem_cons_self) ?_
      repeat walk_at "s"
      exact q
  repeat walk_at "s"
  refine v_ifn (fun h0 => ?_) fun h0 => ?_
  · repeat walk_at "s"
    refine v_addlz (ys := [d]) (by simp; omega) ?_
    repeat walk_at "s"
    refine ⟨_, rfl, ?_⟩
    rw [gcdL_snoc]
    exact fin .un .un
  · repeat walk_at "s"
    subst h0
    have := fin .un .un
    rw [show ((Int.gcd (gcdL []) d : Nat) : Int) = iabs d by rw [iabs_eq]; unfold gcdL; simp] at this
    exact this
def b__law_plus {M : Type} : DS M :=
    (dThen (dSet 3 (dB (gSeq .tup) (dCons (dLc (dSeq false (dBin (gIx false) (dVar 0) (dC (.int 0)))) (dgN 5) dYes (dBin gMul (dVar 5) (dBin (gIx false) (dVar 1) (dC (.int 1)))) [5]) dNil)))
    (dThen (dSet 4 (dB (gSeq .tup) (dCons (dLc (dSeq false (dBin (gIx false) (dVar 1) (dC (.int 0)))) (dgN 5) dYes (dBin gMul (dVar 5) (dBin (gIx false) (dVar 0) (dC (.int 1)))) [5]) dNil)))
    (dRet (dCall s__law_poly [] (dCons (dCall s__law_sum [] (dCons (dVar 3) (dCons (dVar 4) (dCons (dVar 2) dNil)))) (dCons (dBin gMul (dBin (gIx false) (dVar 0) (dC (.int 1))) (dBin (gIx false) (dVar 1) (dC (.int 1)))) dNil))))))
def s__law_plus {M : Type} : DSp M := fun ds m Q Z => ∃ f g r d r' d' k n a n' b c, ds = [pd r d, pd r' d', .int k] ∧ P f r d ∧ P g r' d' ∧ PB n a r d ∧ PB n' b r' d' ∧ n ≤ 1000000 ∧ n' ≤ 1000000 ∧ bd c k ∧ c ≤ 1000000 ∧ (a + b ≤ 9000 ∨ a + b + c + 1 ≤ 13400) ∧
  ∀ r'' d'', P (f + Ser.C (k : Rat) * g) r'' d'' → PB (max n n') (a + b + c + 1) r'' d'' → Q (pd r'' d'') m
theorem vc__law_plus {M : Type} : ∀ ds (m : M) Q Z, s__law_plus ds m Q Z → okK [false, false, false] ds ∧ b__law_plus { nx := fun _ m' => Q .non m', rt := Q, ex := Z } (st0 [false, false, false] ds 6) m := by
  rintro ds m Q Z ⟨f, g, r, d, r', d', k, n, a, n', b, c, rfl, hf, hg, pf, pg, hn, hn', hk, hc, hab, q⟩
  refine ⟨⟨fun _ => nl_pd, fun _ => nl_pd, fun _ => rfl, trivial⟩, ?_⟩
  unfold b__law_plus
  have ln := pf.ln
  have ln' := pg.ln
  have bd1 := pf.dd
  have bd2 := pg.dd
  repeat walk_at "s"
  refine lc_zz (f := fun x => x * d') r (fun x hx m1 k l hk => ?_) (by omega) ?_
  · have bx := pf.bd x hx
    repeat walk_at "s"
    exact hk
  repeat walk_at "s"
  refine lc_zz (f := fun x => x * d) r' (fun x hx m1 k l hk => ?_) (by omega) ?_
  · have bx := pg.bd x hx
    repeat walk_at "s"
    exact hk
  repeat walk_at "s"
  have b1 : ∀ x ∈ r.map (fun x => x * d'), bd (a + b) x := map_bd pf.bd fun x h => bd_mul h bd2
  have b2 : ∀ x ∈ r'.map (fun x => x * d), bd (b + a) x := map_bd pg.bd fun x h => bd_mul h bd1
  refine ⟨_, _, k, c, _, rfl, by rw [List.length_map]; omega, by rw [List.length_map]; omega, hk, b2, by omega, fun s hs => ?_⟩
  rw [ser_scale', ser_scale'] at hs
  have dp := hf.pos
  have dp' := hg.pos
  have d0 : d * d' ≠ 0 := Int.mul_ne_zero (by omega) (by omega)
  have eq : Ser.C ((d * d' : Int) : Rat) * (f + Ser.C (k : Rat) * g) = qs (ser s) := by
    have e1 := hf.eq
    have e2 := hg.eq
    rw [hs.sr, qs_add, qs_mul, qs_mul, qs_mul, qs_C, qs_C, qs_C, ← e1, ← e2, Rat.intCast_mul, C_mul]
    grind
  have sB : B (max n n') (a + b + c + 1) (ser s) := by
    rw [hs.sr]
    refine ((B.scale bd2 (B.of (n := n) ln pf.bd)).add (B.scale hk (B.scale bd1 (B.of (n := n') ln' pg.bd)))).mono (Nat.le_refl _) (by omega)
  have ls : s.length ≤ max n n' := (R.mk hs.dn rfl).len sB
  repeat walk_at "s"
  refine ⟨s, d * d', rfl, by omega, d0, Sm.of (bd_mul bd1 bd2) ((R.mk hs.dn rfl).bds sB) (by omega), ?_⟩
  have hP := low_P d0 hs.dn eq
  exact q _ _ hP (hP.PB d0 eq ls ((R.mk hs.dn rfl).bds sB) (bd_mono (bd_mul bd1 bd2) (by omega)))
def b__law_times {M : Type} : DS M :=
    (dRet (dCall s__law_poly [] (dCons (dCall s__law_product [] (dCons (dBin (gIx false) (dVar 0) (dC (.int 0))) (dCons (dBin (gIx false) (dVar 1) (dC (.int 0))) dNil))) (dCons (dBin gMul (dBin (gIx false) (dVar 0) (dC (.int 1))) (dBin (gIx false) (dVar 1) (dC (.int 1)))) dNil))))
def s__law_times {M : Type} : DSp M := fun ds m Q Z => ∃ f g r d r' d' n a n' b, ds = [pd r d, pd r' d'] ∧ P f r d ∧ P g r' d' ∧ PB n a r d ∧ PB n' b r' d' ∧ n ≤ 100000 ∧ n' ≤ 100000 ∧ (a + b ≤ 9000 ∨ a + b + n ≤ 13400) ∧
  ∀ r'' d'', P (f * g) r'' d'' → PB (n + n') (a + b + n) r'' d'' → Q (pd r'' d'') m
theorem times_P {f g : Ser Rat} {r r' s : List Int} {d d' : Int} (hf : P f r d) (hg : P g r' d') (hs : ser s = ser r * ser r') : Ser.C ((d * d' : Int) : Rat) * (f * g) = qs (ser s) := by
  have e1 := hf.eq
  have e2 := hg.eq
  rw [hs, qs_mul, ← e1, ← e2, Rat.intCast_mul, C_mul]
  grind
theorem vc__law_times {M : Type} : ∀ ds (m : M) Q Z, s__law_times ds m Q Z → okK [false, false] ds ∧ b__law_times { nx := fun _ m' => Q .non m', rt := Q, ex := Z } (st0 [false, false] ds 2) m := by
  rintro ds m Q Z ⟨f, g, r, d, r', d', n, a, n', b, rfl, hf, hg, pf, pg, hn, hn', hab, q⟩
  refine ⟨⟨fun _ => nl_pd, fun _ => nl_pd, trivial⟩, ?_⟩
  unfold b__law_times
  have ln := pf.ln
  have ln' := pg.ln
  have bd1 := pf.dd
  have bd2 := pg.dd
  repeat walk_at "s"
  refine ⟨r, r', a, b, rfl, by omega, by omega, pf.bd, pg.bd, by omega, fun s hs => ?_⟩
  have dp := hf.pos
  have dp' := hg.pos
  have d0 : d * d' ≠ 0 := Int.mul_ne_zero (by omega) (by omega)
  have eq := times_P hf hg hs.sr
  have sB : B (n + n') (a + b + n) (ser s) := by
    rw [hs.sr]
    exact (B.of (n := n) ln pf.bd).mul (B.of (n := n') ln' pg.bd)
  have ls : s.length ≤ n + n' := (R.mk hs.dn rfl).len sB
  repeat walk_at "s"
  refine ⟨s, d * d', rfl, by omega, d0, Sm.of (bd_mul bd1 bd2) ((R.mk hs.dn rfl).bds sB) (by omega), ?_⟩
  have hP := low_P d0 hs.dn eq
  exact q _ _ hP (hP.PB d0 eq ls ((R.mk hs.dn rfl).bds sB) (bd_mono (bd_mul bd1 bd2) (by omega)))
theorem ser_of {xs : List Int} {d : Int} (hd : d ≠ 0) : Ser.C (d : Rat) * (Ser.C (d : Rat)⁻¹ * qs (ser xs)) = qs (ser xs) := by
  rw [← Lean.Grind.Semiring.mul_assoc, C_inv (cne hd), Lean.Grind.Semiring.one_mul]
end RR
namespace RR
open PySem PySem.Spec PyProof.Rows L2
structure DivI (F G : List Int) (l sc : Int) (n a : Nat) (W : Ser Int) (rs : List Int) : Prop where
  eq : ser rs + W * ser G = Ser.C sc * ser F
  hi : ∀ k, a + n ≤ k + 1 → rs.getD k 0 = 0
  dv : ∀ k, l ^ a ∣ rs.getD k 0
theorem div_step {F G rs rs' : List Int} {l sc t : Int} {n a : Nat} {W : Ser Int} (h : DivI F G l sc n (a + 1) W rs) (hl : l ≠ 0) (hn : G.length = n) (n0 : 0 < n) (hg : G.getD (n - 1) 0 = l) (ht : t = (rs.getD (a + n - 1) 0).fdiv l)
    (e : ser rs' + Ser.C t * xp a * ser G = ser rs) : DivI F G l sc n a (W + Ser.C t * xp a) rs' ∧ l ^ a ∣ t := by
  obtain ⟨k, hk⟩ := h.dv (a + n - 1)
  have tk : t = l ^ a * k := by
    rw [ht, hk, Int.pow_succ, show l ^ a * l * k = l * (l ^ a * k) by grind, Int.mul_fdiv_cancel_left _ hl]
  have tl : t * l = rs.getD (a + n - 1) 0 := by rw [tk, hk, Int.pow_succ]; grind
  have co : ∀ j, rs'.getD j 0 = rs.getD j 0 - t * (if a ≤ j then G.getD (j - a) 0 else 0) := fun j => by
    have := congrArg (fun f => Ser.co f j) e
    rw [show Ser.C t * xp a * ser G = Ser.C t * (xp a * ser G) by grind] at this
    simp only [Ser.add_co, Ser.C_mul_co, xp_mul_co, ser_co] at this
    rw [← this]; omega
  refine ⟨⟨?_, fun j hj => ?_, fun j => ?_⟩, ⟨k, tk⟩⟩
  · rw [← h.eq, ← e]; grind
  · rw [co]
    by_cases q : j = a + n - 1
    · subst q
      rw [if_pos (by omega), show a + n - 1 - a = n - 1 by omega, hg, tl]; omega
    · rw [h.hi j (by omega)]
      split
      · rw [getD_far (by omega)]; simp
      · simp
  · rw [co]
    refine Int.dvd_sub ?_ ?_
    · exact Int.dvd_trans (by rw [Int.pow_succ]; exact Int.dvd_mul_right ..) (h.dv j)
    · exact Int.dvd_trans ⟨k, tk⟩ (Int.dvd_mul_right ..)
def b_quotients_divided {M : Type} : DS M :=
    (dThen (dIte (dTst (dBin gEq (dVar 1) (dC (.tup [(.tup []), (.int 1)]))))
      (dRaise "ByNought")
      dNext)
    (dThen (dAsg (dVar 1) (dgT 2 (dgCons (dgN 2) (dgCons (dgN 3) dgNil))))
    (dThen (dSet 4 (dB (gI2 imax) (dCons (dC (.int 0)) (dCons (dBin gAdd (dBin (g0 fun i j => .int (i - j)) (dB gLen (dCons (dBin (gIx false) (dVar 0) (dC (.int 0))) dNil)) (dB gLen (dCons (dVar 2) dNil))) (dC (.int 1))) dNil))))
    (dThen (dSet 5 (dC (.int 1)))
    (dThen (dFor (dRng1 (dCons (dVar 4) dNil)) (dgN 6)
      (dSet 5 (dBin gMul (dVar 5) (dBin (gIx false) (dVar 2) (dNeg (dC (.int 1)))))))
    (dThen (dSetO 7 (dLc (dSeq false (dBin (gIx false) (dVar 0) (dC (.int 0)))) (dgN 12) dYes (dBin gMul (dVar 12) (dVar 5)) [12]))
    (dThen (dSetO 8 (dBin gMul (dLst (dCons (dC (.int 0)) dNil)) (dVar 4)))
    (dThen (dFor (dRevR (dVar 4)) (dgN 9)
      (dThen (dSet 10 (dBin (gII Nd fun i j => .int (i.fdiv j)) (dBin (gIx true) (dOwn 7) (dBin (g0 fun i j => .int (i - j)) (dBin gAdd (dVar 9) (dB gLen (dCons (dVar 2) dNil))) (dC (.int 1)))) (dBin (gIx false) (dVar 2) (dNeg (dC (.int 1))))))
    (dThen (dSetI 8 (dBin gMul (dVar 10) (dVar 3)) (dVar 9))
    (dFor (dEnum false (dVar 2)) (dgT 2 (dgCons (dgN 11) (dgCons (dgN 12) dgNil)))
      (dSetI 7 (dBin (g0 fun i j => .int (i - j)) (dBin (gIx true) (dOwn 7) (dBin gAdd (dVar 9) (dVar 11))) (dBin gMul (dVar 10) (dVar 12))) (dBin gAdd (dVar 9) (dVar 11)))))))
    (dRet (dTup (dCons (dCall s_polys_poly [] (dCons (dCall s_rows_row_of [] (dCons (dOwn 8) dNil)) (dCons (dBin gMul (dVar 5) (dBin (gIx false) (dVar 0) (dC (.int 1)))) dNil))) (dCons (dCall s_polys_poly [] (dCons (dCall s_rows_row_of [] (dCons (dOwn 7) dNil)) (dCons (dBin gMul (dVar 5) (dBin (gIx false) (dVar 0) (dC (.int 1)))) dNil))) dNil))))))))))))
def s_quotients_divided {M : Type} : DSp M := fun ds m Q Z => ∃ f g r d r' d' n a n' b M', ds = [pd r d, pd r' d'] ∧ P f r d ∧ P g r' d' ∧ PB n a r d ∧ PB n' b r' d' ∧ n ≤ 2000 ∧ n' ≤ 2000 ∧ b ≤ 4000 ∧ r.length + 1 ≤ r'.length + M' ∧ a + M' * (b + 1) + 2 + b ≤ 13400 ∧ (r' = [] → Z "ByNought" m) ∧
  (r' ≠ [] → ∀ q t r1 d1 r2 d2, P q r1 d1 → P t r2 d2 → f = q * g + t → far (r'.length - 1) t → far (n + 1) q →
    PB (n + 1) (a + M' * (b + 1) + 2 + b) r1 d1 → PB n (a + M' * (b + 1) + 2) r2 d2 → Q (.tup [pd r1 d1, pd r2 d2]) m)
theorem vc_quotients_divided {M : Type} : ∀ ds (m : M) Q Z, s_quotients_divided ds m Q Z → okK [false, false] ds ∧ b_quotients_divided { nx := fun _ m' => Q .non m', rt := Q, ex := Z } (st0 [false, false] ds 13) m := by
  rintro ds m Q Z ⟨f, g, F, d, G, d', n, a, n', b, M', rfl, hf, hg, pf, pg, hn, hn', hb, hM, hab, z, k⟩
  refine ⟨⟨fun _ => nl_pd, fun _ => nl_pd, trivial⟩, ?_⟩
  unfold b_quotients_divided
  have lF := pf.ln
  have lG := pg.ln
  have bdd := pf.dd
  have bdd' := pg.dd
  repeat walk_at "s"
  refine v_eqpd0 ?_
  repeat walk_at "s"
  refine v_ifd (fun h => ?_) fun h => ?_
  · repeat walk_at "s"
    exact z h.1
  have G0 : G ≠ [] := fun e => h (hg.zero.mp (hg.nil_iff.mpr e))
  have k := k G0
  have g1 := List.length_pos_iff.mpr G0
  obtain ⟨l, hl⟩ : ∃ l, l = G.getD (G.length - 1) 0 := ⟨_, rfl⟩
  have l0 : l ≠ 0 := by rw [hl]; exact done_last hg.dn G0
  have bl : bd b l := by
    rw [hl, List.getD_eq_getElem?_getD, List.getElem?_eq_getElem (by omega)]
    exact pg.bd _ (List.getElem_mem _)
  obtain ⟨mn, hmn⟩ : ∃ mn : Nat, mn = F.length + 1 - G.length := ⟨_, rfl⟩
  have emn : imax 0 ((F.length : Int) - G.length + 1) = mn := by rw [imax_eq]; omega
  have mle : mn ≤ n := by omega
  have mmul : mn * (b + 1) ≤ M' * (b + 1) := Nat.mul_le_mul_right _ (by omega)
  have bpow : ∀ i, i ≤ mn → bd (mn * (b + 1) + 1) (l ^ i) := fun i hi => by
    refine bd_mono (bd_pow bl i) ?_
    have : i * b ≤ mn * (b + 1) := Nat.mul_le_mul hi (by omega)
    omega
  repeat walk_at "s"
  rw [emn]
  refine v_kR1 (by omega) (by omega) ?_
  rw [Int.toNat_natCast]
  refine v_kforR mn (fun i ρ m' => m' = m ∧ ∃ a6 a7 a8 a9 a10 a11 a12, ρ = [.val (pd F d), .val (pd G d'), .val (.tup (zz G)), .val (.int d'), .val (.int mn), .val (.int (l ^ i)), a6, a7, a8, a9, a10, a11, a12] ∧ i ≤ mn) ⟨rfl, _, _, _, _, _, _, _, by rw [Int.pow_zero]; rfl, by omega⟩ (fun ρ m' h => ?_) fun i ρ m' hi h => ?_
  case refine_2 =>
    obtain ⟨rfl, a6, a7, a8, a9, a10, a11, a12, rfl, hi'⟩ := h
    have bp := bpow i hi'
    repeat walk_at "s"
    refine v_ixm G0 ?_
    rw [← hl]
    repeat walk_at "s"
    exact ⟨rfl, _, _, _, _, _, _, _, by rw [Int.pow_succ]; rfl, by omega⟩
  obtain ⟨rfl, a6, a7, a8, a9, a10, a11, a12, rfl, _⟩ := h
  obtain ⟨sc, hsc⟩ : ∃ sc, sc = l ^ mn := ⟨_, rfl⟩
  have bsc : bd (mn * (b + 1) + 1) sc := hsc ▸ bpow mn (Nat.le_refl _)
  rw [← hsc]
  have sc0 : sc ≠ 0 := by rw [hsc]; exact Int.pow_ne_zero l0
  repeat walk_at "s"
  refine lc_zz (f := fun x => x * sc) F (fun x hx m1 k l hk => ?_) (by omega) ?_
  · have bx := pf.bd x hx
    repeat walk_at "s"
    exact hk
  refine v_kO (nls_ints _) ?_
  repeat walk_at "s"
  refine v_repl1 (by omega) (by omega) ?_
  rw [Int.toNat_natCast]
  refine v_kO (nls_ints _) ?_
  repeat walk_at "s"
  refine v_kRR (by omega) (by omega) ?_
  rw [Int.toNat_natCast]
  -- the places, from the highest down
  have start : DivI F G l sc G.length mn 0 (F.map fun x => x * sc) := by
    refine ⟨by rw [ser_scale']; grind, fun k hk => ?_, fun k => ?_⟩
    · rw [map_co (by simp), getD_far (by omega)]; simp
    · rw [map_co (by simp), hsc]; exact Int.dvd_mul_left ..
  have B0 : B n (a + (mn * (b + 1) + 1)) (ser (F.map fun x => x * sc)) := B.of (by rw [List.length_map]; omega) (map_bd pf.bd fun x h => bd_mul h bsc)
  refine v_kforRR mn (fun i ρ m1 => m1 = m' ∧ ∃ (W : Ser Int) (rs ws : List Int) (a9 a10 a11 a12 : Sl), ρ = [.val (pd F d), .val (pd G d'), .val (.tup (zz G)), .val (.int d'), .val (.int mn), .val (.int sc), a6, .own (zz rs), .own (zz ws), a9, a10, a11, a12] ∧
      rs.length = F.length ∧ ws.length = mn ∧ i ≤ mn ∧ DivI F G l sc G.length i W rs ∧ ser ws = Ser.C d' * W ∧ far mn W ∧ (∀ j, j < i → W.co j = 0) ∧ (∃ w, ser rs = Ser.C (l ^ i) * w ∧ B n (a + (mn - i) * (b + 1)) w) ∧ B mn (a + mn * (b + 1)) W)
    ⟨rfl, 0, _, _, _, _, _, _, rfl, by rw [List.length_map], by rw [List.length_replicate], Nat.le_refl _, start, by rw [ser_zeros]; grind, far_zero, fun j _ => zero_co j, ⟨ser F, by rw [ser_scale', hsc], by rw [Nat.sub_self, Nat.zero_mul]; exact B.of lF pf.bd⟩, B.zero⟩ (fun ρ m1 h => ?_) fun i ρ m1 hi h => ?_
  case refine_2 =>
    obtain ⟨rfl, W, rs, ws, _, _, _, _, rfl, lr, lw, hi', hD, eW, fW, zW, ⟨w, ew, hw⟩, hBW⟩ := h
    have k0 : (0 : Int) ≤ (i : Int) + G.length - 1 := by omega
    have k1 : (i : Int) + G.length - 1 < rs.length := by rw [lr]; omega
    repeat walk_at "s"
    refine v_ixl k0 k1 ?_
    repeat walk_at "s"
    refine v_ixm G0 ?_
    rw [← hl]
    have bl' : bd b l := bl
    repeat walk_at "s"
    obtain ⟨t, ht⟩ : ∃ t, t = (rs.getD (i + G.length - 1) 0).fdiv l := ⟨_, rfl⟩
    have en : nth rs ((i : Int) + G.length - 1) = rs.getD (i + G.length - 1) 0 := by unfold nth; rw [show ((i : Int) + G.length - 1).toNat = i + G.length - 1 by omega]
    rw [en, ← ht]
    have tw : t = l ^ i * w.co (i + G.length - 1) := by
      have := congrArg (fun f => Ser.co f (i + G.length - 1)) ew
      simp only [ser_co, Ser.C_mul_co] at this
      rw [ht, this, Int.pow_succ, show l ^ i * l * w.co (i + G.length - 1) = l * (l ^ i * w.co (i + G.length - 1)) by grind, Int.mul_fdiv_cancel_left _ l0]
    have bli : bd (i * b + 1) (l ^ i) := bd_pow bl i
    have ib : i * b + (mn - (i + 1)) * (b + 1) + (b + 1) ≤ mn * (b + 1) := by
      have h1 : i * b ≤ i * (b + 1) := Nat.mul_le_mul_left _ (by omega)
      have h2 : mn * (b + 1) = i * (b + 1) + (mn - (i + 1)) * (b + 1) + (b + 1) := by
        rw [← Nat.add_mul, ← Nat.succ_mul]; congr 1; omega
      omega
    have bt : bd (a + mn * (b + 1)) t := by
      rw [tw]
      exact bd_mono (bd_mul bli (hw.bd _)) (by omega)
    have mi : (mn - (i + 1)) * (b + 1) ≤ mn * (b + 1) := Nat.mul_le_mul_right _ (by omega)
    have mi2 : (mn - i) * (b + 1) = (mn - (i + 1)) * (b + 1) + (b + 1) := by rw [show mn - i = (mn - (i + 1)) + 1 by omega, Nat.succ_mul]
    repeat walk_at "s"
    refine v_kSIz (by omega) (by omega) ?_
    rw [Int.toNat_natCast]
    repeat walk_at "s"
    refine v_kforE (fun j r2 ρ m2 => m2 = m1 ∧ ∃ (rs' : List Int) (a11 a12 : Sl), ρ = [.val (pd F d), .val (pd G d'), .val (.tup (zz G)), .val (.int d'), .val (.int mn), .val (.int sc), a6, .own (zz rs'), .own (zz (ws.set i (t * d'))), .val (.int i), .val (.int t), a11, a12] ∧
        rs'.length = F.length ∧ j + r2.length = G.length ∧ (∀ y ∈ r2, bd b y) ∧ ser rs' + Ser.C t * xp i * ser G = ser rs + Ser.C t * xp (i + j) * ser r2) G ⟨rfl, _, _, _, rfl, lr, by omega, pg.bd, by rw [Nat.add_zero]⟩ (fun j ρ m2 h => ?_) fun j y r2 ρ m2 N2 h hN2 => ?_
    · obtain ⟨rfl, rs', _, _, rfl, lr', hj, _, e⟩ := h
      rw [ser_nil] at e
      have e : ser rs' + Ser.C t * xp i * ser G = ser rs := by rw [e]; grind
      obtain ⟨hD', _⟩ := div_step hD l0 rfl g1 hl.symm ht e
      repeat walk_at "s"
      refine ⟨rfl, _, rs', _, _, _, _, _, rfl, lr', by rw [List.length_set]; exact lw, by omega, hD', ?_, ?_, fun j hj => ?_, ?_, ?_⟩
      · rw [ser_set (by omega), eW]
        have : ws.getD i 0 = 0 := by
          have := congrArg (fun f => Ser.co f i) eW
          simp only [ser_co, Ser.C_mul_co] at this
          rw [this, zW i (by omega), Int.mul_zero]
        rw [this, show t * d' - 0 = t * d' by omega, C_mul]; grind
      · refine far_add fW (far_mono ?_ (show i + 1 ≤ mn by omega))
        intro j hj
        rw [Ser.C_mul_co, xp_co, if_neg (by omega), Int.mul_zero]
      · rw [Ser.add_co, zW j (by omega), Ser.C_mul_co, xp_co, if_neg (by omega)]; simp
      · have e2 : ser rs' = ser rs - Ser.C t * (xp i * ser G) := by rw [← e]; grind
        have e3 : ser rs' = Ser.C (l ^ i) * (Ser.C l * w - Ser.C (w.co (i + G.length - 1)) * (xp i * ser G)) := by
          rw [e2, ew, tw, C_mul, Int.pow_succ, C_mul]; grind
        have B3 : B (i + n') b (xp i * ser G) := B.shift (k := i) (B.of (n := n') lG pg.bd)
        refine ⟨_, e3, fun j hj => ?_, fun j => ?_⟩
        · have : (ser rs').co j = 0 := by rw [ser_co, getD_far (by omega)]
          rw [e3, Ser.C_mul_co] at this
          rcases Int.mul_eq_zero.mp this with z | z
          · exact absurd z (Int.pow_ne_zero l0)
          · exact z
        · rw [Ser.sub_co, Ser.C_mul_co, Ser.C_mul_co]
          refine bd_mono (bd_sub (bd_mul bl (hw.bd j)) (bd_mul (hw.bd (i + G.length - 1)) (B3.bd j))) ?_
          rw [mi2]; omega
      · refine ⟨far_add fW (far_mono (n := i + 1) (fun j hj => ?_) (by omega)), fun j => ?_⟩
        · rw [Ser.C_mul_co, xp_co, if_neg (by omega), Int.mul_zero]
        · rw [Ser.add_co, Ser.C_mul_co, xp_co]
          by_cases q : j = i
          · rw [if_pos q, q, zW i (by omega), Int.mul_one, Int.zero_add]
            exact bd_mono bt (by omega)
          · rw [if_neg q, Int.mul_zero, Int.add_zero]; exact hBW.bd j
    · obtain ⟨rfl, rs', _, _, rfl, lr', hj, hy, e⟩ := h
      rw [List.length_cons] at hj
      have by_ : bd b y := hy y List.mem_cons_self
      have p0 : (0 : Int) ≤ (i : Int) + j := by omega
      have p1 : (i : Int) + j < rs'.length := by rw [lr']; omega
      repeat walk_at "s"
      refine v_ixl p0 p1 ?_
      repeat walk_at "s"
      refine v_kSIz p0 p1 ?_
      have et : ((i : Int) + j).toNat = i + j := by omega
      rw [et]
      refine hN2 _ _ ⟨rfl, _, _, _, rfl, by rw [List.length_set]; exact lr', by omega, fun z hz => hy z (List.mem_cons_of_mem _ hz), ?_⟩
      rw [ser_set (by omega)]
      have en : nth rs' ((i : Int) + j) = rs'.getD (i + j) 0 := by unfold nth; rw [et]
      rw [en, show rs'.getD (i + j) 0 - t * y - rs'.getD (i + j) 0 = -(t * y) by omega, C_neg, C_mul]
      rw [ser_cons] at e
      rw [← Nat.add_assoc, xp_add (i + j) 1]
      grind
  obtain ⟨rfl, W, rs, ws, _, _, _, _, rfl, lr, lw, _, hD, eW, fW, zW, ⟨w, ew, hB⟩, hBW⟩ := h
  rw [Int.pow_zero, C_one, show (1 : Ser Int) * w = w by grind] at ew
  rw [← ew] at hB
  have dp := hf.pos
  have D0 : sc * d ≠ 0 := Int.mul_ne_zero sc0 (by omega)
  have bD : bd (mn * (b + 1) + 1 + a) (sc * d) := bd_mul bsc bdd
  have m2 : (mn - 0) * (b + 1) = mn * (b + 1) := rfl
  rw [m2] at hB
  repeat walk_at "s"
  refine ⟨_, ws, rfl, isRow_l, by omega, fun u hu => ?_⟩
  repeat walk_at "s"
  have ub : ∀ x ∈ u, bd (a + M' * (b + 1) + 2 + b) x := fun x hx => bd_mono (hu.bds (by rw [eW]; exact B.scale bdd' hBW) x hx) (by omega)
  have ul : u.length ≤ mn := hu.len (by rw [eW]; exact B.scale bdd' hBW)
  refine ⟨u, sc * d, rfl, by omega, fun z => absurd z D0, fun _ => ⟨Sm.of bD ub (by omega), ?_⟩⟩
  repeat walk_at "s"
  refine ⟨_, rs, rfl, isRow_l, by omega, fun v hv => ?_⟩
  repeat walk_at "s"
  have vb : ∀ x ∈ v, bd (a + M' * (b + 1) + 2) x := fun x hx => bd_mono (hv.bds hB x hx) (by omega)
  have vl : v.length ≤ n := hv.len hB
  refine ⟨v, sc * d, rfl, by omega, fun z => absurd z D0, fun _ => ⟨Sm.of bD vb (by omega), ?_⟩⟩
  repeat walk_at "s"
  have e1 : Ser.C ((sc * d : Int) : Rat) * (Ser.C ((sc * d : Int) : Rat)⁻¹ * qs (ser u)) = qs (ser u) := ser_of D0
  have e2 : Ser.C ((sc * d : Int) : Rat) * (Ser.C ((sc * d : Int) : Rat)⁻¹ * qs (ser v)) = qs (ser v) := ser_of D0
  have hP1 := low_P D0 hu.dn e1
  have hP2 := low_P D0 hv.dn e2
  refine k _ _ _ _ _ _ hP1 hP2 ?_ ?_ ?_ (hP1.PB D0 e1 (by omega) ub (bd_mono bD (by omega))) (hP2.PB D0 e2 (by omega) vb (bd_mono bD (by omega)))
  · refine Cq_cancel (cne D0) ?_
    have e3 : Ser.C ((sc * d : Int) : Rat) * (Ser.C ((sc * d : Int) : Rat)⁻¹ * qs (ser u) * g + Ser.C ((sc * d : Int) : Rat)⁻¹ * qs (ser v)) = qs (ser u) * g + qs (ser v) := by
      have := C_inv (cne D0)
      grind
    rw [e3, Rat.intCast_mul, C_mul, Lean.Grind.Semiring.mul_assoc, hf.eq, hu.sr, hv.sr, eW, qs_mul, qs_C]
    have e4 := congrArg qs hD.eq
    rw [qs_add, qs_mul, qs_mul, qs_C] at e4
    rw [← e4, ← hg.eq]; grind
  · refine far_scale (qs_far fun k hk => ?_)
    rw [hv.sr, ser_co]
    exact hD.hi k (by omega)
  · refine far_scale (qs_far fun k hk => ?_)
    rw [hu.sr, eW, Ser.C_mul_co, fW k (by omega), Int.mul_zero]
theorem row_of {n : Nat} {f : Ser Int} (h : far n f) : ∃ xs : List Int, xs.length = n ∧ ser xs = f := by
  refine ⟨(List.range n).map f.co, by simp, Ser.ext fun k => ?_⟩
  rw [ser_co, List.getD_eq_getElem?_getD, List.getElem?_map]
  by_cases hk : k < n
  · rw [List.getElem?_range hk]; rfl
  · rw [List.getElem?_eq_none (by simp; omega), h k (by omega)]; rfl
theorem PB.prod {f g : Ser Rat} {r r' s : List Int} {d d' e : Int} {n a n' b : Nat} (h : P (f * g) s e) (hf : P f r d) (hg : P g r' d') (pf : PB n a r d) (pg : PB n' b r' d') : PB (n + n') (a + b + n) s e := by
  have hB := (B.of pf.ln pf.bd).mul (B.of pg.ln pg.bd)
  obtain ⟨xs, lx, ex⟩ := row_of (f := ser r * ser r') hB.far
  have := hf.pos
  have := hg.pos
  refine h.PB (Int.mul_ne_zero (by omega) (by omega)) (times_P hf hg ex) (by omega) (fun x hx => ?_) (bd_mono (bd_mul pf.dd pg.dd) (by omega))
  obtain ⟨i, hi, rfl⟩ := List.mem_iff_getElem.mp hx
  have := hB.bd i
  rw [← ex, ser_co, List.getD_eq_getElem?_getD, List.getElem?_eq_getElem hi] at this
  exact this
theorem P.int {f : Ser Int} {r : List Int} (h : R f r) : P (qs f) r 1 := ⟨by decide, h.dn, Int.gcd_one, by rw [h.sr, show ((1 : Int) : Rat) = 1 from rfl, C_one]; grind⟩
theorem PB.dec {n a : Nat} {r : List Int} {d : Int} (h : (decide (r.length ≤ n) && r.all (fun x => decide (x.natAbs < 2 ^ a)) && decide (d.natAbs < 2 ^ a)) = true) : PB n a r d := by
  simp only [Bool.and_eq_true, List.all_eq_true, decide_eq_true_eq] at h
  exact ⟨h.1.1, fun x hx => h.1.2 x hx, h.2⟩
end RR
namespace RR
open PySem PySem.Spec PyProof.Rows L2
def b_rows_scaled {M : Type} : DS M :=
    (dRet (dCall s_rows_row_of [] (dCons (dLc (dSeq false (dVar 0)) (dgN 2) dYes (dBin gMul (dVar 1) (dVar 2)) [2]) dNil)))
def s_rows_scaled {M : Type} : DSp M := fun ds m Q Z => ∃ xs k a b, ds = [.tup (zz xs), .int k] ∧ xs.length ≤ 1000000 ∧ (∀ x ∈ xs, bd a x) ∧ bd b k ∧ a + b ≤ 100000000 ∧ ∀ r, R (Ser.C k * ser xs) r → Q (.tup (zz r)) m
theorem vc_rows_scaled {M : Type} : ∀ ds (m : M) Q Z, s_rows_scaled ds m Q Z → okK [false, false] ds ∧ b_rows_scaled { nx := fun _ m' => Q .non m', rt := Q, ex := Z } (st0 [false, false] ds 3) m := by
  rintro ds m Q Z ⟨xs, k, a, b, rfl, hl, hx, hk, hab, q⟩
  refine ⟨⟨fun _ => nl_row xs, fun _ => rfl, trivial⟩, ?_⟩
  unfold b_rows_scaled
  repeat walk_at "s"
  refine lc_zz (f := fun x => k * x) xs (fun x hx' m1 k l hk => ?_) (by omega) ?_
  · have bx := hx x hx'
    repeat walk_at "s"
    exact hk
  repeat walk_at "s"
  refine ⟨_, _, rfl, isRow_l, by rw [List.length_map]; omega, fun r hr => q r ?_⟩
  rw [ser_scale] at hr
  exact hr
def b_polys_plus {M : Type} : DS M :=
    (dRet (dCall s_polys_poly [] (dCons (dCall s_rows_plus [] (dCons (dCall s_rows_scaled [] (dCons (dBin (gIx false) (dVar 0) (dC (.int 0))) (dCons (dBin (gIx false) (dVar 1) (dC (.int 1))) dNil))) (dCons (dCall s_rows_scaled [] (dCons (dBin (gIx false) (dVar 1) (dC (.int 0))) (dCons (dBin (gIx false) (dVar 0) (dC (.int 1))) dNil))) dNil))) (dCons (dBin gMul (dBin (gIx false) (dVar 0) (dC (.int 1))) (dBin (gIx false) (dVar 1) (dC (.int 1)))) dNil))))
def s_polys_plus {M : Type} : DSp M := fun ds m Q Z => ∃ f g r d r' d' n a n' b, ds = [pd r d, pd r' d'] ∧ P f r d ∧ P g r' d' ∧ PB n a r d ∧ PB n' b r' d' ∧ n ≤ 1000000 ∧ n' ≤ 1000000 ∧ a + b ≤ 13399 ∧
  ∀ r'' d'', P (f + g) r'' d'' → PB (max n n') (a + b + 1) r'' d'' → Q (pd r'' d'') m
theorem vc_polys_plus {M : Type} : ∀ ds (m : M) Q Z, s_polys_plus ds m Q Z → okK [false, false] ds ∧ b_polys_plus { nx := fun _ m' => Q .non m', rt := Q, ex := Z } (st0 [false, false] ds 2) m := by
  rintro ds m Q Z ⟨f, g, r, d, r', d', n, a, n', b, rfl, hf, hg, pf, pg, hn, hn', hab, q⟩
  refine ⟨⟨fun _ => nl_pd, fun _ => nl_pd, trivial⟩, ?_⟩
  unfold b_polys_plus
  have ln := pf.ln
  have ln' := pg.ln
  have bd1 := pf.dd
  have bd2 := pg.dd
  repeat walk_at "s"
  refine ⟨r, d', a, b, rfl, by omega, pf.bd, bd2, by omega, fun s1 hs1 => ?_⟩
  have B1 : B n (a + b) (ser s1) := by rw [hs1.sr]; exact (B.scale bd2 (B.of ln pf.bd)).mono (Nat.le_refl _) (by omega)
  have l1 := (R.mk hs1.dn rfl).len B1
  repeat walk_at "s"
  refine ⟨r', d, b, a, rfl, by omega, pg.bd, bd1, by omega, fun s2 hs2 => ?_⟩
  have B2 : B n' (a + b) (ser s2) := by rw [hs2.sr]; exact B.scale bd1 (B.of ln' pg.bd)
  have l2 := (R.mk hs2.dn rfl).len B2
  repeat walk_at "s"
  refine ⟨s1, s2, rfl, by omega, by omega, fun s hs => ?_⟩
  have dp := hf.pos
  have dp' := hg.pos
  have d0 : d * d' ≠ 0 := Int.mul_ne_zero (by omega) (by omega)
  have eq : Ser.C ((d * d' : Int) : Rat) * (f + g) = qs (ser s) := by
    have e1 := hf.eq
    have e2 := hg.eq
    rw [hs.sr, hs1.sr, hs2.sr, qs_add, qs_mul, qs_mul, qs_C, qs_C, ← e1, ← e2, Rat.intCast_mul, C_mul]
    grind
  have sB : B (max n n') (a + b + 1) (ser s) := by
    rw [hs.sr]
    exact (B1.add B2).mono (Nat.le_refl _) (by omega)
  have ls : s.length ≤ max n n' := (R.mk hs.dn rfl).len sB
  repeat walk_at "s"
  refine ⟨s, d * d', rfl, by omega, fun z => absurd z d0, fun _ => ⟨Sm.of (bd_mul bd1 bd2) ((R.mk hs.dn rfl).bds sB) (by omega), ?_⟩⟩
  have hP := low_P d0 hs.dn eq
  exact q _ _ hP (hP.PB d0 eq ls ((R.mk hs.dn rfl).bds sB) (bd_mono (bd_mul bd1 bd2) (by omega)))
def b_polys_scaled {M : Type} : DS M :=
    (dRet (dCall s_polys_poly [] (dCons (dCall s_rows_scaled [] (dCons (dBin (gIx false) (dVar 0) (dC (.int 0))) (dCons (dBin (gIx false) (dVar 1) (dC (.int 0))) dNil))) (dCons (dBin gMul (dBin (gIx false) (dVar 0) (dC (.int 1))) (dBin (gIx false) (dVar 1) (dC (.int 1)))) dNil))))
def s_polys_scaled {M : Type} : DSp M := fun ds m Q Z => ∃ f r d u v n a b, ds = [pd r d, .tup [.int u, .int v]] ∧ v ≠ 0 ∧ P f r d ∧ PB n a r d ∧ n ≤ 1000000 ∧ bd b u ∧ bd b v ∧ a + b ≤ 13400 ∧
  ∀ s, R (Ser.C u * ser r) s → (∀ g, Ser.C (v : Rat) * g = Ser.C (u : Rat) * f → P g (lowR s (d * v)) (lowD s (d * v))) → PB n (a + b) (lowR s (d * v)) (lowD s (d * v)) → Q (pd (lowR s (d * v)) (lowD s (d * v))) m
theorem vc_polys_scaled {M : Type} : ∀ ds (m : M) Q Z, s_polys_scaled ds m Q Z → okK [false, false] ds ∧ b_polys_scaled { nx := fun _ m' => Q .non m', rt := Q, ex := Z } (st0 [false, false] ds 2) m := by
  rintro ds m Q Z ⟨f, r, d, u, v, n, a, b, rfl, v0, hf, pf, hn, hu, hv, hab, q⟩
  refine ⟨⟨fun _ => nl_pd, fun _ => rfl, trivial⟩, ?_⟩
  unfold b_polys_scaled
  have ln := pf.ln
  have bd1 := pf.dd
  repeat walk_at "s"
  refine ⟨r, u, a, b, rfl, by omega, pf.bd, hu, by omega, fun s hs => ?_⟩
  have sB : B n (a + b) (ser s) := by rw [hs.sr]; exact (B.scale hu (B.of ln pf.bd)).mono (Nat.le_refl _) (by omega)
  have ls := (R.mk hs.dn rfl).len sB
  have dp := hf.pos
  have d0 : d * v ≠ 0 := Int.mul_ne_zero (by omega) v0
  repeat walk_at "s"
  refine ⟨s, d * v, rfl, by omega, fun z => absurd z d0, fun _ => ⟨Sm.of (bd_mul bd1 hv) ((R.mk hs.dn rfl).bds sB) (by omega), ?_⟩⟩
  refine q s hs (fun g hg => low_P d0 hs.dn ?_) ⟨by rw [lowR_len]; exact ls, lowR_bd d0 ((R.mk hs.dn rfl).bds sB), lowD_bd d0 (bd_mul bd1 hv)⟩
  have e1 := hf.eq
  rw [hs.sr, qs_mul, qs_C, ← e1, Rat.intCast_mul, C_mul]
  grind
def b_polys_less {M : Type} : DS M :=
    (dRet (dCall s_polys_plus [] (dCons (dVar 0) (dCons (dCall s_polys_scaled [] (dCons (dVar 1) (dCons (dTup (dCons (dNeg (dC (.int 1))) (dCons (dC (.int 1)) dNil))) dNil))) dNil))))
def s_polys_less {M : Type} : DSp M := fun ds m Q Z => ∃ f g r d r' d' n a n' b, ds = [pd r d, pd r' d'] ∧ P f r d ∧ P g r' d' ∧ PB n a r d ∧ PB n' b r' d' ∧ n ≤ 1000000 ∧ n' ≤ 1000000 ∧ a + b ≤ 13000 ∧
  ∀ r'' d'', P (f - g) r'' d'' → PB (max n n') (a + b + 2) r'' d'' → Q (pd r'' d'') m
theorem vc_polys_less {M : Type} : ∀ ds (m : M) Q Z, s_polys_less ds m Q Z → okK [false, false] ds ∧ b_polys_less { nx := fun _ m' => Q .non m', rt := Q, ex := Z } (st0 [false, false] ds 2) m := by
  rintro ds m Q Z ⟨f, g, r, d, r', d', n, a, n', b, rfl, hf, hg, pf, pg, hn, hn', hab, q⟩
  refine ⟨⟨fun _ => nl_pd, fun _ => nl_pd, trivial⟩, ?_⟩
  unfold b_polys_less
  repeat walk_at "s"
  refine ⟨g, r', d', -1, 1, n', b, 1, rfl, by decide, hg, pg, hn', bd_lit (by decide), bd_lit (by decide), by omega, fun s _ hP hB => ?_⟩
  have hP := hP (-g) (by rw [show ((1 : Int) : Rat) = 1 from rfl, show ((-1 : Int) : Rat) = -1 from rfl, C_neg, C_one]; grind)
  repeat walk_at "s"
  refine ⟨f, -g, r, d, _, _, n, a, n', b + 1, rfl, hf, hP, pf, hB, hn, hn', by omega, fun r'' d'' h1 h2 => q r'' d'' (h1.cong (by grind)) (h2.mono (Nat.le_refl _) (by omega))⟩
def b_polys_times {M : Type} : DS M :=
    (dRet (dCall s_polys_poly [] (dCons (dCall s_rows_times [] (dCons (dBin (gIx false) (dVar 0) (dC (.int 0))) (dCons (dBin (gIx false) (dVar 1) (dC (.int 0))) dNil))) (dCons (dBin gMul (dBin (gIx false) (dVar 0) (dC (.int 1))) (dBin (gIx false) (dVar 1) (dC (.int 1)))) dNil))))
def s_polys_times {M : Type} : DSp M := fun ds m Q Z => ∃ f g r d r' d' n a n' b, ds = [pd r d, pd r' d'] ∧ P f r d ∧ P g r' d' ∧ PB n a r d ∧ PB n' b r' d' ∧ n ≤ 100000 ∧ n' ≤ 100000 ∧ (a + b ≤ 9000 ∨ a + b + n ≤ 13400) ∧
  ∀ r'' d'', P (f * g) r'' d'' → PB (n' + n) (b + a + n') r'' d'' → Q (pd r'' d'') m
theorem vc_polys_times {M : Type} : ∀ ds (m : M) Q Z, s_polys_times ds m Q Z → okK [false, false] ds ∧ b_polys_times { nx := fun _ m' => Q .non m', rt := Q, ex := Z } (st0 [false, false] ds 2) m := by
  rintro ds m Q Z ⟨f, g, r, d, r', d', n, a, n', b, rfl, hf, hg, pf, pg, hn, hn', hab, q⟩
  refine ⟨⟨fun _ => nl_pd, fun _ => nl_pd, trivial⟩, ?_⟩
  unfold b_polys_times
  have ln := pf.ln
  have ln' := pg.ln
  have bd1 := pf.dd
  have bd2 := pg.dd
  repeat walk_at "s"
  refine ⟨r, r', a, b, rfl, by omega, by omega, pf.bd, pg.bd, by omega, fun s hs => ?_⟩
  have dp := hf.pos
  have dp' := hg.pos
  have d0 : d * d' ≠ 0 := Int.mul_ne_zero (by omega) (by omega)
  have eq := times_P hf hg hs.sr
  have sB : B (n + n') (a + b + n) (ser s) := by
    rw [hs.sr]
    exact (B.of (n := n) ln pf.bd).mul (B.of (n := n') ln' pg.bd)
  have ls : s.length ≤ n + n' := (R.mk hs.dn rfl).len sB
  repeat walk_at "s"
  refine ⟨s, d * d', rfl, by omega, fun z => absurd z d0, fun _ => ⟨Sm.of (bd_mul bd1 bd2) ((R.mk hs.dn rfl).bds sB) (by omega), ?_⟩⟩
  have hP := low_P d0 hs.dn eq
  exact q _ _ hP (PB.prod (hP.cong (by grind)) hg hf pg pf)
theorem P.one : P 1 [1] 1 := (P.int (r := [1]) ⟨rfl, by
  rw [ser_cons, ser_nil, C_one]
  exact (by grind : (1 : Ser Int) + xp 1 * 0 = 1)⟩).cong qs_one
theorem PB.one : PB 1 1 [1] 1 := PB.dec (by decide)
end RR
namespace RR
open PySem PySem.Spec PyProof.Rows L2
section
variable {M : Type} {ρ : En} {QL : List D → M → Prop} {tt : DTT M} {t : DT M}
end
def b_numbers_is_whole {M : Type} : DS M :=
    (dRet (dAndV (dIsi "int" (dBor 0)) (dNotV (dIsi "bool" (dBor 0)))))
def whT (t : String) : Bool := isiB t "int" && !isiB t "bool"
def s_numbers_is_whole {M : Type} : DSp M := fun ds m Q Z => ∃ d t, ds = [d] ∧ d.ty = some t ∧ Q (.bl (whT t)) m
theorem vc_numbers_is_whole {M : Type} : ∀ ds (m : M) Q Z, s_numbers_is_whole ds m Q Z → okK [true] ds ∧ b_numbers_is_whole { nx := fun _ m' => Q .non m', rt := Q, ex := Z } (st0 [true] ds 1) m := by
  rintro ds m Q Z ⟨d, t, rfl, ht, q⟩
  refine ⟨⟨fun h => (nomatch h), trivial⟩, ?_⟩
  unfold b_numbers_is_whole
  unfold whT at q
  repeat walk_at "s"
  refine v_kI ht rfl ?_
  refine v_kAV (fun h => ?_) fun h => ?_
  · rw [h, Bool.true_and] at q
    repeat walk_at "s"
    refine v_kI ht rfl ?_
    repeat walk_at "s"
    exact q
  · rw [h, Bool.false_and] at q
    exact q
def whD (d : D) : Bool := match d.ty with | some t => whT t | none => false
def isPd (r : List Int) (d : Int) : Bool := (decide (r = []) || !decide (r.getD (r.length - 1) 0 = 0)) && (decide (0 < d) && decide (((Int.gcd (gcdL r) d : Nat) : Int) = 1))
end RR
namespace RR
open PySem PySem.Spec PyProof.Rows L2
theorem v_kIE1 {M : Type} {Q : D → M → Prop} {m : M} {x : Str} {b : Bool} (h : Q (.bl b) m) : kIE [(x, b)] Q (.exc x) m := v_kIE (by unfold List.lookup; rw [beq_self_eq_true]) h
local macro_rules | `(tactic| walk_at "s") => `(tactic| with_reducible refine v_kIE1 ?_)
theorem isPd_P {f : Ser Rat} {r : List Int} {d : Int} (h : P f r d) : isPd r d = true := by
  unfold isPd
  rw [decide_eq_true h.pos, decide_eq_true (show ((Int.gcd (gcdL r) d : Nat) : Int) = 1 by rw [h.low]; rfl)]
  by_cases e : r = []
  · rw [decide_eq_true e]; rfl
  · rw [decide_eq_false (done_last h.dn e), decide_eq_false e]; rfl
theorem v_ixmem {ds : List D} {i : Int} {q : D → Prop} (h0 : 0 ≤ i) (h1 : i < ds.length) (h : ∀ d ∈ ds, q d) : gIx false (.lst ds) (.int i) q := by
  unfold gIx
  dsimp only
  rw [atI_at h0 h1]
  exact ⟨fun z => (nomatch z), h _ (List.getElem_mem _)⟩
end RR
namespace RR
open PySem PySem.Spec PyProof.Rows L2
def b__law_small : DS (Option Nat) :=
    (dRet (dBin (g0 fun i j => .int (i - j)) (dCall s__law_draw [] (dCons (dVar 0) (dCons (dBin gAdd (dBin gMul (dC (.int 2)) (dVar 1)) (dC (.int 1))) dNil))) (dVar 1)))
def s__law_small : DSp (Option Nat) := fun ds m Q Z => ∃ (N : Nat) (size : Int), ds = [.hnd hdl, .int size] ∧ m = some N ∧ 1 ≤ N ∧ 0 ≤ size ∧ size ≤ 1000000000000 ∧ ∀ x : Int, -size ≤ x → x ≤ size → Q (.int x) (some (N - 1))
theorem vc__law_small : ∀ ds (m : Option Nat) Q Z, s__law_small ds m Q Z → okK [false, false] ds ∧ b__law_small { nx := fun _ m' => Q .non m', rt := Q, ex := Z } (st0 [false, false] ds 2) m := by
  rintro ds m Q Z ⟨N, size, rfl, rfl, hN, s0, s1, k⟩
  refine ⟨⟨fun _ => rfl, fun _ => rfl, trivial⟩, ?_⟩
  unfold b__law_small
  repeat walk_at "s"
  refine v_mul (mulok (a := 2) (b := 45) (bd_lit (by decide)) (by unfold bd; omega) (by decide)) ?_
  repeat walk_at "s"
  refine v_drawN hN (by omega) (by omega) fun x x0 x1 => ?_
  repeat walk_at "s"
  exact k _ (by omega) (by omega)
def b__law_small_row : DS (Option Nat) :=
    (dRet (dCall s__law_cut [] (dCons (dLc (dRng1 (dCons (dCall s__law_draw [] (dCons (dVar 0) (dCons (dBin gAdd (dVar 1) (dC (.int 1))) dNil))) dNil)) (dgN 3) dYes (dCall s__law_small [] (dCons (dVar 0) (dCons (dVar 2) dNil))) [3]) dNil)))
def s__law_small_row : DSp (Option Nat) := fun ds m Q Z => ∃ (N : Nat) (most size : Int), ds = [.hnd hdl, .int most, .int size] ∧ m = some N ∧ 0 ≤ most ∧ most ≤ 100 ∧ most + 1 ≤ N ∧ 0 ≤ size ∧ size ≤ 1000000000000 ∧ ∀ (xs : List Int) (N' : Nat), done xs → xs.length ≤ most.toNat → (∀ x ∈ xs, x.natAbs ≤ size.natAbs) → N ≤ N' + (most.toNat + 1) → Q (.tup (zz xs)) (some N')
theorem vc__law_small_row : ∀ ds (m : Option Nat) Q Z, s__law_small_row ds m Q Z → okK [false, false, false] ds ∧ b__law_small_row { nx := fun _ m' => Q .non m', rt := Q, ex := Z } (st0 [false, false, false] ds 4) m := by
  rintro ds m Q Z ⟨N, most, size, rfl, rfl, m0, m1, hN, s0, s1, k⟩
  refine ⟨⟨fun _ => rfl, fun _ => rfl, fun _ => rfl, trivial⟩, ?_⟩
  unfold b__law_small_row
  repeat walk_at "s"
  refine v_drawN (by omega) (by omega) (by omega) fun x x0 x1 => ?_
  repeat walk_at "s"
  refine v_kR1 (by omega) (by omega) ?_
  refine lc_drawn (P := fun y => y.natAbs ≤ size.natAbs) x.toNat 1 _ (by omega) (fun ds N' k l hN' hk => ?_) (by omega) fun xs N' lx px hN' => ?_
  · repeat walk_at "s"
    exact ⟨N', size, rfl, rfl, hN', s0, s1, fun y y0 y1 => hk y _ (by omega) (by omega)⟩
  repeat walk_at "s"
  refine ⟨_, xs, rfl, .inr rfl, by omega, fun r hr => ?_⟩
  have e : r = strip xs := done_uniq hr.dn (strip_done xs) (by rw [hr.sr, ser_strip])
  rw [e]
  refine k _ _ (strip_done xs) (Nat.le_trans (strip_len xs) (by omega)) (fun y hy => px y (strip_mem hy)) (by omega)
end RR
namespace RR
open PySem PySem.Spec PyProof.Rows L2
section
variable {M : Type} {Q : D → M → Prop} {Z : Str → M → Prop} {m : M} {ρ : En} {t u w : DT M}
end
def Pr (n : Int) : Prop := 2 ≤ n ∧ ∀ k : Int, 2 ≤ k → k * k ≤ n → n.fmod k ≠ 0
theorem sq_lt {i k n : Int} (hi : 0 ≤ k) (h : i * i ≤ n) (h2 : n < k * k) : i < k := by
  refine Int.not_le.mp fun z => ?_
  have := Int.mul_le_mul z z hi (by omega)
  omega
end RR
namespace RR
open PySem PySem.Spec PyProof.Rows L2
theorem trial {n : Int} (h1 : 1 < n) (hn : n ≤ 9999) : (∀ k : Int, 2 ≤ k → k ≤ 100 → k < n → n.fmod k ≠ 0) ↔ Pr n := by
  constructor
  · intro h
    refine ⟨by omega, fun k k2 kn => ?_⟩
    have : k < 100 := sq_lt (n := n) (by decide) kn (by omega)
    refine h k k2 (by omega) ?_
    have : 2 * k ≤ k * k := Int.mul_le_mul_of_nonneg_right k2 (by omega)
    omega
  · intro ⟨_, h⟩ k k2 k100 kn e
    have e2 := Int.mul_fdiv_add_fmod n k
    rw [e, Int.add_zero] at e2
    obtain ⟨j, hj⟩ : ∃ j, j = n.fdiv k := ⟨_, rfl⟩
    rw [← hj] at e2
    have j2 : 2 ≤ j := by
      refine Int.not_lt.mp fun z => ?_
      have : k * j ≤ k * 1 := Int.mul_le_mul_of_nonneg_left (by omega) (by omega)
      omega
    by_cases z : k ≤ j
    · refine h k k2 ?_ e
      have : k * k ≤ k * j := Int.mul_le_mul_of_nonneg_left z (by omega)
      omega
    · refine h j j2 ?_ ?_
      · have : j * j ≤ k * j := Int.mul_le_mul_of_nonneg_right (by omega) (by omega)
        omega
      · rw [← e2, Int.mul_fmod_left]
end RR
namespace RR
open PySem PySem.Spec PyProof.Rows L2
open Lean.Grind (CommRing IsCharP)
abbrev Kp (q : Nat) := Fin (q + 1)
section
variable {q : Nat}
def zc (z : Int) : Kp q := (Lean.Grind.Ring.intCast (α := Kp q)).intCast z
theorem zc_zero : (zc 0 : Kp q) = 0 := Lean.Grind.Ring.intCast_zero
theorem zc_ext {a b : Int} : (zc a : Kp q) = zc b ↔ a % ((q + 1 : Nat) : Int) = b % ((q + 1 : Nat) : Int) := IsCharP.intCast_ext_iff (q + 1)
theorem zc_inj {a b : Int} (ha : 0 ≤ a ∧ a < ((q + 1 : Nat) : Int)) (hb : 0 ≤ b ∧ b < ((q + 1 : Nat) : Int)) (h : (zc a : Kp q) = zc b) : a = b := by
  rw [zc_ext, Int.emod_eq_of_lt ha.1 ha.2, Int.emod_eq_of_lt hb.1 hb.2] at h
  exact h
def zs (f : Ser Int) : Ser (Kp q) := ⟨fun k => zc (f.co k)⟩
theorem zs_co (f : Ser Int) (k : Nat) : (zs f : Ser (Kp q)).co k = zc (f.co k) := rfl
theorem zs_zero : (zs 0 : Ser (Kp q)) = 0 := Ser.ext fun k => by rw [zs_co, zero_co, zero_co]; exact zc_zero
def rg (q : Nat) (x : Int) : Prop := 0 ≤ x ∧ x < ((q + 1 : Nat) : Int)
structure Mo (f : Ser (Kp q)) (r : List Int) : Prop where
  dn : done r
  lt : ∀ x ∈ r, rg q x
  eq : zs (ser r) = f
theorem rg0 : rg q 0 := ⟨by omega, by omega⟩
theorem rg_get {r : List Int} (h : ∀ x ∈ r, rg q x) (k : Nat) : rg q (r.getD k 0) := by
  rw [List.getD_eq_getElem?_getD]
  by_cases hk : k < r.length
  · rw [List.getElem?_eq_getElem hk]; exact h _ (List.getElem_mem hk)
  · rw [List.getElem?_eq_none (by omega)]; exact rg0
theorem Mo.get {f : Ser (Kp q)} {r : List Int} (h : Mo f r) (k : Nat) : zc (r.getD k 0) = f.co k := by rw [← h.eq]; rfl
theorem Mo.uniq {f : Ser (Kp q)} {r r' : List Int} (h : Mo f r) (h' : Mo f r') : r = r' := done_uniq h.dn h'.dn (Ser.ext fun k => zc_inj (rg_get h.lt k) (rg_get h'.lt k) ((h.get k).trans (h'.get k).symm))
theorem Mo.inj {f g : Ser (Kp q)} {r : List Int} (h : Mo f r) (h' : Mo g r) : f = g := h.eq.symm.trans h'.eq
theorem Mo.cong {f g : Ser (Kp q)} {r : List Int} (h : Mo f r) (e : f = g) : Mo g r := e ▸ h
theorem Mo.nil : Mo (0 : Ser (Kp q)) [] := ⟨rfl, fun _ h => (nomatch h), by rw [ser_nil, zs_zero]⟩
theorem Mo.nil_iff {f : Ser (Kp q)} {r : List Int} (h : Mo f r) : f = 0 ↔ r = [] := ⟨fun e => (h.cong e).uniq Mo.nil, fun e => by subst e; exact h.inj Mo.nil⟩
theorem Mo.far {f : Ser (Kp q)} {r : List Int} (h : Mo f r) : RR.far r.length f := fun k hk => by rw [← h.get, getD_far hk, zc_zero]
theorem Mo.last {f : Ser (Kp q)} {r : List Int} (h : Mo f r) (n : r ≠ []) : f.co (r.length - 1) ≠ 0 := fun e => by
  rw [← h.get, ← zc_zero] at e
  exact done_last h.dn n (zc_inj (rg_get h.lt _) rg0 e)
theorem Mo.top {f : Ser (Kp q)} {r : List Int} (h : Mo f r) (n : r ≠ []) : RR.top (r.length - 1) f := ⟨by
  have := List.length_pos_iff.mpr n
  rw [show r.length - 1 + 1 = r.length by omega]
  exact h.far, h.last n⟩
theorem Mo.of {f : Ser (Kp q)} {xs : List Int} {r : List Int} (h : R (ser xs) r) (l : ∀ x ∈ xs, rg q x) (e : zs (ser xs) = f) : Mo f r := by
  obtain rfl : r = strip xs := h.uniq (R.of rfl)
  exact ⟨strip_done xs, fun x hx => l x (strip_mem hx), by rw [ser_strip]; exact e⟩
end
end RR
namespace RR
open PySem PySem.Spec PyProof.Rows L2
end RR
namespace RR
open PySem PySem.Spec PyProof.Rows L2
end RR
namespace RR
open PySem PySem.Spec PyProof.Rows L2
section
variable {M : Type} {ρ : En} {QL : List D → M → Prop} {tt : DTT M} {t : DT M} {m : M}
theorem lc_cons {g : DG} {x : D} {r acc : List D} (h : g x ρ fun ρ2 => tt ρ2 m (fun b m1 => if b = true then t ρ2 m1 (fun y m2 => acc.length < sizeLine ∧ lcGo g tt t ρ r (acc ++ [y]) m2 QL) (fun _ _ => False) else lcGo g tt t ρ r acc m1 QL) (fun _ _ => False)) : lcGo g tt t ρ (x :: r) acc m QL := h
theorem lc_end {g : DG} {acc : List D} (h : QL acc m) : lcGo g tt t ρ [] acc m QL := h
end
end RR
namespace RR
open PySem PySem.Spec PyProof.Rows L2
local macro_rules | `(tactic| walk_at "s") => `(tactic| with_reducible refine v_kIE1 ?_)
inductive Sd (k : Nat) : Nat → Nat → Prop
  | done {n : Nat} : ¬ k ∣ n → Sd k n n
  | step {n n' : Nat} : k ∣ n → Sd k (n / k) n' → Sd k n n'
theorem Sd.uniq {k n a : Nat} (h : Sd k n a) : ∀ {b : Nat}, Sd k n b → a = b := by
  induction h with
  | done h0 => intro b h'; cases h' with
    | done _ => rfl
    | step h1 _ => exact absurd h1 h0
  | step h0 _ ih => intro b h'; cases h' with
    | done h1 => exact absurd h0 h1
    | step _ h2 => exact ih h2
inductive PF : Nat → Nat → List Int → Prop
  | small {k n : Nat} : n < k * k → PF k n (if 1 < n then [(n : Int)] else [])
  | no {k n : Nat} {xs : List Int} : k * k ≤ n → ¬ k ∣ n → PF (k + 1) n xs → PF k n xs
  | yes {k n n' : Nat} {xs : List Int} : k * k ≤ n → k ∣ n → Sd k n n' → PF (k + 1) n' xs → PF k n ((k : Int) :: xs)
theorem PF.uniq {k n : Nat} {xs : List Int} (h : PF k n xs) : ∀ {ys : List Int}, PF k n ys → xs = ys := by
  induction h with
  | small h0 => intro ys h'; cases h' with
    | small _ => rfl
    | no h1 _ _ => omega
    | yes h1 _ _ _ => omega
  | no h0 h1 _ ih => intro ys h'; cases h' with
    | small h2 => omega
    | no _ _ h2 => exact ih h2
    | yes _ h2 _ _ => exact absurd h2 h1
  | yes h0 h1 s _ ih => intro ys h'; cases h' with
    | small h2 => omega
    | no _ h2 _ => exact absurd h1 h2
    | yes _ _ s2 h2 => rw [s.uniq s2] at ih; rw [ih h2]
end RR
namespace RR
open PySem PySem.Spec PyProof.Rows L2
section
variable {K : Type} [Lean.Grind.CommRing K]
inductive Join : Ser K → Ser K → Ser K → Ser K → Ser K → Ser K → Ser K → Ser K → Ser K → Prop
  | stop {a s0 t0 s1 t1 : Ser K} : Join a 0 s0 t0 s1 t1 a s0 t0
  | step {a b s0 t0 s1 t1 u r g s t : Ser K} {n N : Nat} : top n b → far n r → far N u → a = u * b + r → Join b r s1 t1 (s0 - u * s1) (t0 - u * t1) g s t → Join a b s0 t0 s1 t1 g s t
theorem Join.uniq (D : Dom K) {a b s0 t0 s1 t1 g s t : Ser K} (h : Join a b s0 t0 s1 t1 g s t) : ∀ {g' s' t' : Ser K}, Join a b s0 t0 s1 t1 g' s' t' → g = g' ∧ s = s' ∧ t = t' := by
  induction h with
  | stop => intro g' s' t' h'; cases h' with
    | stop => exact ⟨rfl, rfl, rfl⟩
    | step h1 _ _ _ _ => exact absurd rfl (top_ne h1)
  | @step a b s0 t0 s1 t1 u r g s t n N h1 h2 h3 h4 _ ih => intro g' s' t' h'; cases h' with
    | stop => exact absurd rfl (top_ne h1)
    | @step _ _ _ _ _ _ u' r' _ _ _ n' N' k1 k2 k3 k4 k5 =>
      obtain rfl := top_uniq h1 k1
      obtain ⟨rfl, rfl⟩ := div_uniq D h1 (far_mono h3 (Nat.le_max_left N N')) (far_mono k3 (Nat.le_max_right N N')) h2 k2 (h4.symm.trans k4)
      exact ih k5
theorem Join.good {a b s0 t0 s1 t1 g s t : Ser K} (h : Join a b s0 t0 s1 t1 g s t) : ∀ A B : Ser K, a = s0 * A + t0 * B → b = s1 * A + t1 * B → g = s * A + t * B ∧ ∃ x y N, far N x ∧ far N y ∧ a = x * g ∧ b = y * g := by
  induction h with
  | @stop a s0 t0 s1 t1 =>
    intro A B h1 h2
    exact ⟨h1, 1, 0, 1, far_one, far_zero, by grind, by grind⟩
  | @step a b s0 t0 s1 t1 u r g s t n N h1 h2 h3 h4 _ ih =>
    intro A B e1 e2
    obtain ⟨e3, x, y, N2, f1, f2, e4, e5⟩ := ih A B e2 (by rw [show r = a - u * b by rw [h4]; grind, e1, e2]; grind)
    refine ⟨e3, u * x + y, x, N + N2, ?_, far_mono f1 (by omega), by rw [h4, e5]; rw [e4]; grind, e4⟩
    exact far_add (far_mono (far_mul h3 f1) (by omega)) (far_mono f2 (by omega))
def Comm (f g G S T : Ser K) : Prop := (f = 0 ∧ g = 0 ∧ G = 0 ∧ S = 0 ∧ T = 0) ∨ ∃ (g0 s0 t0 : Ser K) (n : Nat) (u : K), Join f g 1 0 0 1 g0 s0 t0 ∧ top n g0 ∧ u * g0.co n = 1 ∧ G = Ser.C u * g0 ∧ S = Ser.C u * s0 ∧ T = Ser.C u * t0
theorem join_zero {g s t : Ser K} {s0 t0 s1 t1 : Ser K} (h : Join 0 0 s0 t0 s1 t1 g s t) : g = 0 := by
  cases h with
  | stop => rfl
  | step h1 _ _ _ _ => exact absurd rfl (top_ne h1)
theorem Comm.uniq (D : Dom K) {f g G S T G' S' T' : Ser K} (h : Comm f g G S T) (h' : Comm f g G' S' T') : G = G' ∧ S = S' ∧ T = T' := by
  rcases h with ⟨rfl, rfl, rfl, rfl, rfl⟩ | ⟨g0, s0, t0, n, u, j, t, e, rfl, rfl, rfl⟩ <;> rcases h' with ⟨h1, h2, h3, h4, h5⟩ | ⟨g1, s1, t1, n', u', j', t', e', rfl, rfl, rfl⟩
  · exact ⟨h3.symm, h4.symm, h5.symm⟩
  · exact absurd (join_zero j') (top_ne t')
  · subst h1 h2; exact absurd (join_zero j) (top_ne t)
  · obtain ⟨rfl, rfl, rfl⟩ := j.uniq D j'
    obtain rfl := top_uniq t t'
    obtain rfl : u = u' := by
      have : u * (u' * g0.co n) = u' := by rw [show u * (u' * g0.co n) = u' * (u * g0.co n) by grind, e]; grind
      rw [← this, e']; grind
    exact ⟨rfl, rfl, rfl⟩
theorem Comm.good {f g G S T : Ser K} (h : Comm f g G S T) : G = S * f + T * g ∧ ((f = 0 ∧ g = 0 ∧ G = 0) ∨ ((∃ n, top n G ∧ G.co n = 1) ∧ ∃ x y N, far N x ∧ far N y ∧ f = x * G ∧ g = y * G)) := by
  rcases h with ⟨rfl, rfl, rfl, rfl, rfl⟩ | ⟨g0, s0, t0, n, u, j, t, e, rfl, rfl, rfl⟩
  · exact ⟨by grind, .inl ⟨rfl, rfl, rfl⟩⟩
  · obtain ⟨e1, x, y, N, f1, f2, e2, e3⟩ := j.good f g (by grind) (by grind)
    have cu : Ser.C u * Ser.C (g0.co n) = 1 := by rw [← C_mul, e, C_one]
    have cn : (Ser.C u * g0).co n = 1 := by rw [Ser.C_mul_co]; exact e
    refine ⟨by rw [e1]; grind, .inr ⟨⟨n, ⟨far_scale t.1, fun z => ?_⟩, cn⟩, Ser.C (g0.co n) * x, Ser.C (g0.co n) * y, N, far_scale f1, far_scale f2, ?_, ?_⟩⟩
    · rw [cn] at z
      refine t.2 ?_
      rw [show g0.co n = 1 * g0.co n by grind, z]; grind
    · rw [e2]; rw [show Ser.C (g0.co n) * x * (Ser.C u * g0) = (Ser.C u * Ser.C (g0.co n)) * (x * g0) by grind, cu]; grind
    · rw [e3]; rw [show Ser.C (g0.co n) * y * (Ser.C u * g0) = (Ser.C u * Ser.C (g0.co n)) * (y * g0) by grind, cu]; grind
theorem monic_eq (D : Dom K) {G G' w w' : Ser K} {n n' N : Nat} (hG : top n G) (c : G.co n = 1) (hG' : top n' G') (c' : G'.co n' = 1) (fw : far N w) (fw' : far N w') (e : G' = w * G) (e' : G = w' * G') : G = G' := by
  have w0 : w ≠ 0 := fun z => top_ne hG' (by rw [e, z]; grind)
  have w0' : w' ≠ 0 := fun z => top_ne hG (by rw [e', z]; grind)
  obtain ⟨k, _, tk⟩ := top_of fw w0
  obtain ⟨k', _, tk'⟩ := top_of fw' w0'
  have t1 := top_mul D tk hG
  rw [← e] at t1
  have t2 := top_mul D tk' hG'
  rw [← e'] at t2
  have q1 := top_uniq t1 hG'
  have q2 := top_uniq t2 hG
  obtain rfl : k = 0 := by omega
  have wc : w = Ser.C (w.co 0) := Ser.ext fun j => by
    rw [Ser.C_co]
    split
    · rename_i h; rw [h]
    · exact tk.1 j (by omega)
  have : w.co 0 * G.co n = G'.co n := by rw [e, wc, Ser.C_mul_co, Ser.C_co, if_pos rfl]
  rw [show n = n' by omega] at this c
  rw [c, c'] at this
  rw [e, wc, show w.co 0 = 1 by rw [← this]; grind, C_one]; grind
theorem Comm.swap (D : Dom K) {f g G S T G' S' T' : Ser K} {N : Nat} (h : Comm f g G S T) (h' : Comm g f G' S' T') (fS : far N S) (fT : far N T) (fS' : far N S') (fT' : far N T') : G = G' := by
  obtain ⟨e, h⟩ := h.good
  obtain ⟨e', h'⟩ := h'.good
  rcases h with ⟨rfl, rfl, rfl⟩ | ⟨⟨n, t, c⟩, x, y, N1, f1, f2, e1, e2⟩
  · rw [e']; grind
  · rcases h' with ⟨rfl, rfl, rfl⟩ | ⟨⟨n', t', c'⟩, x', y', N2, f1', f2', e1', e2'⟩
    · rw [e]; grind
    · refine monic_eq D (w := S' * y + T' * x) (w' := S * y' + T * x') (N := N + N1 + N2) t c t' c' ?_ ?_ ?_ ?_
      · exact far_add (far_mono (far_mul fS' f2) (by omega)) (far_mono (far_mul fT' f1) (by omega))
      · exact far_add (far_mono (far_mul fS f2') (by omega)) (far_mono (far_mul fT f1') (by omega))
      · rw [show (S' * y + T' * x) * G = S' * (y * G) + T' * (x * G) by grind, ← e1, ← e2]; exact e'
      · rw [show (S * y' + T * x') * G' = S * (y' * G') + T * (x' * G') by grind, ← e1', ← e2']; exact e
end
end RR
namespace RR
open PySem PySem.Spec PyProof.Rows L2
end RR
namespace RR
open PySem PySem.Spec PyProof.Rows L2
theorem v_kIEh {M : Type} {Q : D → M → Prop} {m : M} {x : Str} {b : Bool} {r : List (Str × Bool)} (h : Q (.bl b) m) : kIE ((x, b) :: r) Q (.exc x) m := v_kIE (by unfold List.lookup; rw [beq_self_eq_true]) h
theorem v_kIE2 {M : Type} {Q : D → M → Prop} {m : M} {x y : Str} {b c : Bool} {r : List (Str × Bool)} (n : (y == x) = false) (h : Q (.bl c) m) : kIE ((x, b) :: (y, c) :: r) Q (.exc y) m := v_kIE (by unfold List.lookup; rw [n]; unfold List.lookup; rw [beq_self_eq_true]) h
local macro_rules | `(tactic| walk_at "s") => `(tactic| with_reducible first | refine v_kIEh ?_ | (refine v_kIE2 ?_ ?_; (· decide)))
def Cg {K : Type} [Lean.Grind.CommRing K] (g a b : Ser K) : Prop := ∃ (u : Ser K) (N : Nat), far N u ∧ a = u * g + b
section
variable {K : Type} [Lean.Grind.CommRing K] {g a b c d : Ser K}
theorem Cg.refl : Cg g a a := ⟨0, 0, far_zero, by grind⟩
theorem Cg.trans (h : Cg g a b) (h' : Cg g b c) : Cg g a c := by
  obtain ⟨u, N, fu, e⟩ := h
  obtain ⟨v, N', fv, e'⟩ := h'
  exact ⟨u + v, N + N', far_add (far_mono fu (by omega)) (far_mono fv (by omega)), by rw [e, e']; grind⟩
theorem Cg.mul {n k : Nat} (h : Cg g a b) (h' : Cg g c d) (fb : far n b) (fc : far k c) : Cg g (a * c) (b * d) := by
  obtain ⟨u, N, fu, e⟩ := h
  obtain ⟨v, N', fv, e'⟩ := h'
  exact ⟨u * c + b * v, N + k + n + N', far_add (far_mono (far_mul fu fc) (by omega)) (far_mono (far_mul fb fv) (by omega)), by
    rw [e, show (u * g + b) * c = u * g * c + b * c by grind]
    rw [show b * c = b * (v * g + d) by rw [← e']]; grind⟩
end
end RR
namespace RR
open PySem PySem.Spec PyProof.Rows L2
end RR
namespace RR
theorem boxes : ∀ (b a : Nat) (f : Nat → Nat), b < a → (∀ z, z < a → f z < b) → ∃ z z', z < z' ∧ z' < a ∧ f z = f z'
  | 0, a, f, h, hf => absurd (hf 0 (by omega)) (by omega)
  | b + 1, 0, f, h, hf => absurd h (by omega)
  | b + 1, a + 1, f, h, hf => by
    by_cases q : ∃ z, z < a ∧ f z = f a
    · obtain ⟨z, hz, e⟩ := q
      exact ⟨z, a, hz, by omega, e⟩
    · -- the box of the last ball is empty else: put the last box's balls there
      let g : Nat → Nat := fun z => if f z = b then f a else f z
      obtain ⟨z, z', h1, h2, e⟩ := boxes b a g (by omega) fun z hz => by
        show (if f z = b then f a else f z) < b
        have h1 := hf z (by omega)
        have h2 := hf a (by omega)
        have h3 : f z ≠ f a := fun e => q ⟨z, hz, e⟩
        split <;> omega
      refine ⟨z, z', h1, by omega, ?_⟩
      have e : (if f z = b then f a else f z) = (if f z' = b then f a else f z') := e
      have h3 : f z ≠ f a := fun e => q ⟨z, by omega, e⟩
      have h4 : f z' ≠ f a := fun e => q ⟨z', by omega, e⟩
      split at e <;> split at e <;> omega
def enc (K : Nat) : Nat → (Nat → Nat) → Nat
  | 0, _ => 0
  | n + 1, v => v 0 + K * enc K n fun j => v (j + 1)
theorem enc_lt {K : Nat} : ∀ (n : Nat) (v : Nat → Nat), (∀ j, j < n → v j < K) → enc K n v < K ^ n
  | 0, _, _ => Nat.zero_lt_one
  | n + 1, v, h => by
    have h1 := enc_lt n (fun j => v (j + 1)) fun j hj => h (j + 1) (by omega)
    have h2 := h 0 (by omega)
    show v 0 + K * enc K n (fun j => v (j + 1)) < K ^ (n + 1)
    rw [Nat.pow_succ]
    have : K * (enc K n (fun j => v (j + 1)) + 1) ≤ K * K ^ n := Nat.mul_le_mul_left _ h1
    rw [Nat.mul_add, Nat.mul_one, Nat.mul_comm K (K ^ n)] at this
    omega
theorem enc_inj {K : Nat} : ∀ (n : Nat) (v w : Nat → Nat), (∀ j, j < n → v j < K) → (∀ j, j < n → w j < K) → enc K n v = enc K n w → ∀ j, j < n → v j = w j
  | 0, _, _, _, _, _, j, hj => absurd hj (by omega)
  | n + 1, v, w, hv, hw, e, j, hj => by
    have e : v 0 + K * enc K n (fun j => v (j + 1)) = w 0 + K * enc K n (fun j => w (j + 1)) := e
    have v0 := hv 0 (by omega)
    have w0 := hw 0 (by omega)
    have e0 : v 0 = w 0 := by
      have := congrArg (· % K) e
      simpa [Nat.add_mul_mod_self_left, Nat.mod_eq_of_lt v0, Nat.mod_eq_of_lt w0] using this
    have e1 : enc K n (fun j => v (j + 1)) = enc K n (fun j => w (j + 1)) := by
      rw [e0] at e
      exact Nat.eq_of_mul_eq_mul_left (show 0 < K by omega) (by omega)
    cases j with
    | zero => exact e0
    | succ j => exact enc_inj n _ _ (fun j hj => hv (j + 1) (by omega)) (fun j hj => hw (j + 1) (by omega)) e1 j (by omega)
def digS (B z j : Nat) : Nat := z / B ^ j % B
theorem digS_lt {B z j : Nat} (h : 0 < B) : digS B z j < B := Nat.mod_lt _ h
theorem digS_inj {B : Nat} (hB : 0 < B) : ∀ (n z z' : Nat), z < B ^ n → z' < B ^ n → (∀ j, j < n → digS B z j = digS B z' j) → z = z'
  | 0, z, z', h, h', _ => by rw [Nat.pow_zero] at h h'; omega
  | n + 1, z, z', h, h', e => by
    have e0 : z % B = z' % B := by
      have := e 0 (by omega)
      unfold digS at this
      rwa [Nat.pow_zero, Nat.div_one, Nat.div_one] at this
    have e1 : z / B = z' / B := by
      refine digS_inj hB n _ _ ?_ ?_ fun j hj => ?_
      · rw [Nat.div_lt_iff_lt_mul hB, ← Nat.pow_succ]; exact h
      · rw [Nat.div_lt_iff_lt_mul hB, ← Nat.pow_succ]; exact h'
      · have := e (j + 1) (by omega)
        unfold digS at this ⊢
        rwa [Nat.pow_succ, Nat.mul_comm (B ^ j) B, ← Nat.div_div_eq_div_mul, ← Nat.div_div_eq_div_mul] at this
    rw [← Nat.div_add_mod z B, ← Nat.div_add_mod z' B, e0, e1]
theorem siegel {M C : Nat} (hC : 0 < C) (L : Nat → (Nat → Int) → Int) (hs : ∀ k x y, k < M → L k (fun j => x j - y j) = L k x - L k y) (hb : ∀ k x H, k < M → (∀ j, j < M + 1 → (x j).natAbs ≤ H) → (L k x).natAbs ≤ C * H) :
    ∃ x : Nat → Int, (∀ k, k < M → L k x = 0) ∧ (∀ j, j < M + 1 → (x j).natAbs ≤ (2 * C) ^ M) ∧ ∃ j, j < M + 1 ∧ x j ≠ 0 := by
  obtain ⟨H, hH⟩ : ∃ H, H = (2 * C) ^ M := ⟨_, rfl⟩
  have H0 : 0 < H := by rw [hH]; exact Nat.pow_pos (by omega)
  let X : Nat → Nat → Int := fun z j => (digS (H + 1) z j : Nat)
  have X1 : ∀ z j, (X z j).natAbs ≤ H := fun z j => by
    have := digS_lt (B := H + 1) (z := z) (j := j) (by omega)
    show ((digS (H + 1) z j : Nat) : Int).natAbs ≤ H
    omega
  let f : Nat → Nat := fun z => enc (2 * C * H + 1) M fun k => (L k (X z) + C * H).toNat
  have rg : ∀ z k, k < M → (L k (X z)).natAbs ≤ C * H := fun z k hk => hb k _ _ hk fun j _ => X1 z j
  have cc : (C : Int) * (H : Int) = ((C * H : Nat) : Int) := by rw [Int.natCast_mul]
  have c2 : 2 * C * H = C * H + C * H := by rw [Nat.mul_assoc, Nat.two_mul]
  have dl : ∀ z k, k < M → (L k (X z) + C * H).toNat < 2 * C * H + 1 := fun z k hk => by
    have := rg z k hk
    rw [cc, c2]; omega
  have many : (2 * C * H + 1) ^ M < (H + 1) ^ (M + 1) := by
    have h1 : (2 * C * H + 1) ^ M ≤ (2 * C * (H + 1)) ^ M := Nat.pow_le_pow_left (by rw [Nat.mul_add]; omega) M
    rw [Nat.mul_pow, ← hH] at h1
    rw [Nat.pow_succ, Nat.mul_comm ((H + 1) ^ M)]
    have p : 0 < (H + 1) ^ M := Nat.pow_pos (by omega)
    have : H * (H + 1) ^ M < (H + 1) * (H + 1) ^ M := Nat.mul_lt_mul_of_pos_right (by omega) p
    omega
  obtain ⟨z, z', h1, h2, e⟩ := boxes _ _ f many fun z _ => enc_lt M _ (dl z)
  have ek := enc_inj M _ _ (dl z) (dl z') e
  refine ⟨fun j => X z j - X z' j, fun k hk => ?_, fun j _ => ?_, ?_⟩
  · have a := rg z k hk
    have b := rg z' k hk
    have c := ek k hk
    rw [hs k _ _ hk]
    rw [cc] at c
    omega
  · have a := digS_lt (B := H + 1) (z := z) (j := j) (by omega)
    have b := digS_lt (B := H + 1) (z := z') (j := j) (by omega)
    show (((digS (H + 1) z j : Nat) : Int) - ((digS (H + 1) z' j : Nat) : Int)).natAbs ≤ _
    rw [← hH]
    omega
  · by_cases q : ∃ j, j < M + 1 ∧ X z j - X z' j ≠ 0
    · exact q
    · exfalso
      have : z = z' := digS_inj (B := H + 1) (by omega) (M + 1) z z' (by omega) h2 fun j hj => by
        by_cases t : X z j - X z' j = 0
        · have t : ((digS (H + 1) z j : Nat) : Int) - ((digS (H + 1) z' j : Nat) : Int) = 0 := t
          omega
        · exact absurd ⟨j, hj, t⟩ q
      omega
def linS (x : Nat → Int) : Nat → Ser Int
  | 0 => 0
  | p + 1 => linS x p + Ser.C (x p) * xp p
theorem linS_co (x : Nat → Int) : ∀ (p j : Nat), (linS x p).co j = if j < p then x j else 0
  | 0, j => by show (0 : Ser Int).co j = _; rw [zero_co, if_neg (by omega)]
  | p + 1, j => by
    show (linS x p + Ser.C (x p) * xp p).co j = _
    rw [Ser.add_co, linS_co x p, Ser.C_mul_co, xp_co]
    by_cases q : j = p
    · subst q; rw [if_neg (by omega), if_pos rfl, if_pos (by omega)]; omega
    · rw [if_neg q]
      by_cases t : j < p
      · rw [if_pos t, if_pos (by omega)]; omega
      · rw [if_neg t, if_neg (by omega)]; omega
theorem linS_far (x : Nat → Int) (p : Nat) : far p (linS x p) := fun j hj => by rw [linS_co, if_neg (by omega)]
theorem linS_sub (x y : Nat → Int) (p : Nat) : linS (fun j => x j - y j) p = linS x p - linS y p := Ser.ext fun j => by
  rw [Ser.sub_co, linS_co, linS_co, linS_co]; split <;> omega
theorem linS_mul {A H : Nat} {f : Ser Int} (hf : ∀ k, (f.co k).natAbs ≤ A) (x : Nat → Int) : ∀ p, (∀ j, j < p → (x j).natAbs ≤ H) → ∀ k, (linS x p * f).co k = 0 ∨ ((linS x p * f).co k).natAbs ≤ p * (A * H)
  | 0, _, k => .inl (by rw [show linS x 0 * f = 0 from by show (0 : Ser Int) * f = 0; grind, zero_co])
  | p + 1, h, k => .inr (by
    have e : linS x (p + 1) * f = linS x p * f + Ser.C (x p) * (xp p * f) := by show (linS x p + Ser.C (x p) * xp p) * f = _; grind
    rw [e, Ser.add_co, Ser.C_mul_co, Nat.succ_mul]
    have h1 : ((xp p * f).co k).natAbs ≤ A := by rw [xp_mul_co]; split; exact hf _; exact Nat.zero_le _
    have h2 : (x p * (xp p * f).co k).natAbs ≤ A * H := by rw [Int.natAbs_mul, Nat.mul_comm]; exact Nat.mul_le_mul h1 (h p (by omega))
    have h3 : ((linS x p * f).co k).natAbs ≤ p * (A * H) := by
      rcases linS_mul hf x p (fun j hj => h j (by omega)) k with z | z
      · rw [z]; exact Nat.zero_le _
      · exact z
    omega)
theorem linS_mul' {A H : Nat} {f : Ser Int} (hf : ∀ k, (f.co k).natAbs ≤ A) (x : Nat → Int) (p : Nat) (h : ∀ j, j < p → (x j).natAbs ≤ H) (k : Nat) : ((linS x p * f).co k).natAbs ≤ p * (A * H) := by
  rcases linS_mul hf x p h k with z | z
  · rw [z]; exact Nat.zero_le _
  · exact z
theorem short {f g : Ser Int} {A l M p q : Nat} (hf : ∀ k, (f.co k).natAbs ≤ A) (hg : ∀ k, (g.co k).natAbs ≤ A) (hA : 0 < A) (hpq : p + q = M + 1) (hp : ∀ k, l + M ≤ k → ∀ x : Nat → Int, (linS x p * f).co k = 0) (hq : ∀ k, l + M ≤ k → ∀ x : Nat → Int, (linS x q * g).co k = 0) :
    ∃ U V : Ser Int, (U ≠ 0 ∨ V ≠ 0) ∧ far p U ∧ far q V ∧ (∀ k, (U.co k).natAbs ≤ (2 * ((M + 1) * A)) ^ M) ∧ (∀ k, (V.co k).natAbs ≤ (2 * ((M + 1) * A)) ^ M) ∧ far l (U * f + V * g) ∧ ∀ k, ((U * f + V * g).co k).natAbs ≤ (M + 1) * A * (2 * ((M + 1) * A)) ^ M := by
  have bb : ∀ (x : Nat → Int) (H : Nat), (∀ j, j < M + 1 → (x j).natAbs ≤ H) → ∀ k, ((linS x p * f + linS (fun j => x (p + j)) q * g).co k).natAbs ≤ (M + 1) * A * H := fun x H h k => by
    have h1 := linS_mul' hf x p (fun j hj => h j (by omega)) k
    have h2 := linS_mul' hg (fun j => x (p + j)) q (fun j hj => h (p + j) (by omega)) k
    rw [Ser.add_co]
    have : (M + 1) * A * H = p * (A * H) + q * (A * H) := by rw [← hpq, Nat.add_mul, Nat.add_mul, Nat.mul_assoc, Nat.mul_assoc]
    omega
  obtain ⟨x, h1, h2, j, hj, hx⟩ := siegel (M := M) (C := (M + 1) * A) (Nat.mul_pos (by omega) hA) (fun k x => (linS x p * f + linS (fun j => x (p + j)) q * g).co (l + k)) (fun k x y _ => by
      rw [← Ser.sub_co]
      congr 1
      rw [linS_sub x y p, linS_sub (fun j => x (p + j)) (fun j => y (p + j)) q]
      grind) (fun k x H _ h => bb x H h _)
  refine ⟨linS x p, linS (fun j => x (p + j)) q, ?_, linS_far _ _, linS_far _ _, fun k => ?_, fun k => ?_, fun k hk => ?_, fun k => bb x _ h2 k⟩
  · by_cases q1 : j < p
    · left
      intro e
      have := linS_co x p j
      rw [if_pos q1, e, zero_co] at this
      exact hx this.symm
    · right
      intro e
      have := linS_co (fun j => x (p + j)) q (j - p)
      rw [if_pos (by omega), e, zero_co, show p + (j - p) = j by omega] at this
      exact hx this.symm
  · rw [linS_co]; split
    · exact h2 k (by omega)
    · exact Nat.zero_le _
  · rw [linS_co]; split
    · exact h2 (p + k) (by omega)
    · exact Nat.zero_le _
  · by_cases t : k < l + M
    · have := h1 (k - l) (by omega)
      rwa [show l + (k - l) = k by omega] at this
    · rw [Ser.add_co, hp k (by omega) x, hq k (by omega) fun j => x (p + j)]; rfl
end RR
namespace RR
def len (n : Nat) (f : Ser Rat) : Prop := far n f ∧ (n = 0 ∨ f.co (n - 1) ≠ 0)
theorem P.len {f : Ser Rat} {r : List Int} {d : Int} (h : P f r d) : RR.len r.length f := ⟨h.far, by
  by_cases q : r = []
  · exact .inl (by rw [q]; rfl)
  · exact .inr (h.top q).2⟩
theorem len.top {n : Nat} {f : Ser Rat} (h : len n f) (n0 : n ≠ 0) : RR.top (n - 1) f := ⟨by rw [show n - 1 + 1 = n by omega]; exact h.1, h.2.resolve_left n0⟩
theorem len.of_top {n : Nat} {f : Ser Rat} (h : RR.top n f) : len (n + 1) f := ⟨h.1, .inr h.2⟩
theorem len.zero {f : Ser Rat} : len 0 f ↔ f = 0 := ⟨fun h => far0 h.1, fun e => ⟨by rw [e]; exact far_zero, .inl rfl⟩⟩
theorem len.ne {n : Nat} {f : Ser Rat} (h : len n f) (n0 : n ≠ 0) : f ≠ 0 := top_ne (h.top n0)
theorem len.pos {n : Nat} {f : Ser Rat} (h : len n f) (f0 : f ≠ 0) : n ≠ 0 := fun e => by subst e; exact f0 (len.zero.mp h)
theorem len_of {n : Nat} {f : Ser Rat} (h : far n f) : ∃ k, k ≤ n ∧ len k f := by
  by_cases q : f = 0
  · exact ⟨0, Nat.zero_le _, len.zero.mpr q⟩
  · obtain ⟨k, hk, t⟩ := top_of h q
    exact ⟨k + 1, hk, len.of_top t⟩
theorem len.le {n k : Nat} {f : Ser Rat} (h : len n f) (h' : far k f) : n ≤ k := by
  by_cases q : n = 0
  · omega
  · have := top_lt (h.top q) h'
    omega
theorem len.uniq {n k : Nat} {f : Ser Rat} (h : len n f) (h' : len k f) : n = k := Nat.le_antisymm (h.le h'.1) (h'.le h.1)
theorem len.mul {n k : Nat} {f g : Ser Rat} (h : len n f) (h' : len k g) (n0 : n ≠ 0) (k0 : k ≠ 0) : len (n + k - 1) (f * g) := by
  have := len.of_top (top_mul dom_rat (h.top n0) (h'.top k0))
  rwa [show n - 1 + (k - 1) + 1 = n + k - 1 by omega] at this
theorem len.scale {n : Nat} {c : Rat} {f : Ser Rat} (c0 : c ≠ 0) (h : len n f) : len n (Ser.C c * f) := ⟨far_scale h.1, h.2.imp id fun z e => by
  rw [Ser.C_mul_co] at e
  rcases dom_rat _ _ e with e | e
  · exact c0 e
  · exact z e⟩
theorem len.sub {n : Nat} {f g : Ser Rat} (h : len (n + 1) f) (h' : far n g) : len (n + 1) (f - g) := ⟨far_sub h.1 (far_mono h' (by omega)), .inr fun e => by
  rw [show n + 1 - 1 = n from rfl, Ser.sub_co, h' n (Nat.le_refl _)] at e
  rcases h.2 with z | z
  · cases z
  · exact z (by rw [show n + 1 - 1 = n from rfl]; grind)⟩
structure Eu (f g : Ser Rat) (m n l0 l1 : Nat) (r0 u0 v0 r1 u1 v1 : Ser Rat) : Prop where
  lf : len m f
  lg : len n g
  n0 : n ≠ 0
  e0 : r0 = u0 * f + v0 * g
  e1 : r1 = u1 * f + v1 * g
  det : ∃ δ : Rat, δ ≠ 0 ∧ u0 * v1 - u1 * v0 = Ser.C δ
  t0 : len l0 r0
  t1 : len l1 r1
  l00 : l0 ≠ 0
  le : l1 ≤ l0
  lm : l0 ≤ m
  v1t : len (m + 1 - l0) v1
  v0f : far (m - l1) v0
  u1f : far (n + 1 - l0) u1
  u0f : far (n + 1 - l1) u0
theorem Eu.start {f g : Ser Rat} {m n : Nat} (lf : len m f) (lg : len n g) (n0 : n ≠ 0) (h : n ≤ m) : Eu f g m n m n f 1 0 g 0 1 :=
  ⟨lf, lg, n0, by grind, by grind, ⟨1, by decide, by rw [C_one]; grind⟩, lf, lg, by omega, h, Nat.le_refl _, by
    rw [show m + 1 - m = 1 by omega]
    exact ⟨far_one, .inr (by rw [one_co]; decide)⟩, far_zero, far_zero, by rw [show n + 1 - n = 1 by omega]; exact far_one⟩
theorem Eu.next {f g r0 u0 v0 r1 u1 v1 q r2 : Ser Rat} {m n l0 l1 N : Nat} {κ : Rat} (h : Eu f g m n l0 l1 r0 u0 v0 r1 u1 v1) (l10 : l1 ≠ 0) (κ0 : κ ≠ 0) (fq : far N q) (eq : r0 = q * r1 + r2) (fr : far (l1 - 1) r2) :
    ∃ l2, l2 < l1 ∧ Eu f g m n l1 l2 r1 u1 v1 (Ser.C κ * r2) (Ser.C κ * (u0 - q * u1)) (Ser.C κ * (v0 - q * v1)) := by
  obtain ⟨l2, h2, t2⟩ := len_of fr
  have hle := h.le
  have hlm := h.lm
  have hl0 := h.l00
  -- the quotient's length
  have lq : len (l0 - l1 + 1) q := by
    have e : r0 - r2 = q * r1 := by rw [eq]; grind
    have l1' : len l0 (q * r1) := by
      rw [← e, show l0 = l0 - 1 + 1 by omega]
      exact len.sub (by rw [show l0 - 1 + 1 = l0 by omega]; exact h.t0) (far_mono fr (by omega))
    obtain ⟨k, _, lk⟩ := len_of fq
    by_cases k0 : k = 0
    · subst k0
      rw [len.zero.mp lk, show (0 : Ser Rat) * r1 = 0 by grind] at l1'
      have := len.uniq l1' (len.zero.mpr rfl)
      omega
    · have := len.uniq l1' (lk.mul h.t1 k0 l10)
      rwa [show l0 - l1 + 1 = k by omega]
  refine ⟨l2, by omega, h.lf, h.lg, h.n0, h.e1, ?_, ?_, h.t1, t2.scale κ0, l10, by omega, by omega, ?_, ?_, ?_, ?_⟩
  · have a := h.e0
    have b := h.e1
    have : r2 = r0 - q * r1 := by rw [eq]; grind
    rw [this, a, b]; grind
  · obtain ⟨δ, d0, e⟩ := h.det
    refine ⟨κ * -δ, fun z => ?_, ?_⟩
    · rcases dom_rat _ _ z with z | z
      · exact κ0 z
      · exact d0 (by grind)
    · rw [C_mul, C_neg, ← e]; grind
  · refine len.scale κ0 ?_
    have l3 := lq.mul h.v1t (by omega) (by omega)
    have e : l0 - l1 + 1 + (m + 1 - l0) - 1 = m - l1 + 1 := by omega
    rw [e] at l3
    rw [show m + 1 - l1 = m - l1 + 1 by omega, show v0 - q * v1 = Ser.C (-1) * (q * v1 - v0) by rw [C_neg, C_one]; grind]
    exact (l3.sub h.v0f).scale (by decide)
  · exact far_mono h.v1t.1 (by omega)
  · refine far_scale (far_sub h.u0f ?_)
    by_cases z : n + 1 - l0 = 0
    · have : u1 = 0 := far0 (by rw [← z]; exact h.u1f)
      rw [this, show q * (0 : Ser Rat) = 0 by grind]; exact far_zero
    · exact far_mono (far_mul lq.1 h.u1f) (by omega)
  · exact far_mono h.u1f (by omega)
theorem Eu.alone {f g r0 u0 v0 r1 u1 v1 U V : Ser Rat} {m n l0 l1 : Nat} (h : Eu f g m n l0 l1 r0 u0 v0 r1 u1 v1) (lt : l1 < l0) (fU : far (n + 1 - l0) U) (fV : far (m + 1 - l0) V) (ne : U ≠ 0 ∨ V ≠ 0) (fr : far (l0 - 1) (U * f + V * g)) :
    ∃ β : Rat, β ≠ 0 ∧ U = Ser.C β * u1 ∧ V = Ser.C β * v1 ∧ U * f + V * g = Ser.C β * r1 := by
  have hlm := h.lm
  have D0 : U * v1 = u1 * V := by
    by_cases z : n + 1 - l0 = 0
    · have a : u1 = 0 := far0 (by rw [← z]; exact h.u1f)
      have b : U = 0 := far0 (by rw [← z]; exact fU)
      rw [a, b]; grind
    · have e : (U * v1 - u1 * V) * g = U * r1 - u1 * (U * f + V * g) := by rw [h.e1]; grind
      have f1 : far (n - 1) ((U * v1 - u1 * V) * g) := by
        rw [e]
        exact far_sub (far_mono (far_mul fU h.t1.1) (by omega)) (far_mono (far_mul h.u1f fr) (by omega))
      have f2 : far (n + 1 - l0 + (m + 1 - l0)) (U * v1 - u1 * V) := far_sub (far_mono (far_mul fU h.v1t.1) (by omega)) (far_mono (far_mul h.u1f fV) (by omega))
      by_cases q : U * v1 - u1 * V = 0
      · have : U * v1 = U * v1 - u1 * V + u1 * V := by grind
        rw [this, q]; grind
      · obtain ⟨k, _, tk⟩ := top_of f2 q
        have := top_lt (top_mul dom_rat tk (h.lg.top h.n0)) f1
        omega
  obtain ⟨δ, d0, ed⟩ := h.det
  have e1 : Ser.C δ * V = v1 * (u0 * V - U * v0) := by
    rw [← ed]
    have : (u0 * v1 - u1 * v0) * V = u0 * v1 * V - v0 * (u1 * V) := by grind
    rw [this, ← D0]; grind
  have e2 : Ser.C δ * U = u1 * (u0 * V - U * v0) := by
    rw [← ed]
    have : (u0 * v1 - u1 * v0) * U = u0 * (U * v1) - v0 * u1 * U := by grind
    rw [this, D0]; grind
  have ci := C_inv d0
  have w0 : u0 * V - U * v0 ≠ 0 := fun z => by
    rw [z] at e1 e2
    have a : V = 0 := Cq_cancel d0 (by rw [e1]; grind)
    have b : U = 0 := Cq_cancel d0 (by rw [e2]; grind)
    rcases ne with ne | ne
    · exact ne b
    · exact ne a
  obtain ⟨k, _, tk⟩ := top_of (n := n + 1 - l1 + (m + 1 - l0) + (n + 1 - l0 + (m - l1))) (far_sub (far_mono (far_mul h.u0f fV) (by omega)) (far_mono (far_mul fU h.v0f) (by omega))) w0
  have k0 : k = 0 := by
    have a := top_mul dom_rat (h.v1t.top (by omega)) tk
    rw [← e1] at a
    have := top_lt a (far_scale fV)
    omega
  subst k0
  obtain ⟨b, hb⟩ : ∃ b : Rat, b = (u0 * V - U * v0).co 0 := ⟨_, rfl⟩
  have ew : u0 * V - U * v0 = Ser.C b := Ser.ext fun j => by
    rw [Ser.C_co]
    by_cases j0 : j = 0
    · rw [if_pos j0, j0, hb]
    · rw [if_neg j0]; exact tk.1 j (by omega)
  rw [ew] at e1 e2
  have b0 : b ≠ 0 := by rw [hb]; exact tk.2
  have eU : U = Ser.C (b * δ⁻¹) * u1 := Cq_cancel d0 (by rw [e2, C_mul]; grind)
  have eV : V = Ser.C (b * δ⁻¹) * v1 := Cq_cancel d0 (by rw [e1, C_mul]; grind)
  refine ⟨b * δ⁻¹, fun z => ?_, eU, eV, ?_⟩
  · rcases dom_rat _ _ z with z | z
    · exact b0 z
    · have : δ * δ⁻¹ = 1 := Rat.mul_inv_cancel _ d0
      rw [z] at this
      grind
  · rw [h.e1]
    generalize Ser.C (b * δ⁻¹) = z at eU eV ⊢
    rw [eU, eV]; grind
theorem Eu.ends {f g r0 u0 v0 u1 v1 : Ser Rat} {m n l0 l1 : Nat} (h : Eu f g m n l0 l1 r0 u0 v0 0 u1 v1) : ∃ δ : Rat, δ ≠ 0 ∧ Ser.C δ * f = v1 * r0 ∧ Ser.C δ * g = -u1 * r0 := by
  obtain ⟨δ, d0, ed⟩ := h.det
  have e1 := h.e1
  have e0 := h.e0
  refine ⟨δ, d0, ?_, ?_⟩
  · rw [← ed, e0]
    have : v1 * (u0 * f + v0 * g) = (u0 * v1 - u1 * v0) * f + v0 * (u1 * f + v1 * g) := by grind
    rw [this, ← e1]; grind
  · rw [← ed, e0]
    have : -u1 * (u0 * f + v0 * g) = (u0 * v1 - u1 * v0) * g - u0 * (u1 * f + v1 * g) := by grind
    rw [this, ← e1]; grind
end RR
namespace RR
open PySem PySem.Spec PyProof.Rows L2
def Rp (n a : Nat) (f : Ser Rat) : Prop := ∃ (e : Int) (s : Ser Int), e ≠ 0 ∧ Ser.C (e : Rat) * f = qs s ∧ B n a s ∧ bd a e
section
variable {n a k b n' : Nat} {f g : Ser Rat} {r G : List Int} {d e : Int}
theorem Rp.pb (h : Rp n a f) (hP : P f r d) : PB n a r d := by
  obtain ⟨e, s, e0, eq, hB, be⟩ := h
  obtain ⟨xs, lx, ex⟩ := row_of (f := s) hB.far
  refine hP.PB e0 (by rw [eq, ex]) (by omega) (fun x hx => ?_) be
  obtain ⟨i, hi, rfl⟩ := List.mem_iff_getElem.mp hx
  have := hB.bd i
  rw [← ex, ser_co, List.getD_eq_getElem?_getD, List.getElem?_eq_getElem hi] at this
  exact this
theorem P.rp (hf : P f r d) (pf : RR.PB n a r d) : Rp n a f := ⟨d, ser r, by have := hf.pos; omega, hf.eq, B.of pf.ln pf.bd, pf.dd⟩
theorem Rp.far (h : Rp n a f) : RR.far n f := fun k hk => by
  obtain ⟨e, s, e0, eq, hB, _⟩ := h
  have := congrArg (fun f => Ser.co f k) eq
  simp only [Ser.C_mul_co, qs_co] at this
  rw [hB.far k hk] at this
  have z : (e : Rat) * f.co k = 0 := this
  exact (dom_rat _ _ z).resolve_left (cne e0)
theorem Rp.ex (h : Rp n a f) : ∃ r d, P f r d := by
  obtain ⟨e, s, e0, eq, hB, be⟩ := h
  obtain ⟨xs, lx, ex⟩ := row_of (f := s) hB.far
  exact ⟨_, _, low_P e0 (strip_done xs) (by rw [ser_strip, ex]; exact eq)⟩
theorem Rp.cong (h : Rp n a f) (e : f = g) : Rp n a g := e ▸ h
theorem Rp.mono (h : Rp n a f) (hn : n ≤ n') (ha : a ≤ b) : Rp n' b f := by
  obtain ⟨e, s, e0, eq, hB, be⟩ := h
  exact ⟨e, s, e0, eq, hB.mono hn ha, bd_mono be ha⟩
theorem Rp.mul (h : Rp n a f) (h' : Rp k b g) : Rp (n + k - 1) (a + b + n) (f * g) := by
  obtain ⟨e, s, e0, eq, hB, be⟩ := h
  obtain ⟨e', s', e0', eq', hB', be'⟩ := h'
  refine ⟨e * e', s * s', Int.mul_ne_zero e0 e0', ?_, ⟨far_mul hB.far hB'.far, (hB.mul hB').bd⟩, bd_mono (bd_mul be be') (by omega)⟩
  rw [qs_mul, ← eq, ← eq', Rat.intCast_mul, C_mul]
  grind
theorem Rp.one : Rp 1 1 1 := ⟨1, 1, by decide, by rw [qs_one, show ((1 : Int) : Rat) = 1 from rfl, C_one]; grind, by rw [← C_one]; exact B.C (bd_lit (by decide)), bd_lit (by decide)⟩
theorem Rp.pow (h : Rp n a f) (hn : 1 ≤ n) : ∀ j : Nat, Rp (j * (n - 1) + 1) (j * (a + n) + 1) (f ^ j)
  | 0 => by rw [Lean.Grind.Semiring.pow_zero]; exact Rp.one.mono (by omega) (by omega)
  | j + 1 => by
    rw [Lean.Grind.Semiring.pow_succ]
    refine (h.mul (h.pow hn j)).cong (by grind) |>.mono ?_ ?_
    · rw [Nat.succ_mul]; omega
    · rw [Nat.succ_mul]; omega
structure Dq (f g : Ser Rat) (l a c : Nat) (q t : Ser Rat) : Prop where
  eq : f = q * g + t
  ex : ∃ (E : Int) (S T : Ser Int), E ≠ 0 ∧ Ser.C (E : Rat) * t = qs S ∧ Ser.C (E : Rat) * q = qs T ∧ B l a S ∧ B c a T ∧ bd a E
theorem Dq.rest {l c : Nat} {q t : Ser Rat} (h : Dq f g l a c q t) : Rp l a t := by
  obtain ⟨E, S, T, e0, e1, e2, b1, b2, b3⟩ := h.ex
  exact ⟨E, S, e0, e1, b1, b3⟩
theorem Dq.start (h : Rp n a f) (c : Nat) : Dq f g n a c 0 f := by
  obtain ⟨e, s, e0, eq, hB, be⟩ := h
  refine ⟨by grind, e, s, 0, e0, eq, ?_, hB, B.zero, be⟩
  rw [qs_zero]; grind
theorem Dq.next {l c : Nat} {q t : Ser Rat} (h : Dq f g l a c q t) (hg : P g G e) (pg : PB n' b G e) (G0 : G ≠ []) (hl : G.length ≤ l) (hc : l ≤ c) :
    Dq f g (l - 1) (a + b + 1) c (q + Ser.C (t.co (l - 1) / g.co (G.length - 1)) * xp (l - G.length)) (t - Ser.C (t.co (l - 1) / g.co (G.length - 1)) * xp (l - G.length) * g) := by
  obtain ⟨eq, E, S, T, E0, e1, e2, bS, bT, bE⟩ := h
  have L0 := List.length_pos_iff.mpr G0
  have last : G.getD (G.length - 1) 0 ≠ 0 := done_last hg.dn G0
  have gl := hg.get (G.length - 1)
  have tl : (E : Rat) * t.co (l - 1) = (S.co (l - 1) : Rat) := by
    have := congrArg (fun f => Ser.co f (l - 1)) e1
    simpa only [Ser.C_mul_co, qs_co] using this
  have bl : bd b (G.getD (G.length - 1) 0) := (B.of (Nat.le_refl _) pg.bd).bd (G.length - 1)
  generalize hc1 : G.getD (G.length - 1) 0 = c1 at *
  have e0 : (e : Rat) ≠ 0 := hg.dq
  have g0 : g.co (G.length - 1) ≠ 0 := fun z => by rw [z] at gl; exact cne last (by rw [← gl]; grind)
  generalize hs : t.co (l - 1) / g.co (G.length - 1) = s
  -- s times (E * c1) is a whole number
  have key : ((E * c1 : Int) : Rat) * s = ((S.co (l - 1) * e : Int) : Rat) := by
    have : s * g.co (G.length - 1) = t.co (l - 1) := by rw [← hs]; exact Rat.div_mul_cancel g0
    rw [Rat.intCast_mul, Rat.intCast_mul, ← tl, ← gl, ← this]
    grind
  have nE : E * c1 ≠ 0 := Int.mul_ne_zero E0 last
  refine ⟨by rw [eq]; grind, E * c1, Ser.C c1 * S - Ser.C (S.co (l - 1)) * (xp (l - G.length) * ser G), Ser.C c1 * T + Ser.C (S.co (l - 1)) * (Ser.C e * xp (l - G.length)), nE, ?_, ?_, ?_, ?_, bd_mono (bd_mul bE bl) (by omega)⟩
  · rw [qs_sub, qs_mul, qs_mul, qs_C, qs_C, qs_mul, qs_xp, ← e1, ← hg.eq]
    have k2 : Ser.C ((E * c1 : Int) : Rat) * Ser.C s = Ser.C (S.co (l - 1) : Rat) * Ser.C (e : Rat) := by rw [← C_mul, key, Rat.intCast_mul, C_mul]
    have k3 : Ser.C ((E * c1 : Int) : Rat) = Ser.C (E : Rat) * Ser.C (c1 : Rat) := by rw [Rat.intCast_mul, C_mul]
    calc Ser.C ((E * c1 : Int) : Rat) * (t - Ser.C s * xp (l - G.length) * g) = Ser.C ((E * c1 : Int) : Rat) * t - (Ser.C ((E * c1 : Int) : Rat) * Ser.C s) * (xp (l - G.length) * g) := by grind
      _ = _ := by rw [k2, k3]; grind
  · rw [qs_add, qs_mul, qs_mul, qs_C, qs_C, qs_mul, qs_C, qs_xp, ← e2]
    have k2 : Ser.C ((E * c1 : Int) : Rat) * Ser.C s = Ser.C (S.co (l - 1) : Rat) * Ser.C (e : Rat) := by rw [← C_mul, key, Rat.intCast_mul, C_mul]
    have k3 : Ser.C ((E * c1 : Int) : Rat) = Ser.C (E : Rat) * Ser.C (c1 : Rat) := by rw [Rat.intCast_mul, C_mul]
    calc Ser.C ((E * c1 : Int) : Rat) * (q + Ser.C s * xp (l - G.length)) = Ser.C ((E * c1 : Int) : Rat) * q + (Ser.C ((E * c1 : Int) : Rat) * Ser.C s) * xp (l - G.length) := by grind
      _ = _ := by rw [k2, k3]; grind
  · have b1 : B l (a + b) (Ser.C c1 * S) := (bS.scale bl).mono (Nat.le_refl _) (by omega)
    have b2 : B l (a + b) (Ser.C (S.co (l - 1)) * (xp (l - G.length) * ser G)) := ((B.of (n := G.length) (Nat.le_refl _) pg.bd).shift.scale (bS.bd (l - 1))).mono (by omega) (by omega)
    have b3 := b1.sub' b2
    refine ⟨fun k hk => ?_, b3.bd⟩
    by_cases h : l ≤ k
    · exact b3.far k h
    · obtain rfl : k = l - 1 := by omega
      rw [Ser.sub_co, Ser.C_mul_co, Ser.C_mul_co, xp_mul_co, if_pos (by omega), show l - 1 - (l - G.length) = G.length - 1 by omega, ser_co, hc1]
      grind
  · have b1 : B c (a + b) (Ser.C c1 * T) := (bT.scale bl).mono (Nat.le_refl _) (by omega)
    have b2 : B c (a + b) (Ser.C (S.co (l - 1)) * (Ser.C e * xp (l - G.length))) := by
      refine ⟨fun k hk => ?_, fun k => ?_⟩
      · rw [Ser.C_mul_co, Ser.C_mul_co, xp_co, if_neg (by omega)]; simp
      · rw [Ser.C_mul_co, Ser.C_mul_co, xp_co]
        split
        · rw [Int.mul_one]; exact bd_mul (bS.bd _) pg.dd
        · rw [Int.mul_zero, Int.mul_zero]; exact bd0
    exact b1.add' b2
theorem Dq.mono {l l' c a' : Nat} {q t : Ser Rat} (h : Dq f g l a c q t) (hl : l ≤ l') (ha : a ≤ a') : Dq f g l' a' c q t := by
  obtain ⟨eq, E, S, T, E0, e1, e2, bS, bT, bE⟩ := h
  exact ⟨eq, E, S, T, E0, e1, e2, bS.mono hl ha, bT.mono (Nat.le_refl _) ha, bd_mono bE ha⟩
theorem Rp.rest (hg : P g G e) (pg : PB n' b G e) (G0 : G ≠ []) : ∀ (k : Nat) {l a c : Nat} {q t : Ser Rat}, Dq f g l a c q t → l ≤ c → l = G.length - 1 + k → ∃ q' t', Dq f g (G.length - 1) (a + k * (b + 1)) c q' t'
  | 0, l, a, c, q, t, h, _, hk => ⟨q, t, h.mono (by omega) (by omega)⟩
  | k + 1, l, a, c, q, t, h, hc, hk => by
    have L0 := List.length_pos_iff.mpr G0
    obtain ⟨q', t', h'⟩ := Rp.rest hg pg G0 k (h.next hg pg G0 (by omega) hc) (by omega) (by omega)
    exact ⟨q', t', h'.mono (Nat.le_refl _) (by rw [Nat.succ_mul]; omega)⟩
end
end RR
namespace RR
def Sz (k b : Nat) (u v x : Ser Rat) : Prop := ∃ (γ : Int) (U V W : Ser Int), γ ≠ 0 ∧ Ser.C (γ : Rat) * u = qs U ∧ Ser.C (γ : Rat) * v = qs V ∧ Ser.C (γ : Rat) * x = qs W ∧ B 5 k U ∧ B 5 k V ∧ B 8 b W ∧ bd b γ
theorem den_mul (κ : Rat) : κ * ((κ.den : Int) : Rat) = (κ.num : Rat) := by
  have a : (κ.num : Rat) / ((κ.den : Int) : Rat) = κ := by rw [← Rat.divInt_eq_div, Rat.num_divInt_den]
  have d0 : ((κ.den : Int) : Rat) ≠ 0 := cne (by have := κ.den_nz; omega)
  have b : (κ.num : Rat) / ((κ.den : Int) : Rat) * ((κ.den : Int) : Rat) = (κ.num : Rat) := Rat.div_mul_cancel d0
  rwa [a] at b
theorem plain_whole {x : Ser Rat} {T : List Int} {κ : Rat} {W : Ser Int} (h : P x T 1) (g : gcdL T = 1) (e : Ser.C κ * x = qs W) : ∃ γ : Int, κ = (γ : Rat) ∧ ∀ k, γ * T.getD k 0 = W.co k := by
  have e1 : ∀ k, (κ.den : Int) * W.co k = κ.num * T.getD k 0 := fun k => by
    have a := congrArg (fun f => Ser.co f k) e
    have b := h.get k
    simp only [Ser.C_mul_co, qs_co] at a
    rw [show (((1 : Int)) : Rat) = 1 from rfl] at b
    have b : x.co k = ((T.getD k 0 : Int) : Rat) := by rw [← b]; grind
    rw [b] at a
    refine Rat.intCast_inj.mp ?_
    rw [Rat.intCast_mul, Rat.intCast_mul, ← a]
    rw [← den_mul κ]; grind
  have dv : (κ.den : Int) ∣ κ.num := dvd_of_all (r := T) (by rw [g]; simp) fun t ht => by
    obtain ⟨i, hi, rfl⟩ := List.mem_iff_getElem.mp ht
    have := e1 i
    rw [List.getD_eq_getElem?_getD, List.getElem?_eq_getElem hi] at this
    exact ⟨W.co i, by rw [this]; exact Int.mul_comm ..⟩
  have d1 : κ.den = 1 := by
    have a : κ.den ∣ κ.num.natAbs := by simpa using Int.natAbs_dvd_natAbs.mpr dv
    exact Nat.Coprime.eq_one_of_dvd κ.reduced.symm a
  refine ⟨κ.num, ?_, fun k => ?_⟩
  · have := den_mul κ
    rw [d1] at this
    rw [← this, show (((1 : Nat) : Int) : Rat) = 1 from rfl]; grind
  · have := e1 k
    rw [d1] at this
    rw [← this]; simp
theorem bd_le {n x : Nat} {i : Int} (h : i.natAbs ≤ 2 ^ n) (l : n < x) : bd x i := Nat.lt_of_le_of_lt h (Nat.pow_lt_pow_right (by decide) l)
theorem Eu.cap {f g r0 u0 v0 r1 u1 v1 c : Ser Rat} {m n l0 l1 a b k : Nat} {F G W0 : Ser Int} {d e w : Int} {T : List Int} (h : Eu f g m n l0 l1 r0 u0 v0 r1 u1 v1) (lt : l1 < l0) (l10 : l1 ≠ 0) (hm : m ≤ 5) (hn : n ≤ 5)
    (hF : Ser.C (d : Rat) * f = qs F) (d0 : d ≠ 0) (bF : B 5 a F) (hG : Ser.C (e : Rat) * g = qs G) (ez : e ≠ 0) (bG : B 5 a G) (hW : Ser.C (w : Rat) * c = qs W0) (w0 : w ≠ 0) (bW : B 4 b W0) (hT : P (c * r1) T 1) (gT : gcdL T = 1) (bdw : bd k (d * w)) (bew : bd k (e * w)) :
    Sz (k + ((a + 4) * (11 - 2 * l0) + 1)) (b + (a + 4) * (12 - 2 * l0) + 4) u1 v1 (c * r1) := by
  have hlm := h.lm
  obtain ⟨M, hM⟩ : ∃ M, M = (n + 1 - l0) + (m + 1 - l0) - 1 := ⟨_, rfl⟩
  have farF : far m F := far_qs (by rw [← hF]; exact far_scale h.lf.1)
  have farG : far n G := far_qs (by rw [← hG]; exact far_scale h.lg.1)
  obtain ⟨U, V, ne, fU, fV, bU, bV, fR, bR⟩ := short (f := F) (g := G) (A := 2 ^ a) (l := l0 - 1) (M := M) (p := n + 1 - l0) (q := m + 1 - l0) (fun j => Nat.le_of_lt (bF.bd j)) (fun j => Nat.le_of_lt (bG.bd j)) (Nat.pow_pos (by decide)) (by omega)
    (fun j hj x => mul_far (linS_far x _) farF j (by omega)) (fun j hj x => mul_far (linS_far x _) farG j (by omega))
  have M8 : M + 1 ≤ 12 - 2 * l0 := by omega
  have M8' : M ≤ 11 - 2 * l0 := by omega
  have A3 : (M + 1) * 2 ^ a ≤ 2 ^ (a + 3) := by
    rw [Nat.pow_add, Nat.mul_comm (2 ^ a)]
    exact Nat.mul_le_mul_right _ (by omega)
  have A4 : 2 * ((M + 1) * 2 ^ a) ≤ 2 ^ (a + 4) := by
    have : 2 ^ (a + 4) = 2 * 2 ^ (a + 3) := by rw [show a + 4 = a + 3 + 1 from rfl, Nat.pow_succ, Nat.mul_comm]
    rw [this]
    exact Nat.mul_le_mul_left _ A3
  have AM : (2 * ((M + 1) * 2 ^ a)) ^ M ≤ 2 ^ ((a + 4) * M) := by
    rw [Nat.pow_mul]; exact Nat.pow_le_pow_left A4 M
  have m1 : (a + 4) * M ≤ (a + 4) * (11 - 2 * l0) := Nat.mul_le_mul_left _ M8'
  have m2 : (a + 4) * M + (a + 4) ≤ (a + 4) * (12 - 2 * l0) := by rw [← Nat.mul_succ]; exact Nat.mul_le_mul_left _ M8
  have BU : B 5 ((a + 4) * (11 - 2 * l0) + 1) U := ⟨far_mono fU (by omega), fun j => bd_le (Nat.le_trans (bU j) AM) (by omega)⟩
  have BV : B 5 ((a + 4) * (11 - 2 * l0) + 1) V := ⟨far_mono fV (by omega), fun j => bd_le (Nat.le_trans (bV j) AM) (by omega)⟩
  have BR : B 4 ((a + 4) * (12 - 2 * l0)) (U * F + V * G) := ⟨far_mono fR (by omega), fun j => bd_le (Nat.le_trans (bR j) (by
    have := Nat.mul_le_mul A3 AM
    rwa [← Nat.pow_add] at this)) (by omega)⟩
  have dq := cne d0
  have eq := cne ez
  have wq := cne w0
  have hsum : Ser.C (d : Rat) * qs U * f + Ser.C (e : Rat) * qs V * g = qs (U * F + V * G) := by
    rw [qs_add, qs_mul, qs_mul, ← hF, ← hG]; grind
  obtain ⟨β, β0, e1, e2, e3⟩ := h.alone lt (U := Ser.C (d : Rat) * qs U) (V := Ser.C (e : Rat) * qs V) (far_scale (qs_far fU)) (far_scale (qs_far fV)) (by
    rcases ne with ne | ne
    · exact .inl fun z => ne (qs_inj (by rw [qs_zero]; exact Cq_cancel dq (by rw [z]; grind)))
    · exact .inr fun z => ne (qs_inj (by rw [qs_zero]; exact Cq_cancel eq (by rw [z]; grind)))) (by rw [hsum]; exact qs_far fR)
  have eT : Ser.C (β * w) * (c * r1) = qs (W0 * (U * F + V * G)) := by
    rw [C_mul, qs_mul, ← hW, ← hsum, e3]; grind
  obtain ⟨γ, hγ, hk⟩ := plain_whole hT gT eT
  have γ0 : γ ≠ 0 := fun z => by
    rw [z] at hγ
    rcases dom_rat _ _ hγ with t | t
    · exact β0 t
    · exact wq t
  have bWR : B 8 (b + (a + 4) * (12 - 2 * l0) + 4) (W0 * (U * F + V * G)) := (bW.mul BR).mono (by omega) (Nat.le_refl _)
  refine ⟨γ, Ser.C (d * w) * U, Ser.C (e * w) * V, W0 * (U * F + V * G), γ0, ?_, ?_, ?_, B.scale bdw BU, B.scale bew BV, bWR, ?_⟩
  · rw [← hγ, C_mul, qs_mul, qs_C, Rat.intCast_mul, C_mul]
    calc _ = Ser.C (w : Rat) * (Ser.C β * u1) := by grind
      _ = Ser.C (w : Rat) * (Ser.C (d : Rat) * qs U) := by rw [e1]
      _ = _ := by grind
  · rw [← hγ, C_mul, qs_mul, qs_C, Rat.intCast_mul, C_mul]
    calc _ = Ser.C (w : Rat) * (Ser.C β * v1) := by grind
      _ = Ser.C (w : Rat) * (Ser.C (e : Rat) * qs V) := by rw [e2]
      _ = _ := by grind
  · rw [← hγ]; exact eT
  · -- some number of the plain row is not nought
    have T0 : T ≠ [] := fun z => by rw [z] at gT; exact absurd gT (by decide)
    obtain ⟨t, ht⟩ : ∃ t, t = T.getD (T.length - 1) 0 := ⟨_, rfl⟩
    have tz : t ≠ 0 := by rw [ht]; exact done_last hT.dn T0
    have a := bWR.bd (T.length - 1)
    rw [← hk, ← ht] at a
    unfold bd at *
    rw [Int.natAbs_mul] at a
    exact Nat.lt_of_le_of_lt (Nat.le_mul_of_pos_right _ (by omega)) a
theorem Sz.u {k b : Nat} {u v x : Ser Rat} (h : Sz k b u v x) : Rp 5 (max k b) u := by
  obtain ⟨γ, U, V, W, g0, e1, e2, e3, b1, b2, b3, b4⟩ := h
  exact ⟨γ, U, g0, e1, b1.mono (Nat.le_refl _) (Nat.le_max_left ..), bd_mono b4 (Nat.le_max_right ..)⟩
theorem Sz.v {k b : Nat} {u v x : Ser Rat} (h : Sz k b u v x) : Rp 5 (max k b) v := by
  obtain ⟨γ, U, V, W, g0, e1, e2, e3, b1, b2, b3, b4⟩ := h
  exact ⟨γ, V, g0, e2, b2.mono (Nat.le_refl _) (Nat.le_max_left ..), bd_mono b4 (Nat.le_max_right ..)⟩
theorem Sz.x {k b : Nat} {u v x : Ser Rat} (h : Sz k b u v x) : Rp 8 b x := by
  obtain ⟨γ, U, V, W, g0, e1, e2, e3, b1, b2, b3, b4⟩ := h
  exact ⟨γ, W, g0, e3, b3, b4⟩
theorem Sz.over {k b : Nat} {u v x : Ser Rat} {l : Rat} {j : Nat} (h : Sz k b u v x) (hl : l = x.co j) (l0 : l ≠ 0) : Sz k b (Ser.C l⁻¹ * u) (Ser.C l⁻¹ * v) (Ser.C l⁻¹ * x) := by
  obtain ⟨γ, U, V, W, g0, e1, e2, e3, b1, b2, b3, b4⟩ := h
  have ew : (γ : Rat) * l = (W.co j : Rat) := by
    have := congrArg (fun f => Ser.co f j) e3
    simp only [Ser.C_mul_co, qs_co] at this
    rw [hl]; exact this
  have li := C_inv l0
  refine ⟨W.co j, U, V, W, fun z => ?_, ?_, ?_, ?_, b1, b2, b3, b3.bd j⟩
  · rw [z] at ew
    rcases dom_rat _ _ ew with t | t
    · exact cne g0 t
    · exact l0 t
  all_goals rw [← ew, C_mul]
  · rw [← e1]; grind
  · rw [← e2]; grind
  · rw [← e3]; grind
end RR
namespace RR
open PySem PySem.Spec PyProof.Rows L2
structure Dr (n : Nat) (r : List Int) (d : Int) : Prop where
  ln : r.length ≤ n
  bd : ∀ x ∈ r, RR.bd 200 x
  dd : RR.bd 10 d
theorem Dr.pb {n : Nat} {r : List Int} {d : Int} (h : Dr n r d) : PB n 200 r d := ⟨h.ln, h.bd, bd_mono h.dd (by decide)⟩
def Pr2 (f g : Ser Rat) : Prop := ∃ (f1 g1 c : Ser Rat) (F G W : List Int) (d e w : Int), P f1 F d ∧ P g1 G e ∧ P c W w ∧ Dr 5 F d ∧ Dr 5 G e ∧ Dr 4 W w ∧ f = c * f1 ∧ g = c * g1
theorem Dr.one : Dr 4 [1] 1 := ⟨by decide, by intro x hx; rw [List.mem_singleton.mp hx]; exact bd_lit (by decide), bd_lit (by decide)⟩
theorem Pr2.sizes {f g : Ser Rat} {r r' : List Int} {d d' : Int} (h : Pr2 f g) (hf : P f r d) (hg : P g r' d') : PB 9 404 r d ∧ PB 9 404 r' d' := by
  obtain ⟨f1, g1, c, F, G, W, d1, e1, w, p1, p2, p3, q1, q2, q3, rfl, rfl⟩ := h
  exact ⟨(PB.prod hf p3 p1 q3.pb q1.pb).mono (by decide) (by decide), (PB.prod hg p3 p2 q3.pb q2.pb).mono (by decide) (by decide)⟩
end RR
namespace RR
open PySem PySem.Spec PyProof.Rows L2
noncomputable def kv (H0 : Hp) (Pr : Addr → Prop) (H : Hp) : Hp := vw (fun a o => ¬ (IsL o ∧ ¬ Pr a ∧ H0 a = none)) H
theorem kv_le {H0 : Hp} {Pr : Addr → Prop} {H : Hp} {a : Addr} {o : HO} (h : kv H0 Pr H a = some o) : H a = some o := (vw_iff.mp h).1
theorem kv_none {H0 : Hp} {Pr : Addr → Prop} {H : Hp} {a : Addr} (h : kv H0 Pr H a = none) : H a = none ∨ ∃ o, H a = some o ∧ IsL o ∧ ¬ Pr a ∧ H0 a = none := by
  cases e : H a with
  | none => exact .inl rfl
  | some o =>
    refine .inr ⟨o, rfl, ?_⟩
    refine Classical.byContradiction fun n => ?_
    have := (vw_iff (p := fun a o => ¬ (IsL o ∧ ¬ Pr a ∧ H0 a = none)) (H := H) (a := a) (o := o)).mpr ⟨e, n⟩
    unfold kv at h
    rw [h] at this; cases this
def spK (K : PySem.W.Frag) (mg : Str → Option Value) (W : Wd) (sp : DSp W.M) : L2.Sp := fun vs H Q E => ∃ V F m ds Qd Zd, (∀ a o, V a = some o → H a = some o) ∧ W.Rz m F H ∧ DnA true K F (sv V (· ∈ F) H) vs ds ∧ sp ds m Qd Zd ∧
  (∀ v H' F' d m', W.Rz m' F' H' → (∃ G, F' = F ++ G) → (∀ a ∈ F', a ∉ F → H a = none) → (∀ a o, a ∉ F → H a = some o → H' a = some o) → Dn true K F' (sv V (· ∈ F') H') v d → Qd d m' → Q v H') ∧
  (∀ x cls H' F' m', mg x = some cls → W.Rz m' F' H' → (∃ G, F' = F ++ G) → (∀ a ∈ F', a ∉ F → H a = none) → (∀ a o, a ∉ F → H a = some o → H' a = some o) → Zd x m' → E cls none H')
def FDK (P : Program) (w : World) (K : PySem.W.Frag) (mg : Str → Option Value) (base : Heap) (W : Wd) (k : Nat) (x : Str) (sp : DSp W.M) : Prop :=
  ∃ f fd ps, FnG P w K mg base (L2.CX P w) k f fd ps (spK K mg W sp) ∧ mg x = some (.ref f) ∧ PySem.W.keepIn K (.ref f) = true ∧ Binds K fd ps []
section
variable {X : Cx} {C : Cn} {e : Expr} {es : List Expr} {pos : Pos}
theorem j_callK {x : Str} {k : Nat} {sp : DSp C.W.M} {ta : DTA C.W.M} {p : Pos} (h : FDK X.prog X.w X.K X.mg X.base C.W k x sp) (hr : RoomG k X.A) (tk : Takes X C.wx) (hg : Gl X x) (ha : JA .s X C (e :: es) ta)
    (hdb : (x == ("__debug__" : Str)) = false := by decide) (he : starEach (e :: es) X.env = (false, eval e X.env) :: starEach es X.env := by rfl) (hpl : (backTo pos (starEach es X.env)).any (·.1) = false := by rfl) :
    J .s X C (.Call (.Name x p) (e :: es) [] pos) (dCall sp [] ta) := by
  obtain ⟨f, fd, ps, G, hm, hk, hb⟩ := h
  obtain ⟨te, pa, q⟩ := ha
  refine ⟨_, pe_callG (E := fun σ cls d H' => C.wx cls d σ H') G hr hg hm hk hb .nil (fun σ => passAt tk σ) pa hdb he hpl, fun σ H Pr F ρ m Q Z R S E h k => ?_⟩
  refine q σ H Pr F ρ m _ Z _ S E h fun vs H1 ⟨P1, F1, m1, ds1, S1, t1, dv, z⟩ => ?_
  have dv : DnA true X.K F1 (sv C.H0 P1 H1) vs ds1 := dv
  have z : sp (ds1 ++ []) m1 Q Z := z
  rw [List.append_nil] at z
  have inn : ∀ a o, sv C.H0 P1 H1 a = some o → sv (kv C.H0 P1 H1) (· ∈ F1) H1 a = some o := fun a o h => by
    obtain ⟨e, q⟩ := vw_iff.mp h
    refine vw_iff.mpr ⟨e, q.imp id fun q => ⟨q.1, fun z => q.2.1 (S1.prf a z), ?_⟩⟩
    cases ev : kv C.H0 P1 H1 a with
    | none => rfl
    | some o' =>
      obtain ⟨e', n⟩ := vw_iff.mp ev
      rw [e] at e'; cases e'
      exact absurd q n
  refine ⟨kv C.H0 P1 H1, F1, m1, ds1, Q, Z, fun a o => kv_le, S1.rz, (by rw [List.append_nil]; exact dv.mono ⟨[], by simp⟩ inn), z, fun v H' F' d m' rz pre fr kp dn q => ?_, fun x cls H' F' m' hx rz pre fr kp z => ?_⟩
  · obtain ⟨S2, t2⟩ := S1.turned rz pre fr kp
    have up : ∀ a o, sv (kv C.H0 P1 H1) (· ∈ F') H' a = some o → sv C.H0 (fun a => P1 a ∨ a ∈ F') H' a = some o := fun a o h => by
      obtain ⟨e, q⟩ := vw_iff.mp h
      refine vw_iff.mpr ⟨e, q.imp id fun q => ⟨q.1, ?_⟩⟩
      rcases kv_none q.2.2 with z | ⟨_, _, _, np, h0⟩
      · exact ⟨fun y => y.elim (S1.np z) q.2.1, S1.h0n z⟩
      · exact ⟨fun y => y.elim np q.2.1, h0⟩
    exact k v H' ⟨_, F', m', d, S2, t1.trans t2, Dn.mono ⟨[], by simp⟩ up dn, q⟩
  · obtain ⟨S2, t2⟩ := S1.turned rz pre fr kp
    exact E x cls _ F' m' H' hx S2 (t1.trans t2).toTr z
end
section
variable {P : Program} {w : World} {K : PySem.W.Frag} {mg : Str → Option Value} {base : Heap} {W : Wd}
theorem st0K {C : Cn} {F : List Addr} {H : Hp} : ∀ {ks : List Bool} {ds : List D} {vs : List V} {n : Nat}, (∀ b ∈ ks, b = false) → DnA true K F (sv C.H0 (· ∈ F) H) vs ds →
    ∀ (i : Nat) (s : Sl), (st0 ks ds n)[i]? = some s → Sk K C (· ∈ F) F H (vs.map some ++ List.replicate (n - vs.length) none)[i]? s
  | [], _, _, n, _, _, i, s, e => by
    have z : s = .un := by
      simp only [st0] at e
      exact (List.mem_replicate.mp (List.mem_of_getElem? e)).2
    subst z; trivial
  | _ :: _, [], _, n, _, _, i, s, e => by
    have z : s = .un := by
      simp only [st0] at e
      exact (List.mem_replicate.mp (List.mem_of_getElem? e)).2
    subst z; trivial
  | _ :: _, _ :: _, _, 0, _, _, i, s, e => by simp [st0] at e
  | b :: ks, d :: ds, _, n + 1, hb, .cons (v := v) (vs := vs) h r, 0, s, e => by
    have e : (if b = true then Sl.bor d else Sl.val d) = s := by simpa [st0] using e
    rw [hb b (by simp), if_neg Bool.false_ne_true] at e
    subst e
    exact ⟨v, by simp, h⟩
  | b :: ks, d :: ds, _, n + 1, hb, .cons (v := v) (vs := vs) h r, i + 1, s, e => by
    have e : (st0 ks ds n)[i]? = some s := by simpa [st0] using e
    have := st0K (n := n) (fun b h => hb b (List.mem_cons_of_mem _ h)) r i s e
    simpa [Nat.add_sub_add_right] using this
abbrev BodyK (P : Program) (w : World) (K : PySem.W.Frag) (mg : Str → Option Value) (base : Heap) (W : Wd) (k : Nat) (N : List Str) (x : Str) (st : Stmt) (t : DS W.M) : Prop :=
  ∀ (f : Addr) (cdv : Value) (A : Around) (outer : List Env) (s : Shared) (H : Hp) (E : XK) (F0 : List Addr) (V : Hp) (hV : ∀ a o, V a = some o → H a = some o), RoomG k (A.deeper (envOfC x (defScope st) s.heap.objs.size f cdv)) →
      JSs (XOf P w K mg base N x (defScope st) f cdv A outer s H E) ⟨W, V, F0, (fun cls d _ H' => E cls d H'), H, hV⟩ (defBody st) t
def okU (ks : List Bool) (ds : List D) : Prop := ks.length = ds.length
theorem Dfn.goK {g x : Str} {st : Stmt} {N ps : List Str} {k : Nat} {sp : DSp W.M} {t : DS W.M} (Fd : Dfn K mg g x st ps) (ks : List Bool) (S : FnScope N ps (defScope st)) (body : BodyK P w K mg base W k N x st t)
    (vc : ∀ ds m Q Z, sp ds m Q Z → okU ks ds ∧ t { nx := fun _ m' => Q .non m', rt := Q, ex := Z } (st0 ks ds N.length) m) (hb : ∀ b ∈ ks, b = false := by decide) (hk : ks.length = ps.length := by rfl) (hn : ps.length ≤ N.length := by decide) : FDK P w K mg base W (k + 1) g sp := by
  obtain ⟨f, fd, Fn, gf, b⟩ := Fd.ex
  refine ⟨f, fd, ps, ?_, gf, Fn.kp, b⟩
  have ln : ∀ vs H Q E, spK K mg W sp vs H Q E → vs.length = ps.length := fun vs H Q E h => by
    obtain ⟨V, F, m, ds, Qd, Zd, hV, rz, dv, q, _⟩ := h
    rw [dv.length, ← hk]
    exact (vc _ _ _ _ q).1.symm
  refine okG Fn S ln fun cdv A outer s H vs Q E hr h => ?_
  have lv := ln _ _ _ _ h
  obtain ⟨V, F0, m, ds, Qd, Zd, hV, rz, dv, q, hq, hz⟩ := h
  obtain ⟨ts, p, r⟩ := body f cdv A outer s H E F0 V hV hr
  have v := (vc _ _ _ _ q).2
  let C : Cn := ⟨W, V, F0, (fun cls d _ H' => E cls d H'), H, hV⟩
  have S0 : SR K C (· ∈ F0) F0 (L2.start N vs) (st0 ks ds N.length) m H := ⟨fun a o _ e => e, ⟨[], by simp [C]⟩, fun a h n => absurd h n, fun a h => W.there rz a h, fun a h n => absurd h n, fun a h => h, rz, by
    rw [st0_len]
    unfold L2.start
    rw [List.length_append, List.length_map, List.length_replicate]
    omega, st0K hb dv, fun i j ds' es p _ e => absurd e (st0_own i ds')⟩
  refine ⟨ts, p, r (L2.start N vs) H (· ∈ F0) F0 _ m { nx := fun _ m' => Qd .non m', rt := Qd, ex := Zd } _ S0 ⟨fun σ' H' ρ' m' P1 F1 S1 t1 q => ?_, fun v H' d m' P1 F1 σ' ρ' H1 S1 t1 dv q => ?_, fun _ _ _ _ _ _ _ _ q => q.elim, fun _ _ _ _ _ _ _ _ q => q.elim, fun σ' ρ' y cls P1 F1 m' H' hm S1 t1 q => ?_⟩ v⟩
  · exact hq .non H' F1 .non m' S1.rz S1.pre (fun a h n => S1.new a h n) (fun a o n e => S1.keep a o n e) .non q
  · exact hq v H' F1 d m' S1.rz S1.pre (fun a h n => S1.new a h n) (fun a o n e => S1.keep a o n e) dv q
  · exact hz y cls H' F1 m' hm S1.rz S1.pre (fun a h n => S1.new a h n) (fun a o n e => S1.keep a o n e) q
theorem FDK.mono {j k : Nat} {x : Str} {sp : DSp W.M} (h : FDK P w K mg base W j x sp) (l : j ≤ k) : FDK P w K mg base W k x sp := by
  obtain ⟨f, fd, ps, F, r⟩ := h
  exact ⟨f, fd, ps, F.mono l, r⟩
theorem fdK_none {g x : Str} {st : Stmt} {N ps : List Str} {k : Nat} (F : Dfn K mg g x st ps) (ks : List Bool) (S : FnScope N ps (defScope st)) (hb : ∀ b ∈ ks, b = false := by decide) (hk : ks.length = ps.length := by rfl) (hn : ps.length ≤ N.length := by decide) : FDK P w K mg base W (k + 1) g (fun _ _ _ _ => False) :=
  F.goK ks S (t := fun _ _ _ => False) (fun _ _ _ _ _ _ _ _ _ _ _ => jss_false) (fun _ _ _ _ h => h.elim) hb hk hn
end
end RR
namespace RR
open PySem PySem.Spec PyProof.Rows L2
section
variable {X : Cx} {C : Cn} {e a b : Expr} {es : List Expr} {pos pos' : Pos} {st : Stmt} {rest body els : List Stmt}
def DB (K : PySem.W.Frag) (C : Cn) (Pr : Addr → Prop) (F : List Addr) (H : Hp) (v : V) (d : D) : Prop := Dn true K F (sv C.H0 Pr H) v d ∨ ∃ p xs ds, v = .ref p ∧ d = .lst ds ∧ H p = some (.lst xs) ∧ p ∉ F ∧ DnA true K F (sv C.H0 Pr H) xs ds
def JB (X : Cx) (C : Cn) (e : Expr) (t : DT C.W.M) : Prop := ∃ te, PE X e te ∧
  ∀ σ H Pr F ρ m Q Z (R : VK), SR X.K C Pr F σ ρ m H → Ex X C Pr F H σ ρ Z → t ρ m Q Z → (∀ v H', (∃ Pr' F' m' d, SR X.K C Pr' F' σ ρ m' H' ∧ Te Pr F H Pr' F' H' ∧ DB X.K C Pr' F' H' v d ∧ Q d m') → R v H') → te σ H R
theorem jb_s {t : DT C.W.M} (h : J .s X C e t) : JB X C e t := by
  obtain ⟨te, p, q⟩ := h
  exact ⟨te, p, fun σ H Pr F ρ m Q Z R S E h k => q σ H Pr F ρ m Q Z R S E h fun v H' ⟨P1, F1, m1, d, S1, t1, dv, z⟩ => k v H' ⟨P1, F1, m1, d, S1, t1, .inl dv, z⟩⟩
theorem jb_own (i : Nat) {x : Str} (hN : X.N[i]? = some x := by rfl) (hv : Vis X.env.scope x := by first | exact Or.inl rfl | exact Or.inr (Or.inl rfl) | exact Or.inr (Or.inr rfl)) (hd : (x == ("__debug__" : Str)) = false := by decide)
    (hcd : (x == ("__classdict__" : Str)) = false := by decide) : JB X C (.Name x pos) (dOwn i) := by
  refine ⟨_, pe_var hN hv hd hcd, fun σ H Pr F ρ m Q Z R S E h k => ?_⟩
  unfold dOwn at h
  split at h
  · rename_i d e
    obtain ⟨p, vs, e1, hp, pp, nf, q⟩ := S.slot i _ e
    exact ⟨.ref p, e1, k _ _ ⟨Pr, F, m, .lst d, S, Te.refl, .inr ⟨p, vs, d, rfl, rfl, hp, nf, q⟩, h⟩⟩
  · exact h.elim
theorem DB.lst {K : PySem.W.Frag} {Pr : Addr → Prop} {F : List Addr} {H : Hp} {σ : L2.St} {ρ : En} {m : C.W.M} (S : SR K C Pr F σ ρ m H) {v : V} {ds : List D} (h : DB K C Pr F H v (.lst ds)) : ∃ p xs, v = .ref p ∧ H p = some (.lst xs) ∧ p ∉ F ∧ DnA true K F (sv C.H0 Pr H) xs ds := by
  rcases h with h | ⟨p, xs, ds', e1, e2, h1, nf, h2⟩
  · cases h with
    | lst h r =>
      have h : sv C.H0 Pr H _ = some (.lst _) := h
      refine ⟨_, _, rfl, sv_le h, fun z => ?_, r⟩
      obtain ⟨_, q⟩ := vw_iff.mp h
      rcases q with q | q
      · exact q
      · exact q.2.1 (S.prf _ z)
  · cases e2
    exact ⟨p, xs, e1, h1, nf, h2⟩
theorem DB.tup {K : PySem.W.Frag} {Pr : Addr → Prop} {F : List Addr} {H : Hp} {v : V} {ds : List D} (h : DB K C Pr F H v (.tup ds)) : Dn true K F (sv C.H0 Pr H) v (.tup ds) := by
  rcases h with h | ⟨p, xs, ds', e1, e2, h1, nf, h2⟩
  · exact h
  · cases e2
theorem DB.te {K : PySem.W.Frag} {Pr Pr' : Addr → Prop} {F F' : List Addr} {H H' : Hp} {σ : L2.St} {ρ : En} {m : C.W.M} {v : V} {d : D} (S : SR K C Pr F σ ρ m H) (t : Te Pr F H Pr' F' H') (h : DB K C Pr F H v d) : DB K C Pr' F' H' v d := by
  rcases h with h | ⟨p, xs, ds, e1, e2, h1, nf, h2⟩
  · exact .inl (h.tr t.toTr S.prs)
  · exact .inr ⟨p, xs, ds, e1, e2, t.all p _ nf h1, (fun z => by
      have y := t.fn p z nf
      rw [h1] at y; cases y), h2.mono t.pre (sv_tr t.toTr S.prs)⟩
def JN (X : Cx) (C : Cn) (e : Expr) (t : DT C.W.M) : Prop := ∃ te, PE X e te ∧
  ∀ σ H Pr F ρ m Q Z (R : VK), SR X.K C Pr F σ ρ m H → Ex X C Pr F H σ ρ Z → t ρ m Q Z →
    (∀ v H', (∃ Pr' F' m' ds, SR X.K C Pr' F' σ ρ m' H' ∧ Te Pr F H Pr' F' H' ∧ (∃ p vs, v = .ref p ∧ H p = none ∧ ¬ Pr' p ∧ H' p = some (.lst vs) ∧ DnA true X.K F' (sv C.H0 (fun a => Pr' a ∨ a = p) H') vs ds) ∧ Q (.lst ds) m') → R v H') → te σ H R
theorem sv_drop {H0 : Hp} {Pr : Addr → Prop} {H : Hp} {p : Addr} : ∀ a o, sv H0 (fun a => Pr a ∨ a = p) H a = some o → sv H0 Pr H a = some o := fun a o h => by
  obtain ⟨e, q⟩ := vw_iff.mp h
  exact vw_iff.mpr ⟨e, q.imp id fun q => ⟨q.1, fun z => q.2.1 (.inl z), q.2.2⟩⟩
theorem jn_f {t : DT C.W.M} (h : JN X C e t) : J .f X C e t := by
  obtain ⟨te, p, q⟩ := h
  refine ⟨te, p, fun σ H Pr F ρ m Q Z R S E h k => q σ H Pr F ρ m Q Z R S E h fun v H' ⟨P1, F1, m1, ds, S1, t1, ⟨p, vs, e1, hn, np, hp, hd⟩, z⟩ => k v H' ⟨P1, F1, m1, .lst ds, S1, t1, ?_, z⟩⟩
  subst e1
  have hd' : DnA true X.K F1 (sv C.H0 P1 H') vs ds := DnA.mono ⟨[], by simp⟩ sv_drop hd
  exact ⟨.lst (vw_iff.mpr ⟨hp, .inr ⟨trivial, np, S.h0n hn⟩⟩) hd', fun ds' e => by cases e; exact ⟨p, vs, rfl, hn, np, hp, hd'⟩⟩
theorem lay_new {K : PySem.W.Frag} {Pr : Addr → Prop} {F : List Addr} {H : Hp} {σ : L2.St} {ρ : En} {m : C.W.M} {p : Addr} {vs : List V} {ds : List D} (S : SR K C Pr F σ ρ m H) (hp : H p = none) (dv : DnA true K F (sv C.H0 Pr H) vs ds) :
    SR K C Pr F σ ρ m (upd H p (.lst vs)) ∧ Te Pr F H Pr F (upd H p (.lst vs)) ∧ ¬ Pr p ∧ upd H p (.lst vs) p = some (.lst vs) ∧ DnA true K F (sv C.H0 (fun a => Pr a ∨ a = p) (upd H p (.lst vs))) vs ds := by
  obtain ⟨S2, t2⟩ := S.new1 (o := .lst vs) hp
  refine ⟨S2, t2, S.np hp, upd_same, dv.mono t2.pre fun a o h => ?_⟩
  obtain ⟨e, q⟩ := vw_iff.mp h
  have ne : a ≠ p := fun z => by rw [z, hp] at e; cases e
  refine vw_iff.mpr ⟨by rw [upd_ne ne]; exact e, q.imp id fun q => ⟨q.1, fun z => z.elim q.2.1 ne, q.2.2⟩⟩
def gSeqB : List D → (D → Prop) → Prop
  | [.lst xs], Q | [.tup xs], Q => Q (.lst xs)
  | _, _ => False
def dListB {M : Type} (t : DT M) : DT M := fun ρ m Q Z => t ρ m (fun d m1 => gSeqB [d] fun d => Q d m1) Z
theorem jn_list {t : DT C.W.M} {p : Pos} (h : JB X C e t) (hm : X.mg "list" = none) (hg : Gl X "list" := by rfl)
    (he : starEach [e] X.env = (false, eval e X.env) :: starEach [] X.env := by rfl) (hpl : (backTo pos (starEach ([] : List Expr) X.env)).any (·.1) = false := by rfl) :
    JN X C (.Call (.Name "list" p) [e] [] pos) (dListB t) := by
  obtain ⟨te, pe, q⟩ := h
  refine ⟨_, pe_callTy call_list_of hg hm (by decide +kernel) (pa_cons pe pa_nil he) (by decide) (by decide) he hpl, fun σ H Pr F ρ m Q Z R S E h k => ?_⟩
  refine q σ H Pr F ρ m _ Z _ S E h fun v H1 ⟨P1, F1, m1, d, S1, t1, dv, z⟩ => ?_
  unfold gSeqB at z
  split at z
  · rename_i xs e
    cases e
    obtain ⟨a, us, rfl, hs, _, hd⟩ := dv.lst S1
    refine ⟨a, us, rfl, .inl (SqL.of hs), fun l hl => ?_⟩
    obtain ⟨S2, t2, np, hp, hd2⟩ := lay_new S1 hl hd
    exact k _ _ ⟨P1, F1, m1, xs, S2, t1.trans t2, ⟨l, us, rfl, some_of (t1.stay l) hl, np, hp, hd2⟩, z⟩
  · rename_i xs e
    cases e
    obtain ⟨a, us, rfl, hs, hl, hd⟩ := dv.tup.sqT (fun _ _ => sv_le)
    refine ⟨a, us, rfl, .inr hs, fun l hl => ?_⟩
    obtain ⟨S2, t2, np, hp, hd2⟩ := lay_new S1 hl hd
    exact k _ _ ⟨P1, F1, m1, xs, S2, t1.trans t2, ⟨l, us, rfl, some_of (t1.stay l) hl, np, hp, hd2⟩, z⟩
  · exact z.elim
def gTupB : List D → (D → Prop) → Prop
  | [.lst xs], Q | [.tup xs], Q => Q (.tup xs)
  | _, _ => False
def dTupB {M : Type} (t : DT M) : DT M := fun ρ m Q Z => t ρ m (fun d m1 => gTupB [d] fun d => Q d m1) Z
theorem j_tupleB {t : DT C.W.M} {p : Pos} (h : JB X C e t) (hm : X.mg "tuple" = none) (hg : Gl X "tuple" := by rfl)
    (he : starEach [e] X.env = (false, eval e X.env) :: starEach [] X.env := by rfl) (hpl : (backTo pos (starEach ([] : List Expr) X.env)).any (·.1) = false := by rfl) :
    J .f X C (.Call (.Name "tuple" p) [e] [] pos) (dTupB t) := by
  obtain ⟨te, pe, q⟩ := h
  refine ⟨_, pe_callTy call_tuple_of hg hm (by decide +kernel) (pa_cons pe pa_nil he) (by decide) (by decide) he hpl, fun σ H Pr F ρ m Q Z R S E h k => ?_⟩
  refine q σ H Pr F ρ m _ Z _ S E h fun v H1 ⟨P1, F1, m1, d, S1, t1, dv, z⟩ => ?_
  unfold gTupB at z
  split at z
  · rename_i xs e
    cases e
    obtain ⟨a, us, rfl, hs, _, hd⟩ := dv.lst S1
    exact ⟨a, us, rfl, .inl ⟨SqL.of hs, fun l hl => k _ _ ((post_newT S1 hl hd z).te t1)⟩⟩
  · rename_i xs e
    cases e
    have hs := dv.tup
    obtain ⟨a, us, rfl, hs', hl, hd⟩ := hs.sqT (fun _ _ => sv_le)
    exact ⟨a, us, rfl, .inr ⟨hs', k _ _ ((post_here S1 hs (fun _ h => nomatch h) z).te t1)⟩⟩
  · exact z.elim
def gCatB : G2 := fun x y Q => match x, y with | .lst xs, .lst ys => xs.length + ys.length ≤ sizeLine ∧ Q (.lst (xs ++ ys)) | _, _ => False
theorem jn_cat {ta tb : DT C.W.M} (ha : JB X C a ta) (hb : J .s X C b tb) : JN X C (.BinOp a .Add b pos) (dBin gCatB ta tb) := by
  obtain ⟨te, p, q1⟩ := ha
  obtain ⟨te', p', q2⟩ := hb
  refine ⟨_, pe_op op_cat p p', fun σ H Pr F ρ m Q Z R S E h k => ?_⟩
  refine q1 σ H Pr F ρ m _ Z _ S E h fun v H1 ⟨P1, F1, m1, d, S1, t1, dv, z⟩ => ?_
  refine q2 σ H1 P1 F1 ρ m1 _ Z _ S1 (E.te t1.toTr) z fun w H2 ⟨P2, F2, m2, d2, S2, t2, dv2, z2⟩ => ?_
  have dv2 : Dn true X.K F2 (sv C.H0 P2 H2) w d2 := dv2
  unfold gCatB at z2
  dsimp only at z2
  split at z2
  · obtain ⟨l1, us, rfl, hu, nF, hud⟩ := dv.lst S1
    obtain ⟨l2, ws, rfl, hw, _, hwd⟩ := (show DB X.K C P2 F2 H2 w _ from .inl dv2).lst S2
    have hu2 := t2.all l1 _ nF hu
    refine ⟨l1, l2, us, ws, rfl, rfl, hu2, hw, by rw [hud.length, hwd.length]; exact z2.1, fun p hp => ?_⟩
    obtain ⟨S3, t3, np, hp', hd3⟩ := lay_new S2 hp ((hud.mono t2.pre (sv_tr t2.toTr S1.prs)).app hwd)
    exact k _ _ ⟨P2, F2, m2, _, S3, (t1.trans t2).trans t3, ⟨p, us ++ ws, rfl, some_of (fun o h => (t1.trans t2).stay p o h) hp, np, hp', hd3⟩, z2.2⟩
  · exact z2.elim
def dSetN {M : Type} (i : Nat) (t : DT M) : DS M := fun E ρ m => t ρ m (fun d m' => match d with | .lst ds => E.nx (ρ.set i (.own ds)) m' | _ => False) E.ex
theorem js_setN (i : Nat) {x : Str} {te : DT C.W.M} (hN : X.N.Nodup) (h : JN X C e te) (hi : X.N[i]? = some x := by rfl) (hx : Loc X.env.scope x := by first | exact .inl rfl | exact .inr rfl) (hf : LocF X x := by first | exact .inl rfl | exact .inr rfl) (hs : swapsWith e (some (.Name x pos')) pos.line X.env = pure false := by rfl) :
    JS X C (.Assign [.Name x pos'] e pos) (dSetN i te) := by
  obtain ⟨te', p, q⟩ := h
  refine ⟨_, ps_set hN hi hx p hs hf, fun σ H Pr F ρ m E D' S l h => q σ H Pr F ρ m _ _ _ S (l.ex σ ρ) h fun v H1 ⟨P1, F1, m1, ds, S1, t1, ⟨p, vs, e1, hn, np, hp, hd⟩, z⟩ => ?_⟩
  subst e1
  obtain ⟨S2, t2⟩ := S.ownedN t1 S1 i hn hp np hd
  exact l.nx _ _ _ _ _ _ S2 t2.toTr z
def gIxB : G2 := fun x y Q => match x, y with | .lst ds, .int i => (match atI ds i with | some d => Q d | none => False) | _, _ => False
theorem j_ixB {ta tb : DT C.W.M} (ha : JB X C a ta) (hb : J .w X C b tb) (hs : PlainIx b := by exact fun _ _ => rfl) : J .s X C (.Subscript a b pos) (dBin gIxB ta tb) := by
  obtain ⟨te, p, q1⟩ := ha
  obtain ⟨te', p', q2⟩ := hb
  refine ⟨_, pe_ix ix_seq p p' hs, fun σ H Pr F ρ m Q Z R S E h k => ?_⟩
  refine q1 σ H Pr F ρ m _ Z _ S E h fun v H1 ⟨P1, F1, m1, d, S1, t1, dv, z⟩ => ?_
  refine q2 σ H1 P1 F1 ρ m1 _ Z _ S1 (E.te t1.toTr) z fun w H2 ⟨P2, F2, m2, d2, S2, t2, dv2, z2⟩ => ?_
  have dv2 : Dn false X.K F2 (wv F2 H2) w d2 := dv2
  unfold gIxB at z2
  dsimp only at z2
  split at z2
  · split at z2
    · rename_i d' e
      obtain ⟨l, us, rfl, hl, _, hd⟩ := (dv.te S1 t2).lst S2
      obtain ⟨v', e', r'⟩ := atI_dn hd e
      exact .inl ⟨l, us, _, v', rfl, dv2.toInt, SqL.of hl, e', k _ _ ⟨P2, F2, m2, d', S2, t1.trans t2, r', z2⟩⟩
    · exact z2.elim
  · exact z2.elim
def dPopS {M : Type} (i : Nat) (t : DT M) : DS M := fun E ρ m => match ρ[i]? with
  | some (.own ds) => t ρ m (fun k m1 => match k with
    | .int k => 0 ≤ k ∧ k < ds.length ∧ k < 2 ^ 62 ∧ E.nx (ρ.set i (.own (ds.eraseIdx k.toNat))) m1
    | _ => False) E.ex
  | _ => False
theorem js_popS (i : Nat) {x : Str} {k : Expr} {np apos cpos : Pos} {tk : DT C.W.M} (hk : J .w X C k tk) (hN : X.N[i]? = some x := by rfl) (hv : Vis X.env.scope x := by first | exact Or.inl rfl | exact Or.inr (Or.inl rfl) | exact Or.inr (Or.inr rfl)) (hd : (x == ("__debug__" : Str)) = false := by decide) (hcd : (x == ("__classdict__" : Str)) = false := by decide)
    (hfew : ((backTo cpos (starEach [k] X.env)).all (fun x => !x.1) && (backToKw cpos (keywordEach [] X.env)).all (fun x => x.1.isSome) && decide ([k].length + ([] : List Keyword).length + (if ([] : List Keyword).isEmpty then 0 else 1) < 30)) = true := by rfl)
    (hline : (apos.endLine == cpos.line) = true := by rfl) (hst : starEach [k] X.env = (false, eval k X.env) :: starEach [] X.env := by rfl) :
    JS X C (.Expr (.Call (.Attribute (.Name x np) "pop" apos) [k] [] cpos) pos) (dPopS i tk) := by
  obtain ⟨t1, p, q⟩ := hk
  refine ⟨_, ps_expr (pe_bm PySem.F.plainAttrs_list PySem.F.slot_list_pop PySem.F.type_list_pop mt_popAt (pe_var hN hv hd hcd) (pa_cons p pa_nil hst) rfl hfew hline hst rfl) rfl, fun σ H Pr F ρ m E D' S l h => ?_⟩
  unfold dPopS at h
  split at h
  · rename_i ds e0
    obtain ⟨p0, vs, e1, hp, pp, nf, hds⟩ := S.slot i _ e0
    refine ⟨.ref p0, e1, .inl ⟨rfl, vs, SqL.of hp⟩, q σ H Pr F ρ m _ _ _ S (l.ex σ ρ) h fun w H1 ⟨P1, F1, m1, kd, S1, t1, dk, z⟩ => ?_⟩
    have dk : Dn false X.K F1 (wv F1 H1) w kd := dk
    dsimp only at z
    split at z
    · rename_i j _
      obtain ⟨z0, z1, z2, z⟩ := z
      obtain ⟨p1, us, e2, hp1, pp1, nf1, hds1⟩ := S1.slot i _ e0
      rw [e1] at e2; cases e2
      have ll := hds1.length
      have l0 : j.toNat < us.length := by omega
      have ey : us[j.toNat]? = some (us[j.toNat]'l0) := List.getElem?_eq_getElem l0
      obtain ⟨S2, t3⟩ := S1.change e0 e1 (hds1.eraseIdx j.toNat)
      exact ⟨p0, us, j, j.toNat, _, rfl, by rw [dk.toInt], hp1, by omega, by omega, seqIndex_of z0 (by omega), ey, l.nx _ _ _ _ _ _ S2 (t1.toTr.trans t3) z⟩
    · exact z.elim
  · exact h.elim
theorem DnA.ins {s : Bool} {K : PySem.W.Frag} {F : List Addr} {G : Hp} {vs : List V} {ds : List D} {v : V} {d : D} (n : Nat) (h : DnA s K F G vs ds) (h' : Dn s K F G v d) : DnA s K F G (vs.take n ++ [v] ++ vs.drop n) (ds.take n ++ [d] ++ ds.drop n) :=
  ((h.take n).app (.cons h' .nil)).app (h.drop n)
def dInsS {M : Type} (i : Nat) (tk te : DT M) : DS M := fun E ρ m => match ρ[i]? with
  | some (.own ds) => tk ρ m (fun k m1 => match k with
    | .int k => te ρ m1 (fun d m2 => ds.length < sizeLine ∧ 0 ≤ k ∧ k < 2 ^ 62 ∧ E.nx (ρ.set i (.own (ds.take k.toNat ++ [d] ++ ds.drop k.toNat))) m2) E.ex
    | _ => False) E.ex
  | _ => False
theorem js_insS (i : Nat) {x : Str} {k : Expr} {np apos cpos : Pos} {tk te : DT C.W.M} (hk : J .w X C k tk) (he : J .s X C e te) (hN : X.N[i]? = some x := by rfl) (hv : Vis X.env.scope x := by first | exact Or.inl rfl | exact Or.inr (Or.inl rfl) | exact Or.inr (Or.inr rfl)) (hd : (x == ("__debug__" : Str)) = false := by decide) (hcd : (x == ("__classdict__" : Str)) = false := by decide)
    (hfew : ((backTo cpos (starEach [k, e] X.env)).all (fun x => !x.1) && (backToKw cpos (keywordEach [] X.env)).all (fun x => x.1.isSome) && decide ([k, e].length + ([] : List Keyword).length + (if ([] : List Keyword).isEmpty then 0 else 1) < 30)) = true := by rfl)
    (hline : (apos.endLine == cpos.line) = true := by rfl) (hst : starEach [k, e] X.env = (false, eval k X.env) :: starEach [e] X.env := by rfl) (hst2 : starEach [e] X.env = (false, eval e X.env) :: starEach [] X.env := by rfl) (hpl : (backTo cpos (starEach [e] X.env)).any (fun x => x.1) = false := by rfl) :
    JS X C (.Expr (.Call (.Attribute (.Name x np) "insert" apos) [k, e] [] cpos) pos) (dInsS i tk te) := by
  obtain ⟨t1, p, q⟩ := hk
  obtain ⟨t2, p2, q2⟩ := he
  refine ⟨_, ps_expr (pe_bm PySem.F.plainAttrs_list PySem.F.slot_list_insert PySem.F.type_list_insert mt_insert (pe_var hN hv hd hcd) (pa_cons p (pa_cons p2 pa_nil hst2) hst) rfl hfew hline hst hpl) rfl, fun σ H Pr F ρ m E D' S l h => ?_⟩
  unfold dInsS at h
  split at h
  · rename_i ds e0
    obtain ⟨p0, vs, e1, hp, pp, nf, hds⟩ := S.slot i _ e0
    refine ⟨.ref p0, e1, .inl ⟨rfl, vs, SqL.of hp⟩, q σ H Pr F ρ m _ _ _ S (l.ex σ ρ) h fun w H1 ⟨P1, F1, m1, kd, S1, t1, dk, z⟩ => ?_⟩
    have dk : Dn false X.K F1 (wv F1 H1) w kd := dk
    dsimp only at z
    split at z
    · rename_i j _
      refine q2 σ H1 P1 F1 ρ m1 _ _ _ S1 ((l.ex σ ρ).te t1.toTr) z fun v H2 ⟨P2, F2, m2, d, S2, t2, dv, z⟩ => ?_
      have dv : Dn true X.K F2 (sv C.H0 P2 H2) v d := dv
      obtain ⟨z0, z1, z2, z⟩ := z
      obtain ⟨p1, us, e2, hp1, pp1, nf1, hds1⟩ := S2.slot i _ e0
      rw [e1] at e2; cases e2
      have ll := hds1.length
      obtain ⟨S3, t3⟩ := S2.change e0 e1 (hds1.ins j.toNat dv)
      exact ⟨p0, us, j, v, rfl, by rw [dk.toInt], hp1, by omega, by omega, by omega, l.nx _ _ _ _ _ _ S3 ((t1.trans t2).toTr.trans t3) z⟩
    · exact z.elim
  · exact h.elim
def dSwapS {M : Type} (i : Nat) (t1 t2 t3 t4 : PR) : DS M := fun E ρ m => ∃ ds : List D, ρ[i]? = some (.own ds) ∧
  t3 ρ fun k3 => ∃ (j3 : Nat) (y : D), ixN ds.length k3 = some j3 ∧ ds[j3]? = some y ∧ t4 ρ fun k4 => ∃ (j4 : Nat) (z : D), ixN ds.length k4 = some j4 ∧ ds[j4]? = some z ∧
  t1 ρ fun k1 => ∃ j1 : Nat, ixN ds.length k1 = some j1 ∧ t2 ρ fun k2 => ∃ j2 : Nat, ixN ds.length k2 = some j2 ∧ E.nx (ρ.set i (.own ((ds.set j1 y).set j2 z))) m
theorem at_ix {vs : List V} {k : Int} {j : Nat} {v : V} (h : ixN vs.length k = some j) (e : vs[j]? = some v) : atI vs k = some v := by
  unfold atI
  rw [h]
  exact e
theorem js_swapS (i : Nat) {x : Str} {ea eb ec ed : Expr} {n1 n2 n3 n4 s1 s2 s3 s4 tp vp pos : Pos} {kt kv : Nat} {t1 t2 t3 t4 : PR} (hc : X.calm = true) (h1 : JP X C ea t1) (h2 : JP X C eb t2) (h3 : JP X C ec t3) (h4 : JP X C ed t4) (hN : X.N[i]? = some x := by rfl)
    (hv : Vis X.env.scope x := by first | exact Or.inl rfl | exact Or.inr (Or.inl rfl) | exact Or.inr (Or.inr rfl)) (hd : (x == ("__debug__" : Str)) = false := by decide) (hcd : (x == ("__classdict__" : Str)) = false := by decide) (hs3 : PlainIx ec := by exact fun _ _ => rfl) (hs4 : PlainIx ed := by exact fun _ _ => rfl)
    (ha : ∀ v, assign (.Subscript (.Name x n1) ea s1) X.env v = (do
      let ov ← holding [v] (eval (.Name x n1) X.env)
      let iv ← holding [v, ov] (eval ea X.env)
      standAt s1
      holding [v, ov, iv] (setItem ov iv v)
      release [v, ov, iv] []) := by intro _; rfl)
    (hb : ∀ v, assign (.Subscript (.Name x n2) eb s2) X.env v = (do
      let ov ← holding [v] (eval (.Name x n2) X.env)
      let iv ← holding [v, ov] (eval eb X.env)
      standAt s2
      holding [v, ov, iv] (setItem ov iv v)
      release [v, ov, iv] []) := by intro _; rfl)
    (he : starEach [.Subscript (.Name x n3) ec s3, .Subscript (.Name x n4) ed s4] X.env = (false, eval (.Subscript (.Name x n3) ec s3) X.env) :: starEach [.Subscript (.Name x n4) ed s4] X.env := by rfl)
    (he2 : starEach [.Subscript (.Name x n4) ed s4] X.env = (false, eval (.Subscript (.Name x n4) ed s4) X.env) :: starEach [] X.env := by rfl)
    (hs : swapsWithSole [.Tuple [.Subscript (.Name x n1) ea s1, .Subscript (.Name x n2) eb s2] kt tp] (.Tuple [.Subscript (.Name x n3) ec s3, .Subscript (.Name x n4) ed s4] kv vp) pos.line X.env = pure false := by rfl)
    (hw : swappedStores [.Tuple [.Subscript (.Name x n1) ea s1, .Subscript (.Name x n2) eb s2] kt tp] (.Tuple [.Subscript (.Name x n3) ec s3, .Subscript (.Name x n4) ed s4] kv vp) X.env = pure none := by rfl)
    (ho : (assignEach [.Tuple [.Subscript (.Name x n1) ea s1, .Subscript (.Name x n2) eb s2] kt tp] X.env).map (·.2) = [assign (.Tuple [.Subscript (.Name x n1) ea s1, .Subscript (.Name x n2) eb s2] kt tp) X.env] := by rfl)
    (g1 : (assignEach [.Subscript (.Name x n1) ea s1, .Subscript (.Name x n2) eb s2] X.env).map (·.2) = assign (.Subscript (.Name x n1) ea s1) X.env :: (assignEach [.Subscript (.Name x n2) eb s2] X.env).map (·.2) := by rfl)
    (g2 : (assignEach [.Subscript (.Name x n2) eb s2] X.env).map (·.2) = assign (.Subscript (.Name x n2) eb s2) X.env :: (assignEach [] X.env).map (·.2) := by rfl)
    (gl : (assignEach [.Subscript (.Name x n1) ea s1, .Subscript (.Name x n2) eb s2] X.env).length = 2 := by rfl) (gs : (assignEach [.Subscript (.Name x n1) ea s1, .Subscript (.Name x n2) eb s2] X.env).findIdx? (·.1) = none := by rfl) :
    JS X C (.Assign [.Tuple [.Subscript (.Name x n1) ea s1, .Subscript (.Name x n2) eb s2] kt tp] (.Tuple [.Subscript (.Name x n3) ec s3, .Subscript (.Name x n4) ed s4] kv vp) pos) (dSwapS i t1 t2 t3 t4) := by
  obtain ⟨u1, p1, q1⟩ := h1
  obtain ⟨u2, p2, q2⟩ := h2
  obtain ⟨u3, p3, q3⟩ := h3
  obtain ⟨u4, p4, q4⟩ := h4
  refine ⟨_, ps_asg (pe_tup (pa_cons (pe_ix (pos := s3) ix_seq (pe_var (pos := n3) hN hv hd hcd) p3 hs3) (pa_cons (pe_ix (pos := s4) ix_seq (pe_var (pos := n4) hN hv hd hcd) p4 hs4) pa_nil he2) he)) (pg_tup hc (pgs_cons (pg_sub (pe_var (pos := n1) hN hv hd hcd) p1 set_list ha) (pgs_cons (pg_sub (pe_var (pos := n2) hN hv hd hcd) p2 set_list hb) pgs_nil g2) g1) gl gs) hs hw ho, fun σ H Pr F ρ m E D' S l h => ?_⟩
  obtain ⟨ds, e0, h⟩ := h
  obtain ⟨p, vs, e1, e2, pp, nf, hds⟩ := S.slot i _ e0
  have ln := hds.length
  refine ⟨_, e1, q3 σ H Pr F ρ _ _ S.toSV h fun k3 h => ?_⟩
  obtain ⟨j3, y, i3, y3, h⟩ := h
  obtain ⟨vy, gy, dy⟩ := hds.getD y3
  refine .inl ⟨p, vs, k3, vy, rfl, rfl, SqL.of e2, at_ix (by rw [ln]; exact i3) gy, ?_⟩
  refine ⟨_, e1, q4 σ H Pr F ρ _ _ S.toSV h fun k4 h => ?_⟩
  obtain ⟨j4, z, i4, y4, h⟩ := h
  obtain ⟨vz, gz, dz⟩ := hds.getD y4
  refine .inl ⟨p, vs, k4, vz, rfl, rfl, SqL.of e2, at_ix (by rw [ln]; exact i4) gz, ?_⟩
  refine ⟨(show 2 ≤ sizeLine by decide), fun T hT => ?_⟩
  obtain ⟨S1, te1⟩ := S.new1 (o := .tup [vy, vz]) hT
  have ne : p ≠ T := fun z => by rw [z, hT] at e2; cases e2
  have e2' : upd H T (.tup [vy, vz]) p = some (.lst vs) := by rw [upd_ne ne]; exact e2
  refine ⟨T, [vy, vz], rfl, .inl (.inl upd_same), rfl, vy, [vz], rfl, .ref p, e1, ?_⟩
  refine q1 σ _ Pr F ρ _ _ S1.toSV h fun k1 h => ?_
  obtain ⟨j1, i1, h⟩ := h
  refine ⟨p, vs, k1, j1, rfl, rfl, e2', by rw [ln]; exact i1, vz, [], rfl, .ref p, e1, ?_⟩
  obtain ⟨S2, t2⟩ := S1.change e0 e1 ((hds.mono te1.pre (sv_tr te1.toTr S.prs)).set (dy.tr te1.toTr S.prs) j1)
  refine q2 σ _ Pr F ρ _ _ (S1.toSV.poke pp e2') h fun k2 h => ?_
  obtain ⟨j2, i2, h⟩ := h
  refine ⟨p, vs.set j1 vy, k2, j2, rfl, rfl, upd_same, by rw [List.length_set, ln]; exact i2, rfl, ?_⟩
  obtain ⟨S3, t3⟩ := S1.change e0 e1 (((hds.mono te1.pre (sv_tr te1.toTr S.prs)).set (dy.tr te1.toTr S.prs) j1).set (dz.tr te1.toTr S.prs) j2)
  have eu : upd (upd (upd H T (.tup [vy, vz])) p (.lst (vs.set j1 vy))) p (.lst ((vs.set j1 vy).set j2 vz)) = upd (upd H T (.tup [vy, vz])) p (.lst ((vs.set j1 vy).set j2 vz)) := upd_upd
  rw [eu]
  exact l.nx _ _ _ _ _ _ S3 (te1.toTr.trans t3) h
def dIsi2 {M : Type} (T U : String) (t : DT M) : DT M := fun ρ m Q Z => t ρ m (fun d m1 => match d.ty with | some ty => Q (.bl (isiB ty T || isiB ty U)) m1 | none => False) Z
theorem j_isi2 {T U : String} {x y : Str} {p p2 p3 p4 : Pos} {k : Nat} {t : DT C.W.M} (hT : IsiT T) (hU : IsiT U) (ha : J .w X C a t) (mi : X.mg "isinstance" = none) (mx : X.mg x = none) (my : X.mg y = none) (hx : bootBuiltins x = some (.type T)) (hy : bootBuiltins y = some (.type U)) (gi : Gl X "isinstance" := by rfl) (gx : Gl X x := by rfl) (gy : Gl X y := by rfl) (hn : x ≠ "__name__" := by decide) (hn2 : y ≠ "__name__" := by decide) (hdb : (x == ("__debug__" : Str)) = false := by decide) (hdb2 : (y == ("__debug__" : Str)) = false := by decide)
    (he : starEach [a, .Tuple [.Name x p2, .Name y p3] k p4] X.env = (false, eval a X.env) :: starEach [.Tuple [.Name x p2, .Name y p3] k p4] X.env := by rfl) (hpl : (backTo pos (starEach [.Tuple [.Name x p2, .Name y p3] k p4] X.env)).any (·.1) = false := by rfl)
    (he2 : starEach [.Tuple [.Name x p2, .Name y p3] k p4] X.env = (false, eval (.Tuple [.Name x p2, .Name y p3] k p4) X.env) :: starEach [] X.env := by rfl) (he3 : starEach [.Name x p2, .Name y p3] X.env = (false, eval (.Name x p2) X.env) :: starEach [.Name y p3] X.env := by rfl) (he4 : starEach [.Name y p3] X.env = (false, eval (.Name y p3) X.env) :: starEach [] X.env := by rfl) :
    J .f X C (.Call (.Name "isinstance" p) [a, .Tuple [.Name x p2, .Name y p3] k p4] [] pos) (dIsi2 T U t) := by
  obtain ⟨te, pa, q⟩ := ha
  refine ⟨_, pe_callB call_isiT gi mi (by decide +kernel) (pa_cons pa (pa_cons (pe_tup (pa_cons (pe_bltn gx mx hx (v := .ty T) rfl hn hdb) (pa_cons (pe_bltn gy my hy (v := .ty U) rfl hn2 hdb2) pa_nil he4) he3)) pa_nil he2) he) (by decide) (by decide) he hpl, fun σ H Pr F ρ m Q Z R S E h k => ?_⟩
  refine q σ H Pr F ρ m _ Z _ S E h fun v H1 ⟨P1, F1, m1, d, S1, t1, dv, z⟩ => ?_
  dsimp only at z
  split at z
  · rename_i ty e
    refine ⟨(show 2 ≤ sizeLine by decide), fun Tp hT' => ?_⟩
    obtain ⟨S2, t2⟩ := S1.new1 (o := .tup [.ty T, .ty U]) hT'
    have dv : Dn false X.K F1 (wv F1 H1) v d := dv
    have mem : ty ∈ ["NoneType", "bool", "int", "str", "tuple", "list", "dict"] := by cases d <;> first | (cases e; simp) | cases e
    refine ⟨v, Tp, [.ty T, .ty U], .type ty, [.type T, .type U], (isiB ty T || isiB ty U), rfl, upd_same, .cons (.ty T) (.cons (.ty U) .nil), ty_of (fun _ _ => wv_le) (dv.te t2) e, ?_, k _ _ ((post_here (d := .bl (isiB ty T || isiB ty U)) S2 (.bl _) (fun _ h => nomatch h) z).te (t1.trans t2))⟩
    have k1 := kit_ty (K := X.K) (hT ty mem)
    have k2 := kit_ty (K := X.K) (hU ty mem)
    unfold PySem.W.kitAny
    rw [k1]
    cases isiB ty T with
    | true => rfl
    | false =>
      show PySem.W.kitAny X.K (.type ty) [.type U] = _
      unfold PySem.W.kitAny
      rw [k2]
      cases isiB ty U <;> rfl
  · exact z.elim
def D.num : D → Option Int
  | .int i => some i | .bl b => some (if b = true then 1 else 0) | _ => none
theorem opR_bi {op : Operator} {f : Int → Int → Int} (h : ∀ (b : Bool) (j : Int) (u : Tok) (s : Shared) (Q : Value → Shared → Prop) (E : Value → Shared → Prop), Q (.int (f (if b = true then (1 : Int) else 0) j) s.toks) { s with toks := s.toks + 1 } → wpAny (model X.prog X.w) X.A (binaryOp op (.bool b) (.int j u)) Q E s) :
    OpR X (binaryOp op) (fun x y H Q => ∃ b j, x = .bl b ∧ y = .int j ∧ Q (.int (f (if b = true then 1 else 0) j)) H) := by
  intro pins s σ H x y v u Q I rx ry h'
  obtain ⟨b, j, rfl, rfl, q⟩ := h'
  obtain ⟨t, rfl⟩ := ry
  cases rx
  exact h _ _ _ _ _ _ ⟨.int _, H, I.tok _, ⟨_, rfl⟩, q⟩
theorem opR_ib {op : Operator} {f : Int → Int → Int} (h : ∀ (i : Int) (b : Bool) (t : Tok) (s : Shared) (Q : Value → Shared → Prop) (E : Value → Shared → Prop), Q (.int (f i (if b = true then (1 : Int) else 0)) s.toks) { s with toks := s.toks + 1 } → wpAny (model X.prog X.w) X.A (binaryOp op (.int i t) (.bool b)) Q E s) :
    OpR X (binaryOp op) (fun x y H Q => ∃ i b, x = .int i ∧ y = .bl b ∧ Q (.int (f i (if b = true then 1 else 0))) H) := by
  intro pins s σ H x y v u Q I rx ry h'
  obtain ⟨i, b, rfl, rfl, q⟩ := h'
  obtain ⟨t, rfl⟩ := rx
  cases ry
  exact h _ _ _ _ _ _ ⟨.int _, H, I.tok _, ⟨_, rfl⟩, q⟩
theorem Dn.toBl {s : Bool} {K : PySem.W.Frag} {F : List Addr} {G : Hp} {v : V} {b : Bool} (h : Dn s K F G v (.bl b)) : v = .bl b := by cases h; rfl
def gAddN : G2 := fun x y Q => match x, y with
  | .int i, .int j => Q (.int (i + j)) | .bl b, .int j => Q (.int ((if b = true then 1 else 0) + j)) | _, _ => False
theorem ok_addN : OpOk X C (binaryOp .Add) gAddN := by
  refine ⟨_, op_add.or (opR_bi (f := fun i j => i + j) fun _ _ _ _ _ _ q => PySem.IntBool.add_bool_int q), fun σ H Pr F ρ m x y dx dy Q R S hx hy q k => ?_⟩
  unfold gAddN at q
  split at q
  · rw [hx.toInt, hy.toInt]
    exact .inl ⟨_, _, rfl, rfl, k _ _ (post_here S (.int _) (fun _ h => nomatch h) q)⟩
  · rw [hx.toBl, hy.toInt]
    exact .inr ⟨_, _, rfl, rfl, k _ _ (post_here S (.int _) (fun _ h => nomatch h) q)⟩
  · exact q.elim
def gSubN : G2 := fun x y Q => match x, y with
  | .int i, .int j => Q (.int (i - j)) | .bl b, .int j => Q (.int ((if b = true then 1 else 0) - j)) | .int i, .bl b => Q (.int (i - (if b = true then 1 else 0))) | _, _ => False
theorem ok_subN : OpOk X C (binaryOp .Sub) gSubN := by
  refine ⟨_, op_sub.or ((opR_bi (f := fun i j => i - j) fun _ _ _ _ _ _ q => PySem.IntBool.sub_bool_int q).or (opR_ib (f := fun i j => i - j) fun _ _ _ _ _ _ q => PySem.IntBool.sub_int_bool q)), fun σ H Pr F ρ m x y dx dy Q R S hx hy q k => ?_⟩
  unfold gSubN at q
  split at q
  · rw [hx.toInt, hy.toInt]
    exact .inl ⟨_, _, rfl, rfl, k _ _ (post_here S (.int _) (fun _ h => nomatch h) q)⟩
  · rw [hx.toBl, hy.toInt]
    exact .inr (.inl ⟨_, _, rfl, rfl, k _ _ (post_here S (.int _) (fun _ h => nomatch h) q)⟩)
  · rw [hx.toInt, hy.toBl]
    exact .inr (.inr ⟨_, _, rfl, rfl, k _ _ (post_here S (.int _) (fun _ h => nomatch h) q)⟩)
  · exact q.elim
def gMulN : G2 := fun x y Q => match x, y with
  | .int i, .int j => IntMulOk i j ∧ Q (.int (i * j)) | .int i, .bl b => Q (.int (i * (if b = true then 1 else 0))) | _, _ => False
theorem ok_mulN : OpOk X C (binaryOp .Mult) gMulN := by
  refine ⟨_, op_mulA.or (opR_ib (f := fun i j => i * j) fun _ _ _ _ _ _ q => PySem.IntBool.mul_int_bool q), fun σ H Pr F ρ m x y dx dy Q R S hx hy q k => ?_⟩
  unfold gMulN at q
  split at q
  · rw [hx.toInt, hy.toInt]
    exact .inl ⟨_, _, rfl, rfl, q.1, k _ _ (post_here S (.int _) (fun _ h => nomatch h) q.2)⟩
  · rw [hx.toInt, hy.toBl]
    exact .inr ⟨_, _, rfl, rfl, k _ _ (post_here S (.int _) (fun _ h => nomatch h) q)⟩
  · exact q.elim
structure LkQ (X : Cx) (C : Cn) (Pr : Addr → Prop) (F : List Addr) (H : Hp) (E : DE C.W.M) (D' : L2.Ends) : Prop where
  nx : ∀ σ' H' ρ' m' Pr' F', SR X.K C Pr' F' σ' ρ' m' H' → Te Pr F H Pr' F' H' → E.nx ρ' m' → D'.nx σ' H'
  rt : ∀ v H' d m' Pr' F' σ' ρ' H1, SR X.K C Pr' F' σ' ρ' m' H' → Te Pr F H Pr' F' H' → Dv X.K C .r Pr' F' H1 H' v d → E.rt d m' → D'.rt v H'
  ex : ∀ σ' ρ', Ex X C Pr F H σ' ρ' E.ex
theorem LkQ.te {Pr Pr1 : Addr → Prop} {F F1 : List Addr} {H H1 : Hp} {E : DE C.W.M} {D' : L2.Ends} (l : LkQ X C Pr F H E D') (t : Te Pr F H Pr1 F1 H1) : LkQ X C Pr1 F1 H1 E D' :=
  ⟨fun σ' H' ρ' m' P2 F2 S t2 q => l.nx σ' H' ρ' m' P2 F2 S (t.trans t2) q, fun v H' d m' P2 F2 σ' ρ' H3 S t2 dv q => l.rt v H' d m' P2 F2 σ' ρ' H3 S (t.trans t2) dv q, fun σ' ρ' => (l.ex σ' ρ').te t.toTr⟩
variable {t u : DS C.W.M}
def gNe0 : G2 := fun x y Q => match x, y with | .lst ds, .lst [] => Q (.bl (!ds.isEmpty)) | _, _ => False
def gEq0 : G2 := fun x y Q => match x, y with | .lst ds, .lst [] => Q (.bl ds.isEmpty) | _, _ => False
def rNil (K : PySem.W.Frag) (f : Bool → Bool) : R2 := fun x y H Q => ∃ a b xs, x = .ref a ∧ y = .ref b ∧ SqL K H a xs ∧ SqL K H b [] ∧ Q (.bl (f xs.isEmpty)) H
theorem op_ne0 (hu : X.A.units + 64 < cLine) : OpR X (compareOp .NotEq) (rNil X.K fun b => !b) := by
  intro pins s σ H x y v u Q I rx ry h
  obtain ⟨a, b, xs, rfl, rfl, ha, hb, q⟩ := h
  cases rx
  cases ry
  obtain ⟨its, r1, p1, _⟩ := I.list ha
  obtain ⟨its2, r2, p2, _⟩ := I.list hb
  cases r2
  have hu' : X.A.units < cLine := by omega
  cases r1 with
  | nil => exact PySem.SeqAt.RcNeAt.lists p1.isList p2.isList rfl hu' (e := fun _ => true) (fun j h1 _ => absurd h1 (by simp)) _ _ _ _ ⟨.bl _, H, I, rfl, q⟩
  | cons r r1 => exact PySem.SeqAt.RcNeAt.lists_lengths p1.isList p2.isList (by simp) hu' _ _ _ _ ⟨.bl _, H, I, rfl, q⟩
theorem ok_ne0 (hu : X.A.units + 64 < cLine) : OpOk X C (compareOp .NotEq) gNe0 := by
  refine ⟨_, op_ne0 hu, fun σ H Pr F ρ m x y dx dy Q R S hx hy q k => ?_⟩
  unfold gNe0 at q
  split at q
  · rename_i ds
    obtain ⟨a, xs, rfl, ha, la, _⟩ := hx.sqL (fun _ _ => wv_le)
    obtain ⟨b, ys, rfl, hb, lb, _⟩ := hy.sqL (fun _ _ => wv_le)
    cases ys with
    | cons y ys => simp at lb
    | nil =>
      refine ⟨a, b, xs, rfl, rfl, ha, hb, k _ _ (post_here S (.bl _) (fun _ h => nomatch h) ?_)⟩
      have : xs.isEmpty = ds.isEmpty := by cases xs <;> cases ds <;> first | rfl | simp at la
      rw [this]; exact q
  · exact q.elim
end
end RR
namespace RR
open PySem PySem.Spec PyProof.Rows L2
section
variable {M : Type} {ρ : En} {m : M} {Q : D → M → Prop} {Z ex : Str → M → Prop} {nx bk ct : En → M → Prop} {rt : D → M → Prop} {t u : DT M} {q : D → Prop} {i j : Int} {d x y : D} {ds es : List D}
def kN (ρ : En) (i : Nat) (nx : En → M → Prop) : D → M → Prop := fun d m' => match d with | .lst ds => nx (ρ.set i (.own ds)) m' | _ => False
theorem v_setN {i : Nat} (h : t ρ m (kN ρ i nx) ex) : dSetN i t ⟨nx, rt, bk, ct, ex⟩ ρ m := h
theorem v_kN {i : Nat} (h : nx (ρ.set i (.own ds)) m) : kN ρ i nx (.lst ds) m := h
theorem v_listB (h : t ρ m (fun d m1 => gSeqB [d] fun d => Q d m1) Z) : dListB t ρ m Q Z := h
theorem v_seqBl' (h : q (.lst ds)) : gSeqB [.lst ds] q := h
theorem v_seqBt' (h : q (.lst ds)) : gSeqB [.tup ds] q := h
theorem v_tupB (h : t ρ m (fun d m1 => gTupB [d] fun d => Q d m1) Z) : dTupB t ρ m Q Z := h
theorem v_tupBl (h : q (.tup ds)) : gTupB [.lst ds] q := h
theorem v_ixB (h0 : 0 ≤ i) (h1 : i < ds.length) (h : ∀ d, ds[i.toNat]? = some d → q d) : gIxB (.lst ds) (.int i) q := by
  unfold gIxB
  dsimp only
  rw [atI_at h0 h1]
  exact h _ (List.getElem?_eq_getElem (by omega))
theorem v_catB (l : ds.length + es.length ≤ 16777216) (h : q (.lst (ds ++ es))) : gCatB (.lst ds) (.lst es) q := ⟨small_line l, h⟩
theorem v_addNi (h : q (.int (i + j))) : gAddN (.int i) (.int j) q := h
theorem v_addNb {b : Bool} (h : q (.int ((if b = true then 1 else 0) + j))) : gAddN (.bl b) (.int j) q := h
theorem v_subNi (h : q (.int (i - j))) : gSubN (.int i) (.int j) q := h
theorem v_subNb {b : Bool} (h : q (.int ((if b = true then 1 else 0) - j))) : gSubN (.bl b) (.int j) q := h
theorem v_subNc {b : Bool} (h : q (.int (i - (if b = true then 1 else 0)))) : gSubN (.int i) (.bl b) q := h
theorem v_mulNi (o : IntMulOk i j) (h : q (.int (i * j))) : gMulN (.int i) (.int j) q := ⟨o, h⟩
theorem v_mulNb {b : Bool} (h : q (.int (i * (if b = true then 1 else 0)))) : gMulN (.int i) (.bl b) q := h
def kPopS (i : Nat) (ρ : En) (ds : List D) (nx : En → M → Prop) (k : D) (m1 : M) : Prop := match k with
  | .int k => 0 ≤ k ∧ k < ds.length ∧ k < 2 ^ 62 ∧ nx (ρ.set i (.own (ds.eraseIdx k.toNat))) m1
  | _ => False
theorem v_popS {i : Nat} (e : ρ[i]? = some (.own ds)) (h : t ρ m (kPopS i ρ ds nx) ex) : dPopS i t ⟨nx, rt, bk, ct, ex⟩ ρ m := by
  unfold dPopS
  rw [e]
  exact h
theorem v_kPopS {i : Nat} (h0 : 0 ≤ j) (h1 : j < ds.length) (h2 : j < 2 ^ 62) (h : nx (ρ.set i (.own (ds.eraseIdx j.toNat))) m) : kPopS i ρ ds nx (.int j) m := ⟨h0, h1, h2, h⟩
def kInsS (i : Nat) (ρ : En) (ds : List D) (te : DT M) (nx : En → M → Prop) (ex : Str → M → Prop) (k : D) (m1 : M) : Prop := match k with
  | .int k => te ρ m1 (fun d m2 => ds.length < sizeLine ∧ 0 ≤ k ∧ k < 2 ^ 62 ∧ nx (ρ.set i (.own (ds.take k.toNat ++ [d] ++ ds.drop k.toNat))) m2) ex
  | _ => False
theorem v_insS {i : Nat} (e : ρ[i]? = some (.own ds)) (h : t ρ m (kInsS i ρ ds u nx ex) ex) : dInsS i t u ⟨nx, rt, bk, ct, ex⟩ ρ m := by
  unfold dInsS
  rw [e]
  exact h
theorem v_kInsS {i : Nat} (h : u ρ m (fun d m2 => ds.length < sizeLine ∧ 0 ≤ j ∧ j < 2 ^ 62 ∧ nx (ρ.set i (.own (ds.take j.toNat ++ [d] ++ ds.drop j.toNat))) m2) ex) : kInsS i ρ ds u nx ex (.int j) m := h
theorem ixN_in {n : Nat} {k : Int} (h0 : 0 ≤ k) (h1 : k < n) : ixN n k = some k.toNat := by
  unfold ixN
  rw [if_pos h0, if_pos h1]
theorem v_swapS {i a b : Nat} {ja jb : Int} (e : ρ[i]? = some (.own ds)) (ea : ρ[a]? = some (.val (.int ja))) (eb : ρ[b]? = some (.val (.int jb))) (a0 : 0 ≤ ja) (a1 : ja < ds.length) (b0 : 0 ≤ jb) (b1 : jb < ds.length)
    (h : ∀ y z, ds[jb.toNat]? = some y → ds[ja.toNat]? = some z → nx (ρ.set i (.own ((ds.set ja.toNat y).set jb.toNat z))) m) : dSwapS i (pVar a) (pVar b) (pVar b) (pVar a) ⟨nx, rt, bk, ct, ex⟩ ρ m := by
  refine ⟨ds, e, ?_⟩
  unfold pVar
  rw [ea, eb]
  have lb : jb.toNat < ds.length := by omega
  have la : ja.toNat < ds.length := by omega
  exact ⟨_, _, ixN_in b0 b1, List.getElem?_eq_getElem lb, _, _, ixN_in a0 a1, List.getElem?_eq_getElem la, _, ixN_in a0 a1, _, ixN_in b0 b1, h _ _ (List.getElem?_eq_getElem lb) (List.getElem?_eq_getElem la)⟩
def kI2 (T U : String) (Q : D → M → Prop) (d : D) (m1 : M) : Prop := match d.ty with | some ty => Q (.bl (isiB ty T || isiB ty U)) m1 | none => False
theorem v_isi2 {T U : String} (h : t ρ m (kI2 T U Q) Z) : dIsi2 T U t ρ m Q Z := h
theorem v_kI2 {T U ty : String} {b : Bool} (e : d.ty = some ty) (e2 : (isiB ty T || isiB ty U) = b) (h : Q (.bl b) m) : kI2 T U Q d m := by
  unfold kI2; rw [e]; dsimp only; rw [e2]; exact h
theorem v_ne0 (h : q (.bl (!ds.isEmpty))) : gNe0 (.lst ds) (.lst []) q := h
theorem v_eq0 (h : q (.bl ds.isEmpty)) : gEq0 (.lst ds) (.lst []) q := h
end
section
variable {M : Type} {g : DG} {tt : DTT M} {te : DT M} {ρ : En}
theorem lcGo_mapD {h : D → D} (xs : List D) {m : M} {Q : List D → M → Prop}
    (st : ∀ a ∈ xs, ∀ m (k : D → M → Prop) (l : M → Prop), k (h a) m → g a ρ fun ρ2 => tt ρ2 m (fun b m1 => if b = true then te ρ2 m1 k (fun _ _ => False) else l m1) (fun _ _ => False))
    (hl : xs.length ≤ 16777216) (q : Q (xs.map h) m) : lcGo g tt te ρ xs [] m Q := by
  have := lcGo_map (inj := id) (h := h) xs st (small_line hl) q
  rwa [List.map_id] at this
theorem lcGo_filterD {keep : D → Bool} (xs : List D) {m : M} {Q : List D → M → Prop}
    (st : ∀ a ∈ xs, ∀ m (k : D → M → Prop) (l : M → Prop), (keep a = true → k a m) → (keep a = false → l m) → g a ρ fun ρ2 => tt ρ2 m (fun b m1 => if b = true then te ρ2 m1 k (fun _ _ => False) else l m1) (fun _ _ => False))
    (hl : xs.length ≤ 16777216) (q : Q (xs.filter keep) m) : lcGo g tt te ρ xs [] m Q := by
  have := lcGo_filter (inj := id) (h := id) (keep := keep) xs (acc := []) (m := m) (Q := Q) st (small_line (by simpa using hl)) (by simpa using q)
  rwa [List.map_id] at this
end
section
variable {M : Type} {g : DG} {tt : DTT M} {te : DT M} {ρ : En} {m : M} {QL : List D → M → Prop}
theorem lc_consK {x : D} {r acc : List D} (h : g x ρ fun ρ2 => tt ρ2 m (fun b m1 => if b = true then te ρ2 m1 (fun y m2 => acc.length < sizeLine ∧ lcGo g tt te ρ r (acc ++ [y]) m2 QL) (fun _ _ => False) else lcGo g tt te ρ r acc m1 QL) (fun _ _ => False)) : lcGo g tt te ρ (x :: r) acc m QL := h
theorem lc_endK {acc : List D} (h : QL acc m) : lcGo g tt te ρ [] acc m QL := h
end
def Th (b l : Nat) : Nat → D → Prop
  | _, .int i => bd b i
  | _, .bl _ => True
  | _, .non => True
  | _, .dic => True
  | _, .str x => (PyData.str x).shown.length ≤ 12
  | n + 1, .tup xs => xs.length ≤ l ∧ ∀ x ∈ xs, Th b l n x
  | n + 1, .lst xs => xs.length ≤ l ∧ ∀ x ∈ xs, Th b l n x
  | n + 2, .dc1 k x => (PyData.str k).shown.length ≤ 4 ∧ Th b l n x
  | _, _ => False
theorem Th.mono {b l b' l' : Nat} (hb : b ≤ b') (hl : l ≤ l') : ∀ {n n' : Nat} {d : D}, n ≤ n' → Th b l n d → Th b' l' n' d
  | n, n', .int i, _, h => by
    have h : bd b i := by cases n <;> exact h
    have : bd b' i := bd_mono h hb
    cases n' <;> exact this
  | n, n', .bl _, _, _ => by cases n' <;> trivial
  | n, n', .non, _, _ => by cases n' <;> trivial
  | n, n', .dic, _, _ => by cases n' <;> trivial
  | n, n', .str x, _, h => by
    have h : (PyData.str x).shown.length ≤ 12 := by cases n <;> exact h
    cases n' <;> exact h
  | 0, _, .tup _, _, h => h.elim
  | 0, _, .lst _, _, h => h.elim
  | n + 1, 0, .tup _, z, _ => absurd z (by omega)
  | n + 1, 0, .lst _, z, _ => absurd z (by omega)
  | n + 1, n' + 1, .tup xs, z, h => ⟨Nat.le_trans h.1 hl, fun x hx => Th.mono hb hl (by omega) (h.2 x hx)⟩
  | n + 1, n' + 1, .lst xs, z, h => ⟨Nat.le_trans h.1 hl, fun x hx => Th.mono hb hl (by omega) (h.2 x hx)⟩
  | n, _, .hnd _, _, h => by cases n <;> exact h.elim
  | n, _, .exc _, _, h => by cases n <;> exact h.elim
  | n, _, .fn _, _, h => by cases n <;> exact h.elim
  | n, _, .ptr _, _, h => by cases n <;> exact h.elim
  | 0, _, .dc1 _ _, _, h => h.elim
  | 1, _, .dc1 _ _, _, h => h.elim
  | n + 2, 0, .dc1 _ _, z, _ => absurd z (by omega)
  | n + 2, 1, .dc1 _ _, z, _ => absurd z (by omega)
  | n + 2, n' + 2, .dc1 _ _, z, h => ⟨h.1, Th.mono hb hl (by omega) h.2⟩
theorem Th.ty {b l n : Nat} {d : D} (h : Th b l n d) : ∃ t, d.ty = some t := by
  cases d with
  | hnd _ => cases n <;> exact h.elim
  | exc _ => cases n <;> exact h.elim
  | fn _ => cases n <;> exact h.elim
  | ptr _ => cases n <;> exact h.elim
  | _ => exact ⟨_, rfl⟩
theorem Th.i {b l n : Nat} {i : Int} (h : bd b i) : Th b l n (.int i) := by cases n <;> exact h
theorem Th.ib {b l n : Nat} {i : Int} (h : Th b l n (.int i)) : bd b i := by cases n <;> exact h
theorem Th.row {b l n : Nat} {xs : List Int} (h : ∀ x ∈ xs, bd b x) (hl : xs.length ≤ l) : Th b l (n + 1) (.tup (zz xs)) := ⟨by simpa [zz] using hl, fun x hx => by
  obtain ⟨i, hi, rfl⟩ := List.mem_map.mp hx
  exact Th.i (h i hi)⟩
mutual
def D.wz (c : Nat) : D → Nat
  | .tup xs => 2 + D.wzs c xs
  | .lst xs => 2 + D.wzs c xs
  | .non => c | .bl _ => c | .int _ => c | .str _ => c | .hnd _ => c | .dic => c | .exc _ => c | .fn _ => c | .ptr _ => c
  | .dc1 _ d => 8 + d.wz c
def D.wzs (c : Nat) : List D → Nat
  | [] => 0
  | x :: r => x.wz c + 2 + D.wzs c r
end
theorem wzs_nil {c : Nat} : D.wzs c [] = 0 := by simp only [D.wzs]
theorem wzs_cons {c : Nat} {x : D} {r : List D} : D.wzs c (x :: r) = x.wz c + 2 + D.wzs c r := by simp only [D.wzs]
theorem wz_tup {c : Nat} {xs : List D} : (D.tup xs).wz c = 2 + D.wzs c xs := by simp only [D.wz]
theorem wz_lst {c : Nat} {xs : List D} : (D.lst xs).wz c = 2 + D.wzs c xs := by simp only [D.wz]
theorem wz_int {c : Nat} {i : Int} : (D.int i).wz c = c := by simp only [D.wz]
theorem wzs_app {c : Nat} : ∀ {xs ys : List D}, D.wzs c (xs ++ ys) = D.wzs c xs + D.wzs c ys
  | [], ys => by rw [wzs_nil, List.nil_append, Nat.zero_add]
  | x :: xs, ys => by rw [List.cons_append, wzs_cons, wzs_cons, wzs_app]; omega
theorem wzs_mem {c : Nat} {d : D} : ∀ {xs : List D}, d ∈ xs → d.wz c + 2 ≤ D.wzs c xs
  | x :: xs, h => by
    rw [wzs_cons]
    rcases List.mem_cons.mp h with rfl | h
    · omega
    · have := wzs_mem (c := c) h
      omega
theorem wzs_set {c : Nat} {t d : D} : ∀ {xs : List D} {i : Nat}, xs[i]? = some d → D.wzs c (xs.set i t) + d.wz c = D.wzs c xs + t.wz c
  | x :: xs, 0, h => by
    cases h
    rw [List.set_cons_zero, wzs_cons, wzs_cons]; omega
  | x :: xs, i + 1, h => by
    have := wzs_set (c := c) (t := t) (xs := xs) (i := i) (by simpa using h)
    rw [List.set_cons_succ, wzs_cons, wzs_cons]; omega
theorem wzs_erase {c : Nat} : ∀ {xs : List D} {i : Nat}, D.wzs c (xs.eraseIdx i) ≤ D.wzs c xs
  | [], i => by simp
  | x :: xs, 0 => by rw [List.eraseIdx_cons_zero, wzs_cons]; omega
  | x :: xs, i + 1 => by
    have := wzs_erase (c := c) (xs := xs) (i := i)
    rw [List.eraseIdx_cons_succ, wzs_cons, wzs_cons]; omega
end RR
namespace RR
open PySem PySem.Spec PyProof.Rows L2
local macro_rules | `(tactic| walk_at "k") => `(tactic| first | walk_at "s" | with_reducible first
  | refine v_setN ?_ | refine v_kN ?_ | refine v_listB ?_ | refine v_seqBl' ?_ | refine v_seqBt' ?_ | refine v_tupB ?_ | refine v_tupBl ?_ | refine v_addNi ?_ | refine v_addNb ?_ | refine v_subNi ?_ | refine v_subNb ?_ | refine v_subNc ?_ | refine v_mulNb ?_
  | refine v_isi2 ?_ | refine v_ne0 ?_ | refine v_eq0 ?_)
end RR
local macro_rules | `(tactic| walk_at "k") => `(tactic| first | walk_at "s" | with_reducible first
  | refine RR.v_setN ?_ | refine RR.v_kN ?_ | refine RR.v_listB ?_ | refine RR.v_seqBl' ?_ | refine RR.v_seqBt' ?_ | refine RR.v_tupB ?_ | refine RR.v_tupBl ?_ | refine RR.v_isi2 ?_ | refine RR.v_ne0 ?_ | refine RR.v_eq0 ?_)
namespace RR
open PySem PySem.Spec PyProof.Rows L2
theorem done_of_lastW {xs : List Int} (h : xs.getD (xs.length - 1) 0 ≠ 0) : done xs := by
  induction xs using strip_ind with
  | h0 => rfl
  | h1 r x _ => unfold done; rw [strip_snoc, if_neg (by simpa using h)]
def intsD : List D → Option (List Int)
  | [] => some []
  | .int i :: r => (intsD r).map (i :: ·)
  | _ :: _ => none
theorem intsD_some : ∀ {ds : List D} {xs : List Int}, intsD ds = some xs → ds = zz xs
  | [], _, h => by cases h; rfl
  | .int i :: r, xs, h => by
    obtain ⟨ys, e, rfl⟩ := Option.map_eq_some_iff.mp h
    rw [intsD_some e]; rfl
  | .non :: _, _, h => by cases h
  | .bl _ :: _, _, h => by cases h
  | .str _ :: _, _, h => by cases h
  | .tup _ :: _, _, h => by cases h
  | .lst _ :: _, _, h => by cases h
  | .hnd _ :: _, _, h => by cases h
  | .dic :: _, _, h => by cases h
  | .exc _ :: _, _, h => by cases h
  | .fn _ :: _, _, h => by cases h
  | .ptr _ :: _, _, h => by cases h
  | .dc1 _ _ :: _, _, h => by cases h
theorem intsD_zz : ∀ xs : List Int, intsD (zz xs) = some xs
  | [] => rfl
  | x :: xs => by
    show (intsD (zz xs)).map (x :: ·) = _
    rw [intsD_zz xs]; rfl
theorem whD_int {d : D} (h : whD d = true) : ∃ i, d = .int i := by
  cases d with
  | int i => exact ⟨i, rfl⟩
  | _ => exact absurd h (by first | decide | (unfold whD; simp [D.ty]; try decide))
theorem intsD_none {ds : List D} (h : intsD ds = none) : ∃ z ∈ ds, whD z = false := by
  refine Classical.byContradiction fun n => ?_
  have all : ∀ z ∈ ds, whD z = true := fun z hz => by
    cases e : whD z with
    | true => rfl
    | false => exact absurd ⟨z, hz, e⟩ n
  clear n
  induction ds with
  | nil => cases h
  | cons d ds ih =>
    obtain ⟨i, rfl⟩ := whD_int (all d (by simp))
    have : intsD ds = none := by
      cases e : intsD ds with
      | none => rfl
      | some xs => have h : (intsD ds).map (i :: ·) = none := h; rw [e] at h; cases h
    exact ih this fun z hz => all z (List.mem_cons_of_mem _ hz)
def rowD : D → Option (List Int)
  | .tup ds => match intsD ds with | some xs => if xs = [] ∨ xs.getD (xs.length - 1) 0 ≠ 0 then some xs else none | none => none
  | _ => none
theorem rowD_some {d : D} {xs : List Int} (h : rowD d = some xs) : d = .tup (zz xs) ∧ done xs := by
  cases d with
  | tup ds =>
    unfold rowD at h
    dsimp only at h
    split at h
    · rename_i ys e
      split at h
      · rename_i c
        cases h
        refine ⟨by rw [intsD_some e], ?_⟩
        rcases c with rfl | c
        · rfl
        · exact done_of_lastW c
      · cases h
    · cases h
  | _ => cases h
theorem rowD_zz {xs : List Int} : (rowD (.tup (zz xs))).isSome = (decide (xs = []) || !decide (xs.getD (xs.length - 1) 0 = 0)) := by
  unfold rowD
  dsimp only
  rw [intsD_zz]
  dsimp only
  split
  · rename_i c
    rcases c with rfl | c
    · rfl
    · rw [decide_eq_false c]; simp
  · rename_i c
    have c1 : ¬ xs = [] := fun z => c (.inl z)
    have c2 : xs.getD (xs.length - 1) 0 = 0 := Classical.byContradiction fun z => c (.inr z)
    rw [decide_eq_false c1, decide_eq_true c2]; rfl
theorem rowD_none {ds : List D} (h : intsD ds = none) : rowD (.tup ds) = none := by
  unfold rowD
  dsimp only
  rw [h]
def b_checking_is_tuple {M : Type} : DS M :=
    (dRet (dAndV (dIsi "tuple" (dBor 0)) (dBin gEq (dB gLen (dCons (dBor 0) dNil)) (dVar 1))))
def s_checking_is_tuple {M : Type} : DSp M := fun ds m Q Z => ∃ (t : D) (k : Int) (ty : String), ds = [t, .int k] ∧ t.ty = some ty ∧ ((∀ us, t ≠ .tup us) → Q (.bl false) m) ∧ ∀ us, t = .tup us → Q (.bl (decide ((us.length : Int) = k))) m
theorem vc_checking_is_tuple {M : Type} : ∀ ds (m : M) Q Z, s_checking_is_tuple ds m Q Z → okK [true, false] ds ∧ b_checking_is_tuple { nx := fun _ m' => Q .non m', rt := Q, ex := Z } (st0 [true, false] ds 2) m := by
  rintro ds m Q Z ⟨t, k, ty, rfl, hty, k1, k2⟩
  refine ⟨⟨fun h => (nomatch h), fun _ => rfl, trivial⟩, ?_⟩
  unfold b_checking_is_tuple
  by_cases sq : ∃ us, t = .tup us
  · obtain ⟨us, rfl⟩ := sq
    repeat walk_at "s"
    refine v_kAV (fun _ => ?_) fun h => absurd h (by decide)
    repeat walk_at "s"
    exact k2 us rfl
  · have nt : ∀ us, t ≠ .tup us := fun us e => sq ⟨us, e⟩
    repeat walk_at "s"
    refine v_kI (b := false) hty ?_ ?_
    · cases t with
      | tup us => exact absurd rfl (nt us)
      | _ => first | (cases hty; done) | (cases hty; rfl)
    refine v_kAV (fun h => absurd h (by decide)) fun _ => ?_
    exact k1 nt
def b_rows_is_row_b {M : Type} : DS M :=
    (dThen (dIte (dOr (dNot (dVal (dIsi "tuple" (dBor 0)))) (dNot (dVal (dB gAll (dCons (dLc (dSeqB 0) (dgB 1) dYes (dCall s_numbers_is_whole [] (dCons (dBor 1) dNil)) [1]) dNil)))))
      (dRet (dC (.bl false)))
      dNext)
    (dRet (dOrV (dBin gEq (dBor 0) (dTup dNil)) (dBin gNe (dBin (gIx false) (dBor 0) (dNeg (dC (.int 1)))) (dC (.int 0))))))
theorem whD_ty {z : D} {t : String} (h : z.ty = some t) : whD z = whT t := by unfold whD; rw [h]
def s_rows_is_row_b {M : Type} : DSp M := fun ds m Q Z => ∃ (t : D) (b l n : Nat), ds = [t] ∧ Th b l n t ∧ l ≤ 1000 ∧ Q (.bl (rowD t).isSome) m
theorem vc_rows_is_row_b {M : Type} : ∀ ds (m : M) Q Z, s_rows_is_row_b ds m Q Z → okK [true] ds ∧ b_rows_is_row_b { nx := fun _ m' => Q .non m', rt := Q, ex := Z } (st0 [true] ds 2) m := by
  rintro ds m Q Z ⟨t, b, l, n, rfl, ht, hl, q⟩
  refine ⟨⟨fun h => (nomatch h), trivial⟩, ?_⟩
  unfold b_rows_is_row_b
  cases t with
  | tup us =>
    obtain ⟨n', rfl, lu, hu⟩ : ∃ n', n = n' + 1 ∧ us.length ≤ l ∧ ∀ x ∈ us, Th b l n' x := by
      cases n with
      | zero => exact ht.elim
      | succ n => exact ⟨n, rfl, ht.1, ht.2⟩
    repeat walk_at "s"
    try ((with_reducible show @ite _ _ _ _ _); refine v_ifF ?_)
    repeat walk_at "s"
    refine v_seqBt (by with_unfolding_all exact rfl) ?_
    refine lcGo_mapD (h := fun z => .bl (whD z)) us (fun z hz m1 k l hk => ?_) (by omega) ?_
    · obtain ⟨ty, hty⟩ := (hu z hz).ty
      refine v_gB ?_
      repeat walk_at "s"
      refine ⟨z, ty, rfl, hty, ?_⟩
      rw [← whD_ty hty]
      repeat walk_at "s"
      exact hk
    repeat walk_at "s"
    rw [show us.map (fun z => D.bl (whD z)) = (us.map whD).map D.bl from by rw [List.map_map]; rfl]
    refine v_all ?_
    cases hi : intsD us with
    | none =>
      obtain ⟨z, hz, hw⟩ := intsD_none hi
      rw [show (us.map whD).all id = false from List.all_eq_false.mpr ⟨whD z, List.mem_map.mpr ⟨z, hz, rfl⟩, by rw [hw]; decide⟩]
      repeat walk_at "s"
      rw [rowD_none hi] at q
      exact q
    | some xs =>
      have eu := intsD_some hi
      subst eu
      rw [show ((zz xs).map whD).all id = true from List.all_eq_true.mpr fun x hx => by
        obtain ⟨z, hz, rfl⟩ := List.mem_map.mp hx
        obtain ⟨i, _, rfl⟩ := List.mem_map.mp hz
        rfl]
      repeat walk_at "s"
      try ((with_reducible show @ite _ _ _ _ _); refine v_ifF ?_)
      repeat walk_at "s"
      rw [rowD_zz] at q
      have lx : xs.length ≤ 1000 := by have : (zz xs).length = xs.length := List.length_map _; omega
      refine v_kOV (fun h => ?_) fun h => ?_
      · rw [h, Bool.false_or] at q
        repeat walk_at "s"
        refine v_ixm (of_decide_eq_false h) ?_
        repeat walk_at "s"
        exact q
      · rw [h, Bool.true_or] at q
        exact q
  | _ =>
    obtain ⟨ty, hty⟩ := ht.ty
    repeat walk_at "s"
    refine v_kI (b := false) hty (by first | (cases hty; done) | (cases hty; rfl)) ?_
    repeat walk_at "s"
    exact q
def b__law_is_row {M : Type} : DS M :=
    (dThen (dIte (dNot (dVal (dIsi "tuple" (dVar 0))))
      (dRet (dC (.bl false)))
      dNext)
    (dThen (dIte (dTst (dBin gNe0 (dLc (dSeq false (dVar 0)) (dgN 1) (dOr (dVal (dIsi "bool" (dVar 1))) (dNot (dVal (dIsi "int" (dVar 1))))) (dVar 1) [1]) (dLst dNil)))
      (dRet (dC (.bl false)))
      dNext)
    (dRet (dOrV (dBin gEq (dVar 0) (dTup dNil)) (dBin gNe (dBin (gIx false) (dVar 0) (dNeg (dC (.int 1)))) (dC (.int 0)))))))
def s__law_is_row {M : Type} : DSp M := fun ds m Q Z => ∃ (t : D) (b l n : Nat), ds = [t] ∧ Th b l n t ∧ l ≤ 1000 ∧ Q (.bl (rowD t).isSome) m
theorem vc__law_is_row {M : Type} : ∀ ds (m : M) Q Z, s__law_is_row ds m Q Z → okU [false] ds ∧ b__law_is_row { nx := fun _ m' => Q .non m', rt := Q, ex := Z } (st0 [false] ds 2) m := by
  rintro ds m Q Z ⟨t, b, l, n, rfl, ht, hl, q⟩
  refine ⟨rfl, ?_⟩
  unfold b__law_is_row
  cases t with
  | tup us =>
    obtain ⟨n', rfl, lu, hu⟩ : ∃ n', n = n' + 1 ∧ us.length ≤ l ∧ ∀ x ∈ us, Th b l n' x := by
      cases n with
      | zero => exact ht.elim
      | succ n => exact ⟨n, rfl, ht.1, ht.2⟩
    repeat walk_at "k"
    try ((with_reducible show @ite _ _ _ _ _); refine v_ifF ?_)
    repeat walk_at "k"
    refine v_kSeqT ?_
    refine lcGo_filterD (keep := fun z => !whD z) us (fun z hz m1 k l h1 h2 => ?_) (by omega) ?_
    · obtain ⟨ty, hty⟩ := (hu z hz).ty
      have ew := whD_ty hty
      unfold whT at ew
      rw [ew] at h1 h2
      repeat walk_at "k"
      refine v_kI hty rfl ?_
      repeat walk_at "k"
      refine v_if (fun hb => ?_) fun hb => ?_
      · rw [hb] at h1
        repeat walk_at "k"
        exact h1 (by simp)
      · rw [hb] at h1 h2
        repeat walk_at "k"
        refine v_kI hty rfl ?_
        repeat walk_at "k"
        cases hi : isiB ty "int" with
        | true =>
          rw [hi] at h2
          repeat walk_at "k"
          exact h2 rfl
        | false =>
          rw [hi] at h1
          repeat walk_at "k"
          exact h1 rfl
    repeat walk_at "k"
    cases hi : intsD us with
    | none =>
      obtain ⟨z, hz, hw⟩ := intsD_none hi
      have ne : (us.filter fun z => !whD z).isEmpty = false := by
        cases e : us.filter fun z => !whD z with
        | nil => exact absurd (List.mem_filter.mpr ⟨hz, (by rw [hw]; rfl : (!whD z) = true)⟩) (by rw [e]; simp)
        | cons _ _ => rfl
      rw [ne]
      repeat walk_at "k"
      rw [rowD_none hi] at q
      exact q
    | some xs =>
      have eu := intsD_some hi
      subst eu
      have ne : ((zz xs).filter fun z => !whD z) = [] := List.filter_eq_nil_iff.mpr fun z hz => by
        obtain ⟨i, _, rfl⟩ := List.mem_map.mp hz
        exact fun h => Bool.noConfusion (show false = true from h)
      rw [ne]
      repeat walk_at "k"
      try ((with_reducible show @ite _ _ _ _ _); refine v_ifF ?_)
      repeat walk_at "k"
      rw [rowD_zz] at q
      have lx : xs.length ≤ 1000 := by have : (zz xs).length = xs.length := List.length_map _; omega
      refine v_kOV (fun h => ?_) fun h => ?_
      · rw [h, Bool.false_or] at q
        repeat walk_at "k"
        refine v_ixm (of_decide_eq_false h) ?_
        repeat walk_at "k"
        exact q
      · rw [h, Bool.true_or] at q
        exact q
  | _ =>
    obtain ⟨ty, hty⟩ := ht.ty
    repeat walk_at "k"
    refine v_kI (b := false) hty (by first | (cases hty; done) | (cases hty; rfl)) ?_
    repeat walk_at "k"
    exact q
end RR
namespace RR
open PySem PySem.Spec PyProof.Rows L2
section
variable {X : Cx} {C : Cn} {e f : Expr} {pos : Pos}
end
section
variable {M : Type} {ρ : En} {m : M} {Q : D → M → Prop} {Z : Str → M → Prop}
end
end RR
namespace RR
open PySem PySem.Spec PyProof.Rows L2
section
variable {X : Cx} {C : Cn} {e : Expr} {pos : Pos} {t u : DS C.W.M} {body : List Stmt}
end
section
variable {M : Type} {ρ : En} {m : M} {nx bk ct : En → M → Prop} {rt : D → M → Prop} {ex : Str → M → Prop} {s1 : DS M}
end
end RR
namespace RR
open PySem PySem.Spec PyProof.Rows L2
section
variable {X : Cx} {C : Cn} {e : Expr} {es : List Expr} {te : TE} {ta tb : TA} {pos : Pos}
def PEk (X : Cx) (e : Expr) (t : TE) : Prop :=
  ∀ (pins : List (Addr × Obj)) (s : Shared) (σ : L2.St) (H : Hp) (Q : VK), Inv X pins σ H s → t σ H Q → wpAny (model X.prog X.w) X.A (eval e X.env) (fun u s1 => 1 ≤ s1.toks ∧ EP X pins σ Q u s1) X.xe s
def JK (c : Cl) (X : Cx) (C : Cn) (e : Expr) (t : DT C.W.M) : Prop := ∃ te, PEk X e te ∧
  ∀ σ H Pr F ρ m Q Z (R : VK), SR X.K C Pr F σ ρ m H → Ex X C Pr F H σ ρ Z → t ρ m Q Z → (∀ v H', Post X.K C c Pr F H σ ρ Q v H' → R v H') → te σ H R
theorem JK.weak {t : DT C.W.M} (h : JK .f X C e t) : JK .w X C e t := by
  obtain ⟨te, p, q⟩ := h
  exact ⟨te, p, fun σ H Pr F ρ m Q Z R S E h k => q σ H Pr F ρ m Q Z R S E h fun v H' z => k v H' (z.imp fun _ _ _ _ S q => (Dv.fs q).sw S)⟩
theorem JK.strong {t : DT C.W.M} (h : JK .f X C e t) : JK .s X C e t := by
  obtain ⟨te, p, q⟩ := h
  exact ⟨te, p, fun σ H Pr F ρ m Q Z R S E h k => q σ H Pr F ρ m Q Z R S E h fun v H' z => k v H' (z.imp fun _ _ _ _ S q => Dv.fs q)⟩
def JTT (c : Cl) (X : Cx) (C : Cn) (e : Expr) (t : DT C.W.M) : Prop := ∃ te, PET X e te ∧
  ∀ σ H Pr F ρ m Q Z (R : VK), SR X.K C Pr F σ ρ m H → Ex X C Pr F H σ ρ Z → t ρ m Q Z → (∀ v H', Post X.K C c Pr F H σ ρ Q v H' → R v H') → te σ H R
theorem JTT.sf {t : DT C.W.M} (h : JTT .f X C e t) : JTT .s X C e t := by
  obtain ⟨te, p, q⟩ := h
  exact ⟨te, p, fun σ H Pr F ρ m Q Z R S E h k => q σ H Pr F ρ m Q Z R S E h fun v H' z => k v H' (z.imp fun _ _ _ _ S q => Dv.fs q)⟩
variable {st : Stmt} {rest body : List Stmt} {t u : DS C.W.M}
end
section
variable {M : Type} {ρ : En} {m : M} {Q : D → M → Prop} {Z : Str → M → Prop}
end
section
variable {X : Cx} {C : Cn} {a b : Expr} {ta tb : DT C.W.M} {pos : Pos}
end
end RR
namespace RR
open PySem PySem.Spec PyProof.Rows L2 PySem.NumText
theorem wp_maxd {M : Model} {A : Around} {E : Value → Shared → Prop} {s : Shared} {K : PySem.W.Frag} {Q : Nat → Shared → Prop} (kin : K.In s.heap) (hk : PySem.W.nsIn K cStatics "sys.int_max_str_digits" = some none) (h : Q 4300 s) : wpAny M A Builtin.intMaxStrDigits Q E s :=
  wpAny_bind ((PySem.W.looks_nsIn kin hk) A _ E s (fun _ _ e => e) (wpAny_pure h))
section
variable {X : Cx} {C : Cn} {a b c : Expr} {pos : Pos} {ta tb : DT C.W.M}
end
section
variable {M : Type} {q : D → Prop}
end
end RR
namespace RR
open PySem PySem.Spec PyProof.Rows L2
abbrev DigK (K : PySem.W.Frag) : Prop := PySem.W.nsIn K cStatics "sys.int_max_str_digits" = some none
theorem over_big {M : Model} {A : Around} {E : Value → Shared → Prop} {s : Shared} {K : PySem.W.Frag} {a : Int} {Q : Option Nat → Shared → Prop} (kin : K.In s.heap) (hk : DigK K) (h : a.natAbs.log2 < 12000) (q : Q none s) : wpAny M A (Builtin.overDigitLimit? a) Q E s := by
  unfold Builtin.overDigitLimit?
  by_cases hs : a.natAbs.log2 < 1920
  · rw [if_pos hs]
    exact wpAny_pure q
  · rw [if_neg hs]
    refine wpAny_bind (wp_maxd kin hk ?_)
    dsimp only
    rw [if_neg (show ¬ a.natAbs.log2 / 30 + 1 > 1000 by omega), if_pos (by
      have : a.natAbs.log2 < 3 * 4300 := by omega
      rw [decide_eq_true this]; rfl)]
    exact wpAny_pure q
theorem big_fits {a : Int} (h : a.natAbs.log2 < 12000) : (Str.ofString (toString a)).length ≤ sizeLine :=
  int_text_fits10 (Nat.lt_of_lt_of_le (lt_of_log2 (Nat.lt_trans h (by decide))) pow_lo)
theorem meets_int_repr {K : PySem.W.Frag} {a : Int} {t : Tok} (hk : DigK K) (h : a.natAbs.log2 < 12000) :
    Meets (Builtin.«int.__repr__» ⟨[.int a t], []⟩) (fun _ R s => K.In s.heap ∧ R (.ok (.ret (.str (toString a) s.toks))) { s with toks := s.toks + 1 }) :=
  .of_wp fun prog w A R s hS => by
    unfold Builtin.«int.__repr__»
    show wpAny _ _ (do let r ← Builtin.overDigitLimit? a; _) _ _ s
    refine wpAny_bind (over_big hS.1 hk h ?_)
    exact wpAny_bind (wpAny_mkStr (wpAny_pure ⟨_, rfl, hS.2⟩) (big_fits h))
section
variable {prog : Program} {w : World} {h₀ : Heap} {K : PySem.W.Frag}
theorem call_int_repr {A : Around} {E : Value → Shared → Prop} {s : Shared} {a : Int} {t : Tok} {Q : Value → Shared → Prop} (kin : K.In s.heap) (hk : DigK K) (h : a.natAbs.log2 < 12000) (q : Q (.str (toString a) s.toks) { s with toks := s.toks + 1 }) : wpAny (model prog w) A (call (.builtin "int.__repr__") [.int a t]) Q E s :=
  call_meets F.slot_int_repr (typeIs_int s a t) F.entry_int_repr (F.args_int_repr_1 _) (meets_int_repr hk h) ⟨kin, q⟩
theorem reprK_big (kin : K.In h₀) (hk : DigK K) {a : Int} {t : Tok} (h : a.natAbs.log2 < 12000) (as : List Addr) (d : Nat) : ReprK prog w as h₀ d (.int a t) (toString a) := fun base hb A g E s Q hg hcl hu hkeep hQ => by
  rw [pyReprUnder_leaf (v := .int a t) (by omega) (fun _ e => nomatch e)]
  unfold pyRepr
  exact wpAny_bind (wpAny_pyReprObj_slot (by omega) (typeIs_int s a t) F.slot_int_repr.toG (call_int_repr (kin.keeps hkeep) hk h ⟨_, _, rfl, wpAny_pure (hQ s.heap _ fun _ _ e => e)⟩))
end
mutual
def bigD : PyData → Bool
  | .none | .bool _ | .str _ => true
  | .int i => decide (i.natAbs.log2 < 12000)
  | .list xs | .tuple xs => bigDs xs
  | .dict _ => false
def bigDs : List PyData → Bool
  | [] => true
  | x :: xs => bigD x && bigDs xs
end
section
variable {prog : Program} {w : World} {h₀ : Heap} {K : PySem.W.Frag}
mutual
theorem bigK (kin : K.In h₀) (hk : DigK K) : ∀ {v : Value} {d : PyData} {as : List Addr}, Reads h₀ v d as → bigD d = true → d.shown.length ≤ sizeLine → ∃ bs, ReadAtMost h₀ d.depth bs ∧ ReprK prog w bs h₀ d.depth v d.shown
  | _, _, _, .none, _, _ => ⟨[], (fun _ h => nomatch h), by simp only [PyData.shown]; exact .of_is ReprIs.none _ _ _⟩
  | _, _, _, .bool b, _, _ => ⟨[], (fun _ h => nomatch h), by simp only [PyData.shown]; exact .of_is (ReprIs.bool b) _ _ _⟩
  | _, _, _, .int i t, hb, _ => ⟨[], (fun _ h => nomatch h), by
    simp only [PyData.shown]
    exact reprK_big kin hk (by simpa [bigD] using hb) _ _⟩
  | _, _, _, .str x t, _, hz => ⟨[], (fun _ h => nomatch h), by simp only [PyData.shown]; exact .of_is (ReprIs.str x t (by simpa only [PyData.shown] using hz)) _ _ _⟩
  | _, _, _, .list (a := a) (vs := vs) (xs := xs) h1 h2 h3 h4, hb, hz => by
    have hz' : (listText (PyData.shownAll xs)).length ≤ sizeLine := by simpa only [PyData.shown] using hz
    obtain ⟨bs, hbs, hks⟩ := bigKs kin hk h4 (by simpa [bigD] using hb) (fun t ht => Nat.le_trans (listText_mem_le ht) hz')
    have r : Reads h₀ (.ref a) (.list xs) _ := .list h1 h2 h3 h4
    have hna : a ∉ bs := not_mem_of_deeper r (by simp only [PyData.depth]; omega) hbs
    refine ⟨a :: bs, ReadAtMost.cons r (by simp only [PyData.depth]; omega) hbs, ?_⟩
    simp only [PyData.depth, PyData.shown]
    obtain ⟨l⟩ := vs
    cases l with
    | nil =>
      have h4' : ReadsAll h₀ [] xs _ := h4
      cases h4'
      simp only [PyData.shownAll, listText_nil]
      exact ReprK.listEmpty h1 h2 h3
    | cons x l => exact ReprK.list h1 h2 h3 hna (by simpa using hks.length_eq) (fun i y e => hks.item i y (by simpa using e))
  | _, _, _, .tuple (a := a) (xs := xs) h1 h2 h3 h4, hb, hz => by
    have hz' : (tupleText (PyData.shownAll xs)).length ≤ sizeLine := by simpa only [PyData.shown] using hz
    obtain ⟨bs, hbs, hks⟩ := bigKs kin hk h4 (by simpa [bigD] using hb) (fun t ht => Nat.le_trans (tupleText_mem_le ht) hz')
    have r : Reads h₀ (.ref a) (.tuple xs) _ := .tuple h1 h2 h3 h4
    have hna : a ∉ bs := not_mem_of_deeper r (by simp only [PyData.depth]; omega) hbs
    refine ⟨a :: bs, ReadAtMost.cons r (by simp only [PyData.depth]; omega) hbs, ?_⟩
    simp only [PyData.depth, PyData.shown]
    exact ReprK.tuple h1 h2 h3 hna hks
  | _, _, _, .dict _ _ _ _ _, hb, _ => by simp [bigD] at hb
theorem bigKs (kin : K.In h₀) (hk : DigK K) : ∀ {vs : List Value} {ds : List PyData} {as : List Addr}, ReadsAll h₀ vs ds as → bigDs ds = true → (∀ t ∈ PyData.shownAll ds, t.length ≤ sizeLine) →
    ∃ bs, ReadAtMost h₀ (PyData.depthAll ds) bs ∧ ReprAllK prog w bs h₀ (PyData.depthAll ds) vs (PyData.shownAll ds)
  | _, _, _, .nil, _, _ => ⟨[], (fun _ h => nomatch h), by simp only [PyData.shownAll]; exact .nil⟩
  | _, _, _, .cons (d := d) (ds := ds) r rs, hb, hz => by
    have hb' : bigD d = true ∧ bigDs ds = true := by simpa [bigDs] using hb
    obtain ⟨b1, hb1, k1⟩ := bigK kin hk r hb'.1 (hz _ (by simp only [PyData.shownAll]; exact List.mem_cons_self ..))
    obtain ⟨b2, hb2, k2⟩ := bigKs kin hk rs hb'.2 (fun t ht => hz t (by simp only [PyData.shownAll]; exact List.mem_cons_of_mem _ ht))
    refine ⟨b1 ++ b2, ?_, ?_⟩
    · simp only [PyData.depthAll]
      exact (hb1.mono (Nat.le_max_left _ _)).append (hb2.mono (Nat.le_max_right _ _))
    · simp only [PyData.depthAll, PyData.shownAll]
      exact .cons ((k1.more fun b hb => List.mem_append_left _ hb).level_le (Nat.le_max_left _ _)) (k2.more_le (fun b hb => List.mem_append_right _ hb) (Nat.le_max_right _ _))
end
end
section
variable {X : Cx}
end
def D.shoB (d : D) : Prop := d.q 8 = true ∧ bigD d.py = true ∧ d.py.shown.length ≤ sizeLine
section
variable {X : Cx} {C : Cn}
end
structure ShB (k c : Nat) (d : D) : Prop where
  q : d.q k = true
  s : bigD d.py = true
  l : d.py.shown.length ≤ c
theorem ShB.le {k k' c c' : Nat} {d : D} (h : ShB k c d) (hk : k ≤ k') (hc : c ≤ c') : ShB k' c' d := ⟨q_le h.q hk, h.s, Nat.le_trans h.l hc⟩
theorem ShB.sho {k c : Nat} {d : D} (h : ShB k c d) (hk : k ≤ 8 := by decide) (hc : c ≤ 16777216 := by decide) : d.shoB := ⟨q_le h.q hk, h.s, small_line (Nat.le_trans h.l hc)⟩
end RR
namespace RR
open PySem PySem.Spec PyProof.Rows L2
mutual
def D.pz : D → PyData
  | .non => .none | .bl b => .bool b | .int i => .int i | .str x => .str x | .tup xs => .tuple (D.pzs xs) | .lst xs => .list (D.pzs xs) | .hnd _ => .none | .dic => .dict [] | .exc _ => .none | .fn _ => .none | .ptr _ => .none | .dc1 k d => .dict [(.str k, d.pz)]
def D.pzs : List D → List PyData
  | [] => []
  | x :: r => x.pz :: D.pzs r
end
mutual
def D.tz : D → Bool
  | .non => true | .bl _ => true | .int i => decide (i.natAbs.log2 < 12000) | .str _ => true | .tup xs => D.tzs xs | .lst xs => D.tzs xs | .hnd _ => false | .dic => true | .exc _ => false | .fn _ => false | .ptr _ => false | .dc1 _ d => d.tz
def D.tzs : List D → Bool
  | [] => true
  | x :: r => x.tz && D.tzs r
end
mutual
def thD : PyData → Bool
  | .none | .bool _ | .str _ => true
  | .int i => decide (i.natAbs.log2 < 12000)
  | .list xs | .tuple xs => thDs xs
  | .dict kvs => thDk kvs
def thDk : List (PyData × PyData) → Bool
  | [] => true
  | (k, v) :: r => thD k && thD v && thDk r
def thDs : List PyData → Bool
  | [] => true
  | x :: xs => thD x && thDs xs
end
mutual
theorem thD_of : ∀ {d : D}, d.tz = true → thD d.pz = true
  | .non, _ => by simp only [D.pz, thD]
  | .bl _, _ => by simp only [D.pz, thD]
  | .int _, h => by simp only [D.pz, thD]; simpa only [D.tz] using h
  | .str _, _ => by simp only [D.pz, thD]
  | .tup xs, h => by simp only [D.pz, thD]; exact thDs_of (by simpa only [D.tz] using h)
  | .lst xs, h => by simp only [D.pz, thD]; exact thDs_of (by simpa only [D.tz] using h)
  | .dic, _ => by simp only [D.pz, thD, thDk]
  | .dc1 k d, h => by simp only [D.pz, thD, thDk, thD_of (d := d) (by simpa only [D.tz] using h), Bool.and_self]
  | .hnd _, h => by simp only [D.tz] at h; cases h
  | .exc _, h => by simp only [D.tz] at h; cases h
  | .fn _, h => by simp only [D.tz] at h; cases h
  | .ptr _, h => by simp only [D.tz] at h; cases h
theorem thDs_of : ∀ {ds : List D}, D.tzs ds = true → thDs (D.pzs ds) = true
  | [], _ => by simp only [D.pzs, thDs]
  | d :: ds, h => by
    simp only [D.tzs, Bool.and_eq_true] at h
    simp only [D.pzs, thDs, thD_of h.1, thDs_of h.2, Bool.and_self]
end
theorem thDk_two : ∀ {kvs : List (PyData × PyData)}, thDk kvs = true → thDs (kvs.map (·.1)) = true ∧ thDs (kvs.map (·.2)) = true
  | [], _ => by simp only [List.map_nil, thDs, and_self]
  | (k, v) :: r, h => by
    simp only [thDk, Bool.and_eq_true] at h
    obtain ⟨p, q⟩ := thDk_two h.2
    simp only [List.map_cons, thDs, h.1.1, h.1.2, p, q, Bool.and_self, and_self]
def NoMods (h : Heap) (as : List Addr) : Prop := ∀ a ∈ as, ∀ o, h.get? a = some o → o.cls = .type "dict" → (a == sysModules) = false
theorem NoMods.sub {h : Heap} {as bs : List Addr} (n : NoMods h as) (s : ∀ b ∈ bs, b ∈ as) : NoMods h bs := fun a ha => n a (s a ha)
section
variable {prog : Program} {w : World} {h₀ : Heap} {K : PySem.W.Frag}
mutual
theorem thK (kin : K.In h₀) (hk : DigK K) : ∀ {v : Value} {d : PyData} {as : List Addr}, Reads h₀ v d as → NoMods h₀ as → thD d = true → d.shown.length ≤ sizeLine → ∃ bs, ReadAtMost h₀ d.depth bs ∧ ReprK prog w bs h₀ d.depth v d.shown
  | _, _, _, .none, _, _, _ => ⟨[], (fun _ h => nomatch h), by simp only [PyData.shown]; exact .of_is ReprIs.none _ _ _⟩
  | _, _, _, .bool b, _, _, _ => ⟨[], (fun _ h => nomatch h), by simp only [PyData.shown]; exact .of_is (ReprIs.bool b) _ _ _⟩
  | _, _, _, .int i t, _, hb, _ => ⟨[], (fun _ h => nomatch h), by
    simp only [PyData.shown]
    exact reprK_big kin hk (by simpa [thD] using hb) _ _⟩
  | _, _, _, .str x t, _, _, hz => ⟨[], (fun _ h => nomatch h), by simp only [PyData.shown]; exact .of_is (ReprIs.str x t (by simpa only [PyData.shown] using hz)) _ _ _⟩
  | _, _, _, .list (a := a) (vs := vs) (xs := xs) h1 h2 h3 h4, nm, hb, hz => by
    have hz' : (listText (PyData.shownAll xs)).length ≤ sizeLine := by simpa only [PyData.shown] using hz
    obtain ⟨bs, hbs, hks⟩ := thKs kin hk h4 (nm.sub fun b hb => List.mem_cons_of_mem _ hb) (by simpa [thD] using hb) (fun t ht => Nat.le_trans (listText_mem_le ht) hz')
    have r : Reads h₀ (.ref a) (.list xs) _ := .list h1 h2 h3 h4
    have hna : a ∉ bs := not_mem_of_deeper r (by simp only [PyData.depth]; omega) hbs
    refine ⟨a :: bs, ReadAtMost.cons r (by simp only [PyData.depth]; omega) hbs, ?_⟩
    simp only [PyData.depth, PyData.shown]
    obtain ⟨l⟩ := vs
    cases l with
    | nil =>
      have h4' : ReadsAll h₀ [] xs _ := h4
      cases h4'
      simp only [PyData.shownAll, listText_nil]
      exact ReprK.listEmpty h1 h2 h3
    | cons x l => exact ReprK.list h1 h2 h3 hna (by simpa using hks.length_eq) (fun i y e => hks.item i y (by simpa using e))
  | _, _, _, .tuple (a := a) (xs := xs) h1 h2 h3 h4, nm, hb, hz => by
    have hz' : (tupleText (PyData.shownAll xs)).length ≤ sizeLine := by simpa only [PyData.shown] using hz
    obtain ⟨bs, hbs, hks⟩ := thKs kin hk h4 nm (by simpa [thD] using hb) (fun t ht => Nat.le_trans (tupleText_mem_le ht) hz')
    have r : Reads h₀ (.ref a) (.tuple xs) _ := .tuple h1 h2 h3 h4
    have hna : a ∉ bs := not_mem_of_deeper r (by simp only [PyData.depth]; omega) hbs
    refine ⟨a :: bs, ReadAtMost.cons r (by simp only [PyData.depth]; omega) hbs, ?_⟩
    simp only [PyData.depth, PyData.shown]
    exact ReprK.tuple h1 h2 h3 hna hks
  | _, _, _, .dict (a := a) (es := es) (kvs := kvs) h1 h2 h3 h4 h5, nm, hb, hz => by
    obtain ⟨t1, t2⟩ := thDk_two (kvs := kvs) (by simpa [thD] using hb)
    have lk : ∀ p ∈ PyData.shownKv kvs, p.length ≤ sizeLine := fun p hp => Nat.le_trans (dictText_mem_le hp) (by simpa only [PyData.shown] using hz)
    obtain ⟨u1, m1, q1⟩ := thKs kin hk h4 (nm.sub fun b hb => by simp [hb]) t1 (fun t ht => by
      obtain ⟨p, hp, hl⟩ := PyData.shownKv_key_le kvs t ht
      exact Nat.le_trans hl (lk p hp))
    obtain ⟨u2, m2, q2⟩ := thKs kin hk h5 (nm.sub fun b hb => by simp [hb]) t2 (fun t ht => by
      obtain ⟨p, hp, hl⟩ := PyData.shownKv_val_le kvs t ht
      exact Nat.le_trans hl (lk p hp))
    have all := (m1.mono (PyData.depthAll_keys_le kvs)).append (m2.mono (PyData.depthAll_vals_le kvs))
    have rd := Reads.dict h1 h2 h3 h4 h5
    refine ⟨a :: (u1 ++ u2), ReadAtMost.cons rd (n := PyData.depthKv kvs) (by simp only [PyData.depth]; omega) all, ?_⟩
    simp only [PyData.depth, PyData.shown, PyData.shownKv_eq]
    refine ReprK.dict h1 h2 h3 (nm a (by simp) _ h1 h2) (not_mem_of_deeper rd (by simp only [PyData.depth]; omega) all) (ReprEntriesK.of_two _ _ _ (q1.more_le ?_ (PyData.depthAll_keys_le kvs)) (q2.more_le ?_ (PyData.depthAll_vals_le kvs)))
    · exact fun b hb => List.mem_append.mpr (.inl hb)
    · exact fun b hb => List.mem_append.mpr (.inr hb)
theorem thKs (kin : K.In h₀) (hk : DigK K) : ∀ {vs : List Value} {ds : List PyData} {as : List Addr}, ReadsAll h₀ vs ds as → NoMods h₀ as → thDs ds = true → (∀ t ∈ PyData.shownAll ds, t.length ≤ sizeLine) →
    ∃ bs, ReadAtMost h₀ (PyData.depthAll ds) bs ∧ ReprAllK prog w bs h₀ (PyData.depthAll ds) vs (PyData.shownAll ds)
  | _, _, _, .nil, _, _, _ => ⟨[], (fun _ h => nomatch h), by simp only [PyData.shownAll]; exact .nil⟩
  | _, _, _, .cons (d := d) (ds := ds) r rs, nm, hb, hz => by
    have hb' : thD d = true ∧ thDs ds = true := by simpa [thDs] using hb
    obtain ⟨b1, hb1, k1⟩ := thK kin hk r (nm.sub fun b hb => List.mem_append_left _ hb) hb'.1 (hz _ (by simp only [PyData.shownAll]; exact List.mem_cons_self ..))
    obtain ⟨b2, hb2, k2⟩ := thKs kin hk rs (nm.sub fun b hb => List.mem_append_right _ hb) hb'.2 (fun t ht => hz t (by simp only [PyData.shownAll]; exact List.mem_cons_of_mem _ ht))
    refine ⟨b1 ++ b2, ?_, ?_⟩
    · simp only [PyData.depthAll]
      exact (hb1.mono (Nat.le_max_left _ _)).append (hb2.mono (Nat.le_max_right _ _))
    · simp only [PyData.depthAll, PyData.shownAll]
      exact .cons ((k1.more fun b hb => List.mem_append_left _ hb).level_le (Nat.le_max_left _ _)) (k2.more_le (fun b hb => List.mem_append_right _ hb) (Nat.le_max_right _ _))
end
theorem repr_th {A : Around} {E : Value → Shared → Prop} {s : Shared} {Q : Value → Shared → Prop} {a : Addr} {d : PyData} {as : List Addr} (kin : K.In s.heap) (hk : DigK K) (r : Reads s.heap (.ref a) d as) (nm : NoMods s.heap as) (hb : thD d = true) (hg : A.guards = some []) (hu : A.units + (d.depth + 1) < cLine)
    (hQ : ∀ h' u tk, (∀ b o, s.heap.get? b = some o → h'.get? b = some o) → Q (.str d.shown u) { s with heap := h', toks := tk }) (hsz : d.shown.length ≤ sizeLine) : wpAny (model prog w) A (call (.builtin "repr") [.ref a]) Q E s := by
  cases r with
  | list h1 h2 h3 h4 =>
    rename_i o vs n xs bs₀
    have hz' : (listText (PyData.shownAll xs)).length ≤ sizeLine := by simpa only [PyData.shown] using hsz
    obtain ⟨bs, hbs, hks⟩ := thKs (prog := prog) (w := w) kin hk h4 (nm.sub fun b hb => List.mem_cons_of_mem _ hb) (by simpa [thD] using hb) (fun t ht => Nat.le_trans (listText_mem_le ht) hz')
    have hna : a ∉ bs := not_mem_of_deeper (.list h1 h2 h3 h4) (by simp only [PyData.depth]; omega) hbs
    simp only [PyData.depth] at hu
    simp only [PyData.shown] at hQ
    refine call_repr_slot (by omega) ⟨o, h1, h2⟩ F.slot_list_repr.toG ?_
    obtain ⟨l⟩ := vs
    cases l with
    | nil =>
      have h4' : ReadsAll _ [] xs _ := h4
      cases h4'
      simp only [PyData.shownAll, listText_nil] at hQ
      exact call_list_repr_empty ⟨o, h1, h2⟩ h1 h3 ⟨_, _, rfl, hQ s.heap _ _ fun _ _ e => e⟩
    | cons x l =>
      exact call_list_reprK h1 h2 h3 hna (by simpa using hks.length_eq) (fun i y e => hks.item i y (by simpa using e)) hg (fun b _ => Clear.nil b) (by show A.units + 1 + _ < cLine; omega) (fun _ _ e => e) (fun h' u tk hk => ⟨_, _, rfl, hQ h' u tk hk⟩) hz'
  | tuple h1 h2 h3 h4 =>
    rename_i o vs n xs
    have hz' : (tupleText (PyData.shownAll xs)).length ≤ sizeLine := by simpa only [PyData.shown] using hsz
    obtain ⟨bs, hbs, hks⟩ := thKs (prog := prog) (w := w) kin hk h4 nm (by simpa [thD] using hb) (fun t ht => Nat.le_trans (tupleText_mem_le ht) hz')
    have hna : a ∉ bs := not_mem_of_deeper (.tuple h1 h2 h3 h4) (by simp only [PyData.depth]; omega) hbs
    simp only [PyData.depth] at hu
    simp only [PyData.shown] at hQ
    refine call_repr_slot (by omega) ⟨o, h1, h2⟩ F.slot_tuple_repr ?_
    exact call_tuple_reprK h1 h2 h3 hna hks hg (fun b _ => Clear.nil b) (by show A.units + 1 + _ < cLine; omega) (fun _ _ e => e) (fun h' u tk hk => ⟨_, _, rfl, hQ h' u tk hk⟩) hz'
  | dict h1 h2 h3 h4 h5 =>
    rename_i o es n kvs as1 bs1
    obtain ⟨t1, t2⟩ := thDk_two (kvs := kvs) (by simpa [thD] using hb)
    have lk : ∀ p ∈ PyData.shownKv kvs, p.length ≤ sizeLine := fun p hp => Nat.le_trans (dictText_mem_le hp) (by simpa only [PyData.shown] using hsz)
    obtain ⟨u1, m1, q1⟩ := thKs (prog := prog) (w := w) kin hk h4 (nm.sub fun b hb => by simp [hb]) t1 (fun t ht => by
      obtain ⟨p, hp, hl⟩ := PyData.shownKv_key_le kvs t ht
      exact Nat.le_trans hl (lk p hp))
    obtain ⟨u2, m2, q2⟩ := thKs (prog := prog) (w := w) kin hk h5 (nm.sub fun b hb => by simp [hb]) t2 (fun t ht => by
      obtain ⟨p, hp, hl⟩ := PyData.shownKv_val_le kvs t ht
      exact Nat.le_trans hl (lk p hp))
    have all := (m1.mono (PyData.depthAll_keys_le kvs)).append (m2.mono (PyData.depthAll_vals_le kvs))
    have rd := Reads.dict h1 h2 h3 h4 h5
    simp only [PyData.depth] at hu
    simp only [PyData.shown, PyData.shownKv_eq] at hQ hsz
    refine call_repr_slot (by omega) ⟨o, h1, h2⟩ F.slot_dict_repr ?_
    refine call_dict_reprK (as := u1 ++ u2) (d := PyData.depthKv kvs) h1 h2 h3 (nm a (by simp) _ h1 h2) (not_mem_of_deeper rd (by simp only [PyData.depth]; omega) all) (ReprEntriesK.of_two _ _ _ (q1.more_le ?_ (PyData.depthAll_keys_le kvs)) (q2.more_le ?_ (PyData.depthAll_vals_le kvs))) hg (fun b _ => Clear.nil b) (by show A.units + 1 + _ < cLine; omega) (fun _ _ e => e) (fun h' u tk hk => ⟨_, _, rfl, hQ h' u tk hk⟩) hsz
    · exact fun b hb => List.mem_append.mpr (.inl hb)
    · exact fun b hb => List.mem_append.mpr (.inr hb)
end
section
variable {X : Cx} {pins : List (Addr × Obj)} {σ : L2.St} {H : Hp} {s : Shared} {st : Bool} {F : List Addr} {G : Hp}
mutual
theorem Dn.rdz (I : Inv X pins σ H s) (hG : ∀ a o, G a = some o → H a = some o) : ∀ (d : D) (v : V) (u : Value), Dn st X.K F G v d → d.tz = true → RelV v u → ∃ as, Reads s.heap u d.pz as ∧ NoMods s.heap as
  | .non, _, _, h, _, r => by
    cases h; cases r
    exact ⟨_, Reads.none, fun _ h => nomatch h⟩
  | .bl b, _, _, h, _, r => by
    cases h; cases r
    exact ⟨_, Reads.bool b, fun _ h => nomatch h⟩
  | .int i, _, _, h, _, r => by
    cases h
    obtain ⟨t, rfl⟩ := r
    exact ⟨_, Reads.int i t, fun _ h => nomatch h⟩
  | .str x, _, _, h, _, r => by
    cases h
    obtain ⟨t, rfl⟩ := r
    exact ⟨_, Reads.str x t, fun _ h => nomatch h⟩
  | .lst ds, _, _, h, z, r => by
    cases h with
    | lst hs ha =>
      cases r
      simp only [D.tz] at z
      obtain ⟨its, rv, ⟨o, n, ho, hc, hm, hd⟩, _⟩ := I.list ((hs.mono hG).sq)
      obtain ⟨as, hr, nm⟩ := DnA.rdz I hG ds _ its ha z rv
      refine ⟨_, Reads.list ho hc hd hr, fun a ha o' ho' hc' => ?_⟩
      rcases List.mem_cons.mp ha with rfl | ha
      · rw [ho] at ho'
        cases ho'
        rw [hc] at hc'
        exact absurd (show "list" = "dict" from by injection hc') (by decide)
      · exact nm a ha o' ho' hc'
  | .tup ds, _, _, h, z, r => by
    cases h with
    | tup hs ha =>
      cases r
      simp only [D.tz] at z
      obtain ⟨its, rv, ⟨o, ho, hc, n, hd⟩, _⟩ := I.tuple ((hs.mono fun a xs => hG a _).sq)
      obtain ⟨as, hr, nm⟩ := DnA.rdz I hG ds _ its ha z rv
      exact ⟨_, Reads.tuple ho hc hd hr, nm⟩
  | .dic, _, _, h, _, r => by
    cases h with
    | dic ha =>
      cases r
      obtain ⟨_, ns, vs, kv, o, es, ep, ho, hex, hd, _, hp, _⟩ := dk_of I.hok (hG _ _ ha)
      cases kv
      have e0 : es = #[] := by
        obtain ⟨l⟩ := es
        cases l with
        | nil => rfl
        | cons x l => cases hp
      subst e0
      refine ⟨_, Reads.dict ho hex.1 hd .nil .nil, fun a ha o' ho' hc' => ?_⟩
      have e1 := List.mem_singleton.mp (by simpa using ha)
      subst e1; exact ns
  | .dc1 k d, _, _, h, z, r => by
    cases h with
    | dc1 ha hd =>
      cases r
      obtain ⟨_, ns, vs, kv, o, es, ep, ho, hex, hda, _, hp, _⟩ := dk_of I.hok (hG _ _ ha)
      obtain ⟨es⟩ := es
      cases kv with
      | @cons p0 q0 _ _ p1 t1 =>
      cases t1
      obtain ⟨e1, rv⟩ := p1
      cases hp with
      | @cons e _ _ _ h1 h2 h3 =>
      cases h3
      simp only [D.tz] at z
      obtain ⟨as, q, nm⟩ := Dn.rdz I hG d _ _ hd z rv
      rcases keyIs_shape h1 with ⟨i, t, e2, _⟩ | ⟨x, t, e2, ek⟩
      · rw [← e1] at e2; cases e2
      rw [← e1] at e2
      cases e2
      have ak : ReadsAll s.heap [e.key] [PyData.str k] ([] ++ []) := by rw [ek]; exact .cons (.str k t) .nil
      have av : ReadsAll s.heap [e.val] [d.pz] (as ++ []) := by rw [h2]; exact .cons q .nil
      refine ⟨_, Reads.dict (kvs := [(.str k, d.pz)]) ho hex.1 hda ak av, fun b hb o' ho' hc' => ?_⟩
      simp only [List.append_nil, List.mem_append, List.mem_cons, List.not_mem_nil, or_false] at hb
      rcases hb with rfl | hb
      · exact ns
      · exact nm b hb o' ho' hc'
  | .hnd _, _, _, _, z, _ => by simp only [D.tz] at z; cases z
  | .exc _, _, _, _, z, _ => by simp only [D.tz] at z; cases z
  | .fn _, _, _, _, z, _ => by simp only [D.tz] at z; cases z
  | .ptr _, _, _, _, z, _ => by simp only [D.tz] at z; cases z
theorem DnA.rdz (I : Inv X pins σ H s) (hG : ∀ a o, G a = some o → H a = some o) : ∀ (ds : List D) (vs : List V) (us : List Value), DnA st X.K F G vs ds → D.tzs ds = true → Vals vs us → ∃ as, ReadsAll s.heap us (D.pzs ds) as ∧ NoMods s.heap as
  | [], _, _, h, _, r => by
    cases h; cases r
    exact ⟨_, ReadsAll.nil, fun _ h => nomatch h⟩
  | d :: ds, _, _, h, z, r => by
    cases h with
    | cons h1 h2 =>
      simp only [D.tzs, Bool.and_eq_true] at z
      cases r with
      | cons r1 r2 =>
        obtain ⟨as, q1, n1⟩ := Dn.rdz I hG d _ _ h1 z.1 r1
        obtain ⟨bs, q2, n2⟩ := DnA.rdz I hG ds _ _ h2 z.2 r2
        exact ⟨_, ReadsAll.cons q1 q2, fun a ha => (List.mem_append.mp ha).elim (n1 a) (n2 a)⟩
end
end
def D.rez (d : D) : Str := d.pz.shown
def D.shoT (d : D) : Prop := d.tz = true ∧ d.pz.depth ≤ 60 ∧ d.pz.shown.length ≤ sizeLine
def gReprT : List D → (D → Prop) → Prop
  | [d], Q => d.shoT ∧ Q (.str d.rez)
  | _, _ => False
def rRepT (X : Cx) : List V → Hp → VK → Prop := fun xs H Q => ∃ v d F, xs = [v] ∧ (∃ G : Hp, (∀ a o, G a = some o → H a = some o) ∧ Dn false X.K F G v d) ∧ d.shoT ∧ Q (.str d.rez) H
section
variable {X : Cx} {C : Cn}
theorem call_reprT (hk : DigK X.K) (gd : X.A.guards = some []) (un : X.A.units + 64 < cLine) : CallR X (.builtin "repr") (rRepT X) := by
  intro pins s σ H xs us Q I r h
  obtain ⟨v, d, F1, rfl, ⟨G, hG, dn⟩, ⟨tz, dep, sz⟩, q⟩ := h
  obtain ⟨u, rfl, rv⟩ := vals1 r
  obtain ⟨as, rd, nm⟩ := Dn.rdz I hG d v u dn tz rv
  have hb := thD_of tz
  unfold D.rez at q
  by_cases href : ∃ a, u = .ref a
  · obtain ⟨a, rfl⟩ := href
    exact repr_th I.kIn hk rd nm hb gd (by omega) (fun h' u' tk k => ⟨.str d.pz.shown, H, I.kept k, ⟨_, rfl⟩, q⟩) sz
  · generalize d.pz = p at *
    cases rd with
    | none => exact PySem.P.repr_of_none ⟨.str _, H, I.tok _, ⟨_, rfl⟩, by simpa only [PyData.shown] using q⟩
    | bool b => exact PySem.P.repr_of_bool ⟨.str _, H, I.tok _, ⟨_, rfl⟩, by simpa only [PyData.shown] using q⟩
    | int i t => exact call_repr_slot (by omega) (typeIs_int s i t) F.slot_int_repr.toG (call_int_repr I.kIn hk (by simpa [thD] using hb) ⟨_, _, rfl, ⟨.str _, H, I.tok _, ⟨_, rfl⟩, by simpa only [PyData.shown] using q⟩⟩)
    | str x t => exact PySem.P.repr_of_str ⟨.str _, H, I.tok _, ⟨_, rfl⟩, by simpa only [PyData.shown] using q⟩ (by simpa only [PyData.shown] using sz)
    | list h1 => exact absurd ⟨_, rfl⟩ href
    | tuple h1 => exact absurd ⟨_, rfl⟩ href
    | dict h1 => exact absurd ⟨_, rfl⟩ href
theorem ca_reprT (hk : DigK X.K) (gd : X.A.guards = some []) (un : X.A.units + 64 < cLine) : CaOk X C .w (.builtin "repr") gReprT := by
  refine ⟨_, call_reprT hk gd un, fun σ H Pr F ρ m vs ds Q R S dv q k => ?_⟩
  have dv : DnA false X.K F (wv F H) vs ds := dv
  unfold gReprT at q
  split at q
  · obtain ⟨sh, q⟩ := q
    cases dv with
    | cons h r =>
      cases r
      exact ⟨_, _, _, rfl, ⟨_, fun _ _ => wv_le, h⟩, sh, k _ _ (post_here S (.str _) (fun _ h => nomatch h) q)⟩
  · exact q.elim
end
theorem v_reprT {d : D} {q : D → Prop} (s : d.shoT) (h : q (.str d.rez)) : gReprT [d] q := ⟨s, h⟩
end RR
namespace RR
open PySem PySem.Spec PyProof.Rows L2
theorem th_cases {b l : Nat} {P : Nat → D → Prop} (non : ∀ n, P n .non) (bl : ∀ n x, P n (.bl x)) (int : ∀ n i, bd b i → P n (.int i)) (str : ∀ n x, (PyData.str x).shown.length ≤ 12 → P n (.str x)) (dic : ∀ n, P n .dic) (dc1 : ∀ n k d, (PyData.str k).shown.length ≤ 4 → P n d → P (n + 2) (.dc1 k d))
    (tup : ∀ n xs, xs.length ≤ l → (∀ x ∈ xs, P n x) → P (n + 1) (.tup xs)) (lst : ∀ n xs, xs.length ≤ l → (∀ x ∈ xs, P n x) → P (n + 1) (.lst xs)) : ∀ {n : Nat} {d : D}, Th b l n d → P n d
  | n, .non, _ => non n
  | n, .bl x, _ => bl n x
  | n, .int i, h => int n i h.ib
  | n, .str x, h => str n x (by cases n <;> exact h)
  | n, .dic, _ => dic n
  | 0, .tup _, h => h.elim
  | 0, .lst _, h => h.elim
  | n + 1, .tup xs, h => tup n xs h.1 fun x hx => th_cases non bl int str dic dc1 tup lst (h.2 x hx)
  | n + 1, .lst xs, h => lst n xs h.1 fun x hx => th_cases non bl int str dic dc1 tup lst (h.2 x hx)
  | n, .hnd _, h => by cases n <;> exact h.elim
  | n, .exc _, h => by cases n <;> exact h.elim
  | n, .fn _, h => by cases n <;> exact h.elim
  | n, .ptr _, h => by cases n <;> exact h.elim
  | 0, .dc1 _ _, h => h.elim
  | 1, .dc1 _ _, h => h.elim
  | n + 2, .dc1 k d, h => dc1 n k d h.1 (th_cases non bl int str dic dc1 tup lst h.2)
theorem tzs_all {ds : List D} (h : ∀ d ∈ ds, d.tz = true) : D.tzs ds = true := by
  induction ds with
  | nil => simp only [D.tzs]
  | cons d ds ih => simp only [D.tzs, h d List.mem_cons_self, ih fun e he => h e (List.mem_cons_of_mem _ he), Bool.and_self]
theorem pzs_depth {n : Nat} {ds : List D} (h : ∀ d ∈ ds, d.pz.depth ≤ n) : PyData.depthAll (D.pzs ds) ≤ n := by
  induction ds with
  | nil => simp only [D.pzs, PyData.depthAll]; exact Nat.zero_le _
  | cons d ds ih =>
    simp only [D.pzs, PyData.depthAll]
    exact Nat.max_le.mpr ⟨h d List.mem_cons_self, ih fun e he => h e (List.mem_cons_of_mem _ he)⟩
theorem pzs_piled {c : Nat} {ds : List D} (h : ∀ d ∈ ds, d.pz.shown.length ≤ d.wz c) : piled (PyData.shownAll (D.pzs ds)) ≤ D.wzs c ds := by
  induction ds with
  | nil => simp only [D.pzs, PyData.shownAll, wzs_nil]; exact Nat.le_refl _
  | cons d ds ih =>
    simp only [D.pzs, PyData.shownAll]
    rw [piled_cons, wzs_cons]
    have h1 := h d List.mem_cons_self
    have h2 := ih fun e he => h e (List.mem_cons_of_mem _ he)
    omega
theorem Th.tz {b l n : Nat} {d : D} (h : Th b l n d) (hb : b ≤ 12000) : d.tz = true := by
  refine th_cases (P := fun _ d => d.tz = true) (fun _ => ?_) (fun _ _ => ?_) (fun _ i hi => ?_) (fun _ _ _ => ?_) (fun _ => ?_) (fun _ _ _ _ ih => ?_) (fun _ xs _ ih => ?_) (fun _ xs _ ih => ?_) h
  · simp only [D.tz]
  · simp only [D.tz]
  · simp only [D.tz]
    exact decide_eq_true (log_of_bd (bd_mono hi hb) (by decide))
  · simp only [D.tz]
  · simp only [D.tz]
  · simp only [D.tz]; exact ih
  · simp only [D.tz]; exact tzs_all ih
  · simp only [D.tz]; exact tzs_all ih
theorem Th.depth {b l n : Nat} {d : D} (h : Th b l n d) : d.pz.depth ≤ n + 1 := by
  refine th_cases (P := fun n d => d.pz.depth ≤ n + 1) (fun _ => ?_) (fun _ _ => ?_) (fun _ i hi => ?_) (fun _ _ _ => ?_) (fun _ => ?_) (fun n k d hk ih => ?_) (fun n xs _ ih => ?_) (fun n xs _ ih => ?_) h
  · simp only [D.pz, PyData.depth]; omega
  · simp only [D.pz, PyData.depth]; omega
  · simp only [D.pz, PyData.depth]; omega
  · simp only [D.pz, PyData.depth]; omega
  · simp only [D.pz, PyData.depth, PyData.depthKv]; omega
  · simp only [D.pz, PyData.depth, PyData.depthKv]; omega
  · simp only [D.pz, PyData.depth]
    exact Nat.succ_le_succ (pzs_depth ih)
  · simp only [D.pz, PyData.depth]
    exact Nat.succ_le_succ (pzs_depth ih)
theorem fmt_list (ts : List Str) : (listText ts).length ≤ piled ts + 2 := by
  rw [listText_eq_join, strLen_append, strLen_append]
  have e1 : ("[" : Str).length = 1 := by decide +kernel
  have e2 : ("]" : Str).length = 1 := by decide +kernel
  rw [e1, e2]
  by_cases h : ts = []
  · subst h
    have : (Str.join ", " ([] : List Str)).length = 0 := by decide +kernel
    omega
  · have := join_length_add ts h
    omega
theorem Th.len {b l n c : Nat} {d : D} (h : Th b l n d) (hb : 1 ≤ b) (hb2 : b ≤ 12000) (hc : b + 12 ≤ c) : d.pz.shown.length ≤ d.wz c := by
  refine th_cases (P := fun n d => d.pz.shown.length ≤ d.wz c) (fun _ => ?_) (fun _ x => ?_) (fun _ i hi => ?_) (fun _ x hx => ?_) (fun _ => ?_) (fun n k d hk ih => ?_) (fun n xs _ ih => ?_) (fun n xs _ ih => ?_) h
  · simp only [D.pz, D.wz, PyData.shown]
    have : ("None" : Str).length ≤ 12 := by decide +kernel
    omega
  · simp only [D.pz, D.wz, PyData.shown]
    have : (if x = true then ("True" : Str) else "False").length ≤ 12 := by cases x <;> decide +kernel
    omega
  · simp only [D.pz, D.wz, PyData.shown]
    have e := int_text_length_le (k := b) hb (log_of_bd hi hb)
    rw [PySem.ofString_length]
    omega
  · simp only [D.pz, D.wz]
    omega
  · simp only [D.pz, D.wz, PyData.shown, PyData.shownKv]
    have : (dictText []).length ≤ 12 := by decide +kernel
    omega
  · simp only [D.pz, D.wz]
    have e1 : (PyData.dict [(.str k, d.pz)]).shown.length = (PyData.str k).shown.length + d.pz.shown.length + 4 := by
      have e0 : (PyData.dict [(.str k, d.pz)]).shown = ("{" : Str) ++ ((PyData.str k).shown ++ ": " ++ d.pz.shown) ++ "}" := by
        simp only [PyData.shown, PyData.shownKv, dictText, Str.join]
      rw [e0]
      simp only [strLen_append]
      have x1 : ("{" : Str).length = 1 := by decide +kernel
      have x2 : ("}" : Str).length = 1 := by decide +kernel
      have x3 : (": " : Str).length = 2 := by decide +kernel
      omega
    omega
  · simp only [D.pz, PyData.shown, wz_tup]
    have e1 := fmt_text (PyData.shownAll (D.pzs xs))
    have e2 := pzs_piled ih
    omega
  · simp only [D.pz, PyData.shown, wz_lst]
    have e1 := fmt_list (PyData.shownAll (D.pzs xs))
    have e2 := pzs_piled ih
    omega
theorem Th.sho {b l n c : Nat} {d : D} (h : Th b l n d) (hb : 1 ≤ b) (hb2 : b ≤ 11000) (hn : n ≤ 50) (hc : b + 12 ≤ c) (hw : d.wz c ≤ 16777216) : d.shoT := ⟨h.tz (by omega), Nat.le_trans h.depth (by omega), small_line (Nat.le_trans (h.len hb (by omega) hc) hw)⟩
end RR
namespace RR
open PySem PySem.Spec PyProof.Rows L2
section
variable {X : Cx} {C : Cn} {pos p1 p2 : Pos}
def dDc1 {M : Type} (k : Str) (i : Nat) : DT M := fun ρ m Q _ => match ρ[i]? with | some (.val d) => Q (.dc1 k d) m | _ => False
theorem j_dc1 (i : Nat) {k x : Str} {j : Nat} (hN : X.N[i]? = some x := by rfl) (hv : Vis X.env.scope x := by first | exact Or.inl rfl | exact Or.inr (Or.inl rfl) | exact Or.inr (Or.inr rfl)) (hd : (x == ("__debug__" : Str)) = false := by decide)
    (hcd : (x == ("__classdict__" : Str)) = false := by decide) : J .f X C (.Dict [some (.Constant (.str k) j p1)] [.Name x p2] pos) (dDc1 k i) := by
  refine ⟨_, pe_disp (pps_cons pe_str (pe_var hN hv hd hcd) pps_nil) rfl rfl (by simp) (by simp), fun σ H Pr F ρ m Q Z R S E h q p hp => ?_⟩
  unfold dDc1 at h
  split at h
  · rename_i d e
    obtain ⟨v, e1, _⟩ := S.slot i _ e
    refine ⟨v, e1, upd_same, [(.inr k, v)], rfl, by simp, q _ _ ?_⟩
    have e2 : upd (upd H p (.dK [])) p (.dK (mergeK [] [(.inr k, v)])) = upd H p (.dK [(.inr k, v)]) := by
      funext a
      by_cases z : a = p
      · rw [z, upd_same, upd_same]; rfl
      · rw [upd_ne z, upd_ne z, upd_ne z]
    rw [e2]
    obtain ⟨S2, t2⟩ := S.new1 (o := .dK [(.inr k, v)]) hp
    have np := S.np hp
    obtain ⟨v2, e3, q2⟩ := S2.slot i _ e
    rw [e1] at e3
    cases e3
    exact ⟨Pr, F, m, .dc1 k d, S2, t2, ⟨.dc1 (vw_iff.mpr ⟨upd_same, .inr ⟨trivial, np, S.h0n hp⟩⟩) q2, fun ds e => nomatch e⟩, h⟩
  · exact h.elim
end
end RR
namespace RR
open PySem PySem.Spec PyProof.Rows L2
def b__law_small_poly : DS (Option Nat) :=
    (dRet (dCall s__law_poly [] (dCons (dCall s__law_small_row [] (dCons (dVar 0) (dCons (dVar 1) (dCons (dC (.int 6)) dNil)))) (dCons (dBin (gIx false) (dLst (dCons (dC (.int 1)) (dCons (dC (.int 1)) (dCons (dC (.int 1)) (dCons (dC (.int 2)) (dCons (dC (.int 3)) (dCons (dC (.int 12)) dNil))))))) (dCall s__law_draw [] (dCons (dVar 0) (dCons (dC (.int 6)) dNil)))) dNil))))
def s__law_small_poly : DSp (Option Nat) := fun ds m Q Z => ∃ (N : Nat) (most : Int), ds = [.hnd hdl, .int most] ∧ m = some N ∧ 0 ≤ most ∧ most ≤ 100 ∧ most + 2 ≤ N ∧
  ∀ (f : Ser Rat) (r : List Int) (d : Int) (N' : Nat), P f r d → Dr most.toNat r d → N ≤ N' + (most.toNat + 2) → Q (pd r d) (some N')
theorem vc__law_small_poly : ∀ ds (m : Option Nat) Q Z, s__law_small_poly ds m Q Z → okK [false, false] ds ∧ b__law_small_poly { nx := fun _ m' => Q .non m', rt := Q, ex := Z } (st0 [false, false] ds 2) m := by
  rintro ds m Q Z ⟨N, most, rfl, rfl, h0, h1, hN, q⟩
  refine ⟨⟨fun _ => rfl, fun _ => rfl, trivial⟩, ?_⟩
  unfold b__law_small_poly
  repeat walk_at "s"
  refine ⟨N, most, 6, rfl, rfl, h0, h1, by omega, by decide, by decide, fun xs N1 dx lx bx hN1 => ?_⟩
  repeat walk_at "s"
  refine v_drawN (by omega) (by decide) (by decide) fun c hc0 hc1 => ?_
  refine v_ixl (xs := [1, 1, 1, 2, 3, 12]) hc0 hc1 ?_
  have hm : ∀ s ∈ [(1 : Int), 1, 1, 2, 3, 12], (1 : Int) ≤ s ∧ s ≤ 12 := by
    intro s hs; simp at hs; rcases hs with rfl | rfl | rfl | rfl <;> omega
  obtain ⟨d1, d2⟩ := hm _ (nth_mem hc0 hc1)
  generalize nth [1, 1, 1, 2, 3, 12] c = d at d1 d2 ⊢
  have bd_ : bd 10 d := by unfold bd; omega
  have d0 : d ≠ 0 := by omega
  have bx' : ∀ x ∈ xs, bd 200 x := fun x hx => by
    have h1 := bx x hx
    have h2 : (6 : Int).natAbs = 6 := rfl
    have h3 : (2 : Nat) ^ 3 ≤ 2 ^ 200 := Nat.pow_le_pow_right (by decide) (by decide)
    unfold bd; omega
  repeat walk_at "s"
  refine ⟨xs, d, rfl, by omega, d0, .inl (bd_mono bd_ (by decide)), ?_⟩
  exact q _ _ _ _ (low_P d0 dx (ser_of d0)) ⟨by rw [lowR_len]; omega, lowR_bd d0 bx', lowD_bd d0 bd_⟩ (by omega)
end RR
namespace RR
open PySem PySem.Spec PyProof.Rows L2
def polB : D → Bool
  | .tup [x, .int d] => match rowD x with | some r => isPd r d | none => false
  | _ => false
theorem polB_pd {r : List Int} {d : Int} : polB (pd r d) = isPd r d := by
  show (match rowD (.tup (zz r)) with | some r => isPd r d | none => false) = _
  have h := rowD_zz (xs := r)
  unfold isPd
  cases e : rowD (.tup (zz r)) with
  | none => rw [e] at h; rw [← h]; rfl
  | some x =>
    obtain ⟨e1, _⟩ := rowD_some e
    have e2 : x = r := by
      have : zz r = zz x := by injection e1
      exact (zz_inj this).symm
    subst e2
    rfl
theorem polB_x {x y : D} (h : rowD x = none) : polB (.tup [x, y]) = false := by
  cases y with
  | int d => show (match rowD x with | some r => isPd r d | none => false) = false; rw [h]
  | _ => rfl
theorem polB_y {x y : D} (h : whD y = false) : polB (.tup [x, y]) = false := by
  cases y with
  | int d => cases h
  | _ => rfl
theorem polB_len {us : List D} (h : us.length ≠ 2) : polB (.tup us) = false := by
  match us, h with
  | [], _ => rfl
  | [_], _ => rfl
  | [_, _], h => exact absurd rfl h
  | _ :: y :: _ :: _, _ =>
    cases y <;> rfl
def b__law_is_number {M : Type} : DS M :=
    (dRet (dAndV (dIsi "int" (dVar 0)) (dNotV (dIsi "bool" (dVar 0)))))
def s__law_is_number {M : Type} : DSp M := fun ds m Q Z => ∃ (t : D) (ty : String), ds = [t] ∧ t.ty = some ty ∧ Q (.bl (whD t)) m
theorem vc__law_is_number {M : Type} : ∀ ds (m : M) Q Z, s__law_is_number ds m Q Z → okU [false] ds ∧ b__law_is_number { nx := fun _ m' => Q .non m', rt := Q, ex := Z } (st0 [false] ds 1) m := by
  rintro ds m Q Z ⟨t, ty, rfl, hty, q⟩
  refine ⟨rfl, ?_⟩
  unfold b__law_is_number
  have ew := whD_ty hty
  unfold whT at ew
  repeat walk_at "k"
  refine v_kI hty rfl ?_
  rw [ew] at q
  refine v_kAV (fun h => ?_) fun h => ?_
  · rw [h, Bool.true_and] at q
    repeat walk_at "k"
    refine v_kI hty rfl ?_
    repeat walk_at "k"
    exact q
  · rw [h, Bool.false_and] at q
    exact q
def b__law_is_poly_t {M : Type} : DS M :=
    (dThen (dIte (dOr (dNot (dVal (dIsi "tuple" (dVar 0)))) (dOr (dTst (dBin gNe (dB gLen (dCons (dVar 0) dNil)) (dC (.int 2)))) (dOr (dNot (dVal (dCall s__law_is_row [] (dCons (dBin (gIx false) (dVar 0) (dC (.int 0))) dNil)))) (dNot (dVal (dCall s__law_is_number [] (dCons (dBin (gIx false) (dVar 0) (dC (.int 1))) dNil)))))))
      (dRet (dC (.bl false)))
      dNext)
    (dRet (dAndV (dBin gGt (dBin (gIx false) (dVar 0) (dC (.int 1))) (dC (.int 0))) (dBin gEq (dCall s__law_common [] (dCons (dBin gAdd (dB (gSeq .lst) (dCons (dBin (gIx false) (dVar 0) (dC (.int 0))) dNil)) (dLst (dCons (dBin (gIx false) (dVar 0) (dC (.int 1))) dNil))) dNil)) (dC (.int 1))))))
def s__law_is_poly_t {M : Type} : DSp M := fun ds m Q Z => ∃ (t : D) (b l n : Nat), ds = [t] ∧ Th b l n t ∧ l ≤ 1000 ∧ Q (.bl (polB t)) m
theorem vc__law_is_poly_t {M : Type} : ∀ ds (m : M) Q Z, s__law_is_poly_t ds m Q Z → okU [false] ds ∧ b__law_is_poly_t { nx := fun _ m' => Q .non m', rt := Q, ex := Z } (st0 [false] ds 1) m := by
  rintro ds m Q Z ⟨t, b, l, n, rfl, ht, hl, q⟩
  refine ⟨rfl, ?_⟩
  unfold b__law_is_poly_t
  cases t with
  | tup us =>
    obtain ⟨n', rfl, lu, hu⟩ : ∃ n', n = n' + 1 ∧ us.length ≤ l ∧ ∀ x ∈ us, Th b l n' x := by
      cases n with
      | zero => exact ht.elim
      | succ n => exact ⟨n, rfl, ht.1, ht.2⟩
    repeat walk_at "k"
    try ((with_reducible show @ite _ _ _ _ _); refine v_ifF ?_)
    repeat walk_at "k"
    by_cases h2 : us.length = 2
    · obtain ⟨x, y, rfl⟩ : ∃ x y, us = [x, y] := by
        match us, h2 with
        | [x, y], _ => exact ⟨x, y, rfl⟩
      have hx := hu x (by simp)
      have hy := hu y (by simp)
      obtain ⟨ty, hty⟩ := hy.ty
      repeat walk_at "k"
      refine v_ifF ?_
      repeat walk_at "k"
      refine ⟨x, b, l, n', rfl, hx, hl, ?_⟩
      cases hr : rowD x with
      | none =>
        rw [polB_x hr] at q
        repeat walk_at "k"
        exact q
      | some r =>
        obtain ⟨rfl, dn⟩ := rowD_some hr
        repeat walk_at "k"
        refine v_ifF ?_
        repeat walk_at "k"
        refine ⟨y, ty, rfl, hty, ?_⟩
        cases hw : whD y with
        | false =>
          rw [polB_y hw] at q
          repeat walk_at "k"
          exact q
        | true =>
          obtain ⟨d, rfl⟩ := whD_int hw
          rw [show D.tup [.tup (zz r), .int d] = pd r d from rfl, polB_pd] at q
          unfold isPd at q
          have c := rowD_zz (xs := r)
          rw [hr] at c
          rw [← c, Option.isSome_some, Bool.true_and] at q
          have lr : r.length ≤ 1000 := by
            cases n' with
            | zero => exact hx.elim
            | succ k =>
              have h1 := hx.1
              simp only [zz, List.length_map] at h1
              omega
          repeat walk_at "k"
          refine v_kAV (fun h => ?_) fun h => ?_
          · rw [h, Bool.true_and] at q
            repeat walk_at "k"
            refine v_addlz (xs := r) (ys := [d]) (by simp; omega) ?_
            repeat walk_at "k"
            refine ⟨_, rfl, ?_⟩
            repeat walk_at "k"
            rw [gcdL_snoc]
            exact q
          · rw [h, Bool.false_and] at q
            exact q
    · rw [polB_len h2] at q
      rw [show (!decide ((us.length : Int) = 2)) = true from by rw [decide_eq_false (by omega)]; rfl]
      repeat walk_at "k"
      exact q
  | _ =>
    obtain ⟨ty, hty⟩ := ht.ty
    repeat walk_at "k"
    refine v_kI (b := false) hty (by first | (cases hty; done) | (cases hty; rfl)) ?_
    repeat walk_at "k"
    exact q
def b_polys_is_poly_b {M : Type} : DS M :=
    (dThen (dIte (dOr (dNot (dVal (dIsi "tuple" (dBor 0)))) (dOr (dTst (dBin gNe (dB gLen (dCons (dBor 0) dNil)) (dC (.int 2)))) (dOr (dNot (dVal (dCall s_rows_is_row_b [] (dCons (dBin (gIx false) (dBor 0) (dC (.int 0))) dNil)))) (dNot (dVal (dCall s_numbers_is_whole [] (dCons (dBin (gIx false) (dBor 0) (dC (.int 1))) dNil)))))))
      (dRet (dC (.bl false)))
      dNext)
    (dRet (dAndV (dBin gGt (dBin (gIx false) (dBor 0) (dC (.int 1))) (dC (.int 0))) (dBin gEq (dCall s_numbers_common [] (dCons (dCall s_rows_content [] (dCons (dBin (gIx false) (dBor 0) (dC (.int 0))) dNil)) (dCons (dBin (gIx false) (dBor 0) (dC (.int 1))) dNil))) (dC (.int 1))))))
def s_polys_is_poly_b {M : Type} : DSp M := fun ds m Q Z => ∃ (t : D) (b l n : Nat), ds = [t] ∧ Th b l n t ∧ l ≤ 1000 ∧ Q (.bl (polB t)) m
theorem vc_polys_is_poly_b {M : Type} : ∀ ds (m : M) Q Z, s_polys_is_poly_b ds m Q Z → okK [true] ds ∧ b_polys_is_poly_b { nx := fun _ m' => Q .non m', rt := Q, ex := Z } (st0 [true] ds 1) m := by
  rintro ds m Q Z ⟨t, b, l, n, rfl, ht, hl, q⟩
  refine ⟨⟨fun h => (nomatch h), trivial⟩, ?_⟩
  unfold b_polys_is_poly_b
  cases t with
  | tup us =>
    obtain ⟨n', rfl, lu, hu⟩ : ∃ n', n = n' + 1 ∧ us.length ≤ l ∧ ∀ x ∈ us, Th b l n' x := by
      cases n with
      | zero => exact ht.elim
      | succ n => exact ⟨n, rfl, ht.1, ht.2⟩
    repeat walk_at "k"
    try ((with_reducible show @ite _ _ _ _ _); refine v_ifF ?_)
    repeat walk_at "k"
    by_cases h2 : us.length = 2
    · obtain ⟨x, y, rfl⟩ : ∃ x y, us = [x, y] := by
        match us, h2 with
        | [x, y], _ => exact ⟨x, y, rfl⟩
      have hx := hu x (by simp)
      have hy := hu y (by simp)
      obtain ⟨ty, hty⟩ := hy.ty
      repeat walk_at "k"
      refine v_ifF ?_
      repeat walk_at "k"
      refine ⟨x, b, l, n', rfl, hx, hl, ?_⟩
      cases hr : rowD x with
      | none =>
        rw [polB_x hr] at q
        repeat walk_at "k"
        exact q
      | some r =>
        obtain ⟨rfl, dn⟩ := rowD_some hr
        repeat walk_at "k"
        refine v_ifF ?_
        repeat walk_at "k"
        refine ⟨y, ty, rfl, hty, ?_⟩
        cases hw : whD y with
        | false =>
          rw [polB_y hw] at q
          rw [show whT ty = false from by rw [← whD_ty hty]; exact hw]
          repeat walk_at "k"
          exact q
        | true =>
          obtain ⟨d, rfl⟩ := whD_int hw
          rw [show D.tup [.tup (zz r), .int d] = pd r d from rfl, polB_pd] at q
          unfold isPd at q
          have c := rowD_zz (xs := r)
          rw [hr] at c
          rw [← c, Option.isSome_some, Bool.true_and] at q
          have lr : r.length ≤ 1000 := by
            cases n' with
            | zero => exact hx.elim
            | succ k =>
              have h1 := hx.1
              simp only [zz, List.length_map] at h1
              omega
          rw [show whT ty = true from by rw [← whD_ty hty]; exact hw]
          repeat walk_at "k"
          repeat walk_at "k"
          refine v_kAV (fun h => ?_) fun h => ?_
          · rw [h, Bool.true_and] at q
            repeat walk_at "k"
            refine ⟨r, rfl, ?_⟩
            repeat walk_at "k"
            refine ⟨_, _, rfl, ?_⟩
            repeat walk_at "k"
            exact q
          · rw [h, Bool.false_and] at q
            exact q
    · rw [polB_len h2] at q
      rw [show (!decide ((us.length : Int) = 2)) = true from by rw [decide_eq_false (by omega)]; rfl]
      repeat walk_at "k"
      exact q
  | _ =>
    obtain ⟨ty, hty⟩ := ht.ty
    repeat walk_at "k"
    refine v_kI (b := false) hty (by first | (cases hty; done) | (cases hty; rfl)) ?_
    repeat walk_at "k"
    exact q
end RR
namespace RR
open PySem PySem.Spec PyProof.Rows L2
def b_fractions_over {M : Type} : DS M :=
    (dRet (dCall s_fractions_fraction [] (dCons (dBin gMul (dBin (gIx false) (dVar 0) (dC (.int 0))) (dBin (gIx false) (dVar 1) (dC (.int 1)))) (dCons (dBin gMul (dBin (gIx false) (dVar 0) (dC (.int 1))) (dBin (gIx false) (dVar 1) (dC (.int 0)))) dNil))))
def s_fractions_over {M : Type} : DSp M := fun ds m Q Z => ∃ a b c d : Int, ds = [.tup [.int a, .int b], .tup [.int c, .int d]] ∧ bd 4400 a ∧ bd 4400 b ∧ bd 4400 c ∧ bd 4400 d ∧ b ≠ 0 ∧ c ≠ 0 ∧ Q (pq (((a * d : Int) : Rat) / ((b * c : Int) : Rat))) m
theorem vc_fractions_over {M : Type} : ∀ ds (m : M) Q Z, s_fractions_over ds m Q Z → okK [false, false] ds ∧ b_fractions_over { nx := fun _ m' => Q .non m', rt := Q, ex := Z } (st0 [false, false] ds 2) m := by
  rintro ds m Q Z ⟨a, b, c, d, rfl, ba, bb, bc, bd', b0, c0, k⟩
  refine ⟨⟨fun _ => rfl, fun _ => rfl, trivial⟩, ?_⟩
  unfold b_fractions_over
  repeat walk_at "s"
  exact ⟨a * d, b * c, rfl, fun z => absurd z (Int.mul_ne_zero b0 c0), fun h => ⟨.inl (bd_mono (bd_mul bb bc) (by decide)), k⟩⟩
def b_quotients_last_of {M : Type} : DS M :=
    (dRet (dCall s_fractions_fraction [] (dCons (dBin (gIx false) (dBin (gIx false) (dVar 0) (dC (.int 0))) (dNeg (dC (.int 1)))) (dCons (dBin (gIx false) (dVar 0) (dC (.int 1))) dNil))))
def s_quotients_last_of {M : Type} : DSp M := fun ds m Q Z => ∃ r d, ds = [pd r d] ∧ r ≠ [] ∧ d ≠ 0 ∧ bd 9000 d ∧ Q (pq ((r.getD (r.length - 1) 0 : Rat) / (d : Rat))) m
theorem vc_quotients_last_of {M : Type} : ∀ ds (m : M) Q Z, s_quotients_last_of ds m Q Z → okK [false] ds ∧ b_quotients_last_of { nx := fun _ m' => Q .non m', rt := Q, ex := Z } (st0 [false] ds 1) m := by
  rintro ds m Q Z ⟨r, d, rfl, h, d0, hd, k⟩
  refine ⟨⟨fun _ => nl_pd, trivial⟩, ?_⟩
  unfold b_quotients_last_of
  repeat walk_at "s"
  refine v_ixm h ?_
  repeat walk_at "s"
  exact ⟨_, d, rfl, fun z => absurd z d0, fun _ => ⟨.inl hd, k⟩⟩
theorem frac_le {n d : Int} (hd : d ≠ 0) : ((n : Rat) / (d : Rat)).num.natAbs ≤ n.natAbs ∧ ((n : Rat) / (d : Rat)).den ≤ d.natAbs := by
  rw [← Rat.divInt_eq_div, Rat.num_divInt, Rat.den_divInt, if_neg hd]
  refine ⟨?_, Nat.div_le_self _ _⟩
  rw [Int.natAbs_ediv_of_dvd (Int.dvd_mul_of_dvd_right (Int.gcd_dvd_right ..))]
  refine Nat.le_trans (Nat.div_le_self _ _) ?_
  rw [Int.natAbs_mul, Int.natAbs_sign, if_neg hd, Nat.one_mul]
  exact Nat.le_refl _
def b_shared_lessened {M : Type} : DS M :=
    (dThen (dSet 2 (dBin (gIx false) (dCall s_quotients_divided [] (dCons (dBin (gIx true) (dBor 0) (dC (.int 0))) (dCons (dBin (gIx true) (dBor 1) (dC (.int 0))) dNil))) (dC (.int 0))))
    (dThen (dSet 3 (dLc (dZip true (dBor 0) (dBor 1)) (dgT 2 (dgCons (dgN 5) (dgCons (dgN 6) dgNil))) dYes (dCall s_polys_less [] (dCons (dVar 5) (dCons (dCall s_polys_times [] (dCons (dVar 2) (dCons (dVar 6) dNil))) dNil))) [5, 6]))
    (dThen (dIte (dTst (dBin gEq (dBin (gIx false) (dVar 3) (dC (.int 0))) (dC (.tup [(.tup []), (.int 1)]))))
      (dRet (dVar 3))
      dNext)
    (dThen (dSet 4 (dCall s_fractions_fraction [] (dCons (dBin (gIx false) (dBin (gIx false) (dVar 3) (dC (.int 0))) (dC (.int 1))) (dCons (dCall s_rows_content [] (dCons (dBin (gIx false) (dBin (gIx false) (dVar 3) (dC (.int 0))) (dC (.int 0))) dNil)) dNil))))
    (dRet (dLc (dSeq false (dVar 3)) (dgN 5) dYes (dCall s_polys_scaled [] (dCons (dVar 5) (dCons (dVar 4) dNil))) [5]))))))
abbrev tri (a b c : List Int) (d e f : Int) : D := .lst [pd a d, pd b e, pd c f]
theorem v_tri0 {n : Bool} {a b c : List Int} {d e f : Int} {q : D → Prop} (h : q (pd a d)) : gIx n (tri a b c d e f) (.int 0) q := by
  unfold gIx; dsimp only
  rw [show atI [pd a d, pd b e, pd c f] 0 = some (pd a d) from rfl]
  exact ⟨fun _ => nl_pd, h⟩
theorem v_tri1 {n : Bool} {a b c : List Int} {d e f : Int} {q : D → Prop} (h : q (pd b e)) : gIx n (tri a b c d e f) (.int 1) q := by
  unfold gIx; dsimp only
  rw [show atI [pd a d, pd b e, pd c f] 1 = some (pd b e) from rfl]
  exact ⟨fun _ => nl_pd, h⟩
theorem v_tri2 {n : Bool} {a b c : List Int} {d e f : Int} {q : D → Prop} (h : q (pd c f)) : gIx n (tri a b c d e f) (.int 2) q := by
  unfold gIx; dsimp only
  rw [show atI [pd a d, pd b e, pd c f] 2 = some (pd c f) from rfl]
  exact ⟨fun _ => nl_pd, h⟩
theorem nls_tri {a b c : List Int} {d e f : Int} : D.nls [pd a d, pd b e, pd c f] = true := nls_all.mpr fun x hx => by
  simp only [List.mem_cons, List.not_mem_nil, or_false] at hx
  rcases hx with rfl | rfl | rfl <;> exact nl_pd
theorem content_bd {r : List Int} {n : Nat} (h : done r) (r0 : r ≠ []) (hb : ∀ x ∈ r, bd n x) : (gcdL r : Int) ≠ 0 ∧ bd n (gcdL r : Int) := by
  have l := List.length_pos_iff.mpr r0
  have e : r.getD (r.length - 1) 0 ≠ 0 := done_last h r0
  rw [List.getD_eq_getElem?_getD, List.getElem?_eq_getElem (by omega)] at e
  have m := List.getElem_mem (l := r) (n := r.length - 1) (by omega)
  have dv := gcdL_dvd m
  have e : r[r.length - 1] ≠ 0 := e
  refine ⟨fun z => ?_, ?_⟩
  · rw [z] at dv
    exact e (Int.zero_dvd.mp dv)
  · have b := hb _ m
    have := Nat.le_of_dvd (by omega) (Int.natAbs_dvd_natAbs.mpr dv)
    unfold bd at *
    omega
theorem plain_P {t : Ser Rat} {r : List Int} {d : Int} (h : P t r d) (r0 : r ≠ []) (c0 : (gcdL r : Int) ≠ 0) : ∃ T, gcdL T = 1 ∧ P (Ser.C ((d : Rat) / ((gcdL r : Int) : Rat)) * t) T 1 := by
  obtain ⟨c, hc⟩ : ∃ c : Int, c = (gcdL r : Int) := ⟨_, rfl⟩
  rw [← hc] at c0 ⊢
  have dv : ∀ x ∈ r, c * x.fdiv c = x := fun x hx => by
    obtain ⟨k, hk⟩ := gcdL_dvd hx
    rw [← hc] at hk
    rw [hk, Int.mul_fdiv_cancel_left _ c0]
  have es : Ser.C c * ser (r.map fun x => x.fdiv c) = ser r := by
    rw [← ser_scale, List.map_map]
    congr 1
    calc r.map _ = r.map id := List.map_congr_left fun x hx => dv x hx
      _ = r := List.map_id r
  refine ⟨r.map fun x => x.fdiv c, ?_, ⟨by decide, strip_map_ne h.dn fun x hx x0 z => x0 (by rw [← dv x hx, z, Int.mul_zero]), Int.gcd_one, ?_⟩⟩
  · have g : gcdL (r.map fun x => x.fdiv c) * gcdL r ∣ gcdL r := gcdL_great fun x hx => by
      have := gcdL_dvd (List.mem_map.mpr ⟨x, hx, rfl⟩ : x.fdiv c ∈ r.map fun x => x.fdiv c)
      obtain ⟨k, hk⟩ := this
      refine ⟨k, ?_⟩
      rw [← dv x hx, hk, Int.natCast_mul, ← hc]; grind
    have p : 0 < gcdL r := by omega
    have := Nat.le_of_dvd p g
    have q : gcdL (r.map fun x => x.fdiv c) ≠ 0 := fun z => by rw [z, Nat.zero_mul] at g; have := Nat.eq_zero_of_zero_dvd g; omega
    have : gcdL (r.map fun x => x.fdiv c) * gcdL r ≤ 1 * gcdL r := by omega
    have := Nat.le_of_mul_le_mul_right this p
    omega
  · refine Cq_cancel (cne c0) ?_
    have e1 := h.eq
    have e2 : Ser.C (c : Rat) * Ser.C ((d : Rat) / (c : Rat)) = Ser.C (d : Rat) := by
      rw [← C_mul, Rat.mul_comm, Rat.div_mul_cancel (cne c0)]
    have e3 : Ser.C (c : Rat) * qs (ser (r.map fun x => x.fdiv c)) = qs (ser r) := by rw [← es, qs_mul, qs_C]
    rw [e3, ← e1, ← e2, show (((1 : Int)) : Rat) = 1 from rfl, C_one]
    generalize Ser.C ((d : Rat) / (c : Rat)) = z
    grind
def s_shared_lessened {M : Type} : DSp M := fun ds m Q Z => ∃ (x0 u0 v0 x1 u1 v1 : Ser Rat) (X0 U0 V0 X1 U1 V1 : List Int) (a b c d e f : Int) (A0 A1 M' B2 : Nat), ds = [tri X0 U0 V0 a b c, tri X1 U1 V1 d e f] ∧
  P x0 X0 a ∧ P u0 U0 b ∧ P v0 V0 c ∧ P x1 X1 d ∧ P u1 U1 e ∧ P v1 V1 f ∧ PB 9 A0 X0 a ∧ PB 9 A0 U0 b ∧ PB 9 A0 V0 c ∧ PB 9 A1 X1 d ∧ PB 9 A1 U1 e ∧ PB 9 A1 V1 f ∧ X1 ≠ [] ∧ X0.length + 1 ≤ X1.length + M' ∧ A1 ≤ 4000 ∧
  A0 + M' * (A1 + 1) + 2 ≤ B2 ∧ B2 ≤ 6500 ∧ B2 + 2 * A1 + A0 + 60 ≤ 13000 ∧
  ∀ q t, x0 = q * x1 + t → far (X1.length - 1) t → far 10 q →
    (t = 0 → ∀ U b' V c', P (u0 - q * u1) U b' → P (v0 - q * v1) V c' → Q (tri [] U V 1 b' c') m) ∧
    (t ≠ 0 → ∀ (T : List Int) (y z : Int), y ≠ 0 → z ≠ 0 → bd B2 y → bd B2 z → P (Ser.C ((y : Rat) / (z : Rat)) * t) T 1 → gcdL T = 1 →
      ∃ K, K + B2 ≤ 13400 ∧ Rp 9 K (u0 - q * u1) ∧ Rp 9 K (v0 - q * v1) ∧ ∀ U b' V c', P (Ser.C ((y : Rat) / (z : Rat)) * (u0 - q * u1)) U b' → P (Ser.C ((y : Rat) / (z : Rat)) * (v0 - q * v1)) V c' → Q (tri T U V 1 b' c') m)
theorem vc_shared_lessened {M : Type} : ∀ ds (m : M) Q Z, s_shared_lessened ds m Q Z → okK [true, true] ds ∧ b_shared_lessened { nx := fun _ m' => Q .non m', rt := Q, ex := Z } (st0 [true, true] ds 7) m := by
  rintro ds m Q Z ⟨x0, u0, v0, x1, u1, v1, X0, U0, V0, X1, U1, V1, a, b, c, d, e, f, A0, A1, M', B2, rfl, hx0, hu0, hv0, hx1, hu1, hv1, px0, pu0, pv0, px1, pu1, pv1, X10, hM, hA1, hB2, hB3, hB4, k⟩
  refine ⟨⟨fun h => (nomatch h), fun h => (nomatch h), trivial⟩, ?_⟩
  unfold b_shared_lessened
  repeat walk_at "s"
  obtain ⟨bw, hbw⟩ : ∃ bw, bw = A0 + M' * (A1 + 1) + 2 + A1 := ⟨_, rfl⟩
  refine v_tri0 ?_
  repeat walk_at "s"
  refine v_tri0 ?_
  repeat walk_at "s"
  refine ⟨x0, x1, X0, a, X1, d, 9, A0, 9, A1, M', rfl, hx0, hx1, px0, px1, by decide, by decide, hA1, hM, by omega, fun z => absurd z X10, fun _ q t r1 d1 r2 d2 hq ht eq ft fq pq1 pt => ?_⟩
  rw [← hbw] at pq1
  have pt := pt.mono (Nat.le_refl _) hB2
  obtain ⟨k1, k2⟩ := k q t eq ft fq
  repeat walk_at "s"
  refine v_kZL (fun _ => ⟨nls_tri, nls_tri⟩) ?_
  refine lc_cons ?_
  repeat walk_at "s"
  refine ⟨q, x1, r1, d1, X1, d, 10, bw, 9, A1, rfl, hq, hx1, pq1, px1, by decide, by decide, by omega, fun s1 e1 hs1 ps1 => ?_⟩
  repeat walk_at "s"
  refine ⟨x0, _, X0, a, s1, e1, 9, A0, _, _, rfl, hx0, hs1, px0, ps1, by decide, by decide, by omega, fun y1 z1 hy1 _ => ?_⟩
  obtain ⟨rfl, rfl⟩ := (hy1.cong (show x0 - q * x1 = t by rw [eq]; grind)).uniq ht
  refine ⟨by unfold sizeLine; simp, ?_⟩
  refine lc_cons ?_
  repeat walk_at "s"
  refine ⟨q, u1, r1, d1, U1, e, 10, bw, 9, A1, rfl, hq, hu1, pq1, pu1, by decide, by decide, by omega, fun s2 e2 hs2 ps2 => ?_⟩
  repeat walk_at "s"
  refine ⟨u0, _, U0, b, s2, e2, 9, A0, _, _, rfl, hu0, hs2, pu0, ps2, by decide, by decide, by omega, fun y2 z2 hy2 _ => ?_⟩
  refine ⟨by unfold sizeLine; simp, ?_⟩
  refine lc_cons ?_
  repeat walk_at "s"
  refine ⟨q, v1, r1, d1, V1, f, 10, bw, 9, A1, rfl, hq, hv1, pq1, pv1, by decide, by decide, by omega, fun s3 e3 hs3 ps3 => ?_⟩
  repeat walk_at "s"
  refine ⟨v0, _, V0, c, s3, e3, 9, A0, _, _, rfl, hv0, hs3, pv0, ps3, by decide, by decide, by omega, fun y3 z3 hy3 _ => ?_⟩
  refine ⟨by unfold sizeLine; simp, ?_⟩
  refine lc_end ?_
  repeat walk_at "s"
  refine v_tri0 ?_
  repeat walk_at "s"
  refine v_eqpd0 ?_
  repeat walk_at "s"
  refine v_ifd (fun h => ?_) fun h => ?_
  · repeat walk_at "s"
    obtain ⟨rfl, rfl⟩ := h
    exact k1 (ht.zero.mpr ⟨rfl, rfl⟩) _ _ _ _ hy2 hy3
  · have t0 : t ≠ 0 := fun z => h (ht.zero.mp z)
    have y0 : y1 ≠ [] := fun z => t0 (ht.nil_iff.mpr z)
    obtain ⟨c0, bc⟩ := content_bd ht.dn y0 pt.bd
    obtain ⟨T, gT, hT⟩ := plain_P ht y0 c0
    have zp := ht.pos
    obtain ⟨K, hK, ru, rv, k3⟩ := k2 t0 T z1 (gcdL y1) (by omega) c0 pt.dd bc hT gT
    obtain ⟨κ, hκ⟩ : ∃ κ : Rat, κ = (z1 : Rat) / ((gcdL y1 : Int) : Rat) := ⟨_, rfl⟩
    obtain ⟨f1, f2⟩ := frac_le (n := z1) c0
    rw [← hκ] at f1 f2 hT k3
    have bn : bd B2 κ.num := by have := pt.dd; unfold bd at *; omega
    have bm : bd B2 ((κ.den : Nat) : Int) := by unfold bd at *; omega
    have dn0 : ((κ.den : Nat) : Int) ≠ 0 := by have := κ.den_nz; omega
    have sc : ∀ g : Ser Rat, Ser.C (((κ.den : Nat) : Int) : Rat) * (Ser.C κ * g) = Ser.C ((κ.num : Int) : Rat) * g := fun g => by
      rw [← den_mul κ, C_mul]; grind
    repeat walk_at "s"
    refine v_tri0 ?_
    repeat walk_at "s"
    refine v_tri0 ?_
    repeat walk_at "s"
    refine ⟨y1, rfl, ?_⟩
    repeat walk_at "s"
    refine ⟨z1, _, rfl, fun z => absurd z c0, fun _ => ⟨.inl (bd_mono bc (by omega)), ?_⟩⟩
    rw [← hκ]
    repeat walk_at "s"
    refine v_kSeqL ?_
    refine lc_cons ?_
    repeat walk_at "s"
    refine ⟨t, y1, z1, κ.num, ((κ.den : Nat) : Int), 9, B2, B2, rfl, dn0, ht, pt, by decide, bn, bm, by omega, fun w1 _ hw1 _ => ?_⟩
    obtain ⟨g1, g2⟩ := (hw1 _ (sc t)).uniq hT
    rw [g1, g2]
    refine ⟨by unfold sizeLine; simp, ?_⟩
    refine lc_cons ?_
    repeat walk_at "s"
    refine ⟨_, y2, z2, κ.num, ((κ.den : Nat) : Int), 9, K, B2, rfl, dn0, hy2, ru.pb hy2, by decide, bn, bm, by omega, fun w2 _ hw2 _ => ?_⟩
    refine ⟨by unfold sizeLine; simp, ?_⟩
    refine lc_cons ?_
    repeat walk_at "s"
    refine ⟨_, y3, z3, κ.num, ((κ.den : Nat) : Int), 9, K, B2, rfl, dn0, hy3, rv.pb hy3, by decide, bn, bm, by omega, fun w3 _ hw3 _ => ?_⟩
    refine ⟨by unfold sizeLine; simp, ?_⟩
    refine lc_end ?_
    exact k3 _ _ _ _ (hw2 _ (sc _)) (hw3 _ (sc _))
end RR
namespace RR
theorem Sz.mono {k b k' b' : Nat} {u v x : Ser Rat} (h : Sz k b u v x) (hk : k ≤ k') (hb : b ≤ b') : Sz k' b' u v x := by
  obtain ⟨γ, U, V, W, g0, e1, e2, e3, b1, b2, b3, b4⟩ := h
  exact ⟨γ, U, V, W, g0, e1, e2, e3, b1.mono (Nat.le_refl _) hk, b2.mono (Nat.le_refl _) hk, b3.mono (Nat.le_refl _) hb, bd_mono b4 hb⟩
theorem Sz.swap {k b : Nat} {u v x : Ser Rat} (h : Sz k b u v x) : Sz k b v u x := by
  obtain ⟨γ, U, V, W, g0, e1, e2, e3, b1, b2, b3, b4⟩ := h
  exact ⟨γ, V, U, W, g0, e2, e1, e3, b2, b1, b3, b4⟩
theorem part_step {c ρ0 ρ1 q t : Ser Rat} {lc l1 N N' : Nat} (hc : len lc c) (c0 : lc ≠ 0) (h1 : len l1 ρ1) (l10 : l1 ≠ 0) (eq : c * ρ0 = q * (c * ρ1) + t) (ft : far (lc + l1 - 1 - 1) t) (f0 : far N ρ0) (fq : far N' q) :
    ∃ ρ2, ρ0 = q * ρ1 + ρ2 ∧ t = c * ρ2 ∧ far (l1 - 1) ρ2 := by
  have et : t = c * (ρ0 - q * ρ1) := by
    have : t = c * ρ0 - q * (c * ρ1) := by rw [eq]; grind
    rw [this]; grind
  refine ⟨ρ0 - q * ρ1, by grind, et, ?_⟩
  by_cases z : ρ0 - q * ρ1 = 0
  · rw [z]; exact far_zero
  · have f2 : far (max N (N' + l1 - 1)) (ρ0 - q * ρ1) := far_sub (far_mono f0 (Nat.le_max_left ..)) (far_mono (far_mul fq h1.1) (Nat.le_max_right ..))
    obtain ⟨k, _, tk⟩ := top_of f2 z
    have := top_lt (top_mul dom_rat (hc.top c0) tk) (by rw [← et]; exact ft)
    exact far_mono tk.1 (by omega)
def Lo (f1 g1 c : Ser Rat) (m n k : Nat) (x0 u0 v0 x1 u1 v1 : Ser Rat) : Prop := ∃ (l0 A0 A1 : Nat) (ρ0 ρ1 : Ser Rat), Eu f1 g1 m n l0 k ρ0 u0 v0 ρ1 u1 v1 ∧ x0 = c * ρ0 ∧ x1 = c * ρ1 ∧ Sz A0 A0 u0 v0 x0 ∧ (k ≠ 0 → Sz A1 A1 u1 v1 x1) ∧
  ((A0 ≤ 404 ∧ A1 ≤ 404) ∨ (k < l0 ∧ A1 ≤ 204 + 204 * (12 - 2 * l0) ∧ (A0 ≤ 404 ∨ A0 ≤ 204 + 204 * (10 - 2 * l0)))) ∧ (u1 = 0 ∨ k < l0) ∧ (far (n - l0) u0 ∨ k ≠ 0)
theorem room {l0 k A0 A1 : Nat} (hk : k ≠ 0) (hl : k ≤ l0) (h5 : l0 ≤ 5) (h : (A0 ≤ 404 ∧ A1 ≤ 404) ∨ (k < l0 ∧ A1 ≤ 204 + 204 * (12 - 2 * l0) ∧ (A0 ≤ 404 ∨ A0 ≤ 204 + 204 * (10 - 2 * l0)))) :
    A1 ≤ 4000 ∧ A0 + (l0 + 1 - k) * (A1 + 1) + 2 ≤ 6500 ∧ A0 + (l0 + 1 - k) * (A1 + 1) + 2 + 2 * A1 + A0 + 60 ≤ 13000 ∧ (2 ≤ k → 204 + 204 * (12 - 2 * k) + (A0 + (l0 + 1 - k) * (A1 + 1) + 2) + (A0 + (l0 + 1 - k) * (A1 + 1) + 2) ≤ 13400) := by
  have hM : ∃ M, M = l0 + 1 - k := ⟨_, rfl⟩
  obtain ⟨M, hM⟩ := hM
  rw [← hM]
  rcases h with ⟨h1, h2⟩ | ⟨h1, h2, h3⟩
  · have : M * (A1 + 1) ≤ 5 * 405 := Nat.mul_le_mul (by omega) (by omega)
    omega
  · have e : l0 = 2 ∨ l0 = 3 ∨ l0 = 4 ∨ l0 = 5 := by omega
    rcases e with rfl | rfl | rfl | rfl
    · have : M * (A1 + 1) ≤ 2 * 1837 := Nat.mul_le_mul (by omega) (by omega)
      omega
    · have e2 : k = 1 ∨ k = 2 := by omega
      rcases e2 with rfl | rfl
      · have : M * (A1 + 1) ≤ 3 * 1429 := Nat.mul_le_mul (by omega) (by omega)
        omega
      · have : M * (A1 + 1) ≤ 2 * 1429 := Nat.mul_le_mul (by omega) (by omega)
        omega
    · have : M * (A1 + 1) ≤ 4 * 1021 := Nat.mul_le_mul (by omega) (by omega)
      omega
    · have : M * (A1 + 1) ≤ 5 * 613 := Nat.mul_le_mul (by omega) (by omega)
      omega
theorem Lo.step {f1 g1 c x0 u0 v0 x1 u1 v1 : Ser Rat} {F G W : List Int} {d e w : Int} {lc m n k : Nat} (h : Lo f1 g1 c m n k x0 u0 v0 x1 u1 v1) (k0 : k ≠ 0) (hf : P f1 F d) (hg : P g1 G e) (hc : P c W w) (df : Dr 5 F d) (dg : Dr 5 G e) (dc : Dr 4 W w) (lc' : len lc c) (c0 : lc ≠ 0) :
    ∃ (A0 A1 M' B2 : Nat), Sz A0 A0 u0 v0 x0 ∧ Sz A1 A1 u1 v1 x1 ∧ (∀ L, len L x0 → ∀ L', len L' x1 → L' = lc + k - 1 ∧ L + 1 ≤ L' + M') ∧ A1 ≤ 4000 ∧ A0 + M' * (A1 + 1) + 2 ≤ B2 ∧ B2 ≤ 6500 ∧ B2 + 2 * A1 + A0 + 60 ≤ 13000 ∧
    ∀ q t, x0 = q * x1 + t → far (lc + k - 1 - 1) t → far 10 q →
      (t = 0 → Lo f1 g1 c m n 0 x1 u1 v1 0 (u0 - q * u1) (v0 - q * v1)) ∧
      (t ≠ 0 → ∀ (T : List Int) (y z : Int), y ≠ 0 → z ≠ 0 → bd B2 y → bd B2 z → P (Ser.C ((y : Rat) / (z : Rat)) * t) T 1 → gcdL T = 1 →
        ∃ K, K + B2 ≤ 13400 ∧ Rp 9 K (u0 - q * u1) ∧ Rp 9 K (v0 - q * v1) ∧ ∃ k', k' < k ∧ k' ≠ 0 ∧ Lo f1 g1 c m n k' x1 u1 v1 (Ser.C ((y : Rat) / (z : Rat)) * t) (Ser.C ((y : Rat) / (z : Rat)) * (u0 - q * u1)) (Ser.C ((y : Rat) / (z : Rat)) * (v0 - q * v1))) := by
  obtain ⟨l0, A0, A1, ρ0, ρ1, hE, rfl, rfl, s0, s1, sz, tu, _⟩ := h
  have s1 := s1 k0
  have fu : far (n - k) u1 := by
    rcases tu with z | z
    · rw [z]; exact far_zero
    · exact far_mono hE.u1f (by omega)
  have hm : m ≤ 5 := Nat.le_trans (Nat.le_of_eq (hE.lf.uniq hf.len)) df.ln
  have hn : n ≤ 5 := Nat.le_trans (Nat.le_of_eq (hE.lg.uniq hg.len)) dg.ln
  have hlm := hE.lm
  have hle := hE.le
  have hl0 := hE.l00
  obtain ⟨r1, r2, r3, r4⟩ := room k0 hle (by omega) sz
  obtain ⟨B2, hB2⟩ : ∃ B2, B2 = A0 + (l0 + 1 - k) * (A1 + 1) + 2 := ⟨_, rfl⟩
  rw [← hB2] at r2 r3 r4
  refine ⟨A0, A1, l0 + 1 - k, B2, s0, s1, fun L hL L' hL' => ?_, r1, by omega, r2, r3, fun q t eq ft fq => ?_⟩
  · have a := hL.uniq (lc'.mul hE.t0 c0 hl0)
    have b := hL'.uniq (lc'.mul hE.t1 c0 k0)
    omega
  obtain ⟨ρ2, e2, et, f2⟩ := part_step lc' c0 hE.t1 k0 eq ft hE.t0.1 fq
  have szn : A1 ≤ 404 ∨ A1 ≤ 204 + 204 * (10 - 2 * k) := by
    rcases sz with ⟨_, z⟩ | ⟨z1, z2, _⟩
    · exact .inl z
    · right; omega
  refine ⟨fun t0 => ?_, fun t0 T y z y0 z0 by_ bz hT gT => ?_⟩
  · obtain ⟨l2, h2, hE2⟩ := hE.next k0 (κ := 1) (by decide) fq e2 f2
    have ρz : ρ2 = 0 := by
      by_cases q : ρ2 = 0
      · exact q
      · obtain ⟨j, _, tj⟩ := top_of f2 q
        exact absurd (et.symm.trans t0) (top_ne (top_mul dom_rat (lc'.top c0) tj))
    subst ρz
    have l20 : l2 = 0 := hE2.t1.uniq (len.zero.mpr (by grind))
    subst l20
    rw [C_one] at hE2
    refine ⟨k, A1, 0, ρ1, 1 * 0, by rwa [show (1 : Ser Rat) * (u0 - q * u1) = u0 - q * u1 by grind, show (1 : Ser Rat) * (v0 - q * v1) = v0 - q * v1 by grind] at hE2, rfl, by grind, s1, fun z => absurd rfl z, ?_, .inr (by omega), .inl fu⟩
    by_cases q : A1 ≤ 404
    · exact .inl ⟨q, by omega⟩
    · exact .inr ⟨by omega, by omega, szn⟩
  · obtain ⟨κ, hκ⟩ : ∃ κ : Rat, κ = (y : Rat) / (z : Rat) := ⟨_, rfl⟩
    rw [← hκ] at hT ⊢
    have zk : (z : Rat) * κ = (y : Rat) := by rw [hκ, Rat.mul_comm, Rat.div_mul_cancel (cne z0)]
    have κ0 : κ ≠ 0 := fun q => cne y0 (by rw [← zk, q]; grind)
    obtain ⟨l2, h2, hE2⟩ := hE.next k0 κ0 fq e2 f2
    have l20 : l2 ≠ 0 := fun q => by
      have := hE2.t1
      rw [q] at this
      have a := len.zero.mp this
      have b : ρ2 = 0 := Cq_cancel κ0 (by rw [a]; grind)
      exact t0 (by rw [et, b]; grind)
    have ex : Ser.C κ * t = c * (Ser.C κ * ρ2) := by rw [et]; grind
    rw [ex] at hT ⊢
    have cap := hE2.cap (a := 200) (b := 200) (k := 20) h2 l20 hm hn hf.eq (by have := hf.pos; omega) (B.of df.ln df.bd) hg.eq (by have := hg.pos; omega) (B.of dg.ln dg.bd) hc.eq (by have := hc.pos; omega) (B.of dc.ln dc.bd) hT gT (bd_mul df.dd dc.dd) (bd_mul dg.dd dc.dd)
    have k2 : 2 ≤ k := by omega
    have cap : Sz (204 + 204 * (12 - 2 * k)) (204 + 204 * (12 - 2 * k)) (Ser.C κ * (u0 - q * u1)) (Ser.C κ * (v0 - q * v1)) (c * (Ser.C κ * ρ2)) := cap.mono (by omega) (by omega)
    have back : ∀ s : Ser Rat, Rp 5 (204 + 204 * (12 - 2 * k)) (Ser.C κ * s) → Rp 9 (204 + 204 * (12 - 2 * k) + B2) s := fun s ⟨E, S, E0, e1, b1, b2⟩ => by
      refine ⟨E * y, Ser.C z * S, Int.mul_ne_zero E0 y0, ?_, (B.scale bz b1).mono (by decide) (by omega), bd_mul b2 by_⟩
      rw [qs_mul, qs_C, ← e1, Rat.intCast_mul, C_mul, ← zk, C_mul]; grind
    refine ⟨204 + 204 * (12 - 2 * k) + B2, r4 k2, back _ (by have := cap.u; rwa [Nat.max_self] at this), back _ (by have := cap.v; rwa [Nat.max_self] at this), l2, h2, l20, k, A1, _, ρ1, Ser.C κ * ρ2, hE2, rfl, rfl, s1, fun _ => cap, .inr ⟨h2, Nat.le_refl _, szn⟩, .inr h2, .inl fu⟩
end RR
namespace RR
def Lt (f1 g1 c : Ser Rat) (m n k : Nat) (x0 u0 v0 x1 u1 v1 : Ser Rat) : Prop := (n ≤ m ∧ Lo f1 g1 c m n k x0 u0 v0 x1 u1 v1) ∨ (m < n ∧ Lo g1 f1 c n m k x0 v0 u0 x1 v1 u1) ∨
  (m < n ∧ k = n ∧ x0 = c * f1 ∧ u0 = 1 ∧ v0 = 0 ∧ x1 = c * g1 ∧ u1 = 0 ∧ v1 = 1) ∨ (k = 0 ∧ m = 0 ∧ n ≠ 0 ∧ x0 = c * g1 ∧ u0 = 0 ∧ v0 = 1 ∧ x1 = 0) ∨ (k = 0 ∧ n = 0 ∧ m ≠ 0 ∧ x0 = c * f1 ∧ u0 = 1 ∧ v0 = 0 ∧ x1 = 0)
section
variable {f1 g1 c : Ser Rat} {F G W : List Int} {d e w : Int} {lc m n : Nat}
theorem Sz.fst {W : List Int} {F : List Int} {d w : Int} (hf : P f1 F d) (hc : P c W w) (df : Dr 5 F d) (dc : Dr 4 W w) : Sz 404 404 1 0 (c * f1) := by
  have b := ((B.of dc.ln dc.bd).mul (B.of df.ln df.bd)).mono (n' := 9) (a' := 404) (by decide) (by decide)
  have fr : far 8 (ser W * ser F) := by
    have a : far 4 (ser W) := (B.of dc.ln dc.bd).far
    have b : far 5 (ser F) := (B.of df.ln df.bd).far
    exact far_mono (far_mul a b) (by decide)
  have wd : bd 404 (w * d) := bd_mono (bd_mul dc.dd df.dd) (by decide)
  refine ⟨w * d, Ser.C (w * d), 0, ser W * ser F, Int.mul_ne_zero (by have := hc.pos; omega) (by have := hf.pos; omega), ?_, ?_, ?_, (B.C wd).mono (by decide) (Nat.le_refl _), B.zero, ⟨fr, b.bd⟩, wd⟩
  · rw [qs_C]; grind
  · rw [qs_zero]; grind
  · rw [qs_mul, ← hc.eq, ← hf.eq, Rat.intCast_mul, C_mul]; grind
theorem Lt.step {x0 u0 v0 x1 u1 v1 : Ser Rat} {k : Nat} (h : Lt f1 g1 c m n k x0 u0 v0 x1 u1 v1) (k0 : k ≠ 0) (hf : P f1 F d) (hg : P g1 G e) (hc : P c W w) (df : Dr 5 F d) (dg : Dr 5 G e) (dc : Dr 4 W w) (lf : len m f1) (lg : len n g1) (lc' : len lc c) (c0 : lc ≠ 0) :
    ∃ (A0 A1 M' B2 : Nat), Sz A0 A0 u0 v0 x0 ∧ Sz A1 A1 u1 v1 x1 ∧ (∀ L, len L x0 → ∀ L', len L' x1 → L' = lc + k - 1 ∧ L + 1 ≤ L' + M') ∧ A1 ≤ 4000 ∧ A0 + M' * (A1 + 1) + 2 ≤ B2 ∧ B2 ≤ 6500 ∧ B2 + 2 * A1 + A0 + 60 ≤ 13000 ∧
    ∀ q t, x0 = q * x1 + t → far (lc + k - 1 - 1) t → far 10 q →
      (t = 0 → Lt f1 g1 c m n 0 x1 u1 v1 0 (u0 - q * u1) (v0 - q * v1)) ∧
      (t ≠ 0 → ∀ (T : List Int) (y z : Int), y ≠ 0 → z ≠ 0 → bd B2 y → bd B2 z → P (Ser.C ((y : Rat) / (z : Rat)) * t) T 1 → gcdL T = 1 →
        ∃ K, K + B2 ≤ 13400 ∧ Rp 9 K (u0 - q * u1) ∧ Rp 9 K (v0 - q * v1) ∧ ∃ k', k' < k ∧ k' ≠ 0 ∧ Lt f1 g1 c m n k' x1 u1 v1 (Ser.C ((y : Rat) / (z : Rat)) * t) (Ser.C ((y : Rat) / (z : Rat)) * (u0 - q * u1)) (Ser.C ((y : Rat) / (z : Rat)) * (v0 - q * v1))) := by
  rcases h with ⟨nm, h⟩ | ⟨nm, h⟩ | h | h | h
  · obtain ⟨A0, A1, M', B2, a1, a2, a3, a4, a5, a6, a7, st⟩ := h.step k0 hf hg hc df dg dc lc' c0
    refine ⟨A0, A1, M', B2, a1, a2, a3, a4, a5, a6, a7, fun q t eq ft fq => ?_⟩
    obtain ⟨s1, s2⟩ := st q t eq ft fq
    refine ⟨fun z => .inl ⟨nm, s1 z⟩, fun z T y zz y0 z0 b1 b2 hT gT => ?_⟩
    obtain ⟨K, k1, k2, k3, k', k4, k5, k6⟩ := s2 z T y zz y0 z0 b1 b2 hT gT
    exact ⟨K, k1, k2, k3, k', k4, k5, .inl ⟨nm, k6⟩⟩
  · obtain ⟨A0, A1, M', B2, a1, a2, a3, a4, a5, a6, a7, st⟩ := h.step k0 hg hf hc dg df dc lc' c0
    refine ⟨A0, A1, M', B2, a1.swap, a2.swap, a3, a4, a5, a6, a7, fun q t eq ft fq => ?_⟩
    obtain ⟨s1, s2⟩ := st q t eq ft fq
    refine ⟨fun z => .inr (.inl ⟨nm, s1 z⟩), fun z T y zz y0 z0 b1 b2 hT gT => ?_⟩
    obtain ⟨K, k1, k2, k3, k', k4, k5, k6⟩ := s2 z T y zz y0 z0 b1 b2 hT gT
    exact ⟨K, k1, k3, k2, k', k4, k5, .inr (.inl ⟨nm, k6⟩)⟩
  · -- the first row is the shorter one: both are swapped
    obtain ⟨mn, rfl, rfl, rfl, rfl, rfl, rfl, rfl⟩ := h
    have lx1 := lc'.mul lg c0 k0
    have lenf : ∀ L, len L (c * f1) → L = 0 ∧ m = 0 ∨ m ≠ 0 ∧ L = lc + m - 1 := fun L hL => by
      by_cases m0 : m = 0
      · subst m0
        rw [len.zero.mp lf, show c * (0 : Ser Rat) = 0 by grind] at hL
        exact .inl ⟨hL.uniq (len.zero.mpr rfl), rfl⟩
      · exact .inr ⟨m0, hL.uniq (lc'.mul lf c0 m0)⟩
    refine ⟨404, 404, 0, 406, Sz.fst hf hc df dc, (Sz.fst hg hc dg dc).swap, fun L hL L' hL' => ?_, by decide, by decide, by decide, by decide, fun q t eq ft fq => ?_⟩
    · have := hL'.uniq lx1
      rcases lenf L hL with ⟨z, _⟩ | ⟨_, z⟩ <;> omega
    · have fF : far (lc + k - 1 - 1) (c * f1) := by
        obtain ⟨L, _, hL⟩ := len_of (far_mul lc'.1 lf.1)
        rcases lenf L hL with ⟨z, _⟩ | ⟨_, z⟩
        · exact far_mono hL.1 (by omega)
        · exact far_mono hL.1 (by omega)
      obtain ⟨q0, te⟩ := div_uniq dom_rat (lx1.top (by omega)) (far_mono fq (Nat.le_refl 10)) (far_zero (n := 10)) ft fF (show q * (c * g1) + t = 0 * (c * g1) + c * f1 by rw [← eq]; grind)
      subst q0
      subst te
      have su : (1 : Ser Rat) - 0 * 0 = 1 := by grind
      have sv : (0 : Ser Rat) - 0 * 1 = 0 := by grind
      rw [su, sv]
      refine ⟨fun z => ?_, fun z T y zz y0 z0 b1 b2 hT gT => ?_⟩
      · have m0 : m = 0 := by
          by_cases m0 : m = 0
          · exact m0
          · exact absurd z ((lc'.mul lf c0 m0).ne (by omega))
        exact .inr (.inr (.inr (.inl ⟨rfl, m0, k0, rfl, rfl, rfl, rfl⟩)))
      · have m0 : m ≠ 0 := fun m0 => by
          subst m0
          rw [len.zero.mp lf] at z
          exact z (by grind)
        obtain ⟨κ, hκ⟩ : ∃ κ : Rat, κ = (y : Rat) / (zz : Rat) := ⟨_, rfl⟩
        rw [← hκ] at hT ⊢
        have zk : (zz : Rat) * κ = (y : Rat) := by rw [hκ, Rat.mul_comm, Rat.div_mul_cancel (cne z0)]
        have κ0 : κ ≠ 0 := fun q => cne y0 (by rw [← zk, q]; grind)
        have E1 : Eu g1 f1 k m k m g1 1 0 (Ser.C κ * f1) (Ser.C κ * 0) (Ser.C κ * 1) := by
          have h := Eu.start lg lf m0 (by omega)
          exact ⟨h.lf, h.lg, h.n0, h.e0, by grind, ⟨κ, κ0, by grind⟩, h.t0, h.t1.scale κ0, h.l00, h.le, h.lm, h.v1t.scale κ0, h.v0f, far_scale h.u1f, h.u0f⟩
        obtain ⟨γ, U, V, W', g0, e1, e2, e3, b1', b2', b3', b4'⟩ := Sz.fst hf hc df dc
        -- the plain row is the row over what its numbers have in common
        have ki : κ * κ⁻¹ = 1 := Rat.mul_inv_cancel _ κ0
        have eT : Ser.C ((γ : Rat) * κ⁻¹) * (Ser.C κ * (c * f1)) = qs W' := by
          rw [← e3, C_mul]
          have : Ser.C κ⁻¹ * Ser.C κ = 1 := by rw [← C_mul, Rat.mul_comm, ki, C_one]
          calc _ = Ser.C (γ : Rat) * ((Ser.C κ⁻¹ * Ser.C κ) * (c * f1)) := by grind
            _ = _ := by rw [this]; grind
        obtain ⟨γ', hγ, hk⟩ := plain_whole hT gT eT
        have γ0 : γ' ≠ 0 := fun z => by
          rw [z] at hγ
          rcases dom_rat _ _ hγ with t | t
          · exact cne g0 t
          · rw [t] at ki; grind
        have bγ : bd 404 γ' := by
          have T0 : T ≠ [] := fun z => by rw [z] at gT; exact absurd gT (by decide)
          have tz : T.getD (T.length - 1) 0 ≠ 0 := done_last hT.dn T0
          have a := b3'.bd (T.length - 1)
          rw [← hk] at a
          unfold bd at *
          rw [Int.natAbs_mul] at a
          exact Nat.lt_of_le_of_lt (Nat.le_mul_of_pos_right _ (by omega)) a
        have s1 : Sz 404 404 (Ser.C κ * 0) (Ser.C κ * 1) (c * (Ser.C κ * f1)) := by
          refine ⟨γ', 0, U, W', γ0, by rw [qs_zero]; grind, ?_, ?_, B.zero, b1', b3', bγ⟩
          · rw [← e1, ← hγ, C_mul]
            have : Ser.C κ⁻¹ * Ser.C κ = 1 := by rw [← C_mul, Rat.mul_comm, ki, C_one]
            calc _ = Ser.C (γ : Rat) * ((Ser.C κ⁻¹ * Ser.C κ) * 1) := by grind
              _ = _ := by rw [this]; grind
          · rw [← hγ, ← eT]; grind
        refine ⟨404, by decide, ⟨1, 1, by decide, by rw [qs_one, show ((1 : Int) : Rat) = 1 from rfl, C_one]; grind, by rw [← C_one]; exact (B.C (a := 404) (by unfold bd; decide)).mono (by decide) (Nat.le_refl _), by unfold bd; decide⟩, ⟨1, 0, by decide, by rw [qs_zero]; grind, B.zero, by unfold bd; decide⟩, m, mn, m0, .inr (.inl ⟨mn, ?_⟩)⟩
        refine ⟨k, 404, 404, g1, Ser.C κ * f1, E1, rfl, by grind, Sz.fst hg hc dg dc, fun _ => by rw [show Ser.C κ * (c * f1) = c * (Ser.C κ * f1) by grind]; exact s1, .inl ⟨Nat.le_refl _, Nat.le_refl _⟩, .inl (by grind), .inr m0⟩
  · exact absurd h.1 k0
  · exact absurd h.1 k0
theorem Lt.start (hf : P f1 F d) (hg : P g1 G e) (hc : P c W w) (df : Dr 5 F d) (dg : Dr 5 G e) (dc : Dr 4 W w) (lf : len m f1) (lg : len n g1) (h : m ≠ 0 ∨ n ≠ 0) : Lt f1 g1 c m n n (c * f1) 1 0 (c * g1) 0 1 := by
  by_cases n0 : n = 0
  · subst n0
    rw [len.zero.mp lg]
    exact .inr (.inr (.inr (.inr ⟨rfl, rfl, by omega, rfl, rfl, rfl, by grind⟩)))
  · by_cases q : n ≤ m
    · exact .inl ⟨q, m, 404, 404, f1, g1, Eu.start lf lg n0 q, rfl, rfl, Sz.fst hf hc df dc, fun _ => (Sz.fst hg hc dg dc).swap, .inl ⟨Nat.le_refl _, Nat.le_refl _⟩, .inl rfl, .inr n0⟩
    · exact .inr (.inr (.inl ⟨by omega, rfl, rfl, rfl, rfl, rfl, rfl, rfl⟩))
end
end RR
namespace RR
theorem Eu.kernel {f g r0 u0 v0 u1 v1 : Ser Rat} {m n l0 a : Nat} {F G : Ser Int} {d e : Int} (h : Eu f g m n l0 0 r0 u0 v0 0 u1 v1) (hm : m ≤ 5) (hn : n ≤ 5) (ha : a ≤ 200)
    (hF : Ser.C (d : Rat) * f = qs F) (d0 : d ≠ 0) (bF : B 5 a F) (hG : Ser.C (e : Rat) * g = qs G) (ez : e ≠ 0) (bG : B 5 a G) :
    (∃ (β : Rat) (U : Ser Int), β ≠ 0 ∧ qs U = Ser.C β * u1 ∧ B 5 1440 U) ∧ ∃ (β : Rat) (V : Ser Int), β ≠ 0 ∧ qs V = Ser.C β * v1 ∧ B 5 1440 V := by
  have hlm := h.lm
  have hl0 := h.l00
  by_cases one : l0 = 1
  · subst one
    obtain ⟨δ, δ0, ef, eg⟩ := h.ends
    obtain ⟨c, c0, rfl⟩ : ∃ c : Rat, c ≠ 0 ∧ r0 = Ser.C c := ⟨r0.co 0, (h.t0.top (by decide)).2, Ser.ext fun k => by
      rw [Ser.C_co]
      by_cases z : k = 0
      · rw [if_pos z, z]
      · rw [if_neg z]; exact h.t0.1 k (by omega)⟩
    have nz : ∀ {x y : Rat}, x ≠ 0 → y ≠ 0 → x * y ≠ 0 := fun hx hy q => by
      rcases dom_rat _ _ q with t | t
      · exact hx t
      · exact hy t
    have di := C_inv δ0
    have i0 : δ⁻¹ ≠ 0 := fun q => by
      have := Rat.mul_inv_cancel _ δ0
      rw [q] at this
      grind
    refine ⟨⟨(e : Rat) * δ⁻¹ * -c, G, nz (nz (cne ez) i0) (fun q => c0 (by grind)), ?_, bG.mono (Nat.le_refl _) (by omega)⟩, (d : Rat) * δ⁻¹ * c, F, nz (nz (cne d0) i0) c0, ?_, bF.mono (Nat.le_refl _) (by omega)⟩
    · rw [← hG, C_mul, C_mul, C_neg]
      have : g = Ser.C δ⁻¹ * (-u1 * Ser.C c) := by rw [← eg]; grind
      rw [this]; grind
    · rw [← hF, C_mul, C_mul]
      have : f = Ser.C δ⁻¹ * (v1 * Ser.C c) := by rw [← ef]; grind
      rw [this]; grind
  obtain ⟨M, hM⟩ : ∃ M, M = (n + 1 - l0) + (m + 1 - l0) - 1 := ⟨_, rfl⟩
  have farF : far m F := far_qs (by rw [← hF]; exact far_scale h.lf.1)
  have farG : far n G := far_qs (by rw [← hG]; exact far_scale h.lg.1)
  obtain ⟨U, V, ne, fU, fV, bU, bV, fR, bR⟩ := short (f := F) (g := G) (A := 2 ^ a) (l := l0 - 1) (M := M) (p := n + 1 - l0) (q := m + 1 - l0) (fun j => Nat.le_of_lt (bF.bd j)) (fun j => Nat.le_of_lt (bG.bd j)) (Nat.pow_pos (by decide)) (by omega)
    (fun j hj x => mul_far (linS_far x _) farF j (by omega)) (fun j hj x => mul_far (linS_far x _) farG j (by omega))
  have A4 : 2 * ((M + 1) * 2 ^ a) ≤ 2 ^ (a + 5) := by
    have : 2 ^ (a + 5) = 32 * 2 ^ a := by rw [Nat.pow_add, Nat.mul_comm]
    rw [this, ← Nat.mul_assoc]
    exact Nat.mul_le_mul_right _ (by omega)
  have AM : (2 * ((M + 1) * 2 ^ a)) ^ M ≤ 2 ^ ((a + 5) * M) := by
    rw [Nat.pow_mul]; exact Nat.pow_le_pow_left A4 M
  have m1 : (a + 5) * M ≤ 205 * 7 := Nat.mul_le_mul (by omega) (by omega)
  have dq := cne d0
  have eq := cne ez
  have hsum : Ser.C (d : Rat) * qs U * f + Ser.C (e : Rat) * qs V * g = qs (U * F + V * G) := by
    rw [qs_add, qs_mul, qs_mul, ← hF, ← hG]; grind
  obtain ⟨β, β0, e1, e2, e3⟩ := h.alone (by omega) (U := Ser.C (d : Rat) * qs U) (V := Ser.C (e : Rat) * qs V) (far_scale (qs_far fU)) (far_scale (qs_far fV)) (by
    rcases ne with ne | ne
    · exact .inl fun z => ne (qs_inj (by rw [qs_zero]; exact Cq_cancel dq (by rw [z]; grind)))
    · exact .inr fun z => ne (qs_inj (by rw [qs_zero]; exact Cq_cancel eq (by rw [z]; grind)))) (by rw [hsum]; exact qs_far fR)
  have inv : ∀ {z : Rat}, z ≠ 0 → β * z⁻¹ ≠ 0 := fun {z} hz q => by
    rcases dom_rat _ _ q with t | t
    · exact β0 t
    · have := Rat.mul_inv_cancel _ hz
      rw [t] at this
      grind
  refine ⟨⟨β * (d : Rat)⁻¹, U, inv dq, ?_, far_mono fU (by omega), fun j => bd_le (Nat.le_trans (bU j) AM) (by omega)⟩, β * (e : Rat)⁻¹, V, inv eq, ?_, far_mono fV (by omega), fun j => bd_le (Nat.le_trans (bV j) AM) (by omega)⟩
  · refine Cq_cancel dq ?_
    have := C_inv dq
    rw [e1, C_mul]; grind
  · refine Cq_cancel eq ?_
    have := C_inv eq
    rw [e2, C_mul]; grind
def Qt (f x : Ser Rat) : Prop := ∃ (a : Ser Rat) (β : Rat) (V : Ser Int), f = a * x ∧ β ≠ 0 ∧ qs V = Ser.C β * a ∧ B 5 1440 V
theorem Qt.zero {x : Ser Rat} : Qt 0 x := ⟨0, 1, 0, by grind, by decide, by rw [qs_zero]; grind, B.zero⟩
theorem Qt.self {x : Ser Rat} : Qt x x := ⟨1, 1, 1, by grind, by decide, by rw [qs_one, C_one]; grind, by rw [← C_one]; exact (B.C (a := 1440) (by unfold bd; decide)).mono (by decide) (Nat.le_refl _)⟩
structure Fin (f1 g1 c : Ser Rat) (m n : Nat) (x u v : Ser Rat) : Prop where
  eq : x = u * (c * f1) + v * (c * g1)
  ne : x ≠ 0
  sz : Sz 1840 1840 u v x
  qf : Qt (c * f1) x
  qg : Qt (c * g1) x
  sh : ∃ l0 ρ, x = c * ρ ∧ len l0 ρ ∧ ((n ≤ m ∧ (n ≠ 0 → far (n - l0) u) ∧ (n = 0 → v = 0)) ∨ (m < n ∧ (m ≠ 0 → far (m - l0) v) ∧ (m = 0 → u = 0)))
theorem Lo.ends {f1 g1 c x0 u0 v0 x1 u1 v1 : Ser Rat} {F G : List Int} {d e : Int} {lc m n : Nat} (h : Lo f1 g1 c m n 0 x0 u0 v0 x1 u1 v1) (hf : P f1 F d) (hg : P g1 G e) (df : Dr 5 F d) (dg : Dr 5 G e) (lc' : len lc c) (c0 : lc ≠ 0) :
    x0 = u0 * (c * f1) + v0 * (c * g1) ∧ x1 = 0 ∧ x0 ≠ 0 ∧ Sz 1840 1840 u0 v0 x0 ∧ Qt (c * f1) x0 ∧ Qt (c * g1) x0 ∧ n ≠ 0 ∧ ∃ l0 ρ, x0 = c * ρ ∧ len l0 ρ ∧ far (n - l0) u0 := by
  obtain ⟨l0, A0, A1, ρ0, ρ1, hE, rfl, rfl, s0, s1, sz, tu, tv⟩ := h
  have hm : m ≤ 5 := Nat.le_trans (Nat.le_of_eq (hE.lf.uniq hf.len)) df.ln
  have hn : n ≤ 5 := Nat.le_trans (Nat.le_of_eq (hE.lg.uniq hg.len)) dg.ln
  have hl0 := hE.l00
  have ρz := len.zero.mp hE.t1
  subst ρz
  have tv := tv.resolve_right fun z => z rfl
  obtain ⟨⟨β1, U, b10, eU, bU⟩, β2, V, b20, eV, bV⟩ := hE.kernel hm hn (Nat.le_refl 200) hf.eq (by have := hf.pos; omega) (B.of df.ln df.bd) hg.eq (by have := hg.pos; omega) (B.of dg.ln dg.bd)
  obtain ⟨δ, d0, ef, eg⟩ := hE.ends
  have di := C_inv d0
  have mz : ∀ {a b : Rat}, a ≠ 0 → b ≠ 0 → a * b ≠ 0 := fun ha hb q => by
    rcases dom_rat _ _ q with t | t
    · exact ha t
    · exact hb t
  refine ⟨by rw [hE.e0]; grind, by grind, (lc'.mul hE.t0 c0 hl0).ne (by omega), s0.mono ?_ ?_, ⟨Ser.C δ⁻¹ * v1, β2 * δ, V, ?_, mz b20 d0, ?_, bV⟩, ⟨Ser.C δ⁻¹ * -u1, β1 * δ, -U, ?_, mz b10 d0, ?_, bU.neg⟩, hE.n0, l0, ρ0, rfl, hE.t0, tv⟩
  · rcases sz with z | ⟨_, _, z | z⟩ <;> omega
  · rcases sz with z | ⟨_, _, z | z⟩ <;> omega
  · have : f1 = Ser.C δ⁻¹ * (v1 * ρ0) := by rw [← ef]; grind
    rw [this]; grind
  · rw [eV, C_mul]; grind
  · have : g1 = Ser.C δ⁻¹ * (-u1 * ρ0) := by rw [← eg]; grind
    rw [this]; grind
  · have : qs (-U) = -qs U := Ser.ext fun j => by rw [qs_co, Ser.neg_co, Ser.neg_co, qs_co, Rat.intCast_neg]
    rw [this, eU, C_mul]; grind
theorem Lt.ends {f1 g1 c x0 u0 v0 x1 u1 v1 : Ser Rat} {F G W : List Int} {d e w : Int} {lc m n : Nat} (h : Lt f1 g1 c m n 0 x0 u0 v0 x1 u1 v1) (hf : P f1 F d) (hg : P g1 G e) (hc : P c W w) (df : Dr 5 F d) (dg : Dr 5 G e) (dc : Dr 4 W w) (lf : len m f1) (lg : len n g1) (lc' : len lc c) (c0 : lc ≠ 0) : Fin f1 g1 c m n x0 u0 v0 ∧ x1 = 0 := by
  rcases h with ⟨nm, h⟩ | ⟨nm, h⟩ | h | h | h
  · obtain ⟨a1, a2, a3, a4, a5, a6, a7, l0, ρ, b1, b2, b3⟩ := h.ends hf hg df dg lc' c0
    exact ⟨⟨a1, a3, a4, a5, a6, l0, ρ, b1, b2, .inl ⟨nm, fun _ => b3, fun z => absurd z a7⟩⟩, a2⟩
  · obtain ⟨a1, a2, a3, a4, a5, a6, a7, l0, ρ, b1, b2, b3⟩ := h.ends hg hf dg df lc' c0
    exact ⟨⟨by rw [a1]; grind, a3, a4.swap, a6, a5, l0, ρ, b1, b2, .inr ⟨nm, fun _ => b3, fun z => absurd z a7⟩⟩, a2⟩
  · obtain ⟨mn, k0, _⟩ := h
    omega
  · obtain ⟨_, m0, n0, rfl, rfl, rfl, rfl⟩ := h
    subst m0
    have fz := len.zero.mp lf
    exact ⟨⟨by rw [fz]; grind, (lc'.mul lg c0 n0).ne (by omega), ((Sz.fst hg hc dg dc).swap).mono (by decide) (by decide), by rw [fz, show c * (0 : Ser Rat) = 0 by grind]; exact Qt.zero, Qt.self, n, g1, rfl, lg, .inr ⟨by omega, fun z => absurd rfl z, fun _ => rfl⟩⟩, rfl⟩
  · obtain ⟨_, n0, m0, rfl, rfl, rfl, rfl⟩ := h
    subst n0
    have gz := len.zero.mp lg
    exact ⟨⟨by rw [gz]; grind, (lc'.mul lf c0 m0).ne (by omega), (Sz.fst hf hc df dc).mono (by decide) (by decide), Qt.self, by rw [gz, show c * (0 : Ser Rat) = 0 by grind]; exact Qt.zero, m, f1, rfl, lf, .inl ⟨by omega, fun z => absurd rfl z, fun _ => rfl⟩⟩, rfl⟩
theorem Qt.scale {f x : Ser Rat} {κ : Rat} (h : Qt f x) (κ0 : κ ≠ 0) : Qt f (Ser.C κ * x) := by
  obtain ⟨a, β, V, e1, b0, e2, b⟩ := h
  have ki := C_inv κ0
  refine ⟨Ser.C κ⁻¹ * a, β * κ, V, by rw [e1]; grind, fun q => ?_, by rw [e2, C_mul]; grind, b⟩
  rcases dom_rat _ _ q with t | t
  · exact b0 t
  · exact κ0 t
theorem Fin.over {f1 g1 c x u v : Ser Rat} {m n j : Nat} {l : Rat} (h : Fin f1 g1 c m n x u v) (hl : l = x.co j) (l0 : l ≠ 0) : Fin f1 g1 c m n (Ser.C l⁻¹ * x) (Ser.C l⁻¹ * u) (Ser.C l⁻¹ * v) := by
  have i0 : l⁻¹ ≠ 0 := fun z => by
    have := Rat.mul_inv_cancel _ l0
    rw [z] at this
    grind
  obtain ⟨k0, ρ, e1, e2, e3⟩ := h.sh
  refine ⟨?_, fun z => h.ne (Cq_cancel i0 (by rw [z]; grind)), h.sz.over hl l0, h.qf.scale i0, h.qg.scale i0, k0, Ser.C l⁻¹ * ρ, by rw [e1]; grind, e2.scale i0, ?_⟩
  · have e := h.eq
    calc _ = Ser.C l⁻¹ * (u * (c * f1) + v * (c * g1)) := by rw [← e]
      _ = _ := by grind
  · rcases e3 with ⟨a, b, c'⟩ | ⟨a, b, c'⟩
    · exact .inl ⟨a, fun z => far_scale (b z), fun z => by rw [c' z]; grind⟩
    · exact .inr ⟨a, fun z => far_scale (b z), fun z => by rw [c' z]; grind⟩
end RR
namespace RR
open PySem PySem.Spec PyProof.Rows L2
def b_shared_common_part {M : Type} : DS M :=
    (dThen (dPar 2 3 (dCons (dLst (dCons (dVar 0) (dCons (dC (.tup [(.tup [(.int 1)]), (.int 1)])) (dCons (dC (.tup [(.tup []), (.int 1)])) dNil)))) (dCons (dLst (dCons (dVar 1) (dCons (dC (.tup [(.tup []), (.int 1)])) (dCons (dC (.tup [(.tup [(.int 1)]), (.int 1)])) dNil)))) dNil)))
    (dThen (dWhile (dTst (dBin gNe (dBin (gIx false) (dVar 3) (dC (.int 0))) (dC (.tup [(.tup []), (.int 1)]))))
      (dPar 2 3 (dCons (dVar 3) (dCons (dCall s_shared_lessened [] (dCons (dVar 2) (dCons (dVar 3) dNil))) dNil))))
    (dThen (dIte (dTst (dBin gEq (dBin (gIx false) (dVar 2) (dC (.int 0))) (dC (.tup [(.tup []), (.int 1)]))))
      (dRet (dTup (dCons (dC (.tup [(.tup []), (.int 1)])) (dCons (dC (.tup [(.tup []), (.int 1)])) (dCons (dC (.tup [(.tup []), (.int 1)])) dNil)))))
      dNext)
    (dThen (dSet 4 (dCall s_fractions_over [] (dCons (dTup (dCons (dC (.int 1)) (dCons (dC (.int 1)) dNil))) (dCons (dCall s_quotients_last_of [] (dCons (dBin (gIx false) (dVar 2) (dC (.int 0))) dNil)) dNil))))
    (dRet (dTup (dCons (dCall s_polys_scaled [] (dCons (dBin (gIx false) (dVar 2) (dC (.int 0))) (dCons (dVar 4) dNil))) (dCons (dCall s_polys_scaled [] (dCons (dBin (gIx false) (dVar 2) (dC (.int 1))) (dCons (dVar 4) dNil))) (dCons (dCall s_polys_scaled [] (dCons (dBin (gIx false) (dVar 2) (dC (.int 2))) (dCons (dVar 4) dNil))) dNil)))))))))
def Mon (x : Ser Rat) : Prop := ∃ j, top j x ∧ x.co j = 1
def s_shared_common_part {M : Type} : DSp M := fun ds m Q Z => ∃ (f1 g1 c : Ser Rat) (F G W r r' : List Int) (d e w a b : Int), ds = [pd r a, pd r' b] ∧ P f1 F d ∧ P g1 G e ∧ P c W w ∧ Dr 5 F d ∧ Dr 5 G e ∧ Dr 4 W w ∧ P (c * f1) r a ∧ P (c * g1) r' b ∧
  ((c * f1 = 0 ∧ c * g1 = 0) → Q (.tup [pd [] 1, pd [] 1, pd [] 1]) m) ∧
  (¬ (c * f1 = 0 ∧ c * g1 = 0) → ∀ (x u v : Ser Rat) (X U V : List Int) (a' b' c' : Int), Fin f1 g1 c F.length G.length x u v → Mon x → P x X a' → P u U b' → P v V c' → Q (.tup [pd X a', pd U b', pd V c']) m)
theorem vc_shared_common_part {M : Type} : ∀ ds (m : M) Q Z, s_shared_common_part ds m Q Z → okK [false, false] ds ∧ b_shared_common_part { nx := fun _ m' => Q .non m', rt := Q, ex := Z } (st0 [false, false] ds 5) m := by
  rintro ds m Q Z ⟨f1, g1, c, F, G, W, r, r', d, e, w, a, b, rfl, hf, hg, hc, df, dg, dc, hr, hr', k1, k2⟩
  refine ⟨⟨fun _ => nl_pd, fun _ => nl_pd, trivial⟩, ?_⟩
  unfold b_shared_common_part
  repeat walk_at "s"
  by_cases both : c * f1 = 0 ∧ c * g1 = 0
  · have k1 := k1 both
    obtain ⟨rfl, rfl⟩ := hr.zero.mp both.1
    obtain ⟨rfl, rfl⟩ := hr'.zero.mp both.2
    refine v_while (fun n ρ m' => m' = m ∧ ρ = [.val (pd [] 1), .val (pd [] 1), .val (tri [] [1] [] 1 1 1), .val (tri [] [] [1] 1 1 1), .un]) 0 ⟨rfl, rfl⟩ fun n ρ m' h => ?_
    obtain ⟨rfl, rfl⟩ := h
    repeat walk_at "s"
    refine v_tri0 ?_
    repeat walk_at "s"
    refine v_nepd0 ?_
    rw [decide_eq_true ⟨rfl, rfl⟩]
    repeat walk_at "s"
    refine v_tri0 ?_
    repeat walk_at "s"
    refine v_eqpd0 ?_
    rw [decide_eq_true ⟨rfl, rfl⟩]
    repeat walk_at "s"
    exact k1
  · have k2 := k2 both
    have cz : c ≠ 0 := fun z => both ⟨by rw [z]; grind, by rw [z]; grind⟩
    have c0 : W.length ≠ 0 := hc.len.pos cz
    have fg : F.length ≠ 0 ∨ G.length ≠ 0 := by
      by_cases z : F.length = 0
      · right
        intro z2
        have a1 := hf.len
        have a2 := hg.len
        rw [z] at a1
        rw [z2] at a2
        exact both ⟨by rw [len.zero.mp a1]; grind, by rw [len.zero.mp a2]; grind⟩
      · exact .inl z
    refine v_while (fun n ρ m' => m' = m ∧ ∃ (x0 u0 v0 x1 u1 v1 : Ser Rat) (X0 U0 V0 X1 U1 V1 : List Int) (a0 b0 c0 a1 b1 c1 : Int), ρ = [.val (pd r a), .val (pd r' b), .val (tri X0 U0 V0 a0 b0 c0), .val (tri X1 U1 V1 a1 b1 c1), .un] ∧
      P x0 X0 a0 ∧ P u0 U0 b0 ∧ P v0 V0 c0 ∧ P x1 X1 a1 ∧ P u1 U1 b1 ∧ P v1 V1 c1 ∧ Lt f1 g1 c F.length G.length n x0 u0 v0 x1 u1 v1) G.length
      ⟨rfl, _, _, _, _, _, _, r, [1], [], r', [], [1], a, 1, 1, b, 1, 1, rfl, hr, P.one, P.nil, hr', P.nil, P.one, Lt.start hf hg hc df dg dc hf.len hg.len fg⟩ fun n ρ m' h => ?_
    obtain ⟨rfl, x0, u0, v0, x1, u1, v1, X0, U0, V0, X1, U1, V1, a0, b0, c0', a1, b1, c1, rfl, hx0, hu0, hv0, hx1, hu1, hv1, hL⟩ := h
    repeat walk_at "s"
    refine v_tri0 ?_
    repeat walk_at "s"
    refine v_nepd0 ?_
    repeat walk_at "s"
    refine v_ifn (fun h => ?_) fun h => ?_
    · have x10 : x1 ≠ 0 := fun z => h (hx1.zero.mp z)
      have n0 : n ≠ 0 := fun z => by
        subst z
        exact x10 (hL.ends hf hg hc df dg dc hf.len hg.len hc.len c0).2
      obtain ⟨A0, A1, M', B2, s0, s1, a3, a4, a5, a6, a7, st⟩ := hL.step n0 hf hg hc df dg dc hf.len hg.len hc.len c0
      obtain ⟨l1, l2⟩ := a3 _ hx0.len _ hx1.len
      have ru : ∀ {A : Nat} {u v x : Ser Rat}, Sz A A u v x → Rp 9 A u ∧ Rp 9 A v ∧ Rp 9 A x := fun h => by
        have a := h.u
        have b := h.v
        rw [Nat.max_self] at a b
        exact ⟨a.mono (by decide) (Nat.le_refl _), b.mono (by decide) (Nat.le_refl _), h.x.mono (by decide) (Nat.le_refl _)⟩
      obtain ⟨p1, p2, p3⟩ := ru s0
      obtain ⟨p4, p5, p6⟩ := ru s1
      repeat walk_at "s"
      refine ⟨x0, u0, v0, x1, u1, v1, X0, U0, V0, X1, U1, V1, a0, b0, c0', a1, b1, c1, A0, A1, M', B2, rfl, hx0, hu0, hv0, hx1, hu1, hv1, p3.pb hx0, p1.pb hu0, p2.pb hv0, p6.pb hx1, p4.pb hu1, p5.pb hv1, fun z => x10 (hx1.nil_iff.mpr z), l2, a4, a5, a6, a7, fun q t eq ft fq => ?_⟩
      rw [l1] at ft
      obtain ⟨st1, st2⟩ := st q t eq ft fq
      refine ⟨fun t0 U b' V c' hU hV => ?_, fun t0 T y z y0 z0 b1' b2' hT gT => ?_⟩
      · repeat walk_at "s"
        exact ⟨0, by omega, rfl, _, _, _, _, _, _, _, _, _, _, _, _, _, _, _, _, _, _, rfl, hx1, hu1, hv1, P.nil, hU, hV, st1 t0⟩
      · obtain ⟨K, k3, k4, k5, k', k6, k7, k8⟩ := st2 t0 T y z y0 z0 b1' b2' hT gT
        refine ⟨K, k3, k4.mono (by decide) (Nat.le_refl _), k5.mono (by decide) (Nat.le_refl _), fun U b' V c' hU hV => ?_⟩
        repeat walk_at "s"
        exact ⟨k', k6, rfl, _, _, _, _, _, _, _, _, _, _, _, _, _, _, _, _, _, _, rfl, hx1, hu1, hv1, hT, hU, hV, k8⟩
    · have xz : x1 = 0 := hx1.zero.mpr h
      have n0 : n = 0 := by
        by_cases n0 : n = 0
        · exact n0
        · obtain ⟨A0, A1, M', B2, s0, s1, a3, _⟩ := hL.step n0 hf hg hc df dg dc hf.len hg.len hc.len c0
          have := (a3 _ hx0.len 0 (len.zero.mpr xz)).1
          omega
      subst n0
      obtain ⟨fin, _⟩ := hL.ends hf hg hc df dg dc hf.len hg.len hc.len c0
      have X00 : X0 ≠ [] := fun z => fin.ne (hx0.nil_iff.mpr z)
      have a0p := hx0.pos
      have a00 : a0 ≠ 0 := by omega
      have s0 := fin.sz
      have px0 : PB 8 1840 X0 a0 := s0.x.pb hx0
      have pu0 : PB 5 1840 U0 b0 := by have := s0.u; rw [Nat.max_self] at this; exact this.pb hu0
      have pv0 : PB 5 1840 V0 c0' := by have := s0.v; rw [Nat.max_self] at this; exact this.pb hv0
      obtain ⟨l, hl⟩ : ∃ l : Rat, l = (X0.getD (X0.length - 1) 0 : Rat) / (a0 : Rat) := ⟨_, rfl⟩
      have tp := hx0.top X00
      have lx : l = x0.co (X0.length - 1) := by
        have := hx0.get (X0.length - 1)
        rw [hl, ← this, Rat.mul_comm]
        exact Rat.mul_div_cancel (cne a00)
      have lz : l ≠ 0 := by rw [lx]; exact tp.2
      obtain ⟨f1', f2'⟩ := frac_le (n := X0.getD (X0.length - 1) 0) a00
      rw [← hl] at f1' f2'
      have bl : bd 1840 (X0.getD (X0.length - 1) 0) := by
        have := List.length_pos_iff.mpr X00
        rw [List.getD_eq_getElem?_getD, List.getElem?_eq_getElem (by omega)]
        exact px0.bd _ (List.getElem_mem _)
      have bn : bd 1840 l.num := by unfold bd at *; omega
      have bm : bd 1840 ((l.den : Nat) : Int) := by have := px0.dd; unfold bd at *; omega
      have dn0 : ((l.den : Nat) : Int) ≠ 0 := by have := l.den_nz; omega
      have nz : l.num ≠ 0 := fun z => lz (by
        have := den_mul l
        rw [z] at this
        rcases dom_rat _ _ this with t | t
        · exact t
        · exact absurd t (cne dn0))
      have inv : (((1 * ((l.den : Nat) : Int) : Int)) : Rat) / (((1 * l.num : Int)) : Rat) = l⁻¹ := by
        have e1 := den_mul l
        have e2 := Rat.mul_inv_cancel _ lz
        rw [Int.one_mul, Int.one_mul, ← e1, Rat.div_def, Rat.inv_mul_rev]
        have e3 := Rat.mul_inv_cancel _ (cne dn0)
        grind
      repeat walk_at "s"
      refine v_tri0 ?_
      repeat walk_at "s"
      refine v_eqpd0 ?_
      rw [decide_eq_false fun z => X00 z.1]
      repeat walk_at "s"
      refine v_tri0 ?_
      repeat walk_at "s"
      refine ⟨X0, a0, rfl, X00, a00, bd_mono px0.dd (by decide), ?_⟩
      rw [← hl]
      repeat walk_at "s"
      refine ⟨1, 1, l.num, ((l.den : Nat) : Int), rfl, bd_lit (by decide), bd_lit (by decide), bd_mono bn (by decide), bd_mono bm (by decide), by decide, nz, ?_⟩
      rw [inv]
      obtain ⟨κ, hκ⟩ : ∃ κ : Rat, κ = l⁻¹ := ⟨_, rfl⟩
      obtain ⟨g1', g2'⟩ := frac_le (n := 1 * ((l.den : Nat) : Int)) (d := 1 * l.num) (by omega)
      rw [inv, ← hκ] at g1' g2'
      rw [← hκ]
      have cn : bd 1840 κ.num := by unfold bd at *; omega
      have cm : bd 1840 ((κ.den : Nat) : Int) := by unfold bd at *; omega
      have kd0 : ((κ.den : Nat) : Int) ≠ 0 := by have := κ.den_nz; omega
      have sc : ∀ g : Ser Rat, Ser.C (((κ.den : Nat) : Int) : Rat) * (Ser.C κ * g) = Ser.C ((κ.num : Int) : Rat) * g := fun g => by
        rw [← den_mul κ, C_mul]; grind
      repeat walk_at "s"
      refine v_tri0 ?_
      repeat walk_at "s"
      refine ⟨x0, X0, a0, κ.num, ((κ.den : Nat) : Int), 8, 1840, 1840, rfl, kd0, hx0, px0, by decide, cn, cm, by decide, fun w1 _ hw1 _ => ?_⟩
      repeat walk_at "s"
      refine v_tri1 ?_
      repeat walk_at "s"
      refine ⟨u0, U0, b0, κ.num, ((κ.den : Nat) : Int), 5, 1840, 1840, rfl, kd0, hu0, pu0, by decide, cn, cm, by decide, fun w2 _ hw2 _ => ?_⟩
      repeat walk_at "s"
      refine v_tri2 ?_
      repeat walk_at "s"
      refine ⟨v0, V0, c0', κ.num, ((κ.den : Nat) : Int), 5, 1840, 1840, rfl, kd0, hv0, pv0, by decide, cn, cm, by decide, fun w3 _ hw3 _ => ?_⟩
      repeat walk_at "s"
      refine k2 (Ser.C κ * x0) (Ser.C κ * u0) (Ser.C κ * v0) _ _ _ _ _ _ (by rw [hκ]; exact fin.over lx lz) ⟨X0.length - 1, ⟨far_scale tp.1, ?_⟩, ?_⟩ (hw1 _ (sc _)) (hw2 _ (sc _)) (hw3 _ (sc _))
      · rw [Ser.C_mul_co, ← lx, hκ, Rat.mul_comm, Rat.mul_inv_cancel _ lz]; decide
      · rw [Ser.C_mul_co, ← lx, hκ, Rat.mul_comm, Rat.mul_inv_cancel _ lz]
end RR
namespace RR
theorem short_uniq {a b u v u' v' : Ser Rat} {k N : Nat} (e : u * a + v * b = 1) (e' : u' * a + v' * b = 1) (tb : top k b) (fu : far k u) (fu' : far k u') (fv : far N v) (fv' : far N v') : u = u' ∧ v = v' := by
  have d1 : (u - u') * a = (v' - v) * b := by grind
  have d2 : u - u' = b * (u * (v' - v) + v * (u - u')) := by
    calc u - u' = (u - u') * (u * a + v * b) := by rw [e]; grind
      _ = u * ((u - u') * a) + v * b * (u - u') := by grind
      _ = u * ((v' - v) * b) + v * b * (u - u') := by rw [d1]
      _ = _ := by grind
  have fd : far k (u - u') := far_sub fu fu'
  have z : u - u' = 0 := by
    by_cases q : u * (v' - v) + v * (u - u') = 0
    · rw [d2, q]; grind
    · have f1 : far (max (k + N - 1) (N + k - 1)) (u * (v' - v) + v * (u - u')) := far_add (far_mono (far_mul fu (far_sub fv' fv)) (Nat.le_max_left ..)) (far_mono (far_mul fv fd) (Nat.le_max_right ..))
      obtain ⟨j, _, tj⟩ := top_of f1 q
      have := top_lt (top_mul dom_rat tb tj) (by rw [← d2]; exact fd)
      omega
  have eu : u = u' := by
    have : u = u - u' + u' := by grind
    rw [this, z]; grind
  refine ⟨eu, ?_⟩
  have z2 : (v' - v) * b = 0 := by rw [← d1, z]; grind
  rcases mul_zero_of dom_rat (far_sub fv' fv) tb.1 z2 with q | q
  · have : v' = v' - v + v := by grind
    rw [this, q]; grind
  · exact absurd q (top_ne tb)
theorem Qt.far {f x : Ser Rat} (h : Qt f x) : ∃ a, f = a * x ∧ RR.far 5 a := by
  obtain ⟨a, β, V, e1, b0, e2, b⟩ := h
  refine ⟨a, e1, fun k hk => ?_⟩
  have := congrArg (fun f => Ser.co f k) e2
  simp only [qs_co, Ser.C_mul_co] at this
  rw [b.far k hk] at this
  rcases dom_rat _ _ this.symm with t | t
  · exact absurd t b0
  · exact t
theorem Fin.uniq {f1 g1 c x u v x' u' v' : Ser Rat} {m n lc : Nat} (h : Fin f1 g1 c m n x u v) (h' : Fin f1 g1 c m n x' u' v') (hm : Mon x) (hm' : Mon x') (lf : len m f1) (lg : len n g1) (lc' : len lc c) (c0 : lc ≠ 0) : x = x' ∧ u = u' ∧ v = v' := by
  obtain ⟨a, ea, fa⟩ := h.qf.far
  obtain ⟨b, eb, fb⟩ := h.qg.far
  obtain ⟨a', ea', fa'⟩ := h'.qf.far
  obtain ⟨b', eb', fb'⟩ := h'.qg.far
  have fu : far 5 u := h.sz.u.far
  have fv : far 5 v := h.sz.v.far
  have fu' : far 5 u' := h'.sz.u.far
  have fv' : far 5 v' := h'.sz.v.far
  obtain ⟨j, tj, oj⟩ := hm
  obtain ⟨j', tj', oj'⟩ := hm'
  have e1 : x = (u * a' + v * b') * x' := by
    have := h.eq
    rw [ea', eb'] at this
    rw [this]; grind
  have e2 : x' = (u' * a + v' * b) * x := by
    have := h'.eq
    rw [ea, eb] at this
    rw [this]; grind
  have f9 : ∀ {s t : Ser Rat}, far 5 s → far 5 t → far 9 (s * t) := fun a b => far_mul a b
  have fp : far 9 (u * a' + v * b') := far_add (f9 fu fa') (f9 fv fb')
  have fp' : far 9 (u' * a + v' * b) := far_add (f9 fu' fa) (f9 fv' fb)
  have p0 : u * a' + v * b' ≠ 0 := fun z => h.ne (by rw [e1, z]; grind)
  have p0' : u' * a + v' * b ≠ 0 := fun z => h'.ne (by rw [e2, z]; grind)
  obtain ⟨k, _, tk⟩ := top_of fp p0
  obtain ⟨k', _, tk'⟩ := top_of fp' p0'
  have q1 := top_uniq tj (by rw [e1]; exact top_mul dom_rat tk tj')
  have q2 := top_uniq tj' (by rw [e2]; exact top_mul dom_rat tk' tj)
  have k0 : k = 0 := by omega
  subst k0
  have jj : j = j' := by omega
  subst jj
  obtain ⟨π, hπ⟩ : ∃ π : Rat, π = (u * a' + v * b').co 0 := ⟨_, rfl⟩
  have ep : u * a' + v * b' = Ser.C π := Ser.ext fun i => by
    rw [Ser.C_co]
    by_cases i0 : i = 0
    · rw [if_pos i0, i0, hπ]
    · rw [if_neg i0]; exact tk.1 i (by omega)
  have π1 : π = 1 := by
    have := congrArg (fun f => Ser.co f j) e1
    simp only [ep, Ser.C_mul_co] at this
    rw [oj, oj'] at this
    rw [this]; grind
  have ex : x = x' := by rw [e1, ep, π1, C_one]; grind
  subst ex
  have aa : a = a' := cancel dom_rat tj.1 fa fa' h.ne (by rw [Lean.Grind.CommRing.mul_comm x a, Lean.Grind.CommRing.mul_comm x a', ← ea, ← ea'])
  have bb : b = b' := cancel dom_rat tj.1 fb fb' h.ne (by rw [Lean.Grind.CommRing.mul_comm x b, Lean.Grind.CommRing.mul_comm x b', ← eb, ← eb'])
  subst aa
  subst bb
  have one : ∀ {u v : Ser Rat}, far 5 u → far 5 v → x = u * (c * f1) + v * (c * g1) → u * a + v * b = 1 := fun {u v} fu fv e => by
    refine cancel dom_rat tj.1 (far_add (f9 fu fa) (f9 fv fb)) (far_mono far_one (by decide)) h.ne ?_
    calc x * (u * a + v * b) = u * (a * x) + v * (b * x) := by grind
      _ = x := by rw [← ea, ← eb, ← e]
      _ = x * 1 := by grind
  have o1 := one fu fv h.eq
  have o2 := one fu' fv' h'.eq
  obtain ⟨l0, ρ, er, lr, sh⟩ := h.sh
  obtain ⟨l0', ρ', er', lr', sh'⟩ := h'.sh
  have l00 : l0 ≠ 0 := fun z => by subst z; exact h.ne (by rw [er, len.zero.mp lr]; grind)
  have l00' : l0' ≠ 0 := fun z => by subst z; exact h.ne (by rw [er', len.zero.mp lr']; grind)
  have lx : lc + l0 - 1 = lc + l0' - 1 := (er ▸ lc'.mul lr c0 l00 : len (lc + l0 - 1) x).uniq (er' ▸ lc'.mul lr' c0 l00')
  have ll : l0 = l0' := by omega
  subst ll
  have xt : len (lc + l0 - 1) x := er ▸ lc'.mul lr c0 l00
  have topq : ∀ {s y : Ser Rat} {i : Nat}, len i y → i ≠ 0 → c * y = s * x → far 5 s → top (i - l0) s := fun {s y i} ly i0 e fs => by
    have ls := lc'.mul ly c0 i0
    have s0 : s ≠ 0 := fun z => ls.ne (by omega) (by rw [e, z]; grind)
    obtain ⟨t, _, tt⟩ := top_of fs s0
    have := top_uniq (ls.top (by omega)) (by rw [e]; exact top_mul dom_rat tt (xt.top (by omega)))
    rwa [show i - l0 = t by omega]
  refine ⟨rfl, ?_⟩
  rcases sh with ⟨nm, s1, s2⟩ | ⟨nm, s1, s2⟩
  · obtain ⟨_, s1', s2'⟩ := sh'.resolve_right fun z => by omega
    by_cases n0 : n = 0
    · have v0 := s2 n0
      have v0' := s2' n0
      subst v0
      subst v0'
      refine ⟨?_, rfl⟩
      calc u = u * (u' * a + 0 * b) := by rw [o2]; grind
        _ = u' * (u * a + 0 * b) := by grind
        _ = u' := by rw [o1]; grind
    · exact short_uniq o1 o2 (topq lg n0 eb fb) (s1 n0) (s1' n0) fv fv'
  · obtain ⟨_, s1', s2'⟩ := sh'.resolve_left fun z => by omega
    by_cases m0 : m = 0
    · have u0 := s2 m0
      have u0' := s2' m0
      subst u0
      subst u0'
      refine ⟨rfl, ?_⟩
      calc v = v * (0 * a + v' * b) := by rw [o2]; grind
        _ = v' * (0 * a + v * b) := by grind
        _ = v' := by rw [o1]; grind
    · exact (short_uniq (a := b) (b := a) (by rw [← o1]; grind) (by rw [← o2]; grind) (topq lf m0 ea fa) (s1 m0) (s1' m0) fu fu').symm
end RR
namespace RR
open PySem PySem.Spec PyProof.Rows L2
def tr (K : Nat) (a : Ser Rat) : Ser Rat := ⟨fun j => if j < K then a.co j else 0⟩
theorem tr_co (K : Nat) (a : Ser Rat) (j : Nat) : (tr K a).co j = if j < K then a.co j else 0 := rfl
theorem Rp.tr {n A K : Nat} {a : Ser Rat} (h : Rp n A a) : Rp n A (RR.tr K a) ∧ Rp n A (a - RR.tr K a) := by
  obtain ⟨E, S, e0, e1, b1, b2⟩ := h
  have ec : ∀ j, (E : Rat) * a.co j = (S.co j : Rat) := fun j => by
    have := congrArg (fun f => Ser.co f j) e1
    simp only [Ser.C_mul_co, qs_co] at this
    exact this
  refine ⟨⟨E, ⟨fun j => if j < K then S.co j else 0⟩, e0, Ser.ext fun j => ?_, ⟨fun j hj => ?_, fun j => ?_⟩, b2⟩, ⟨E, ⟨fun j => if j < K then 0 else S.co j⟩, e0, Ser.ext fun j => ?_, ⟨fun j hj => ?_, fun j => ?_⟩, b2⟩⟩
  · rw [Ser.C_mul_co, tr_co, qs_co]
    show _ = (((if j < K then S.co j else 0 : Int)) : Rat)
    split
    · exact ec j
    · rw [show (((0 : Int)) : Rat) = 0 from rfl]; grind
  · show (if j < K then S.co j else 0) = 0
    rw [b1.far j hj]; split <;> rfl
  · show bd A (if j < K then S.co j else 0)
    split
    · exact b1.bd j
    · exact bd0
  · rw [Ser.C_mul_co, Ser.sub_co, tr_co, qs_co]
    show _ = (((if j < K then 0 else S.co j : Int)) : Rat)
    split
    · rw [show (((0 : Int)) : Rat) = 0 from rfl]; grind
    · rw [← ec j]; grind
  · show (if j < K then 0 else S.co j) = 0
    rw [b1.far j hj]; split <;> rfl
  · show bd A (if j < K then 0 else S.co j)
    split
    · exact bd0
    · exact b1.bd j
end RR
namespace RR
open PySem PySem.Spec PyProof.Rows L2
theorem Qt.rp0 {f x : Ser Rat} {r : List Int} {d : Int} (h : Qt f x) (hf : P f r d) (pf : PB 9 404 r d) (mx : Mon x) : ∃ q, f = q * x ∧ Rp 5 1850 q := by
  obtain ⟨a, β, V, e1, b0, e2, bV⟩ := h
  obtain ⟨j, tj, oj⟩ := mx
  have fa : RR.far 5 a := fun k hk => by
    have := congrArg (fun f => Ser.co f k) e2
    simp only [qs_co, Ser.C_mul_co] at this
    rw [bV.far k hk] at this
    rcases dom_rat _ _ this.symm with t | t
    · exact absurd t b0
    · exact t
  refine ⟨a, e1, ?_⟩
  by_cases z : a = 0
  · exact ⟨1, 0, by decide, by rw [z, qs_zero]; grind, B.zero, by unfold bd; decide⟩
  obtain ⟨k, _, tk⟩ := top_of fa z
  have ft : f.co (k + j) = a.co k := by rw [e1, mul_top tk.1 tj.1, oj]; grind
  have vk : β * a.co k = (V.co k : Rat) := by
    have := congrArg (fun f => Ser.co f k) e2
    simp only [qs_co, Ser.C_mul_co] at this
    exact this.symm
  have rk := hf.get (k + j)
  rw [ft] at rk
  have d0 : d ≠ 0 := by have := hf.pos; omega
  have v0 : V.co k ≠ 0 := fun q => by
    rw [q] at vk
    rcases dom_rat _ _ vk with t | t
    · exact b0 t
    · exact tk.2 t
  have br : bd 404 (r.getD (k + j) 0) := (B.of (Nat.le_refl _) pf.bd).bd (k + j)
  refine ⟨V.co k * d, Ser.C (r.getD (k + j) 0) * V, Int.mul_ne_zero v0 d0, ?_, (B.scale br bV).mono (Nat.le_refl _) (by decide), bd_mono (bd_mul (bV.bd k) pf.dd) (by decide)⟩
  rw [qs_mul, qs_C, e2, ← rk, Rat.intCast_mul, ← vk, C_mul, C_mul, C_mul]
  generalize Ser.C β = s1
  generalize Ser.C (a.co k) = s2
  generalize Ser.C (d : Rat) = s3
  grind
theorem Qt.rp {f x : Ser Rat} {r : List Int} {d : Int} (h : Qt f x) (hf : P f r d) (pf : PB 9 404 r d) (mx : Mon x) : ∃ q, f = q * x ∧ Rp 5 2280 q := by
  obtain ⟨q, e, rq⟩ := h.rp0 hf pf mx
  exact ⟨q, e, rq.mono (Nat.le_refl _) (by decide)⟩
end RR
namespace RR
open PySem PySem.Spec PyProof.Rows L2
def Tld (f1 g1 c : Ser Rat) (m n : Nat) (x u v : Ser Rat) : Prop := ((c * f1 = 0 ∧ c * g1 = 0) ∧ x = 0 ∧ u = 0 ∧ v = 0) ∨ (¬ (c * f1 = 0 ∧ c * g1 = 0) ∧ Fin f1 g1 c m n x u v ∧ Mon x)
section
variable {f1 g1 c : Ser Rat} {F G W r r' : List Int} {d e w a b : Int}
theorem ask_cp {M : Type} {m : M} {Q : D → M → Prop} {Z : Str → M → Prop} (hf : P f1 F d) (hg : P g1 G e) (hc : P c W w) (df : Dr 5 F d) (dg : Dr 5 G e) (dc : Dr 4 W w) (hr : P (c * f1) r a) (hr' : P (c * g1) r' b)
    (h : ∀ (x u v : Ser Rat) (X U V : List Int) (a' b' c' : Int), Tld f1 g1 c F.length G.length x u v → P x X a' → P u U b' → P v V c' → Q (.tup [pd X a', pd U b', pd V c']) m) : s_shared_common_part [pd r a, pd r' b] m Q Z :=
  ⟨f1, g1, c, F, G, W, r, r', d, e, w, a, b, rfl, hf, hg, hc, df, dg, dc, hr, hr', fun both => h 0 0 0 [] [] [] 1 1 1 (.inl ⟨both, rfl, rfl, rfl⟩) P.nil P.nil P.nil, fun nb x u v X U V a' b' c' hF hM hX hU hV => h x u v X U V a' b' c' (.inr ⟨nb, hF, hM⟩) hX hU hV⟩
theorem Tld.uniq {x u v x' u' v' : Ser Rat} (hf : P f1 F d) (hg : P g1 G e) (hc : P c W w) (h : Tld f1 g1 c F.length G.length x u v) (h' : Tld f1 g1 c F.length G.length x' u' v') : x = x' ∧ u = u' ∧ v = v' := by
  rcases h with ⟨b, rfl, rfl, rfl⟩ | ⟨nb, hF, hM⟩
  · rcases h' with ⟨_, rfl, rfl, rfl⟩ | ⟨nb, _⟩
    · exact ⟨rfl, rfl, rfl⟩
    · exact absurd b nb
  · rcases h' with ⟨b, _⟩ | ⟨_, hF', hM'⟩
    · exact absurd b nb
    · have cz : c ≠ 0 := fun z => nb ⟨by rw [z]; grind, by rw [z]; grind⟩
      exact hF.uniq hF' hM hM' hf.len hg.len hc.len (hc.len.pos cz)
theorem Tld.facts {x u v : Ser Rat} (h : Tld f1 g1 c F.length G.length x u v) : x = u * (c * f1) + v * (c * g1) ∧ (x = 0 ↔ c * f1 = 0 ∧ c * g1 = 0) ∧ (x ≠ 0 → Mon x ∧ Qt (c * f1) x ∧ Qt (c * g1) x) ∧ Rp 8 1840 x ∧ Rp 5 1840 u ∧ Rp 5 1840 v := by
  rcases h with ⟨⟨b1, b2⟩, rfl, rfl, rfl⟩ | ⟨nb, hF, hM⟩
  · have z : ∀ n, Rp n 1840 (0 : Ser Rat) := fun n => ⟨1, 0, by decide, by rw [qs_zero]; grind, B.zero, by unfold bd; decide⟩
    exact ⟨by grind, ⟨fun _ => ⟨b1, b2⟩, fun _ => rfl⟩, fun z => absurd rfl z, z 8, z 5, z 5⟩
  · have a := hF.sz.u
    have b := hF.sz.v
    rw [Nat.max_self] at a b
    exact ⟨hF.eq, ⟨fun z => absurd z hF.ne, fun z => absurd z nb⟩, fun _ => ⟨hM, hF.qf, hF.qg⟩, hF.sz.x, a, b⟩
end
end RR
namespace RR
open PySem PySem.Spec PyProof.Rows L2
section
variable {ρ : En}
theorem v_gt5 {i j k l n : Nat} {x y z u v : D} {P : En → Prop} (h : P (((((ρ.set i (.val x)).set j (.val y)).set k (.val z)).set l (.val u)).set n (.val v))) : dgT 5 (dgCons (dgN i) (dgCons (dgN j) (dgCons (dgN k) (dgCons (dgN l) (dgCons (dgN n) dgNil))))) (.tup [x, y, z, u, v]) ρ P := ⟨rfl, h⟩
end
theorem div_known {q t s x : Ser Rat} {j N : Nat} (tx : top j x) (e : s * x = q * x + t) (ft : far j t) (fq : far N q) (fs : far N s) : q = s ∧ t = 0 := by
  obtain ⟨a, b⟩ := div_uniq dom_rat (q := q) (q' := s) (r := t) (r' := 0) tx fq fs ft far_zero (by rw [← e]; grind)
  exact ⟨a, b⟩
theorem Tld.quots {f1 g1 c : Ser Rat} {F G r r' : List Int} {a b : Int} {x u v : Ser Rat} (h : Tld f1 g1 c F.length G.length x u v) (hr : P (c * f1) r a) (hr' : P (c * g1) r' b) (pr : PB 9 404 r a) (pr' : PB 9 404 r' b) (x0 : x ≠ 0) : ∃ s t, c * f1 = s * x ∧ c * g1 = t * x ∧ Rp 5 1850 s ∧ Rp 5 1850 t := by
  obtain ⟨_, _, e3, _⟩ := h.facts
  obtain ⟨mx, qf, qg⟩ := e3 x0
  obtain ⟨s, es, rs⟩ := qf.rp0 hr pr mx
  obtain ⟨t, et, rt⟩ := qg.rp0 hr' pr' mx
  exact ⟨s, t, es, et, rs, rt⟩
def b_shared_common_paper {M : Type} : DS M :=
    (dThen (dAsg (dCall s_shared_common_part [] (dCons (dVar 0) (dCons (dVar 1) dNil))) (dgT 3 (dgCons (dgN 2) (dgCons (dgN 3) (dgCons (dgN 4) dgNil)))))
    (dThen (dIte (dTst (dBin gEq (dVar 2) (dC (.tup [(.tup []), (.int 1)]))))
      (dRet (dTup (dCons (dVar 2) (dCons (dVar 3) (dCons (dVar 4) (dCons (dC (.tup [(.tup []), (.int 1)])) (dCons (dC (.tup [(.tup []), (.int 1)])) dNil)))))))
      dNext)
    (dRet (dTup (dCons (dVar 2) (dCons (dVar 3) (dCons (dVar 4) (dCons (dBin (gIx false) (dCall s_quotients_divided [] (dCons (dVar 0) (dCons (dVar 2) dNil))) (dC (.int 0))) (dCons (dBin (gIx false) (dCall s_quotients_divided [] (dCons (dVar 1) (dCons (dVar 2) dNil))) (dC (.int 0))) dNil)))))))))
structure Ppr (f1 g1 c : Ser Rat) (m n : Nat) (x u v s t : Ser Rat) : Prop where
  tld : Tld f1 g1 c m n x u v
  es : c * f1 = s * x
  et : c * g1 = t * x
  rs : Rp 5 1850 s
  rt : Rp 5 1850 t
  z : x = 0 → s = 0 ∧ t = 0
def s_shared_common_paper {M : Type} : DSp M := fun ds m Q Z => ∃ (f1 g1 c : Ser Rat) (F G W r r' : List Int) (d e w a b : Int), ds = [pd r a, pd r' b] ∧ P f1 F d ∧ P g1 G e ∧ P c W w ∧ Dr 5 F d ∧ Dr 5 G e ∧ Dr 4 W w ∧ P (c * f1) r a ∧ P (c * g1) r' b ∧
  ∀ (x u v s t : Ser Rat) (X U V S T : List Int) (a' b' c' d' e' : Int), Ppr f1 g1 c F.length G.length x u v s t → P x X a' → P u U b' → P v V c' → P s S d' → P t T e' → Q (.tup [pd X a', pd U b', pd V c', pd S d', pd T e']) m
theorem vc_shared_common_paper {M : Type} : ∀ ds (m : M) Q Z, s_shared_common_paper ds m Q Z → okK [false, false] ds ∧ b_shared_common_paper { nx := fun _ m' => Q .non m', rt := Q, ex := Z } (st0 [false, false] ds 5) m := by
  rintro ds m Q Z ⟨f1, g1, c, F, G, W, r, r', d, e, w, a, b, rfl, hf, hg, hc, df, dg, dc, hr, hr', k⟩
  refine ⟨⟨fun _ => nl_pd, fun _ => nl_pd, trivial⟩, ?_⟩
  unfold b_shared_common_paper
  obtain ⟨pr, pr'⟩ := Pr2.sizes ⟨f1, g1, c, F, G, W, d, e, w, hf, hg, hc, df, dg, dc, rfl, rfl⟩ hr hr'
  repeat walk_at "s"
  refine ask_cp hf hg hc df dg dc hr hr' fun x u v X U V a' b' c' hT hX hU hV => ?_
  repeat walk_at "s"
  refine v_eqpd0 ?_
  repeat walk_at "s"
  refine v_ifd (fun h => ?_) fun h => ?_
  · repeat walk_at "s"
    have x0 : x = 0 := hX.zero.mpr h
    obtain ⟨_, e2, _⟩ := hT.facts
    obtain ⟨z1, z2⟩ := e2.mp x0
    have z : ∀ n, Rp n 1850 (0 : Ser Rat) := fun n => ⟨1, 0, by decide, by rw [qs_zero]; grind, B.zero, by unfold bd; decide⟩
    exact k x u v 0 0 X U V [] [] a' b' c' 1 1 ⟨hT, by rw [z1]; grind, by rw [z2]; grind, z 5, z 5, fun _ => ⟨rfl, rfl⟩⟩ hX hU hV P.nil P.nil
  · have x0 : x ≠ 0 := fun z => h (hX.zero.mp z)
    have X0 : X ≠ [] := fun q => x0 (hX.nil_iff.mpr q)
    obtain ⟨s, t, es, et, rs, rt⟩ := hT.quots hr hr' pr pr' x0
    obtain ⟨_, _, _, rx, _, _⟩ := hT.facts
    have px := rx.pb hX
    have ln : ∀ {f s : Ser Rat} {r : List Int} {a : Int}, P f r a → f = s * x → Rp 5 1850 s → r.length + 1 ≤ X.length + 5 := fun {f s r a} hr es rs => by
      have l := hr.len.le (k := 5 + X.length - 1) (by rw [es]; exact far_mul rs.far hX.far)
      have := List.length_pos_iff.mpr X0
      omega
    have tx := hX.top X0
    repeat walk_at "s"
    refine ⟨c * f1, x, r, a, X, a', 9, 404, 8, 1840, 5, rfl, hr, hX, pr, px, by decide, by decide, by decide, ln hr es rs, by decide, fun z => absurd z X0, fun _ q1 t1 S d' y1 y2 hq ht eq ft fq _ _ => ?_⟩
    obtain ⟨rfl, _⟩ := div_known tx (es.symm.trans eq) ft fq (far_mono rs.far (by decide))
    repeat walk_at "s"
    refine ⟨c * g1, x, r', b, X, a', 9, 404, 8, 1840, 5, rfl, hr', hX, pr', px, by decide, by decide, by decide, ln hr' et rt, by decide, fun z => absurd z X0, fun _ q2 t2 T e' y3 y4 hq2 ht2 eq2 ft2 fq2 _ _ => ?_⟩
    obtain ⟨rfl, _⟩ := div_known tx (et.symm.trans eq2) ft2 fq2 (far_mono rt.far (by decide))
    repeat walk_at "s"
    exact k x u v _ _ X U V S T a' b' c' d' e' ⟨hT, es, et, rs, rt, fun z => absurd z x0⟩ hX hU hV hq hq2
theorem Ppr.uniq {f1 g1 c : Ser Rat} {F G W : List Int} {d e w : Int} {x u v s t x' u' v' s' t' : Ser Rat} (hf : P f1 F d) (hg : P g1 G e) (hc : P c W w) (h : Ppr f1 g1 c F.length G.length x u v s t) (h' : Ppr f1 g1 c F.length G.length x' u' v' s' t') : x = x' ∧ u = u' ∧ v = v' ∧ s = s' ∧ t = t' := by
  obtain ⟨rfl, rfl, rfl⟩ := h.tld.uniq hf hg hc h'.tld
  by_cases x0 : x = 0
  · obtain ⟨rfl, rfl⟩ := h.z x0
    obtain ⟨rfl, rfl⟩ := h'.z x0
    exact ⟨rfl, rfl, rfl, rfl, rfl⟩
  · obtain ⟨_, _, e3, rx, _⟩ := h.tld.facts
    have can : ∀ {f p q : Ser Rat}, f = p * x → f = q * x → Rp 5 1850 p → Rp 5 1850 q → p = q := fun {f p q} e1 e2 rp rq =>
      cancel dom_rat rx.far rp.far rq.far x0 (by rw [show x * p = p * x by grind, show x * q = q * x by grind, ← e1, ← e2])
    exact ⟨rfl, rfl, rfl, can h.es h'.es h.rs h'.rs, can h.et h'.et h.rt h'.rt⟩
theorem ask_ppr {M : Type} {m : M} {Q : D → M → Prop} {Z : Str → M → Prop} {f1 g1 c : Ser Rat} {F G W r r' : List Int} {d e w a b : Int} (hf : P f1 F d) (hg : P g1 G e) (hc : P c W w) (df : Dr 5 F d) (dg : Dr 5 G e) (dc : Dr 4 W w) (hr : P (c * f1) r a) (hr' : P (c * g1) r' b)
    (h : ∀ (x u v s t : Ser Rat) (X U V S T : List Int) (a' b' c' d' e' : Int), Ppr f1 g1 c F.length G.length x u v s t → P x X a' → P u U b' → P v V c' → P s S d' → P t T e' → Q (.tup [pd X a', pd U b', pd V c', pd S d', pd T e']) m) : s_shared_common_paper [pd r a, pd r' b] m Q Z :=
  ⟨f1, g1, c, F, G, W, r, r', d, e, w, a, b, rfl, hf, hg, hc, df, dg, dc, hr, hr', h⟩
end RR
namespace RR
open PySem PySem.Spec PyProof.Rows L2
theorem polB_P {t : D} (h : polB t = true) : ∃ (f : Ser Rat) (r : List Int) (d : Int), t = pd r d ∧ P f r d := by
  unfold polB at h
  split at h
  · rename_i x d
    split at h
    · rename_i r e
      obtain ⟨rfl, dn⟩ := rowD_some e
      unfold isPd at h
      simp only [Bool.and_eq_true, decide_eq_true_eq] at h
      exact ⟨_, r, d, rfl, h.2.1, dn, by exact_mod_cast h.2.2, ser_of (by omega)⟩
    · cases h
  · cases h
theorem Th.pb {β l n : Nat} {r : List Int} {d : Int} (h : Th β l n (pd r d)) : PB l β r d := by
  cases n with
  | zero => exact h.elim
  | succ n =>
    have h1 := h.2 (.tup (zz r)) (by simp)
    have h2 := h.2 (.int d) (by simp)
    cases n with
    | zero => exact h1.elim
    | succ n =>
      refine ⟨by have := h1.1; simpa [zz] using this, fun x hx => ?_, h2.ib⟩
      exact (h1.2 (.int x) (List.mem_map.mpr ⟨x, hx, rfl⟩)).ib
theorem nil_one {f : Ser Rat} {d : Int} (h : P f [] d) : d = 1 := by
  have h1 := h.low
  have h2 := h.pos
  have h3 : gcdL [] = 0 := rfl
  rw [h3] at h1
  have h4 : Int.gcd ((0 : Nat) : Int) d = d.natAbs := by simp
  omega
theorem five_of {us : List D} (h : us.length = 5) : ∃ a b c d e, us = [a, b, c, d, e] := by
  match us, h with
  | [a, b, c, d, e], _ => exact ⟨a, b, c, d, e, rfl⟩
def ShC (f g : Ser Rat) (t : D) : Prop := ∃ (x u v s w : Ser Rat) (X U V S T : List Int) (a b c d e : Int), t = .tup [pd X a, pd U b, pd V c, pd S d, pd T e] ∧ P x X a ∧ P u U b ∧ P v V c ∧ P s S d ∧ P w T e ∧
  (X ≠ [] → X.getD (X.length - 1) 0 = a) ∧ s * x = f ∧ w * x = g ∧ u * f + v * g = x
theorem ShC.five {f g : Ser Rat} {t : D} (h : ShC f g t) : ∃ us, t = .tup us ∧ us.length = 5 ∧ us.all polB = true := by
  obtain ⟨x, u, v, s, w, X, U, V, S, T, a, b, c, d, e, rfl, p1, p2, p3, p4, p5, _⟩ := h
  refine ⟨_, rfl, rfl, ?_⟩
  simp only [List.all_cons, List.all_nil, polB_pd, isPd_P p1, isPd_P p2, isPd_P p3, isPd_P p4, isPd_P p5, Bool.and_self]
theorem pd_inj {r s : List Int} {d e : Int} (h : pd r d = pd s e) : r = s ∧ d = e := by
  have h1 : [D.tup (zz r), D.int d] = [D.tup (zz s), D.int e] := by injection h
  injection h1 with h2 h3
  injection h3 with h4 _
  exact ⟨zz_inj (by injection h2), by injection h4⟩
theorem ShC.iff {f g x u v s w : Ser Rat} {X U V S T : List Int} {a b c d e : Int} (p1 : P x X a) (p2 : P u U b) (p3 : P v V c) (p4 : P s S d) (p5 : P w T e) :
    ShC f g (.tup [pd X a, pd U b, pd V c, pd S d, pd T e]) ↔ (X ≠ [] → X.getD (X.length - 1) 0 = a) ∧ s * x = f ∧ w * x = g ∧ u * f + v * g = x := by
  refine ⟨fun ⟨x', u', v', s', w', X', U', V', S', T', a', b', c', d', e', q, q1, q2, q3, q4, q5, m, e1, e2, e3⟩ => ?_, fun ⟨m, e1, e2, e3⟩ => ⟨x, u, v, s, w, X, U, V, S, T, a, b, c, d, e, rfl, p1, p2, p3, p4, p5, m, e1, e2, e3⟩⟩
  have z : [pd X a, pd U b, pd V c, pd S d, pd T e] = [pd X' a', pd U' b', pd V' c', pd S' d', pd T' e'] := by injection q
  simp only [List.cons.injEq, and_true] at z
  obtain ⟨z1, z2, z3, z4, z5⟩ := z
  obtain ⟨rfl, rfl⟩ := pd_inj z1
  obtain ⟨rfl, rfl⟩ := pd_inj z2
  obtain ⟨rfl, rfl⟩ := pd_inj z3
  obtain ⟨rfl, rfl⟩ := pd_inj z4
  obtain ⟨rfl, rfl⟩ := pd_inj z5
  obtain rfl := P.inj p1 q1
  obtain rfl := P.inj p2 q2
  obtain rfl := P.inj p3 q3
  obtain rfl := P.inj p4 q4
  obtain rfl := P.inj p5 q5
  exact ⟨m, e1, e2, e3⟩
def b_checking_is_monic {M : Type} : DS M :=
    (dRet (dBin gEq (dBin (gIx false) (dBin (gIx false) (dVar 0) (dC (.int 0))) (dNeg (dC (.int 1)))) (dBin (gIx false) (dVar 0) (dC (.int 1)))))
def s_checking_is_monic {M : Type} : DSp M := fun ds m Q Z => ∃ (r : List Int) (d : Int), ds = [pd r d] ∧ r ≠ [] ∧ Q (.bl (decide (r.getD (r.length - 1) 0 = d))) m
theorem vc_checking_is_monic {M : Type} : ∀ ds (m : M) Q Z, s_checking_is_monic ds m Q Z → okK [false] ds ∧ b_checking_is_monic { nx := fun _ m' => Q .non m', rt := Q, ex := Z } (st0 [false] ds 1) m := by
  rintro ds m Q Z ⟨r, d, rfl, r0, q⟩
  refine ⟨⟨fun _ => nl_pd, trivial⟩, ?_⟩
  unfold b_checking_is_monic
  repeat walk_at "s"
  refine v_ixm r0 ?_
  repeat walk_at "s"
  exact q
def b_checking_shows_common {M : Type} : DS M :=
    (dThen (dIte (dOr (dNot (dVal (dCall s_checking_is_tuple [] (dCons (dVar 2) (dCons (dC (.int 5)) dNil))))) (dNot (dVal (dB gAll (dCons (dLc (dSeq false (dVar 2)) (dgN 8) dYes (dCall s_polys_is_poly_b [] (dCons (dVar 8) dNil)) [8]) dNil)))))
      (dRet (dC (.bl false)))
      dNext)
    (dThen (dAsg (dVar 2) (dgT 5 (dgCons (dgN 3) (dgCons (dgN 4) (dgCons (dgN 5) (dgCons (dgN 6) (dgCons (dgN 7) dgNil)))))))
    (dThen (dIte (dAnd (dTst (dBin gNe (dVar 3) (dC (.tup [(.tup []), (.int 1)])))) (dNot (dVal (dCall s_checking_is_monic [] (dCons (dVar 3) dNil)))))
      (dRet (dC (.bl false)))
      dNext)
    (dThen (dIte (dOr (dTst (dBin gNe (dCall s_polys_times [] (dCons (dVar 6) (dCons (dVar 3) dNil))) (dVar 0))) (dTst (dBin gNe (dCall s_polys_times [] (dCons (dVar 7) (dCons (dVar 3) dNil))) (dVar 1))))
      (dRet (dC (.bl false)))
      dNext)
    (dRet (dBin gEq (dCall s_polys_plus [] (dCons (dCall s_polys_times [] (dCons (dVar 4) (dCons (dVar 0) dNil))) (dCons (dCall s_polys_times [] (dCons (dVar 5) (dCons (dVar 1) dNil))) dNil))) (dVar 3)))))))
def s_checking_shows_common {M : Type} : DSp M := fun ds m Q Z => ∃ (f g : Ser Rat) (r r' : List Int) (a b : Int) (t : D) (β l n : Nat), ds = [pd r a, pd r' b, t] ∧ P f r a ∧ P g r' b ∧ PB 20 500 r a ∧ PB 20 500 r' b ∧ Th β l n t ∧ β ≤ 2500 ∧ l ≤ 60 ∧
  (ShC f g t → Q (.bl true) m) ∧ (¬ ShC f g t → Q (.bl false) m)
theorem vc_checking_shows_common {M : Type} : ∀ ds (m : M) Q Z, s_checking_shows_common ds m Q Z → okU [false, false, false] ds ∧ b_checking_shows_common { nx := fun _ m' => Q .non m', rt := Q, ex := Z } (st0 [false, false, false] ds 9) m := by
  rintro ds m Q Z ⟨f, g, r, r', a, b, t, β, l, n, rfl, hr, hr', pr, pr', ht, hβ, hl, q1, q0⟩
  refine ⟨rfl, ?_⟩
  unfold b_checking_shows_common
  obtain ⟨ty, hty⟩ := ht.ty
  by_cases sq : ∃ us, t = .tup us
  · obtain ⟨us, rfl⟩ := sq
    obtain ⟨n', rfl, lu, hu⟩ : ∃ n', n = n' + 1 ∧ us.length ≤ l ∧ ∀ x ∈ us, Th β l n' x := by
      cases n with
      | zero => exact ht.elim
      | succ n => exact ⟨n, rfl, ht.1, ht.2⟩
    repeat walk_at "k"
    refine ⟨.tup us, 5, ty, rfl, hty, fun h => absurd rfl (h us), fun us' e => ?_⟩
    have e : us = us' := by injection e
    subst e
    by_cases h5 : us.length = 5
    · rw [decide_eq_true (by omega)]
      repeat walk_at "k"
      refine v_kSeqT ?_
      refine lcGo_mapD (h := fun x => D.bl (polB x)) us (fun x hx m1 k l1 hk => ?_) (by omega) ?_
      · repeat walk_at "k"
        refine ⟨x, β, l, n', rfl, hu x hx, by omega, ?_⟩
        exact hk
      repeat walk_at "k"
      rw [show us.map (fun x => D.bl (polB x)) = (us.map polB).map D.bl from by rw [List.map_map]; rfl]
      refine v_all ?_
      cases hall : (us.map polB).all id with
      | false =>
        repeat walk_at "k"
        exact q0 fun h => by
          obtain ⟨us', e, _, h⟩ := h.five
          have e : us = us' := by injection e
          subst e
          rw [List.all_map] at hall
          rw [show us.all (id ∘ polB) = us.all polB from rfl, h] at hall
          cases hall
      | true =>
        obtain ⟨t1, t2, t3, t4, t5, rfl⟩ := five_of h5
        simp only [List.map_cons, List.map_nil, List.all_cons, List.all_nil, id, Bool.and_true, Bool.and_eq_true] at hall
        obtain ⟨g1, g2, g3, g4, g5⟩ := hall
        have b1 := hu t1 (by simp)
        have b2 := hu t2 (by simp)
        have b3 := hu t3 (by simp)
        have b4 := hu t4 (by simp)
        have b5 := hu t5 (by simp)
        obtain ⟨x, X, a1, rfl, p1⟩ := polB_P g1
        obtain ⟨u, U, a2, rfl, p2⟩ := polB_P g2
        obtain ⟨v, V, a3, rfl, p3⟩ := polB_P g3
        obtain ⟨s, S, a4, rfl, p4⟩ := polB_P g4
        obtain ⟨w, T, a5, rfl, p5⟩ := polB_P g5
        have b1 := b1.pb
        have b2 := b2.pb
        have b3 := b3.pb
        have b4 := b4.pb
        have b5 := b5.pb
        have hS := ShC.iff (f := f) (g := g) p1 p2 p3 p4 p5
        repeat walk_at "k"
        refine v_gt5 ?_
        repeat walk_at "k"
        refine v_nepd0 ?_
        by_cases hm : X ≠ [] → X.getD (X.length - 1) 0 = a1
        · by_cases X0 : X = []
          · rw [decide_eq_true ⟨X0, nil_one (X0 ▸ p1)⟩]
            repeat walk_at "k"
            refine ⟨s, x, S, a4, X, a1, l, β, l, β, rfl, p4, p1, b4, b1, by omega, by omega, .inl (by omega), fun s1 y1 hs1 _ => ?_⟩
            repeat walk_at "k"
            refine v_nepd ?_
            by_cases e1 : s * x = f
            · rw [decide_eq_true ((hs1.cong e1).uniq hr)]
              repeat walk_at "k"
              refine ⟨w, x, T, a5, X, a1, l, β, l, β, rfl, p5, p1, b5, b1, by omega, by omega, .inl (by omega), fun s2 y2 hs2 _ => ?_⟩
              repeat walk_at "k"
              refine v_nepd ?_
              by_cases e2 : w * x = g
              · rw [decide_eq_true ((hs2.cong e2).uniq hr')]
                repeat walk_at "k"
                try ((with_reducible show @ite _ _ _ _ _); refine v_ifF ?_)
                repeat walk_at "k"
                refine ⟨u, f, U, a2, r, a, l, β, 20, 500, rfl, p2, hr, b2, pr, by omega, by omega, .inl (by omega), fun s3 y3 hs3 ps3 => ?_⟩
                repeat walk_at "k"
                refine ⟨v, g, V, a3, r', b, l, β, 20, 500, rfl, p3, hr', b3, pr', by omega, by omega, .inl (by omega), fun s4 y4 hs4 ps4 => ?_⟩
                repeat walk_at "k"
                refine ⟨u * f, v * g, s3, y3, s4, y4, _, _, _, _, rfl, hs3, hs4, ps3, ps4, by omega, by omega, by omega, fun s5 y5 hs5 _ => ?_⟩
                repeat walk_at "k"
                refine v_eqpd ?_
                by_cases e3 : u * f + v * g = x
                · rw [decide_eq_true ((hs5.cong e3).uniq p1)]
                  exact q1 (hS.mpr ⟨hm, e1, e2, e3⟩)
                · rw [decide_eq_false fun z => e3 (P.inj (by rw [← z.1, ← z.2]; exact hs5) p1)]
                  exact q0 fun z => e3 (hS.mp z).2.2.2
              · rw [decide_eq_false fun z => e2 (P.inj (by rw [← z.1, ← z.2]; exact hs2) hr')]
                repeat walk_at "k"
                exact q0 fun z => e2 (hS.mp z).2.2.1
            · rw [decide_eq_false fun z => e1 (P.inj (by rw [← z.1, ← z.2]; exact hs1) hr)]
              repeat walk_at "k"
              exact q0 fun z => e1 (hS.mp z).2.1
          · rw [decide_eq_false fun z => X0 z.1]
            repeat walk_at "k"
            refine ⟨X, a1, rfl, X0, ?_⟩
            rw [decide_eq_true (hm X0)]
            repeat walk_at "k"
            refine ⟨s, x, S, a4, X, a1, l, β, l, β, rfl, p4, p1, b4, b1, by omega, by omega, .inl (by omega), fun s1 y1 hs1 _ => ?_⟩
            repeat walk_at "k"
            refine v_nepd ?_
            by_cases e1 : s * x = f
            · rw [decide_eq_true ((hs1.cong e1).uniq hr)]
              repeat walk_at "k"
              refine ⟨w, x, T, a5, X, a1, l, β, l, β, rfl, p5, p1, b5, b1, by omega, by omega, .inl (by omega), fun s2 y2 hs2 _ => ?_⟩
              repeat walk_at "k"
              refine v_nepd ?_
              by_cases e2 : w * x = g
              · rw [decide_eq_true ((hs2.cong e2).uniq hr')]
                repeat walk_at "k"
                try ((with_reducible show @ite _ _ _ _ _); refine v_ifF ?_)
                repeat walk_at "k"
                refine ⟨u, f, U, a2, r, a, l, β, 20, 500, rfl, p2, hr, b2, pr, by omega, by omega, .inl (by omega), fun s3 y3 hs3 ps3 => ?_⟩
                repeat walk_at "k"
                refine ⟨v, g, V, a3, r', b, l, β, 20, 500, rfl, p3, hr', b3, pr', by omega, by omega, .inl (by omega), fun s4 y4 hs4 ps4 => ?_⟩
                repeat walk_at "k"
                refine ⟨u * f, v * g, s3, y3, s4, y4, _, _, _, _, rfl, hs3, hs4, ps3, ps4, by omega, by omega, by omega, fun s5 y5 hs5 _ => ?_⟩
                repeat walk_at "k"
                refine v_eqpd ?_
                by_cases e3 : u * f + v * g = x
                · rw [decide_eq_true ((hs5.cong e3).uniq p1)]
                  exact q1 (hS.mpr ⟨hm, e1, e2, e3⟩)
                · rw [decide_eq_false fun z => e3 (P.inj (by rw [← z.1, ← z.2]; exact hs5) p1)]
                  exact q0 fun z => e3 (hS.mp z).2.2.2
              · rw [decide_eq_false fun z => e2 (P.inj (by rw [← z.1, ← z.2]; exact hs2) hr')]
                repeat walk_at "k"
                exact q0 fun z => e2 (hS.mp z).2.2.1
            · rw [decide_eq_false fun z => e1 (P.inj (by rw [← z.1, ← z.2]; exact hs1) hr)]
              repeat walk_at "k"
              exact q0 fun z => e1 (hS.mp z).2.1
        · have X0 : X ≠ [] := fun z => hm fun y => absurd z y
          rw [decide_eq_false fun z => X0 z.1]
          repeat walk_at "k"
          refine ⟨X, a1, rfl, X0, ?_⟩
          rw [decide_eq_false fun z => hm fun _ => z]
          repeat walk_at "k"
          exact q0 fun z => hm (hS.mp z).1
    · rw [decide_eq_false (by omega)]
      repeat walk_at "k"
      exact q0 fun h => by
        obtain ⟨us', e, h, _⟩ := h.five
        have e : us = us' := by injection e
        subst e
        exact h5 h
  · repeat walk_at "k"
    refine ⟨t, 5, ty, rfl, hty, fun _ => ?_, fun us e => absurd ⟨us, e⟩ sq⟩
    repeat walk_at "k"
    exact q0 fun h => by
      obtain ⟨us', e, _⟩ := h.five
      exact sq ⟨us', e⟩
end RR
namespace RR
open PySem PySem.Spec PyProof.Rows L2
def b__law_shows_common {M : Type} : DS M :=
    (dThen (dIte (dOr (dNot (dVal (dIsi "tuple" (dVar 2)))) (dOr (dTst (dBin gNe (dB gLen (dCons (dVar 2) dNil)) (dC (.int 5)))) (dNot (dVal (dB gAll (dCons (dLc (dSeq false (dVar 2)) (dgN 8) dYes (dCall s__law_is_poly_t [] (dCons (dVar 8) dNil)) [8]) dNil))))))
      (dRet (dC (.bl false)))
      dNext)
    (dThen (dAsg (dVar 2) (dgT 5 (dgCons (dgN 3) (dgCons (dgN 4) (dgCons (dgN 5) (dgCons (dgN 6) (dgCons (dgN 7) dgNil)))))))
    (dThen (dIte (dAnd (dTst (dBin gNe (dBin (gIx false) (dVar 3) (dC (.int 0))) (dTup dNil))) (dTst (dBin gNe (dBin (gIx false) (dBin (gIx false) (dVar 3) (dC (.int 0))) (dNeg (dC (.int 1)))) (dBin (gIx false) (dVar 3) (dC (.int 1))))))
      (dRet (dC (.bl false)))
      dNext)
    (dThen (dIte (dOr (dTst (dBin gNe (dCall s__law_times [] (dCons (dVar 6) (dCons (dVar 3) dNil))) (dVar 0))) (dTst (dBin gNe (dCall s__law_times [] (dCons (dVar 7) (dCons (dVar 3) dNil))) (dVar 1))))
      (dRet (dC (.bl false)))
      dNext)
    (dRet (dBin gEq (dCall s__law_plus [] (dCons (dCall s__law_times [] (dCons (dVar 4) (dCons (dVar 0) dNil))) (dCons (dCall s__law_times [] (dCons (dVar 5) (dCons (dVar 1) dNil))) (dCons (dC (.int 1)) dNil)))) (dVar 3)))))))
def s__law_shows_common {M : Type} : DSp M := fun ds m Q Z => ∃ (f g : Ser Rat) (r r' : List Int) (a b : Int) (t : D) (β l n : Nat), ds = [pd r a, pd r' b, t] ∧ P f r a ∧ P g r' b ∧ PB 20 500 r a ∧ PB 20 500 r' b ∧ Th β l n t ∧ β ≤ 2500 ∧ l ≤ 60 ∧
  (ShC f g t → Q (.bl true) m) ∧ (¬ ShC f g t → Q (.bl false) m)
theorem vc__law_shows_common {M : Type} : ∀ ds (m : M) Q Z, s__law_shows_common ds m Q Z → okU [false, false, false] ds ∧ b__law_shows_common { nx := fun _ m' => Q .non m', rt := Q, ex := Z } (st0 [false, false, false] ds 9) m := by
  rintro ds m Q Z ⟨f, g, r, r', a, b, t, β, l, n, rfl, hr, hr', pr, pr', ht, hβ, hl, q1, q0⟩
  refine ⟨rfl, ?_⟩
  unfold b__law_shows_common
  obtain ⟨ty, hty⟩ := ht.ty
  by_cases sq : ∃ us, t = .tup us
  · obtain ⟨us, rfl⟩ := sq
    obtain ⟨n', rfl, lu, hu⟩ : ∃ n', n = n' + 1 ∧ us.length ≤ l ∧ ∀ x ∈ us, Th β l n' x := by
      cases n with
      | zero => exact ht.elim
      | succ n => exact ⟨n, rfl, ht.1, ht.2⟩
    repeat walk_at "k"
    try ((with_reducible show @ite _ _ _ _ _); refine v_ifF ?_)
    repeat walk_at "k"
    by_cases h5 : us.length = 5
    · rw [show (!decide ((us.length : Int) = 5)) = false from by rw [decide_eq_true (by omega)]; rfl]
      refine v_ifF ?_
      repeat walk_at "k"
      refine v_kSeqT ?_
      refine lcGo_mapD (h := fun x => D.bl (polB x)) us (fun x hx m1 k l1 hk => ?_) (by omega) ?_
      · repeat walk_at "k"
        refine ⟨x, β, l, n', rfl, hu x hx, by omega, ?_⟩
        exact hk
      repeat walk_at "k"
      rw [show us.map (fun x => D.bl (polB x)) = (us.map polB).map D.bl from by rw [List.map_map]; rfl]
      refine v_all ?_
      cases hall : (us.map polB).all id with
      | false =>
        repeat walk_at "k"
        exact q0 fun h => by
          obtain ⟨us', e, _, h⟩ := h.five
          have e : us = us' := by injection e
          subst e
          rw [List.all_map] at hall
          rw [show us.all (id ∘ polB) = us.all polB from rfl, h] at hall
          cases hall
      | true =>
        obtain ⟨t1, t2, t3, t4, t5, rfl⟩ := five_of h5
        simp only [List.map_cons, List.map_nil, List.all_cons, List.all_nil, id, Bool.and_true, Bool.and_eq_true] at hall
        obtain ⟨g1, g2, g3, g4, g5⟩ := hall
        have b1 := hu t1 (by simp)
        have b2 := hu t2 (by simp)
        have b3 := hu t3 (by simp)
        have b4 := hu t4 (by simp)
        have b5 := hu t5 (by simp)
        obtain ⟨x, X, a1, rfl, p1⟩ := polB_P g1
        obtain ⟨u, U, a2, rfl, p2⟩ := polB_P g2
        obtain ⟨v, V, a3, rfl, p3⟩ := polB_P g3
        obtain ⟨s, S, a4, rfl, p4⟩ := polB_P g4
        obtain ⟨w, T, a5, rfl, p5⟩ := polB_P g5
        have b1 := b1.pb
        have b2 := b2.pb
        have b3 := b3.pb
        have b4 := b4.pb
        have b5 := b5.pb
        have hS := ShC.iff (f := f) (g := g) p1 p2 p3 p4 p5
        repeat walk_at "k"
        refine v_gt5 ?_
        repeat walk_at "k"
        by_cases hm : X ≠ [] → X.getD (X.length - 1) 0 = a1
        · by_cases X0 : X = []
          · rw [decide_eq_true X0]
            repeat walk_at "k"
            refine ⟨s, x, S, a4, X, a1, l, β, l, β, rfl, p4, p1, b4, b1, by omega, by omega, .inl (by omega), fun s1 y1 hs1 _ => ?_⟩
            repeat walk_at "k"
            refine v_nepd ?_
            by_cases e1 : s * x = f
            · rw [decide_eq_true ((hs1.cong e1).uniq hr)]
              repeat walk_at "k"
              refine ⟨w, x, T, a5, X, a1, l, β, l, β, rfl, p5, p1, b5, b1, by omega, by omega, .inl (by omega), fun s2 y2 hs2 _ => ?_⟩
              repeat walk_at "k"
              refine v_nepd ?_
              by_cases e2 : w * x = g
              · rw [decide_eq_true ((hs2.cong e2).uniq hr')]
                repeat walk_at "k"
                try ((with_reducible show @ite _ _ _ _ _); refine v_ifF ?_)
                repeat walk_at "k"
                refine ⟨u, f, U, a2, r, a, l, β, 20, 500, rfl, p2, hr, b2, pr, by omega, by omega, .inl (by omega), fun s3 y3 hs3 ps3 => ?_⟩
                repeat walk_at "k"
                refine ⟨v, g, V, a3, r', b, l, β, 20, 500, rfl, p3, hr', b3, pr', by omega, by omega, .inl (by omega), fun s4 y4 hs4 ps4 => ?_⟩
                repeat walk_at "k"
                refine ⟨u * f, v * g, s3, y3, s4, y4, 1, _, _, _, _, 1, rfl, hs3, hs4, ps3, ps4, by omega, by omega, by unfold bd; decide, by decide, .inl (by omega), fun s5 y5 hs5' _ => ?_⟩
                have hs5 := hs5'.cong (show u * f + Ser.C (((1 : Int)) : Rat) * (v * g) = u * f + v * g by rw [show ((1 : Int) : Rat) = 1 from rfl, C_one]; grind)
                repeat walk_at "k"
                refine v_eqpd ?_
                by_cases e3 : u * f + v * g = x
                · rw [decide_eq_true ((hs5.cong e3).uniq p1)]
                  exact q1 (hS.mpr ⟨hm, e1, e2, e3⟩)
                · rw [decide_eq_false fun z => e3 (P.inj (by rw [← z.1, ← z.2]; exact hs5) p1)]
                  exact q0 fun z => e3 (hS.mp z).2.2.2
              · rw [decide_eq_false fun z => e2 (P.inj (by rw [← z.1, ← z.2]; exact hs2) hr')]
                repeat walk_at "k"
                exact q0 fun z => e2 (hS.mp z).2.2.1
            · rw [decide_eq_false fun z => e1 (P.inj (by rw [← z.1, ← z.2]; exact hs1) hr)]
              repeat walk_at "k"
              exact q0 fun z => e1 (hS.mp z).2.1
          · rw [decide_eq_false X0]
            repeat walk_at "k"
            refine v_ixm X0 ?_
            repeat walk_at "k"
            rw [decide_eq_true (hm X0)]
            repeat walk_at "k"
            refine ⟨s, x, S, a4, X, a1, l, β, l, β, rfl, p4, p1, b4, b1, by omega, by omega, .inl (by omega), fun s1 y1 hs1 _ => ?_⟩
            repeat walk_at "k"
            refine v_nepd ?_
            by_cases e1 : s * x = f
            · rw [decide_eq_true ((hs1.cong e1).uniq hr)]
              repeat walk_at "k"
              refine ⟨w, x, T, a5, X, a1, l, β, l, β, rfl, p5, p1, b5, b1, by omega, by omega, .inl (by omega), fun s2 y2 hs2 _ => ?_⟩
              repeat walk_at "k"
              refine v_nepd ?_
              by_cases e2 : w * x = g
              · rw [decide_eq_true ((hs2.cong e2).uniq hr')]
                repeat walk_at "k"
                try ((with_reducible show @ite _ _ _ _ _); refine v_ifF ?_)
                repeat walk_at "k"
                refine ⟨u, f, U, a2, r, a, l, β, 20, 500, rfl, p2, hr, b2, pr, by omega, by omega, .inl (by omega), fun s3 y3 hs3 ps3 => ?_⟩
                repeat walk_at "k"
                refine ⟨v, g, V, a3, r', b, l, β, 20, 500, rfl, p3, hr', b3, pr', by omega, by omega, .inl (by omega), fun s4 y4 hs4 ps4 => ?_⟩
                repeat walk_at "k"
                refine ⟨u * f, v * g, s3, y3, s4, y4, 1, _, _, _, _, 1, rfl, hs3, hs4, ps3, ps4, by omega, by omega, by unfold bd; decide, by decide, .inl (by omega), fun s5 y5 hs5' _ => ?_⟩
                have hs5 := hs5'.cong (show u * f + Ser.C (((1 : Int)) : Rat) * (v * g) = u * f + v * g by rw [show ((1 : Int) : Rat) = 1 from rfl, C_one]; grind)
                repeat walk_at "k"
                refine v_eqpd ?_
                by_cases e3 : u * f + v * g = x
                · rw [decide_eq_true ((hs5.cong e3).uniq p1)]
                  exact q1 (hS.mpr ⟨hm, e1, e2, e3⟩)
                · rw [decide_eq_false fun z => e3 (P.inj (by rw [← z.1, ← z.2]; exact hs5) p1)]
                  exact q0 fun z => e3 (hS.mp z).2.2.2
              · rw [decide_eq_false fun z => e2 (P.inj (by rw [← z.1, ← z.2]; exact hs2) hr')]
                repeat walk_at "k"
                exact q0 fun z => e2 (hS.mp z).2.2.1
            · rw [decide_eq_false fun z => e1 (P.inj (by rw [← z.1, ← z.2]; exact hs1) hr)]
              repeat walk_at "k"
              exact q0 fun z => e1 (hS.mp z).2.1
        · have X0 : X ≠ [] := fun z => hm fun y => absurd z y
          rw [decide_eq_false X0]
          repeat walk_at "k"
          refine v_ixm X0 ?_
          repeat walk_at "k"
          rw [decide_eq_false fun z => hm fun _ => z]
          repeat walk_at "k"
          exact q0 fun z => hm (hS.mp z).1
    · rw [show (!decide ((us.length : Int) = 5)) = true from by rw [decide_eq_false (by omega)]; rfl]
      repeat walk_at "k"
      exact q0 fun h => by
        obtain ⟨us', e, h, _⟩ := h.five
        have e : us = us' := by injection e
        subst e
        exact h5 h
  · repeat walk_at "k"
    refine v_kI (b := false) hty ?_ ?_
    · cases t with
      | tup us => exact absurd ⟨us, rfl⟩ sq
      | _ => first | (cases hty; done) | (cases hty; rfl)
    repeat walk_at "k"
    exact q0 fun h => by
      obtain ⟨us', e, _⟩ := h.five
      exact sq ⟨us', e⟩
end RR
namespace RR
open PySem PySem.Spec PyProof.Rows L2
def b__law_scaled {M : Type} : DS M :=
    (dThen (dSet 2 (dLc (dSeq false (dSl (dVar 0) dONone (dOSome (dC (.int 3))))) (dgN 3) dYes (dCall s__law_times [] (dCons (dVar 3) (dCons (dTup (dCons (dTup (dCons (dVar 1) dNil)) (dCons (dC (.int 1)) dNil))) dNil))) [3]))
    (dRet (dB (gSeq .tup) (dCons (dBin gAdd (dVar 2) (dLc (dSeq false (dSl (dVar 0) (dOSome (dC (.int 3))) dONone)) (dgN 3) dYes (dCall s__law_times [] (dCons (dVar 3) (dCons (dCall s__law_poly [] (dCons (dTup (dCons (dC (.int 1)) dNil)) (dCons (dVar 1) dNil))) dNil))) [3])) dNil))))
def s__law_scaled {M : Type} : DSp M := fun ds m Q Z => ∃ (x u v s w : Ser Rat) (X U V S T : List Int) (a b c d e k : Int), ds = [.tup [pd X a, pd U b, pd V c, pd S d, pd T e], .int k] ∧ P x X a ∧ P u U b ∧ P v V c ∧ P s S d ∧ P w T e ∧
  PB 20 1900 X a ∧ PB 20 1900 U b ∧ PB 20 1900 V c ∧ PB 20 1900 S d ∧ PB 20 1900 T e ∧ (k = 2 ∨ k = -3) ∧
  ∀ (X U V S T : List Int) (a b c d e : Int), PB 30 2000 X a → PB 30 2000 U b → PB 30 2000 V c → PB 30 2000 S d → PB 30 2000 T e → Q (.tup [pd X a, pd U b, pd V c, pd S d, pd T e]) m
theorem nl_tup5 {X U V S T : List Int} {a b c d e : Int} : (D.tup [pd X a, pd U b, pd V c, pd S d, pd T e]).nl = true := nls_all.mpr fun x hx => by
  simp only [List.mem_cons, List.not_mem_nil, or_false] at hx
  rcases hx with rfl | rfl | rfl | rfl | rfl <;> exact nl_pd
theorem vc__law_scaled {M : Type} : ∀ ds (m : M) Q Z, s__law_scaled ds m Q Z → okK [false, false] ds ∧ b__law_scaled { nx := fun _ m' => Q .non m', rt := Q, ex := Z } (st0 [false, false] ds 4) m := by
  rintro ds m Q Z ⟨x, u, v, s, w, X, U, V, S, T, a, b, c, d, e, k, rfl, p1, p2, p3, p4, p5, z1, z2, z3, z4, z5, hk, q⟩
  refine ⟨⟨fun _ => nl_tup5, fun _ => rfl, trivial⟩, ?_⟩
  unfold b__law_scaled
  repeat walk_at "k"
  refine v_kSlT (nl_tup5 (X := X) (a := a) (U := U) (b := b) (V := V) (c := c) (S := S) (d := d) (T := T) (e := e)) ?_
  rw [show cutD [pd X a, pd U b, pd V c, pd S d, pd T e] none (some 3) = [pd X a, pd U b, pd V c] from rfl]
  obtain ⟨κ, r0, d0, e0, pk⟩ := polB_P (t := pd [k] 1) (by rw [polB_pd]; rcases hk with rfl | rfl <;> decide)
  obtain ⟨rfl, rfl⟩ := pd_inj e0.symm
  have zk : PB 1 10 [k] 1 := by rcases hk with rfl | rfl <;> exact PB.dec (by decide)
  have k0 : k ≠ 0 := by omega
  have pl := low_P k0 (show done [1] from rfl) (ser_of (xs := [1]) k0)
  have zl : PB 1 10 (lowR [1] k) (lowD [1] k) := ⟨by rw [lowR_len]; simp, lowR_bd k0 (by intro x hx; rw [List.mem_singleton.mp hx]; exact bd_lit (by decide)), lowD_bd k0 (by unfold bd; omega)⟩
  repeat walk_at "k"
  refine v_kSeqT ?_
  refine lc_cons ?_
  repeat walk_at "k"
  refine ⟨x, κ, X, a, [k], 1, 20, 1900, 1, 10, rfl, p1, pk, z1, zk, by decide, by decide, .inl (by decide), fun X1 a1 _ y1 => ?_⟩
  refine ⟨by unfold sizeLine; simp, ?_⟩
  refine lc_cons ?_
  repeat walk_at "k"
  refine ⟨u, κ, U, b, [k], 1, 20, 1900, 1, 10, rfl, p2, pk, z2, zk, by decide, by decide, .inl (by decide), fun X2 a2 _ y2 => ?_⟩
  refine ⟨by unfold sizeLine; simp, ?_⟩
  refine lc_cons ?_
  repeat walk_at "k"
  refine ⟨v, κ, V, c, [k], 1, 20, 1900, 1, 10, rfl, p3, pk, z3, zk, by decide, by decide, .inl (by decide), fun X3 a3 _ y3 => ?_⟩
  refine ⟨by unfold sizeLine; simp, ?_⟩
  refine lc_end ?_
  repeat walk_at "k"
  refine v_kSlT (nl_tup5 (X := X) (a := a) (U := U) (b := b) (V := V) (c := c) (S := S) (d := d) (T := T) (e := e)) ?_
  rw [show cutD [pd X a, pd U b, pd V c, pd S d, pd T e] (some 3) none = [pd S d, pd T e] from rfl]
  repeat walk_at "k"
  refine v_kSeqT ?_
  refine lc_cons ?_
  repeat walk_at "k"
  refine ⟨[1], k, rfl, by decide, k0, .inl (bd_mono (by unfold bd; omega : bd 10 k) (by decide)), ?_⟩
  repeat walk_at "k"
  refine ⟨s, _, S, d, _, _, 20, 1900, 1, 10, rfl, p4, pl, z4, zl, by decide, by decide, .inl (by decide), fun X4 a4 _ y4 => ?_⟩
  refine ⟨by unfold sizeLine; simp, ?_⟩
  refine lc_cons ?_
  repeat walk_at "k"
  refine ⟨[1], k, rfl, by decide, k0, .inl (bd_mono (by unfold bd; omega : bd 10 k) (by decide)), ?_⟩
  repeat walk_at "k"
  refine ⟨w, _, T, e, _, _, 20, 1900, 1, 10, rfl, p5, pl, z5, zl, by decide, by decide, .inl (by decide), fun X5 a5 _ y5 => ?_⟩
  refine ⟨by unfold sizeLine; simp, ?_⟩
  refine lc_end ?_
  repeat walk_at "k"
  have n3 : D.nls ([] ++ [pd X1 a1] ++ [pd X2 a2] ++ [pd X3 a3]) = true := nls_all.mpr fun x hx => by
    simp only [List.nil_append, List.cons_append, List.mem_cons, List.not_mem_nil, or_false] at hx
    rcases hx with rfl | rfl | rfl <;> exact nl_pd
  have n2 : D.nls ([] ++ [pd X4 a4] ++ [pd X5 a5]) = true := nls_all.mpr fun x hx => by
    simp only [List.nil_append, List.cons_append, List.mem_cons, List.not_mem_nil, or_false] at hx
    rcases hx with rfl | rfl <;> exact nl_pd
  refine v_addl (by simp) n3 n2 ?_
  repeat walk_at "k"
  refine v_seql (nl_tup5 (X := X1) (a := a1) (U := X2) (b := a2) (V := X3) (c := a3) (S := X4) (d := a4) (T := X5) (e := a5)) ?_
  exact q X1 X2 X3 X4 X5 a1 a2 a3 a4 a5 (y1.mono (by decide) (by decide)) (y2.mono (by decide) (by decide)) (y3.mono (by decide) (by decide)) (y4.mono (by decide) (by decide)) (y5.mono (by decide) (by decide))
end RR
namespace RR
open PySem PySem.Spec PyProof.Rows L2
def Bnd (c : Nat) : (Nat → Nat) → D → Prop
  | s, .tup xs => (D.tup xs).wz c ≤ s 0 ∧ ∀ x ∈ xs, Bnd c (fun i => s (i + 1)) x
  | s, .lst xs => (D.lst xs).wz c ≤ s 0 ∧ ∀ x ∈ xs, Bnd c (fun i => s (i + 1)) x
  | s, t => t.wz c ≤ s 0
def Fall (s : Nat → Nat) : Prop := ∀ i, s (i + 1) ≤ s i
def bent1 (c : Nat) (s : Nat → Nat) : Nat → Nat := fun i => s i + s (i + 1) + c + 10
theorem Fall.bent {c : Nat} {s : Nat → Nat} (h : Fall s) : Fall (bent1 c s) := fun i => by
  have h1 := h i
  have h2 := h (i + 1)
  unfold bent1; omega
theorem Fall.next {s : Nat → Nat} (h : Fall s) : Fall (fun i => s (i + 1)) := fun i => h (i + 1)
theorem Bnd.wz {c : Nat} {s : Nat → Nat} {t : D} (h : Bnd c s t) : t.wz c ≤ s 0 := by
  cases t with
  | tup xs => unfold Bnd at h; exact h.1
  | lst xs => unfold Bnd at h; exact h.1
  | _ => unfold Bnd at h; exact h
theorem Bnd.mono {c : Nat} : ∀ {t : D} {s s' : Nat → Nat}, (∀ i, s i ≤ s' i) → Bnd c s t → Bnd c s' t
  | .tup xs, s, s', h, b => by
    unfold Bnd at b ⊢
    exact ⟨Nat.le_trans b.1 (h 0), fun x hx => Bnd.mono (fun i => h (i + 1)) (b.2 x hx)⟩
  | .lst xs, s, s', h, b => by
    unfold Bnd at b ⊢
    exact ⟨Nat.le_trans b.1 (h 0), fun x hx => Bnd.mono (fun i => h (i + 1)) (b.2 x hx)⟩
  | .non, _, _, h, b => by unfold Bnd at b ⊢; exact Nat.le_trans b (h 0)
  | .bl _, _, _, h, b => by unfold Bnd at b ⊢; exact Nat.le_trans b (h 0)
  | .int _, _, _, h, b => by unfold Bnd at b ⊢; exact Nat.le_trans b (h 0)
  | .str _, _, _, h, b => by unfold Bnd at b ⊢; exact Nat.le_trans b (h 0)
  | .hnd _, _, _, h, b => by unfold Bnd at b ⊢; exact Nat.le_trans b (h 0)
  | .dic, _, _, h, b => by unfold Bnd at b ⊢; exact Nat.le_trans b (h 0)
  | .exc _, _, _, h, b => by unfold Bnd at b ⊢; exact Nat.le_trans b (h 0)
  | .fn _, _, _, h, b => by unfold Bnd at b ⊢; exact Nat.le_trans b (h 0)
  | .ptr _, _, _, h, b => by unfold Bnd at b ⊢; exact Nat.le_trans b (h 0)
  | .dc1 _ _, _, _, h, b => by unfold Bnd at b ⊢; exact Nat.le_trans b (h 0)
theorem Bnd.bent {c : Nat} {s : Nat → Nat} {t : D} (h : Bnd c s t) : Bnd c (bent1 c s) t := h.mono fun i => by unfold bent1; omega
end RR
namespace RR
open PySem PySem.Spec PyProof.Rows L2
theorem v_dc1 {M : Type} {k : Str} {i : Nat} {ρ : En} {m : M} {Q : D → M → Prop} {Z : Str → M → Prop} {d : D} (e : ρ[i]? = some (.val d)) (h : Q (.dc1 k d) m) : dDc1 k i ρ m Q Z := by
  unfold dDc1; rw [e]; exact h
theorem lc_drawnA {g : DG} {tt : DTT (Option Nat)} {t : DT (Option Nat)} {ρ : En} {QL : List D → Option Nat → Prop} {P : D → Prop} (c : Nat)
    (st : ∀ d N' (k : D → Option Nat → Prop) (l : Option Nat → Prop), c ≤ N' → (∀ y N'', P y → N' ≤ N'' + c → k y (some N'')) → g d ρ fun ρ2 => tt ρ2 (some N') (fun b m1 => if b = true then t ρ2 m1 k (fun _ _ => False) else l m1) (fun _ _ => False)) :
    ∀ (rs acc : List D) (N : Nat), rs.length * c ≤ N → acc.length + rs.length ≤ 16777216 → (∀ x ∈ acc, P x) → (∀ xs N', xs.length = acc.length + rs.length → (∀ x ∈ xs, P x) → N ≤ N' + rs.length * c → QL xs (some N')) → lcGo g tt t ρ rs acc (some N) QL
  | [], acc, N, _, _, ha, q => lc_endK (q acc N (by simp) ha (by simp))
  | r :: rs, acc, N, hN, hl, ha, q => by
    rw [List.length_cons, Nat.succ_mul] at hN
    rw [List.length_cons] at hl
    refine lc_consK (st r N _ _ (by omega) fun y N'' hy hn => ⟨small_line (by omega), ?_⟩)
    refine lc_drawnA c st rs (acc ++ [y]) N'' (by omega) (by rw [List.length_append, List.length_singleton]; omega) (fun x hx => ?_) fun xs N' hx px h => ?_
    · rcases List.mem_append.mp hx with hx | hx
      · exact ha x hx
      · rw [List.mem_singleton.mp hx]; exact hy
    · rw [List.length_append, List.length_singleton] at hx
      refine q xs N' (by rw [List.length_cons]; omega) px ?_
      rw [List.length_cons, Nat.succ_mul]; omega
def b__law_odd_t (srec : DSp (Option Nat)) : DS (Option Nat) :=
    (dThen (dSet 2 (dCall s__law_draw [] (dCons (dVar 0) (dCons (dC (.int 12)) dNil))))
    (dThen (dIte (dAnd (dTst (dBin gGt (dVar 1) (dC (.int 0)))) (dTst (dBin gLt (dVar 2) (dC (.int 5)))))
      (dThen (dSet 3 (dLc (dRng1 (dCons (dCall s__law_draw [] (dCons (dVar 0) (dCons (dC (.int 6)) dNil))) dNil)) (dgN 6) dYes (dCall srec [] (dCons (dVar 0) (dCons (dBin (g0 fun i j => .int (i - j)) (dVar 1) (dC (.int 1))) dNil))) [6]))
    (dRet (dBin (gIx false) (dLst (dCons (dVar 3) (dCons (dTupB (dVar 3)) (dCons (dTupB (dVar 3)) (dCons (dDc1 "a" 3) (dCons (dTup (dCons (dTupB (dVar 3)) (dCons (dC (.int 1)) dNil))) dNil)))))) (dVar 2))))
      dNext)
    (dThen (dSet 4 (dBin (gII CPow fun i j => .int (i ^ j.toNat)) (dC (.int 10)) (dC (.int 60))))
    (dThen (dSet 5 (dLst (dCons (dC .non) (dCons (dC (.bl true)) (dCons (dC (.bl false)) (dCons (dC (.str "line")) (dCons (dC (.str "prime")) (dCons (dC (.str "parts")) (dCons (dTup dNil) (dCons (dLst dNil) (dCons (dC .dic) (dCons (dC (.int 0)) (dCons (dCall s__law_small [] (dCons (dVar 0) (dCons (dBin (gII CPow fun i j => .int (i ^ j.toNat)) (dC (.int 10)) (dC (.int 9))) dNil))) (dCons (dBin gMul (dBin gMul (dVar 4) (dVar 4)) (dVar 4)) dNil))))))))))))))
    (dRet (dBin (gIx false) (dVar 5) (dCall s__law_draw [] (dCons (dVar 0) (dCons (dC (.int 12)) dNil)))))))))
theorem wzs_le2 {c w : Nat} : ∀ {xs : List D}, (∀ x ∈ xs, x.wz c ≤ w) → D.wzs c xs ≤ xs.length * (w + 2)
  | [], _ => by rw [wzs_nil]; exact Nat.zero_le _
  | x :: xs, h => by
    have h1 := h x List.mem_cons_self
    have h2 := wzs_le2 (xs := xs) fun y hy => h y (List.mem_cons_of_mem _ hy)
    rw [wzs_cons, List.length_cons, Nat.succ_mul]; omega
def oddN : Nat → Nat
  | 0 => 3
  | d + 1 => 5 + 5 * oddN d
def oddW (c : Nat) : Nat → Nat
  | 0 => c + 2
  | d + 1 => 5 * (oddW c d + 2) + c + 12
theorem oddW_c {c : Nat} : ∀ d, c + 2 ≤ oddW c d
  | 0 => Nat.le_refl _
  | d + 1 => by show c + 2 ≤ 5 * (oddW c d + 2) + c + 12; omega
theorem oddN_3 : ∀ d, 3 ≤ oddN d
  | 0 => Nat.le_refl _
  | d + 1 => by show 3 ≤ 5 + 5 * oddN d; omega
def oddS (c : Nat) : Nat → Nat → Nat
  | 0, 0 => c + 2
  | 0, _ + 1 => 0
  | d + 1, 0 => oddW c (d + 1)
  | d + 1, 1 => 2 + 5 * (oddW c d + 2)
  | d + 1, i + 2 => oddS c d i
theorem oddS_0 {c : Nat} : ∀ d, oddS c d 0 = oddW c d
  | 0 => rfl
  | _ + 1 => rfl
theorem oddS_fall {c : Nat} : ∀ d, Fall (oddS c d)
  | 0, 0 => Nat.zero_le _
  | 0, _ + 1 => Nat.zero_le _
  | d + 1, 0 => by
    show 2 + 5 * (oddW c d + 2) ≤ 5 * (oddW c d + 2) + c + 12
    omega
  | d + 1, 1 => by
    show oddS c d 0 ≤ 2 + 5 * (oddW c d + 2)
    rw [oddS_0]; omega
  | d + 1, i + 2 => oddS_fall d i
def s__law_odd_t (z : Nat) : DSp (Option Nat) := fun ds m Q _ => ∃ (N deep : Nat), ds = [.hnd hdl, .int (deep : Int)] ∧ m = some N ∧ deep ≤ z ∧ deep ≤ 10 ∧ oddN deep ≤ N ∧
  ∀ (t : D) (N' : Nat), Th 600 6 (3 * deep + 1) t → (∀ c, Bnd c (oddS c deep) t) → N ≤ N' + oddN deep → Q t (some N')
def srecOdd : Nat → DSp (Option Nat)
  | 0 => fun _ _ _ _ => False
  | z + 1 => s__law_odd_t z
theorem vc__law_odd_t : ∀ (z : Nat) ds (m : Option Nat) Q Z, s__law_odd_t z ds m Q Z → okU [false, false] ds ∧ b__law_odd_t (srecOdd z) { nx := fun _ m' => Q .non m', rt := Q, ex := Z } (st0 [false, false] ds 7) m := by
  rintro z ds m Q Z ⟨N, deep, rfl, rfl, hz, hd, hN, k⟩
  refine ⟨rfl, ?_⟩
  unfold b__law_odd_t
  have n3 := oddN_3 deep
  repeat walk_at "k"
  refine v_drawN (by omega) (by decide) (by decide) fun w w0 w1 => ?_
  have bp : bd 200 ((10 : Int) ^ Int.toNat 60) := by unfold bd; decide
  have bq : bd 400 ((10 : Int) ^ Int.toNat 60 * 10 ^ Int.toNat 60) := by unfold bd; decide
  have br : bd 600 ((10 : Int) ^ Int.toNat 60 * 10 ^ Int.toNat 60 * 10 ^ Int.toNat 60) := by unfold bd; decide
  have leaf : ∀ (x : Int) (d : D) (N' : Nat), -(10 ^ Int.toNat 9) ≤ x → x ≤ 10 ^ Int.toNat 9 → d ∈ [D.non, .bl true, .bl false, .str "line", .str "prime", .str "parts", .tup [], .lst [], .dic, .int 0, .int x, .int (10 ^ Int.toNat 60 * 10 ^ Int.toNat 60 * 10 ^ Int.toNat 60)] → N ≤ N' + 3 → Q d (some N') := fun x d N' x0 x1 hd hN' => by
    have bx : bd 600 x := bd_mono (a := 31) (by unfold bd; have : (10 : Int) ^ Int.toNat 9 = 1000000000 := rfl; omega) (by decide)
    have hw : ∀ c, d.wz c ≤ c + 2 := fun c => by
      simp only [List.mem_cons, List.not_mem_nil, or_false] at hd
      rcases hd with rfl | rfl | rfl | rfl | rfl | rfl | rfl | rfl | rfl | rfl | rfl | rfl <;> simp only [D.wz, D.wzs] <;> omega
    have hb : ∀ c, Bnd c (oddS c deep) d := fun c => by
      have h1 := Nat.le_trans (hw c) (oddW_c (c := c) deep)
      rw [← oddS_0] at h1
      simp only [List.mem_cons, List.not_mem_nil, or_false] at hd
      rcases hd with rfl | rfl | rfl | rfl | rfl | rfl | rfl | rfl | rfl | rfl | rfl | rfl <;> unfold Bnd <;> first | exact h1 | exact ⟨h1, fun x hx => absurd hx List.not_mem_nil⟩
    refine k d N' ?_ hb (by omega)
    simp only [List.mem_cons, List.not_mem_nil, or_false] at hd
    rcases hd with rfl | rfl | rfl | rfl | rfl | rfl | rfl | rfl | rfl | rfl | rfl | rfl
    · trivial
    · trivial
    · trivial
    · exact (by decide +kernel : (PyData.str "line").shown.length ≤ 12)
    · exact (by decide +kernel : (PyData.str "prime").shown.length ≤ 12)
    · exact (by decide +kernel : (PyData.str "parts").shown.length ≤ 12)
    · exact ⟨Nat.zero_le _, fun x h => absurd h List.not_mem_nil⟩
    · exact ⟨Nat.zero_le _, fun x h => absurd h List.not_mem_nil⟩
    · trivial
    · exact Th.i (bd_mono (a := 1) (by unfold bd; decide) (by decide))
    · exact Th.i bx
    · exact Th.i br
  refine v_ifd (fun h0 => ?_) fun h0 => ?_
  · repeat walk_at "k"
    refine v_ifd (fun h1 => ?_) fun h1 => ?_
    · obtain ⟨e, rfl⟩ : ∃ e, deep = e + 1 := ⟨deep - 1, by omega⟩
      obtain ⟨z', rfl⟩ : ∃ z', z = z' + 1 := ⟨z - 1, by omega⟩
      have hN2 : 5 + 5 * oddN e ≤ N := hN
      repeat walk_at "k"
      refine v_drawN (by omega) (by decide) (by decide) fun j j0 j1 => ?_
      repeat walk_at "k"
      refine v_kR1 (by omega) (by omega) ?_
      have jl : j.toNat * oddN e ≤ 5 * oddN e := Nat.mul_le_mul_right _ (by omega)
      refine lc_drawnA (P := fun t => Th 600 6 (3 * e + 1) t ∧ ∀ c, Bnd c (oddS c e) t) (oddN e) (fun d N' k' l' hc hk => ?_) _ _ _ (by rw [iota_len]; omega) (by rw [iota_len]; simp; omega) (fun x h => absurd h List.not_mem_nil) fun xs N' lx px hN' => ?_
      · repeat walk_at "k"
        refine ⟨N', e, ?_, rfl, by omega, by omega, hc, fun t N'' h1 h2 h3 => hk t N'' ⟨h1, h2⟩ h3⟩
        rw [show (((e + 1 : Nat) : Int) - 1) = e from by omega]
      rw [iota_len] at lx hN'
      have lx5 : xs.length ≤ 5 := by simp at lx; omega
      have wx : ∀ c, D.wzs c xs ≤ 5 * (oddW c e + 2) := fun c => Nat.le_trans (wzs_le2 fun x hx => by have := ((px x hx).2 c).wz; rw [oddS_0] at this; exact this) (Nat.mul_le_mul_right _ lx5)
      repeat walk_at "k"
      refine v_dc1 rfl ?_
      repeat walk_at "k"
      refine v_ixmem w0 (by simpa using h1) fun d hd => ?_
      have tx : ∀ n, 3 * e + 1 ≤ n → ∀ x ∈ xs, Th 600 6 n x := fun n hn x hx => Th.mono (Nat.le_refl _) (Nat.le_refl _) hn (px x hx).1
      have hw : ∀ c, d.wz c ≤ oddW c (e + 1) := fun c => by
        have h := wx c
        show _ ≤ 5 * (oddW c e + 2) + c + 12
        simp only [List.mem_cons, List.not_mem_nil, or_false] at hd
        rcases hd with rfl | rfl | rfl | rfl | rfl <;> simp only [D.wz, D.wzs] <;> omega
      have it : ∀ c, ∀ x ∈ xs, Bnd c (fun i => oddS c (e + 1) (i + 1)) x := fun c x hx => ((px x hx).2 c).mono fun i => by
        match i with
        | 0 =>
          show oddS c e 0 ≤ 2 + 5 * (oddW c e + 2)
          rw [oddS_0]; omega
        | i + 1 => exact oddS_fall e i
      have hb : ∀ c, Bnd c (oddS c (e + 1)) d := fun c => by
        have h1 := hw c
        have h2 := wx c
        rw [← oddS_0] at h1
        simp only [List.mem_cons, List.not_mem_nil, or_false] at hd
        rcases hd with rfl | rfl | rfl | rfl | rfl
        · unfold Bnd; exact ⟨h1, it c⟩
        · unfold Bnd; exact ⟨h1, it c⟩
        · unfold Bnd; exact ⟨h1, it c⟩
        · unfold Bnd; exact h1
        · unfold Bnd
          refine ⟨h1, fun x hx => ?_⟩
          simp only [List.mem_cons, List.not_mem_nil, or_false] at hx
          rcases hx with rfl | rfl
          · unfold Bnd
            refine ⟨?_, fun y hy => (px y hy).2 c⟩
            rw [wz_tup]
            show _ ≤ 2 + 5 * (oddW c e + 2)
            omega
          · unfold Bnd
            rw [wz_int]
            show c ≤ 2 + 5 * (oddW c e + 2)
            have := oddW_c (c := c) e
            omega
      refine k d N' ?_ hb (by show N ≤ N' + (5 + 5 * oddN e); omega)
      rw [show 3 * (e + 1) + 1 = (3 * e + 1) + 3 from by omega]
      simp only [List.mem_cons, List.not_mem_nil, or_false] at hd
      rcases hd with rfl | rfl | rfl | rfl | rfl
      · exact ⟨by omega, tx _ (by omega)⟩
      · exact ⟨by omega, tx _ (by omega)⟩
      · exact ⟨by omega, tx _ (by omega)⟩
      · exact ⟨by decide +kernel, by omega, tx _ (by omega)⟩
      · exact ⟨by simp, fun x hx => by
          simp only [List.mem_cons, List.not_mem_nil, or_false] at hx
          rcases hx with rfl | rfl
          · exact ⟨by omega, tx _ (by omega)⟩
          · exact Th.i (bd_mono (a := 1) (by unfold bd; decide) (by decide))⟩
    · repeat walk_at "k"
      refine ⟨N - 1, _, rfl, rfl, by omega, by decide, by decide, fun x x0 x1 => ?_⟩
      repeat walk_at "k"
      refine v_drawN (by omega) (by decide) (by decide) fun y y0 y1 => ?_
      refine v_ixmem y0 (by simpa using y1) fun d hd => ?_
      exact leaf x d _ x0 x1 (by simpa using hd) (by omega)
  · repeat walk_at "k"
    refine ⟨N - 1, _, rfl, rfl, by omega, by decide, by decide, fun x x0 x1 => ?_⟩
    repeat walk_at "k"
    refine v_drawN (by omega) (by decide) (by decide) fun y y0 y1 => ?_
    refine v_ixmem y0 (by simpa using y1) fun d hd => ?_
    exact leaf x d _ x0 x1 (by simpa using hd) (by omega)
end RR
namespace RR
open PySem PySem.Spec PyProof.Rows L2
def PapW (f1 g1 c : Ser Rat) (F G : List Int) (t : D) : Prop := ∃ (x u v s w : Ser Rat) (X U V S T : List Int) (a b c' d e : Int), t = .tup [pd X a, pd U b, pd V c', pd S d, pd T e] ∧ Ppr f1 g1 c F.length G.length x u v s w ∧ P x X a ∧ P u U b ∧ P v V c' ∧ P s S d ∧ P w T e
theorem ask_papW {M : Type} {m : M} {Q : D → M → Prop} {Z : Str → M → Prop} {f1 g1 c : Ser Rat} {F G W r r' : List Int} {d e w a b : Int} (hf : P f1 F d) (hg : P g1 G e) (hc : P c W w) (df : Dr 5 F d) (dg : Dr 5 G e) (dc : Dr 4 W w) (hr : P (c * f1) r a) (hr' : P (c * g1) r' b)
    (h : ∀ t, PapW f1 g1 c F G t → Q t m) : s_shared_common_paper [pd r a, pd r' b] m Q Z :=
  ask_ppr hf hg hc df dg dc hr hr' fun _ _ _ _ _ _ _ _ _ _ _ _ _ _ _ hp p1 p2 p3 p4 p5 => h _ ⟨_, _, _, _, _, _, _, _, _, _, _, _, _, _, _, rfl, hp, p1, p2, p3, p4, p5⟩
theorem PapW.uniq {f1 g1 c : Ser Rat} {F G W : List Int} {d e w : Int} {t t' : D} (hf : P f1 F d) (hg : P g1 G e) (hc : P c W w) (h : PapW f1 g1 c F G t) (h' : PapW f1 g1 c F G t') : t = t' := by
  obtain ⟨x, u, v, s, w1, X, U, V, S, T, a1, b1, c1, d1, e1, rfl, hp, p1, p2, p3, p4, p5⟩ := h
  obtain ⟨x2, u2, v2, s2, w2, X2, U2, V2, S2, T2, a2, b2, c2, d2, e2, rfl, hp2, q1, q2, q3, q4, q5⟩ := h'
  obtain ⟨rfl, rfl, rfl, rfl, rfl⟩ := hp.uniq hf hg hc hp2
  obtain ⟨rfl, rfl⟩ := p1.uniq q1
  obtain ⟨rfl, rfl⟩ := p2.uniq q2
  obtain ⟨rfl, rfl⟩ := p3.uniq q3
  obtain ⟨rfl, rfl⟩ := p4.uniq q4
  obtain ⟨rfl, rfl⟩ := p5.uniq q5
  rfl
theorem PapW.parts {f1 g1 c : Ser Rat} {F G W : List Int} {d e w : Int} {t : D} (h : PapW f1 g1 c F G t) : ∃ (x u v s w : Ser Rat) (X U V S T : List Int) (a' b c' d e : Int), t = .tup [pd X a', pd U b, pd V c', pd S d, pd T e] ∧ P x X a' ∧ P u U b ∧ P v V c' ∧ P s S d ∧ P w T e ∧
    PB 8 1850 X a' ∧ PB 8 1850 U b ∧ PB 8 1850 V c' ∧ PB 8 1850 S d ∧ PB 8 1850 T e ∧ ShC (c * f1) (c * g1) t := by
  obtain ⟨x, u, v, s, w1, X, U, V, S, T, a', b1, c1, d1, e1', rfl, hp, hX, p2, p3, p4, p5⟩ := h
  obtain ⟨e1, e2, e3, rx, ru, rv⟩ := hp.tld.facts
  refine ⟨x, u, v, s, w1, X, U, V, S, T, a', b1, c1, d1, e1', rfl, hX, p2, p3, p4, p5, (rx.pb hX).mono (by decide) (by decide), (ru.pb p2).mono (by decide) (by decide), (rv.pb p3).mono (by decide) (by decide), (hp.rs.pb p4).mono (by decide) (by decide), (hp.rt.pb p5).mono (by decide) (by decide), (ShC.iff hX p2 p3 p4 p5).mpr ⟨fun X0 => ?_, hp.es.symm, hp.et.symm, e1.symm⟩⟩
  have x0 : x ≠ 0 := fun z => X0 (hX.zero.mp z).1
  have last : X.getD (X.length - 1) 0 = a' := by
    obtain ⟨j, tj, oj⟩ := (e3 x0).1
    have jl := top_uniq tj (hX.top X0)
    have := hX.get (X.length - 1)
    rw [← jl, oj] at this
    refine Rat.intCast_inj.mp ?_
    rw [← jl, ← this]; grind
  exact last
end RR
namespace RR
open PySem PySem.Spec PyProof.Rows L2
local macro_rules | `(tactic| walk_at "k") => `(tactic| first | walk_at "s" | with_reducible first
  | refine v_setN ?_ | refine v_kN ?_ | refine v_listB ?_ | refine v_seqBl' ?_ | refine v_seqBt' ?_ | refine v_tupB ?_ | refine v_tupBl ?_ | refine v_addNi ?_ | refine v_addNb ?_ | refine v_subNi ?_ | refine v_subNb ?_ | refine v_subNc ?_ | refine v_mulNb ?_
  | refine v_isi2 ?_ | refine v_ne0 ?_ | refine v_eq0 ?_)
def b__law_bent_l (srec : DSp (Option Nat)) : DS (Option Nat) :=
    (dThen (dSet 2 (dCall s__law_draw [] (dCons (dVar 0) (dCons (dC (.int 9)) dNil))))
    (dThen (dIte (dAnd (dVal (dIsi2 "tuple" "list" (dVar 1))) (dAnd (dTst (dBin gGt (dB gLen (dCons (dVar 1) dNil)) (dC (.int 0)))) (dTst (dBin gLt (dVar 2) (dC (.int 7))))))
      (dThen (dSet 3 (dCall s__law_draw [] (dCons (dVar 0) (dCons (dB gLen (dCons (dVar 1) dNil)) dNil))))
    (dThen (dSetN 4 (dListB (dVar 1)))
    (dThen (dIte (dTst (dBin gLt (dVar 2) (dC (.int 4))))
      (dSetIL 4 (dCall srec [] (dCons (dVar 0) (dCons (dBin gIxB (dOwn 4) (dVar 3)) dNil))) (dVar 3))
      (dIte (dTst (dBin gEq (dVar 2) (dC (.int 4))))
      (dPopS 4 (dVar 3))
      (dIte (dTst (dBin gEq (dVar 2) (dC (.int 5))))
      (dInsS 4 (dVar 3) (dBin gIxB (dOwn 4) (dVar 3)))
      (dThen (dSet 5 (dCall s__law_draw [] (dCons (dVar 0) (dCons (dB gLen (dCons (dOwn 4) dNil)) dNil))))
    (dSwapS 4 (pVar 3) (pVar 5) (pVar 5) (pVar 3))))))
    (dRet (dIf (dVal (dIsi "tuple" (dVar 1))) (dTupB (dOwn 4)) (dOwn 4))))))
      dNext)
    (dThen (dIte (dAnd (dVal (dIsi "int" (dVar 1))) (dTst (dBin gLt (dVar 2) (dC (.int 6)))))
      (dRet (dBin (gIx false) (dLst (dCons (dBin gAddN (dVar 1) (dC (.int 1))) (dCons (dBin gSubN (dVar 1) (dC (.int 1))) (dCons (dBin gSubN (dC (.int 0)) (dVar 1)) (dCons (dBin gMulN (dC (.int 2)) (dVar 1)) (dCons (dC (.int 0)) (dCons (dC (.int 1)) dNil))))))) (dVar 2)))
      dNext)
    (dRet (dBin (gIx false) (dLst (dCons (dC .non) (dCons (dC (.bl true)) (dCons (dC (.int 0)) (dCons (dTup dNil) (dCons (dLst dNil) (dCons (dC (.str "line")) (dCons (dTup (dCons (dC (.int 1)) dNil)) (dCons (dBin (gII CPow fun i j => .int (i ^ j.toNat)) (dC (.int 10)) (dC (.int 30))) (dCons (dC .dic) (dCons (dLst (dCons (dC (.int 1)) dNil)) (dCons (dC (.str "prime")) dNil)))))))))))) (dCall s__law_draw [] (dCons (dVar 0) (dCons (dC (.int 11)) dNil))))))))
def s__law_bent_l (z : Nat) : DSp (Option Nat) := fun ds m Q _ => ∃ (N b l n cc : Nat) (σ : Nat → Nat) (t : D), ds = [.hnd hdl, t] ∧ m = some N ∧ n ≤ z ∧ Th b l n t ∧ 100 ≤ b ∧ b ≤ 9000 ∧ 1 ≤ l ∧ l ≤ 1000 ∧ 3 * (n + 2) ≤ N ∧ Fall σ ∧ Bnd cc σ t ∧
  ∀ (t' : D) (N' : Nat), Th (b + 1) (l + 1) (n + 1) t' → Bnd cc (bent1 cc σ) t' → t'.wz cc ≤ t.wz cc + σ 1 + cc + 10 → N ≤ N' + 3 * (n + 2) → Q t' (some N')
def srecBl : Nat → DSp (Option Nat)
  | 0 => fun _ _ _ _ => False
  | z + 1 => s__law_bent_l z
theorem leafB {c : Nat} {σ : Nat → Nat} {d : D} (hd : d ∈ [D.non, D.bl true, D.int 0, D.tup [], D.lst [], D.str "line", D.tup [D.int 1], D.int (10 ^ Int.toNat 30), D.dic, D.lst [D.int 1], D.str "prime"]) : Bnd c (bent1 c σ) d := by
  simp only [List.mem_cons, List.not_mem_nil, or_false] at hd
  have o : ∀ x ∈ [D.int 1], Bnd c (fun i => bent1 c σ (i + 1)) x := fun x hx => by
    rw [List.mem_singleton.mp hx]
    unfold Bnd; rw [wz_int]
    show c ≤ σ 1 + σ 2 + c + 10
    omega
  rcases hd with rfl | rfl | rfl | rfl | rfl | rfl | rfl | rfl | rfl | rfl | rfl <;> unfold Bnd
  all_goals first
    | (simp only [D.wz]; unfold bent1; omega)
    | exact ⟨by simp only [D.wz, D.wzs]; unfold bent1; omega, o⟩
    | exact ⟨by simp only [D.wz, D.wzs]; unfold bent1; omega, fun x hx => absurd hx List.not_mem_nil⟩
theorem vc__law_bent_l : ∀ (z : Nat) ds (m : Option Nat) Q Z, s__law_bent_l z ds m Q Z → okU [false, false] ds ∧ b__law_bent_l (srecBl z) { nx := fun _ m' => Q .non m', rt := Q, ex := Z } (st0 [false, false] ds 6) m := by
  rintro z ds m Q Z ⟨N, b, l, n, cc, σ, t, rfl, rfl, hz, ht, b0, b1, l0, l1, hN, hσ, hB, k⟩
  refine ⟨rfl, ?_⟩
  unfold b__law_bent_l
  repeat walk_at "k"
  refine v_drawN (by omega) (by decide) (by decide) fun w w0 w1 => ?_
  repeat walk_at "k"
  -- a leaf, told anew
  have last : s__law_draw [D.hnd hdl, D.int 11] (some (N - 1)) (fun y m2 => gIx false (D.lst [D.non, D.bl true, D.int 0, D.tup [], D.lst [], D.str "line", D.tup [D.int 1], D.int (10 ^ Int.toNat 30), D.dic, D.lst [D.int 1], D.str "prime"]) y fun d => Q d m2) Z := by
    refine v_drawN (by omega) (by decide) (by decide) fun x x0 x1 => ?_
    refine v_ixmem x0 (by simpa using x1) fun d hd => ?_
    have hw : ∀ c, d.wz c ≤ c + 4 := fun c => by
      simp only [List.mem_cons, List.not_mem_nil, or_false] at hd
      rcases hd with rfl | rfl | rfl | rfl | rfl | rfl | rfl | rfl | rfl | rfl | rfl <;> simp only [D.wz, D.wzs] <;> omega
    refine k _ _ ?_ (leafB hd) (by have := hw cc; omega) (by omega)
    have e30 : bd (b + 1) ((10 : Int) ^ (30 : Int).toNat) := bd_mono (a := 100) (by unfold bd; decide) (by omega)
    have e1 : bd (b + 1) 1 := bd_mono (a := 1) (by unfold bd; decide) (by omega)
    have e0 : bd (b + 1) 0 := bd_mono (a := 1) (by unfold bd; decide) (by omega)
    simp only [List.mem_cons, List.not_mem_nil, or_false] at hd
    rcases hd with rfl | rfl | rfl | rfl | rfl | rfl | rfl | rfl | rfl | rfl | rfl
    · trivial
    · trivial
    · exact e0
    · exact ⟨Nat.zero_le _, fun x h => absurd h List.not_mem_nil⟩
    · exact ⟨Nat.zero_le _, fun x h => absurd h List.not_mem_nil⟩
    · exact (by decide +kernel : (PyData.str "line").shown.length ≤ 12)
    · exact ⟨by simp, fun x h => by rw [List.mem_singleton.mp h]; exact Th.i e1⟩
    · exact e30
    · trivial
    · exact ⟨by simp, fun x h => by rw [List.mem_singleton.mp h]; exact Th.i e1⟩
    · exact (by decide +kernel : (PyData.str "prime").shown.length ≤ 12)
  -- what is behind the lists
  have tail : ∀ {a3 a4 a5 : Sl}, (dThen (dIte (dAnd (dVal (dIsi "int" (dVar 1))) (dTst (dBin gLt (dVar 2) (dC (.int 6)))))
      (dRet (dBin (gIx false) (dLst (dCons (dBin gAddN (dVar 1) (dC (.int 1))) (dCons (dBin gSubN (dVar 1) (dC (.int 1))) (dCons (dBin gSubN (dC (.int 0)) (dVar 1)) (dCons (dBin gMulN (dC (.int 2)) (dVar 1)) (dCons (dC (.int 0)) (dCons (dC (.int 1)) dNil))))))) (dVar 2)))
      dNext)
    (dRet (dBin (gIx false) (dLst (dCons (dC .non) (dCons (dC (.bl true)) (dCons (dC (.int 0)) (dCons (dTup dNil) (dCons (dLst dNil) (dCons (dC (.str "line")) (dCons (dTup (dCons (dC (.int 1)) dNil)) (dCons (dBin (gII CPow fun i j => .int (i ^ j.toNat)) (dC (.int 10)) (dC (.int 30))) (dCons (dC .dic) (dCons (dLst (dCons (dC (.int 1)) dNil)) (dCons (dC (.str "prime")) dNil)))))))))))) (dCall s__law_draw [] (dCons (dVar 0) (dCons (dC (.int 11)) dNil))))) : DS (Option Nat)) { nx := fun _ m' => Q .non m', rt := Q, ex := Z } [.val (.hnd hdl), .val t, .val (.int w), a3, a4, a5] (some (N - 1)) := fun {a3 a4 a5} => by
    refine v_then ?_
    refine v_ite ?_
    refine v_and ?_
    refine v_val ?_
    refine v_isi ?_
    refine v_var rfl ?_
    obtain ⟨ty, hty⟩ := ht.ty
    refine v_kI hty rfl ?_
    refine v_kVb ?_
    refine v_if (fun hi => ?_) fun hi => ?_
    · repeat walk_at "k"
      refine v_ifd (fun h => ?_) fun h => ?_
      · have fin : ∀ i : Int, i.natAbs ≤ 1 ∨ bd (b + 1) i → Q (.int i) (some (N - 1)) := fun i hi => k _ _ (Th.i (by
          rcases hi with hi | hi
          · exact bd_mono (a := 1) (by unfold bd; omega) (by omega)
          · exact hi)) (by unfold Bnd; rw [wz_int]; unfold bent1; omega) (by rw [wz_int]; omega) (by omega)
        cases t with
        | int i =>
          have bi := ht.ib
          have p : 2 ^ (b + 1) = 2 * 2 ^ b := by rw [Nat.pow_succ, Nat.mul_comm]
          have pp : 0 < 2 ^ b := Nat.pow_pos (by decide)
          repeat walk_at "k"
          refine v_mulNi (mulok (bd_lit (n := 2) (by decide)) bi (by omega)) ?_
          repeat walk_at "k"
          refine v_ixmem w0 (by simpa using h) fun d hd => ?_
          simp only [List.mem_cons, List.not_mem_nil, or_false] at hd
          unfold bd at bi
          rcases hd with rfl | rfl | rfl | rfl | rfl | rfl
          · exact fin _ (.inr (by unfold bd; omega))
          · exact fin _ (.inr (by unfold bd; omega))
          · exact fin _ (.inr (by unfold bd; omega))
          · exact fin _ (.inr (by unfold bd; omega))
          · exact fin _ (.inl (by decide))
          · exact fin _ (.inl (by decide))
        | bl c =>
          repeat walk_at "k"
          refine v_ixmem w0 (by simpa using h) fun d hd => ?_
          simp only [List.mem_cons, List.not_mem_nil, or_false] at hd
          have big : ∀ i : Int, i.natAbs ≤ 2 → bd (b + 1) i := fun i hi => bd_mono (a := 2) (by unfold bd; omega) (by omega)
          rcases hd with rfl | rfl | rfl | rfl | rfl | rfl <;> exact fin _ (.inr (big _ (by cases c <;> decide)))
        | _ => first | (cases hty; done) | (cases hty; exact absurd hi (by decide))
      · repeat walk_at "k"
        exact last
    · repeat walk_at "k"
      exact last
  by_cases sq : ∃ xs, t = .tup xs ∨ t = .lst xs
  · obtain ⟨xs, hs⟩ := sq
    obtain ⟨n', rfl, lx, hx⟩ : ∃ n', n = n' + 1 ∧ xs.length ≤ l ∧ ∀ x ∈ xs, Th b l n' x := by
      rcases hs with rfl | rfl <;> cases n <;> first | exact ht.elim | exact ⟨_, rfl, ht.1, ht.2⟩
    obtain ⟨z', rfl⟩ : ∃ z', z = z' + 1 := ⟨z - 1, by omega⟩
    have bx : ∀ x ∈ xs, Bnd cc (fun i => σ (i + 1)) x := by rcases hs with rfl | rfl <;> (unfold Bnd at hB; exact hB.2)
    have w0 : D.wzs cc xs + 2 ≤ σ 0 := by rcases hs with rfl | rfl <;> (have := hB.wz; simp only [wz_tup, wz_lst] at this; omega)
    have s21 : σ 2 ≤ σ 1 := hσ 1
    have up : ∀ x ∈ xs, Th (b + 1) (l + 1) (n' + 1) x ∧ Bnd cc (fun i => bent1 cc σ (i + 1)) x := fun x h => ⟨(hx x h).mono (by omega) (by omega) (by omega), (bx x h).mono fun i => by unfold bent1; omega⟩
    have kk : ∀ (ys : List D) (N' : Nat), ys.length ≤ l + 1 → (∀ x ∈ ys, Th (b + 1) (l + 1) (n' + 1) x ∧ Bnd cc (fun i => bent1 cc σ (i + 1)) x) → (D.wzs cc ys ≤ D.wzs cc xs + σ 1 + cc + 10) → N ≤ N' + 3 * (n' + 1 + 2) → Q (.tup ys) (some N') ∧ Q (.lst ys) (some N') := fun ys N' h1 h2 h4 h3 => by
      have wy : 2 + D.wzs cc ys ≤ bent1 cc σ 0 := by
        show _ ≤ σ 0 + σ 1 + cc + 10
        omega
      have e : (D.tup xs).wz cc = t.wz cc ∧ (D.lst xs).wz cc = t.wz cc := by rcases hs with rfl | rfl <;> simp only [wz_tup, wz_lst, and_self]
      rw [wz_tup, wz_lst] at e
      exact ⟨k _ _ ⟨h1, fun x hx => (h2 x hx).1⟩ (by unfold Bnd; rw [wz_tup]; exact ⟨wy, fun x hx => (h2 x hx).2⟩) (by rw [wz_tup]; omega) h3, k _ _ ⟨h1, fun x hx => (h2 x hx).1⟩ (by unfold Bnd; rw [wz_lst]; exact ⟨wy, fun x hx => (h2 x hx).2⟩) (by rw [wz_lst]; omega) h3⟩
    rcases hs with rfl | rfl
    all_goals
      refine v_kI2 (b := true) rfl rfl ?_
      repeat walk_at "k"
      refine v_ifd (fun h0 => ?_) fun h0 => ?_
      · repeat walk_at "k"
        refine v_ifd (fun h7 => ?_) fun h7 => ?_
        · repeat walk_at "k"
          refine v_drawN (by omega) (by omega) (by omega) fun a a0 a1 => ?_
          repeat walk_at "k"
          have an : a.toNat < xs.length := by omega
          refine v_ifd (fun h4 => ?_) fun h4 => ?_
          · repeat walk_at "k"
            refine v_setIL (by with_unfolding_all exact rfl) ?_
            repeat walk_at "k"
            refine v_ixB a0 a1 fun d hd => ?_
            repeat walk_at "k"
            refine ⟨N - 2, b, l, n', cc, fun i => σ (i + 1), d, rfl, rfl, by omega, hx d (List.mem_of_getElem? hd), b0, b1, l0, l1, by omega, hσ.next, bx d (List.mem_of_getElem? hd), fun t' N' ht' hb' hw' hN' => ?_⟩
            have hw' : t'.wz cc ≤ d.wz cc + σ 2 + cc + 10 := hw'
            have hb2 : Bnd cc (fun i => bent1 cc σ (i + 1)) t' := hb'
            repeat walk_at "k"
            dsimp only
            rw [ixN_in a0 a1]
            dsimp only
            repeat walk_at "k"
            have fin := kk (xs.set a.toNat t') N' (by rw [List.length_set]; omega) (fun x h => (List.mem_or_eq_of_mem_set h).elim (up x) fun e => e ▸ ⟨ht', hb2⟩) (by
              have h1 := wzs_set (c := cc) (t := t') hd
              have h2 := wzs_mem (c := cc) (List.mem_of_getElem? hd)
              omega) (by omega)
            first | (refine v_kI (T := "tuple") (ty := "list") (b := false) rfl rfl ?_) | skip
            repeat walk_at "k"
            first | exact fin.1 | exact fin.2
          · repeat walk_at "k"
            refine v_ifd (fun h5 => ?_) fun h5 => ?_
            · repeat walk_at "k"
              refine v_popS (by with_unfolding_all exact rfl) ?_
              repeat walk_at "k"
              refine v_kPopS a0 a1 (by omega) ?_
              repeat walk_at "k"
              have fin := kk (xs.eraseIdx a.toNat) (N - 2) (Nat.le_trans (List.length_eraseIdx_le ..) (by omega)) (fun x h => up x (List.mem_of_mem_eraseIdx h)) (by
                have h1 := wzs_erase (c := cc) (xs := xs) (i := a.toNat)
                omega) (by omega)
              first | (refine v_kI (T := "tuple") (ty := "list") (b := false) rfl rfl ?_) | skip
              repeat walk_at "k"
              first | exact fin.1 | exact fin.2
            · repeat walk_at "k"
              refine v_ifd (fun h6 => ?_) fun h6 => ?_
              · repeat walk_at "k"
                refine v_insS (by with_unfolding_all exact rfl) ?_
                repeat walk_at "k"
                refine v_kInsS ?_
                repeat walk_at "k"
                refine v_ixB a0 a1 fun d hd => ?_
                refine ⟨Nat.lt_of_lt_of_le (show xs.length < 16777216 by omega) (small_line (Nat.le_refl _)), a0, by omega, ?_⟩
                repeat walk_at "k"
                have fin := kk (xs.take a.toNat ++ [d] ++ xs.drop a.toNat) (N - 2) (by simp; omega) (fun x h => by
                  rcases List.mem_append.mp h with h | h
                  · rcases List.mem_append.mp h with h | h
                    · exact up x (List.mem_of_mem_take h)
                    · rw [List.mem_singleton.mp h]; exact up d (List.mem_of_getElem? hd)
                  · exact up x (List.mem_of_mem_drop h)) (by
                    have h1 := congrArg (D.wzs cc) (List.take_append_drop a.toNat xs)
                    rw [wzs_app] at h1
                    have h2 := wzs_mem (c := cc) (List.mem_of_getElem? hd)
                    have h5 : d.wz cc ≤ σ 1 := (bx d (List.mem_of_getElem? hd)).wz
                    rw [wzs_app, wzs_app, wzs_cons, wzs_nil]
                    omega) (by omega)
                first | (refine v_kI (T := "tuple") (ty := "list") (b := false) rfl rfl ?_) | skip
                repeat walk_at "k"
                first | exact fin.1 | exact fin.2
              · repeat walk_at "k"
                refine v_drawN (by omega) (by omega) (by omega) fun c c0 c1 => ?_
                repeat walk_at "k"
                refine v_swapS (by with_unfolding_all exact rfl) (by with_unfolding_all exact rfl) (by with_unfolding_all exact rfl) a0 a1 c0 c1 fun y w hy hw => ?_
                repeat walk_at "k"
                have fin := kk ((xs.set a.toNat y).set c.toNat w) (N - 3) (by rw [List.length_set, List.length_set]; omega) (fun x h => by
                  rcases List.mem_or_eq_of_mem_set h with h | h
                  · rcases List.mem_or_eq_of_mem_set h with h | h
                    · exact up x h
                    · rw [h]; exact up y (List.mem_of_getElem? hy)
                  · rw [h]; exact up w (List.mem_of_getElem? hw)) (by
                    have h1 := wzs_set (c := cc) (t := y) hw
                    by_cases e : a.toNat = c.toNat
                    · rw [← e] at hy ⊢
                      rw [hw] at hy; cases hy
                      rw [List.set_set]
                      omega
                    · have h2 := wzs_set (c := cc) (t := w) (xs := xs.set a.toNat y) (i := c.toNat) (d := y) (by rw [List.getElem?_set_ne e]; exact hy)
                      omega) (by omega)
                first | (refine v_kI (T := "tuple") (ty := "list") (b := false) rfl rfl ?_) | skip
                repeat walk_at "k"
                first | exact fin.1 | exact fin.2
        · repeat walk_at "k"
          exact tail
      · repeat walk_at "k"
        exact tail
  · obtain ⟨ty, hty⟩ := ht.ty
    refine v_kI2 (b := false) hty ?_ ?_
    · cases t with
      | tup xs => exact absurd ⟨xs, .inl rfl⟩ sq
      | lst xs => exact absurd ⟨xs, .inr rfl⟩ sq
      | _ => first | (cases hty; done) | (cases hty; rfl)
    · repeat walk_at "k"
      exact tail
end RR
namespace RR
open PySem PySem.Spec PyProof.Rows L2
def bentN (c : Nat) : Nat → (Nat → Nat) → (Nat → Nat)
  | 0, s => s
  | k + 1, s => bent1 c (bentN c k s)
theorem Fall.bentN {c : Nat} {s : Nat → Nat} (h : Fall s) : ∀ k, Fall (RR.bentN c k s)
  | 0 => h
  | k + 1 => (Fall.bentN h k).bent
theorem bentN_up {c : Nat} {s : Nat → Nat} : ∀ {k j : Nat}, k ≤ j → ∀ i, bentN c k s i ≤ bentN c j s i
  | k, j, h, i => by
    induction j with
    | zero => rw [Nat.le_zero.mp h]; exact Nat.le_refl _
    | succ j ih =>
      rcases Nat.lt_or_ge k (j + 1) with l | l
      · refine Nat.le_trans (ih (by omega)) ?_
        show _ ≤ bentN c j s i + bentN c j s (i + 1) + c + 10
        omega
      · rw [show k = j + 1 from by omega]; exact Nat.le_refl _
def papS : Nat → Nat
  | 0 => 315002
  | 1 => 62998
  | 2 => 60962
  | 3 => 2030
  | _ => 0
theorem papS_fall : Fall papS
  | 0 => by decide
  | 1 => by decide
  | 2 => by decide
  | 3 => by decide
  | _ + 4 => Nat.le_refl _
theorem pap_last : bentN 2030 12 papS 0 ≤ 16777216 := by decide +kernel
theorem odd_last : bentN 630 12 (oddS 630 3) 0 ≤ 16777216 := by decide +kernel
def Fine (k : Nat) (t : D) : Prop := (Th (2000 + k) (30 + k) (12 + k) t ∧ Bnd 2030 (bentN 2030 k papS) t) ∨ (Th (600 + k) (6 + k) (10 + k) t ∧ Bnd 630 (bentN 630 k (oddS 630 3)) t)
theorem Fine.mono {k j : Nat} {t : D} (h : Fine k t) (l : k ≤ j) : Fine j t := by
  rcases h with ⟨a, b⟩ | ⟨a, b⟩
  · exact .inl ⟨a.mono (by omega) (by omega) (by omega), b.mono (bentN_up l)⟩
  · exact .inr ⟨a.mono (by omega) (by omega) (by omega), b.mono (bentN_up l)⟩
theorem Fine.sho {k : Nat} {t : D} (h : Fine k t) (l : k ≤ 12) : t.shoT := by
  rcases h with ⟨a, b⟩ | ⟨a, b⟩
  · exact a.sho (c := 2030) (by omega) (by omega) (by omega) (by omega) (Nat.le_trans b.wz (Nat.le_trans (bentN_up l 0) pap_last))
  · exact a.sho (c := 630) (by omega) (by omega) (by omega) (by omega) (Nat.le_trans b.wz (Nat.le_trans (bentN_up l 0) odd_last))
theorem ask_bent {k N : Nat} {t : D} {Q : D → Option Nat → Prop} {Z : Str → Option Nat → Prop} (h : Fine k t) (kl : k ≤ 12) (hN : 100 ≤ N) (q : ∀ t' N', Fine (k + 1) t' → N ≤ N' + 100 → Q t' (some N')) : s__law_bent_l 30 [.hnd hdl, t] (some N) Q Z := by
  rcases h with ⟨a, b⟩ | ⟨a, b⟩
  · exact ⟨N, 2000 + k, 30 + k, 12 + k, 2030, _, t, rfl, rfl, by omega, a, by omega, by omega, by omega, by omega, by omega, papS_fall.bentN k, b, fun t' N' h1 h2 _ h4 => q t' N' (.inl ⟨h1, h2⟩) (by omega)⟩
  · exact ⟨N, 600 + k, 6 + k, 10 + k, 630, _, t, rfl, rfl, by omega, a, by omega, by omega, by omega, by omega, by omega, (oddS_fall 3).bentN k, b, fun t' N' h1 h2 _ h4 => q t' N' (.inr ⟨h1, h2⟩) (by omega)⟩
theorem ask_odd {N : Nat} {Q : D → Option Nat → Prop} {Z : Str → Option Nat → Prop} (hN : oddN 3 ≤ N) (q : ∀ t N', Fine 0 t → N ≤ N' + oddN 3 → Q t (some N')) : s__law_odd_t 7 [.hnd hdl, .int 3] (some N) Q Z :=
  ⟨N, 3, rfl, rfl, by decide, by decide, hN, fun t N' h1 h2 h3 => q t N' (.inr ⟨h1, h2 630⟩) h3⟩
theorem pd_th {r : List Int} {d : Int} {n : Nat} (h : PB 30 2000 r d) : Th 2000 30 (n + 2) (pd r d) := ⟨by simp, fun x hx => by
  simp only [List.mem_cons, List.not_mem_nil, or_false] at hx
  rcases hx with rfl | rfl
  · exact Th.row h.bd h.ln
  · exact Th.i h.dd⟩
theorem row_wz {c : Nat} {r : List Int} (h : r.length ≤ 30) : (D.tup (zz r)).wz c ≤ 2 + 30 * (c + 2) := by
  rw [wz_tup]
  have h1 := wzs_le2 (c := c) (w := c) (xs := zz r) fun x hx => by
    obtain ⟨i, _, rfl⟩ := List.mem_map.mp hx
    rw [wz_int]; exact Nat.le_refl _
  have h2 : (zz r).length * (c + 2) ≤ 30 * (c + 2) := Nat.mul_le_mul_right _ (by simpa [zz] using h)
  omega
theorem pd_wz {r : List Int} {d : Int} (h : r.length ≤ 30) : (pd r d).wz 2030 ≤ 62998 := by
  have h1 := row_wz (c := 2030) h
  show (D.tup [D.tup (zz r), D.int d]).wz 2030 ≤ 62998
  rw [wz_tup, wzs_cons, wzs_cons, wzs_nil, wz_int]
  omega
theorem pd_bnd {r : List Int} {d : Int} (h : r.length ≤ 30) : Bnd 2030 (fun i => papS (i + 1)) (pd r d) := by
  unfold Bnd
  refine ⟨pd_wz h, fun x hx => ?_⟩
  simp only [List.mem_cons, List.not_mem_nil, or_false] at hx
  rcases hx with rfl | rfl
  · unfold Bnd
    refine ⟨Nat.le_trans (row_wz h) (by decide), fun x hx => ?_⟩
    obtain ⟨i, _, rfl⟩ := List.mem_map.mp hx
    unfold Bnd; rw [wz_int]; exact Nat.le_refl _
  · unfold Bnd; rw [wz_int]
    show 2030 ≤ 60962
    decide
theorem pap_fine {X U V S T : List Int} {a b c d e : Int} (h1 : PB 30 2000 X a) (h2 : PB 30 2000 U b) (h3 : PB 30 2000 V c) (h4 : PB 30 2000 S d) (h5 : PB 30 2000 T e) : Fine 0 (.tup [pd X a, pd U b, pd V c, pd S d, pd T e]) ∧ Fine 0 (.lst [pd X a, pd U b, pd V c, pd S d, pd T e]) := by
  have th : ∀ x ∈ [pd X a, pd U b, pd V c, pd S d, pd T e], Th 2000 30 11 x := fun x hx => by
    simp only [List.mem_cons, List.not_mem_nil, or_false] at hx
    rcases hx with rfl | rfl | rfl | rfl | rfl
    · exact pd_th (n := 9) h1
    · exact pd_th (n := 9) h2
    · exact pd_th (n := 9) h3
    · exact pd_th (n := 9) h4
    · exact pd_th (n := 9) h5
  have bn : ∀ x ∈ [pd X a, pd U b, pd V c, pd S d, pd T e], Bnd 2030 (fun i => papS (i + 1)) x := fun x hx => by
    simp only [List.mem_cons, List.not_mem_nil, or_false] at hx
    rcases hx with rfl | rfl | rfl | rfl | rfl
    · exact pd_bnd h1.ln
    · exact pd_bnd h2.ln
    · exact pd_bnd h3.ln
    · exact pd_bnd h4.ln
    · exact pd_bnd h5.ln
  have w : 2 + D.wzs 2030 [pd X a, pd U b, pd V c, pd S d, pd T e] ≤ 315002 := by
    have h1 := wzs_le2 (c := 2030) (w := 62998) (xs := [pd X a, pd U b, pd V c, pd S d, pd T e]) fun x hx => (bn x hx).wz
    simp only [List.length_cons, List.length_nil] at h1
    omega
  refine ⟨.inl ⟨⟨by simp, th⟩, ?_⟩, .inl ⟨⟨by simp, th⟩, ?_⟩⟩
  · show Bnd 2030 papS _
    unfold Bnd; rw [wz_tup]; exact ⟨w, bn⟩
  · show Bnd 2030 papS _
    unfold Bnd; rw [wz_lst]; exact ⟨w, bn⟩
end RR
namespace RR
open PySem PySem.Spec PyProof.Rows L2
local macro_rules | `(tactic| walk_at "k") => `(tactic| first | walk_at "s" | with_reducible first
  | refine v_setN ?_ | refine v_kN ?_ | refine v_listB ?_ | refine v_seqBl' ?_ | refine v_seqBt' ?_ | refine v_tupB ?_ | refine v_tupBl ?_ | refine v_isi2 ?_ | refine v_ne0 ?_ | refine v_eq0 ?_ | refine v_parO ?_)
def b_law : DS (Option Nat) :=
    (dThen (dSet 1 (dCall s__law_begun [] (dCons (dBor 0) dNil)))
    (dThen (dParO 2 3 (dLst dNil) (dLst dNil))
    (dThen (dFor (dRng1 (dCons (dC (.int 2)) dNil)) (dgN 4)
      (dThen (dSet 5 (dCall s__law_small_poly [] (dCons (dVar 1) (dCons (dC (.int 3)) dNil))))
    (dThen (dPar 6 7 (dCons (dCall s__law_small_poly [] (dCons (dVar 1) (dCons (dC (.int 4)) dNil))) (dCons (dCall s__law_small_poly [] (dCons (dVar 1) (dCons (dC (.int 4)) dNil))) dNil)))
    (dThen (dIte (dTst (dBin gGt (dCall s__law_draw [] (dCons (dVar 1) (dCons (dC (.int 3)) dNil))) (dC (.int 0))))
      (dPar 6 7 (dCons (dCall s__law_times [] (dCons (dVar 6) (dCons (dVar 5) dNil))) (dCons (dCall s__law_times [] (dCons (dVar 7) (dCons (dVar 5) dNil))) dNil)))
      dNext)
    (dThen (dSet 8 (dCall s_shared_common_paper [] (dCons (dVar 6) (dCons (dVar 7) dNil))))
    (dThen (dIte (dOr (dNot (dVal (dCall s__law_shows_common [] (dCons (dVar 6) (dCons (dVar 7) (dCons (dVar 8) dNil)))))) (dTst (dBin gNe (dVar 8) (dCall s_shared_common_paper [] (dCons (dVar 6) (dCons (dVar 7) dNil))))))
      (dRet (dC (.bl false)))
      dNext)
    (dThen (dApp 2 (dTup (dCons (dVar 6) (dCons (dVar 7) dNil))))
    (dThen (dSetN 3 (dBin gCatB (dOwn 3) (dLst (dCons (dVar 8) (dCons (dTup (dCons (dBin (gIx false) (dVar 8) (dC (.int 0))) (dCons (dBin (gIx false) (dVar 8) (dC (.int 2))) (dCons (dBin (gIx false) (dVar 8) (dC (.int 1))) (dCons (dBin (gIx false) (dVar 8) (dC (.int 4))) (dCons (dBin (gIx false) (dVar 8) (dC (.int 3))) dNil)))))) (dCons (dB (gSeq .lst) (dCons (dVar 8) dNil)) dNil))))))
    (dSetN 3 (dBin gCatB (dOwn 3) (dLst (dCons (dCall s__law_scaled [] (dCons (dVar 8) (dCons (dC (.int 2)) dNil))) (dCons (dCall s__law_scaled [] (dCons (dVar 8) (dCons (dNeg (dC (.int 3))) dNil))) dNil)))))))))))))
    (dThen (dFor (dRng1 (dCons (dC (.int 6)) dNil)) (dgN 4)
      (dThen (dSet 9 (dCall (s__law_bent_l 30) [] (dCons (dVar 1) (dCons (dBin gIxB (dOwn 3) (dCall s__law_draw [] (dCons (dVar 1) (dCons (dB gLen (dCons (dOwn 3) dNil)) dNil)))) dNil))))
    (dThen (dAppL 3 (dBin (gIx false) (dLst (dCons (dVar 9) (dCons (dCall (s__law_bent_l 30) [] (dCons (dVar 1) (dCons (dVar 9) dNil))) dNil))) (dCall s__law_draw [] (dCons (dVar 1) (dCons (dC (.int 2)) dNil)))))
    (dAppL 3 (dCall (s__law_odd_t 7) [] (dCons (dVar 1) (dCons (dC (.int 3)) dNil)))))))
    (dThen (dSet 10 (dTup (dCons (dTup dNil) (dCons (dC (.int 1)) dNil))))
    (dThen (dSetN 3 (dBin gCatB (dOwn 3) (dLst (dCons (dC .non) (dCons (dTup dNil) (dCons (dBin gMul (dTup (dCons (dVar 10) dNil)) (dC (.int 5))) (dCons (dBin gMul (dLst (dCons (dVar 10) dNil)) (dC (.int 5))) (dCons (dTup (dCons (dTup (dCons (dTup (dCons (dC (.int 1)) dNil)) (dCons (dC (.int 1)) dNil))) (dCons (dVar 10) (dCons (dVar 10) (dCons (dBin (gIx false) (dBin (gIx true) (dOwn 2) (dC (.int 0))) (dC (.int 0))) (dCons (dBin (gIx false) (dBin (gIx true) (dOwn 2) (dC (.int 0))) (dC (.int 1))) dNil)))))) dNil))))))))
    (dThen (dAppL 3 (dTup (dCons (dVar 10) (dCons (dTup (dCons (dTup (dCons (dC (.int 1)) dNil)) (dCons (dC (.int 1)) dNil))) (dCons (dTup (dCons (dTup (dCons (dC (.int 0)) (dCons (dC (.int 1)) dNil))) (dCons (dC (.int 1)) dNil))) (dCons (dTup (dCons (dTup (dCons (dC (.int 2)) dNil)) (dCons (dC (.int 3)) dNil))) (dCons (dTup (dCons (dTup (dCons (dC (.int 1)) (dCons (dC (.int 1)) dNil))) (dCons (dC (.int 1)) dNil))) dNil)))))))
    (dThen (dFor (dSeq false (dBin gAdd (dOwn 2) (dLst (dCons (dTup (dCons (dVar 10) (dCons (dVar 10) dNil))) (dCons (dTup (dCons (dBin (gIx false) (dBin (gIx true) (dOwn 2) (dC (.int 0))) (dC (.int 0))) (dCons (dVar 10) dNil))) dNil))))) (dgT 2 (dgCons (dgN 6) (dgCons (dgN 7) dgNil)))
      (dThen (dFor (dSeq false (dBin gCatB (dOwn 3) (dLst (dCons (dCall s_shared_common_paper [] (dCons (dVar 6) (dCons (dVar 7) dNil))) dNil)))) (dgN 8)
      (dThen (dSet 11 (dB gReprT (dCons (dVar 8) dNil)))
    (dThen (dSet 12 (dCall s_checking_shows_common [] (dCons (dVar 6) (dCons (dVar 7) (dCons (dVar 8) dNil)))))
    (dIte (dOr (dNot (dVal (dIsi "bool" (dVar 12)))) (dOr (dTst (dBin gNe (dVar 12) (dCall s__law_shows_common [] (dCons (dVar 6) (dCons (dVar 7) (dCons (dVar 8) dNil)))))) (dTst (dBin gNe (dB gReprT (dCons (dVar 8) dNil)) (dVar 11)))))
      (dRet (dC (.bl false)))
      dNext))))
    (dIte (dNot (dVal (dCall s_checking_shows_common [] (dCons (dVar 6) (dCons (dVar 7) (dCons (dCall s_shared_common_paper [] (dCons (dVar 6) (dCons (dVar 7) dNil))) dNil))))))
      (dRet (dC (.bl false)))
      dNext)))
    (dRet (dC (.bl true)))))))))))
def t40a : DS (Option Nat) :=
    (dThen (dSet 8 (dCall s_shared_common_paper [] (dCons (dVar 6) (dCons (dVar 7) dNil))))
    (dThen (dIte (dOr (dNot (dVal (dCall s__law_shows_common [] (dCons (dVar 6) (dCons (dVar 7) (dCons (dVar 8) dNil)))))) (dTst (dBin gNe (dVar 8) (dCall s_shared_common_paper [] (dCons (dVar 6) (dCons (dVar 7) dNil))))))
      (dRet (dC (.bl false)))
      dNext)
    (dThen (dApp 2 (dTup (dCons (dVar 6) (dCons (dVar 7) dNil))))
    (dThen (dSetN 3 (dBin gCatB (dOwn 3) (dLst (dCons (dVar 8) (dCons (dTup (dCons (dBin (gIx false) (dVar 8) (dC (.int 0))) (dCons (dBin (gIx false) (dVar 8) (dC (.int 2))) (dCons (dBin (gIx false) (dVar 8) (dC (.int 1))) (dCons (dBin (gIx false) (dVar 8) (dC (.int 4))) (dCons (dBin (gIx false) (dVar 8) (dC (.int 3))) dNil)))))) (dCons (dB (gSeq .lst) (dCons (dVar 8) dNil)) dNil))))))
    (dSetN 3 (dBin gCatB (dOwn 3) (dLst (dCons (dCall s__law_scaled [] (dCons (dVar 8) (dCons (dC (.int 2)) dNil))) (dCons (dCall s__law_scaled [] (dCons (dVar 8) (dCons (dNeg (dC (.int 3))) dNil))) dNil)))))))))
def t40c : DS (Option Nat) :=
    (dThen (dFor (dSeq false (dBin gAdd (dOwn 2) (dLst (dCons (dTup (dCons (dVar 10) (dCons (dVar 10) dNil))) (dCons (dTup (dCons (dBin (gIx false) (dBin (gIx true) (dOwn 2) (dC (.int 0))) (dC (.int 0))) (dCons (dVar 10) dNil))) dNil))))) (dgT 2 (dgCons (dgN 6) (dgCons (dgN 7) dgNil)))
      (dThen (dFor (dSeq false (dBin gCatB (dOwn 3) (dLst (dCons (dCall s_shared_common_paper [] (dCons (dVar 6) (dCons (dVar 7) dNil))) dNil)))) (dgN 8)
      (dThen (dSet 11 (dB gReprT (dCons (dVar 8) dNil)))
    (dThen (dSet 12 (dCall s_checking_shows_common [] (dCons (dVar 6) (dCons (dVar 7) (dCons (dVar 8) dNil)))))
    (dIte (dOr (dNot (dVal (dIsi "bool" (dVar 12)))) (dOr (dTst (dBin gNe (dVar 12) (dCall s__law_shows_common [] (dCons (dVar 6) (dCons (dVar 7) (dCons (dVar 8) dNil)))))) (dTst (dBin gNe (dB gReprT (dCons (dVar 8) dNil)) (dVar 11)))))
      (dRet (dC (.bl false)))
      dNext))))
    (dIte (dNot (dVal (dCall s_checking_shows_common [] (dCons (dVar 6) (dCons (dVar 7) (dCons (dCall s_shared_common_paper [] (dCons (dVar 6) (dCons (dVar 7) dNil))) dNil))))))
      (dRet (dC (.bl false)))
      dNext)))
    (dRet (dC (.bl true))))
def t40b : DS (Option Nat) :=
    (dThen (dSet 10 (dTup (dCons (dTup dNil) (dCons (dC (.int 1)) dNil))))
    (dThen (dSetN 3 (dBin gCatB (dOwn 3) (dLst (dCons (dC .non) (dCons (dTup dNil) (dCons (dBin gMul (dTup (dCons (dVar 10) dNil)) (dC (.int 5))) (dCons (dBin gMul (dLst (dCons (dVar 10) dNil)) (dC (.int 5))) (dCons (dTup (dCons (dTup (dCons (dTup (dCons (dC (.int 1)) dNil)) (dCons (dC (.int 1)) dNil))) (dCons (dVar 10) (dCons (dVar 10) (dCons (dBin (gIx false) (dBin (gIx true) (dOwn 2) (dC (.int 0))) (dC (.int 0))) (dCons (dBin (gIx false) (dBin (gIx true) (dOwn 2) (dC (.int 0))) (dC (.int 1))) dNil)))))) dNil))))))))
    (dThen (dAppL 3 (dTup (dCons (dVar 10) (dCons (dTup (dCons (dTup (dCons (dC (.int 1)) dNil)) (dCons (dC (.int 1)) dNil))) (dCons (dTup (dCons (dTup (dCons (dC (.int 0)) (dCons (dC (.int 1)) dNil))) (dCons (dC (.int 1)) dNil))) (dCons (dTup (dCons (dTup (dCons (dC (.int 2)) dNil)) (dCons (dC (.int 3)) dNil))) (dCons (dTup (dCons (dTup (dCons (dC (.int 1)) (dCons (dC (.int 1)) dNil))) (dCons (dC (.int 1)) dNil))) dNil)))))))
    t40c)))
def b_law2 : DS (Option Nat) :=
    (dThen (dSet 1 (dCall s__law_begun [] (dCons (dBor 0) dNil)))
    (dThen (dParO 2 3 (dLst dNil) (dLst dNil))
    (dThen (dFor (dRng1 (dCons (dC (.int 2)) dNil)) (dgN 4)
      (dThen (dSet 5 (dCall s__law_small_poly [] (dCons (dVar 1) (dCons (dC (.int 3)) dNil))))
    (dThen (dPar 6 7 (dCons (dCall s__law_small_poly [] (dCons (dVar 1) (dCons (dC (.int 4)) dNil))) (dCons (dCall s__law_small_poly [] (dCons (dVar 1) (dCons (dC (.int 4)) dNil))) dNil)))
    (dThen (dIte (dTst (dBin gGt (dCall s__law_draw [] (dCons (dVar 1) (dCons (dC (.int 3)) dNil))) (dC (.int 0))))
      (dPar 6 7 (dCons (dCall s__law_times [] (dCons (dVar 6) (dCons (dVar 5) dNil))) (dCons (dCall s__law_times [] (dCons (dVar 7) (dCons (dVar 5) dNil))) dNil)))
      dNext)
    t40a))))
    (dThen (dFor (dRng1 (dCons (dC (.int 6)) dNil)) (dgN 4)
      (dThen (dSet 9 (dCall (s__law_bent_l 30) [] (dCons (dVar 1) (dCons (dBin gIxB (dOwn 3) (dCall s__law_draw [] (dCons (dVar 1) (dCons (dB gLen (dCons (dOwn 3) dNil)) dNil)))) dNil))))
    (dThen (dAppL 3 (dBin (gIx false) (dLst (dCons (dVar 9) (dCons (dCall (s__law_bent_l 30) [] (dCons (dVar 1) (dCons (dVar 9) dNil))) dNil))) (dCall s__law_draw [] (dCons (dVar 1) (dCons (dC (.int 2)) dNil)))))
    (dAppL 3 (dCall (s__law_odd_t 7) [] (dCons (dVar 1) (dCons (dC (.int 3)) dNil)))))))
    t40b))))
theorem b_law_eq : b_law = b_law2 := rfl
theorem v_nebb5 {a b : Bool} {q : D → Prop} (h : q (.bl (!decide (a = b)))) : gNe (.bl a) (.bl b) q := .inl ⟨by cases a <;> rfl, by cases b <;> rfl, by cases a <;> cases b <;> exact h⟩
theorem v_ix3 {x y z u : D} {ds : List D} {q : D → Prop} (h : q u) : gIx false (.tup (x :: y :: z :: u :: ds)) (.int 3) q := by
  unfold gIx; dsimp only
  rw [show atI (x :: y :: z :: u :: ds) 3 = some u from by unfold atI ixN; rw [if_pos (by decide), if_pos (by simp only [List.length_cons]; omega)]; rfl]
  exact ⟨(fun z => nomatch z), h⟩
theorem v_ix4 {x y z u v : D} {ds : List D} {q : D → Prop} (h : q v) : gIx false (.tup (x :: y :: z :: u :: v :: ds)) (.int 4) q := by
  unfold gIx; dsimp only
  rw [show atI (x :: y :: z :: u :: v :: ds) 4 = some v from by unfold atI ixN; rw [if_pos (by decide), if_pos (by simp only [List.length_cons]; omega)]; rfl]
  exact ⟨(fun z => nomatch z), h⟩
theorem v_ixL0 {x : D} {ds : List D} {q : D → Prop} (n : x.nl = true) (h : q x) : gIx true (.lst (x :: ds)) (.int 0) q := by
  unfold gIx; dsimp only
  rw [show atI (x :: ds) 0 = some x from by unfold atI ixN; rw [if_pos (by decide), if_pos (by rw [List.length_cons]; omega)]; rfl]
  exact ⟨fun _ => n, h⟩
abbrev pap5 (X U V S T : List Int) (a b c d e : Int) : D := .tup [pd X a, pd U b, pd V c, pd S d, pd T e]
theorem eqv_pap5 {X U V S T : List Int} {a b c d e : Int} : (pap5 X U V S T a b c d e).eqv (pap5 X U V S T a b c d e) = true := by
  show ((pd X a).eqv (pd X a) && ((pd U b).eqv (pd U b) && ((pd V c).eqv (pd V c) && ((pd S d).eqv (pd S d) && ((pd T e).eqv (pd T e) && true))))) = true
  simp only [eqv_pd, and_self, decide_true]; rfl
theorem q_pap5 {X U V S T : List Int} {a b c d e : Int} : (pap5 X U V S T a b c d e).q 8 = true := by
  show ([pd X a, pd U b, pd V c, pd S d, pd T e].all (D.q 7)) = true
  simp only [List.all_cons, List.all_nil, Bool.and_true, q_pd (n := 5), Bool.and_self, Bool.and_true]
theorem v_nepap5 {X U V S T : List Int} {a b c d e : Int} {q : D → Prop} (h : q (.bl false)) : gNe (pap5 X U V S T a b c d e) (pap5 X U V S T a b c d e) q := .inl ⟨q_pap5, q_pap5, by rw [eqv_pap5]; exact h⟩
theorem pap_th {X U V S T : List Int} {a b c d e : Int} (h1 : PB 30 2000 X a) (h2 : PB 30 2000 U b) (h3 : PB 30 2000 V c) (h4 : PB 30 2000 S d) (h5 : PB 30 2000 T e) : Th 2000 30 12 (pap5 X U V S T a b c d e) := ⟨by simp, fun x hx => by
  simp only [List.mem_cons, List.not_mem_nil, or_false] at hx
  rcases hx with rfl | rfl | rfl | rfl | rfl
  · exact pd_th (n := 9) h1
  · exact pd_th (n := 9) h2
  · exact pd_th (n := 9) h3
  · exact pd_th (n := 9) h4
  · exact pd_th (n := 9) h5⟩
theorem ask_shc {M : Type} {m : M} {Q : D → M → Prop} {Z : Str → M → Prop} {f g : Ser Rat} {r r' : List Int} {a b : Int} {t : D} {β l n : Nat} (hr : P f r a) (hr' : P g r' b) (pr : PB 20 500 r a) (pr' : PB 20 500 r' b) (ht : Th β l n t) (hβ : β ≤ 2500) (hl : l ≤ 60)
    (h : ∀ b : Bool, (b = true ↔ ShC f g t) → Q (.bl b) m) : s_checking_shows_common [pd r a, pd r' b, t] m Q Z :=
  ⟨f, g, r, r', a, b, t, β, l, n, rfl, hr, hr', pr, pr', ht, hβ, hl, fun z => h true ⟨fun _ => z, fun _ => rfl⟩, fun z => h false ⟨fun y => (nomatch y), fun y => absurd y z⟩⟩
theorem ask_shl {M : Type} {m : M} {Q : D → M → Prop} {Z : Str → M → Prop} {f g : Ser Rat} {r r' : List Int} {a b : Int} {t : D} {β l n : Nat} (hr : P f r a) (hr' : P g r' b) (pr : PB 20 500 r a) (pr' : PB 20 500 r' b) (ht : Th β l n t) (hβ : β ≤ 2500) (hl : l ≤ 60)
    (h : ∀ b : Bool, (b = true ↔ ShC f g t) → Q (.bl b) m) : s__law_shows_common [pd r a, pd r' b, t] m Q Z :=
  ⟨f, g, r, r', a, b, t, β, l, n, rfl, hr, hr', pr, pr', ht, hβ, hl, fun z => h true ⟨fun _ => z, fun _ => rfl⟩, fun z => h false ⟨fun y => (nomatch y), fun y => absurd y z⟩⟩
def PrD (x : D) : Prop := ∃ (f1 g1 c : Ser Rat) (F G W r r' : List Int) (d e w a b : Int), x = .tup [pd r a, pd r' b] ∧ P f1 F d ∧ P g1 G e ∧ P c W w ∧ Dr 5 F d ∧ Dr 5 G e ∧ Dr 4 W w ∧ P (c * f1) r a ∧ P (c * g1) r' b ∧ PB 20 500 r a ∧ PB 20 500 r' b
theorem dr_nil {n : Nat} : Dr n [] 1 := ⟨by simp, fun _ h => (nomatch h), bd_lit (by decide)⟩
theorem nl_pr {r r' : List Int} {a b : Int} : (D.tup [pd r a, pd r' b]).nl = true := nls_all.mpr fun x hx => by
  simp only [List.mem_cons, List.not_mem_nil, or_false] at hx
  rcases hx with rfl | rfl <;> exact nl_pd
theorem PrD.nl {x : D} (h : PrD x) : x.nl = true := by
  obtain ⟨_, _, _, _, _, _, r, r', _, _, _, a, b, rfl, _⟩ := h
  exact nl_pr
theorem fine_non : Fine 0 .non := .inl ⟨trivial, by unfold Bnd; exact Nat.le_trans (by decide : D.non.wz 2030 ≤ 5000) (by decide)⟩
theorem fine_nil : Fine 0 (.tup []) := .inl ⟨⟨Nat.zero_le _, fun _ h => (nomatch h)⟩, by unfold Bnd; exact ⟨Nat.le_trans (by decide : (D.tup []).wz 2030 ≤ 5000) (by decide), fun _ h => (nomatch h)⟩⟩
theorem Fine.th {k : Nat} {t : D} (h : Fine k t) (l : k ≤ 12) : Th 2100 50 30 t := by
  rcases h with ⟨a, _⟩ | ⟨a, _⟩
  · exact a.mono (by omega) (by omega) (by omega)
  · exact a.mono (by omega) (by omega) (by omega)
theorem vt40a {nx bk ct : En → Option Nat → Prop} {rt : D → Option Nat → Prop} {ex : Str → Option Nat → Prop} {f1 g1 c : Ser Rat} {F G W r r' : List Int} {d e w a b : Int} {s0 a4 a5 a8 a9 a10 a11 a12 : Sl} {prs ps : List D} {m : Option Nat} (hf : P f1 F d) (hg : P g1 G e) (hc : P c W w) (df : Dr 5 F d) (dg : Dr 5 G e) (dc : Dr 4 W w) (hr : P (c * f1) r a) (hr' : P (c * g1) r' b) (pr : PB 20 500 r a) (pr' : PB 20 500 r' b)
    (lr : prs.length ≤ 10) (lp : ps.length ≤ 100) (hp : ∀ d ∈ ps, Fine 0 d)
    (k : ∀ ps' a8, ps'.length = ps.length + 5 → (∀ d ∈ ps', Fine 0 d) → nx [s0, .val (.hnd hdl), .own (prs ++ [.tup [pd r a, pd r' b]]), .own ps', a4, a5, .val (pd r a), .val (pd r' b), a8, a9, a10, a11, a12] m) :
    t40a ⟨nx, rt, bk, ct, ex⟩ [s0, .val (.hnd hdl), .own prs, .own ps, a4, a5, .val (pd r a), .val (pd r' b), a8, a9, a10, a11, a12] m := by
  unfold t40a
  repeat walk_at "k"
  refine ask_papW hf hg hc df dg dc hr hr' fun t ht => ?_
  obtain ⟨x, u, v, s, w1, X, U, V, S, T, a', b1, c1, d1, e1, et, p1, p2, p3, p4, p5, z1, z2, z3, z4, z5, sh⟩ := PapW.parts (W := W) (d := d) (e := e) (w := w) ht
  have y1 := z1.mono (n' := 30) (a' := 2000) (by decide) (by decide)
  have y2 := z2.mono (n' := 30) (a' := 2000) (by decide) (by decide)
  have y3 := z3.mono (n' := 30) (a' := 2000) (by decide) (by decide)
  have y4 := z4.mono (n' := 30) (a' := 2000) (by decide) (by decide)
  have y5 := z5.mono (n' := 30) (a' := 2000) (by decide) (by decide)
  subst et
  repeat walk_at "k"
  refine ask_shl hr hr' pr pr' (pap_th y1 y2 y3 y4 y5) (by decide) (by decide) fun bb hb => ?_
  obtain rfl := hb.mpr sh
  repeat walk_at "k"
  try ((with_reducible show @ite _ _ _ _ _); refine v_ifF ?_)
  repeat walk_at "k"
  refine ask_papW hf hg hc df dg dc hr hr' fun t2 ht2 => ?_
  obtain rfl := PapW.uniq hf hg hc ht ht2
  refine v_nepap5 ?_
  repeat walk_at "k"
  try ((with_reducible show @ite _ _ _ _ _); refine v_ifF ?_)
  repeat walk_at "k"
  refine v_appk nl_pr (by omega) ?_
  repeat walk_at "k"
  refine v_ix4 ?_
  repeat walk_at "k"
  refine v_ix3 ?_
  repeat walk_at "k"
  refine v_seqt (nl_tup5 (X := X) (a := a') (U := U) (b := b1) (V := V) (c := c1) (S := S) (d := d1) (T := T) (e := e1)) ?_
  repeat walk_at "k"
  refine v_catB (by simp; omega) ?_
  repeat walk_at "k"
  refine ⟨x, u, v, s, w1, X, U, V, S, T, a', b1, c1, d1, e1, 2, rfl, p1, p2, p3, p4, p5, z1.mono (by decide) (by decide), z2.mono (by decide) (by decide), z3.mono (by decide) (by decide), z4.mono (by decide) (by decide), z5.mono (by decide) (by decide), .inl rfl, fun X1 U1 V1 S1 T1 i1 i2 i3 i4 i5 q1 q2 q3 q4 q5 => ?_⟩
  repeat walk_at "k"
  refine ⟨x, u, v, s, w1, X, U, V, S, T, a', b1, c1, d1, e1, -3, rfl, p1, p2, p3, p4, p5, z1.mono (by decide) (by decide), z2.mono (by decide) (by decide), z3.mono (by decide) (by decide), z4.mono (by decide) (by decide), z5.mono (by decide) (by decide), .inr rfl, fun X2 U2 V2 S2 T2 j1 j2 j3 j4 j5 n1 n2 n3 n4 n5 => ?_⟩
  repeat walk_at "k"
  refine v_catB (by simp; omega) ?_
  repeat walk_at "k"
  refine k _ _ (by simp) fun d hd => ?_
  simp only [List.mem_append, List.mem_cons, List.not_mem_nil, or_false] at hd
  rcases hd with (hd | rfl | rfl | rfl) | rfl | rfl
  · exact hp d hd
  · exact (pap_fine y1 y2 y3 y4 y5).1
  · exact (pap_fine y1 y3 y2 y5 y4).1
  · exact (pap_fine y1 y2 y3 y4 y5).2
  · exact (pap_fine q1 q2 q3 q4 q5).1
  · exact (pap_fine n1 n2 n3 n4 n5).1
theorem vt40c {nx bk ct : En → Option Nat → Prop} {rt : D → Option Nat → Prop} {ex : Str → Option Nat → Prop} {s0 a4 a5 a6 a7 a8 a9 a11 a12 : Sl} {prs ps : List D} {r r' : List Int} {a b : Int} {m : Option Nat} (hprs : ∀ x ∈ .tup [pd r a, pd r' b] :: prs, PrD x) (lr : prs.length ≤ 10) (lp : ps.length ≤ 1000) (hp : ∀ d ∈ ps, Fine 12 d)
    (k : rt (.bl true) m) :
    t40c ⟨nx, rt, bk, ct, ex⟩ [s0, .val (.hnd hdl), .own (.tup [pd r a, pd r' b] :: prs), .own ps, a4, a5, a6, a7, a8, a9, .val (pd [] 1), a11, a12] m := by
  unfold t40c
  have hne : PrD (.tup [pd [] 1, pd [] 1]) := ⟨0, 0, 1, [], [], [1], [], [], 1, 1, 1, 1, 1, rfl, P.nil, P.nil, P.one, dr_nil, dr_nil, Dr.one, P.nil.cong (by grind), P.nil.cong (by grind), PB.dec (by decide), PB.dec (by decide)⟩
  have hn1 : PrD (.tup [pd r a, pd [] 1]) := by
    obtain ⟨f1, g1, c, F, G, W, r1, r2, d, e, w, a1, b1, e1, hf, hg, hc, df, dg, dc, hr, hr', pr, pr'⟩ := hprs _ (List.mem_cons_self ..)
    have e1 : [pd r a, pd r' b] = [pd r1 a1, pd r2 b1] := by injection e1
    simp only [List.cons.injEq, and_true] at e1
    obtain ⟨rfl, rfl⟩ := pd_inj e1.1
    exact ⟨f1, 0, c, F, [], W, r, [], d, 1, w, a, 1, rfl, hf, P.nil, hc, df, dr_nil, dc, hr, P.nil.cong (by grind), pr, PB.dec (by decide)⟩
  repeat walk_at "k"
  refine v_ixL0 nl_pr ?_
  repeat walk_at "k"
  have nlp : D.nls (.tup [pd r a, pd r' b] :: prs) = true := nls_all.mpr fun x hx => (hprs x hx).nl
  refine v_addl (by simp; omega) nlp (nls_all.mpr fun x hx => by
    simp only [List.mem_cons, List.not_mem_nil, or_false] at hx
    rcases hx with rfl | rfl
    · exact hne.nl
    · exact hn1.nl) ?_
  repeat walk_at "k"
  refine v_kSeqL ?_
  refine v_kfor (fun it ρ m' => m' = m ∧ ∃ (a6 a7 a8 a11 a12 : Sl), ρ = [s0, .val (.hnd hdl), .own (.tup [pd r a, pd r' b] :: prs), .own ps, a4, a5, a6, a7, a8, a9, .val (pd [] 1), a11, a12] ∧ ∀ d ∈ it, PrD d) ⟨rfl, _, _, _, _, _, rfl, fun d hd => ?_⟩ (fun ρ m' H => ?_) fun t R ρ m' H => ?_
  · rcases List.mem_append.mp hd with hd | hd
    · exact hprs d hd
    · simp only [List.mem_cons, List.not_mem_nil, or_false] at hd
      rcases hd with rfl | rfl
      · exact hne
      · exact hn1
  · obtain ⟨rfl, a6, a7, a8, a11, a12, rfl, _⟩ := H
    repeat walk_at "k"
    exact k
  · obtain ⟨rfl, a6, a7, a8, a11, a12, rfl, al⟩ := H
    obtain ⟨f1, g1, c, F, G, W, r1, r2, d, e, w, a1, b1, rfl, hf, hg, hc, df, dg, dc, hr, hr', pr, pr'⟩ := al t (by simp)
    repeat walk_at "k"
    refine ask_papW hf hg hc df dg dc hr hr' fun t ht => ?_
    obtain ⟨x, u, v, s, w1, X, U, V, S, T, a', b2, c1, d1, e1, et, p1, p2, p3, p4, p5, z1, z2, z3, z4, z5, sh⟩ := PapW.parts (W := W) (d := d) (e := e) (w := w) ht
    have y1 := z1.mono (n' := 30) (a' := 2000) (by decide) (by decide)
    have y2 := z2.mono (n' := 30) (a' := 2000) (by decide) (by decide)
    have y3 := z3.mono (n' := 30) (a' := 2000) (by decide) (by decide)
    have y4 := z4.mono (n' := 30) (a' := 2000) (by decide) (by decide)
    have y5 := z5.mono (n' := 30) (a' := 2000) (by decide) (by decide)
    have ft : Fine 12 t := by rw [et]; exact (pap_fine y1 y2 y3 y4 y5).1.mono (by decide)
    repeat walk_at "k"
    refine v_catB (by simp; omega) ?_
    repeat walk_at "k"
    refine v_kSeqL ?_
    refine v_kfor (fun it ρ m2 => m2 = m' ∧ ∃ (a8 a11 a12 : Sl), ρ = [s0, .val (.hnd hdl), .own (.tup [pd r a, pd r' b] :: prs), .own ps, a4, a5, .val (pd r1 a1), .val (pd r2 b1), a8, a9, .val (pd [] 1), a11, a12] ∧ ∀ d ∈ it, Fine 12 d) ⟨rfl, _, _, _, rfl, fun d hd => ?_⟩ (fun ρ m2 H => ?_) fun t2 R2 ρ m2 H => ?_
    · rcases List.mem_append.mp hd with hd | hd
      · exact hp d hd
      · rw [List.mem_singleton.mp hd]; exact ft
    · obtain ⟨rfl, a8, a11, a12, rfl, _⟩ := H
      repeat walk_at "k"
      refine ask_papW hf hg hc df dg dc hr hr' fun t3 ht3 => ?_
      obtain rfl := PapW.uniq hf hg hc ht ht3
      repeat walk_at "k"
      refine ask_shc hr hr' pr pr' (ft.th (by decide)) (by decide) (by decide) fun bb hb => ?_
      obtain rfl := hb.mpr sh
      repeat walk_at "k"
      try ((with_reducible show @ite _ _ _ _ _); refine v_ifF ?_)
      repeat walk_at "k"
      exact ⟨rfl, _, _, _, _, _, rfl, fun d hd => al d (List.mem_cons_of_mem _ hd)⟩
    · obtain ⟨rfl, a8, a11, a12, rfl, ht2⟩ := H
      have tt := ht2 t2 (by simp)
      have sho : t2.shoT := tt.sho (by decide)
      repeat walk_at "k"
      refine v_reprT sho ?_
      repeat walk_at "k"
      refine ask_shc hr hr' pr pr' (tt.th (by decide)) (by decide) (by decide) fun bb hb => ?_
      repeat walk_at "k"
      refine v_kI (T := "bool") (ty := "bool") (b := true) rfl rfl ?_
      repeat walk_at "k"
      try ((with_reducible show @ite _ _ _ _ _); refine v_ifF ?_)
      repeat walk_at "k"
      refine ask_shl hr hr' pr pr' (tt.th (by decide)) (by decide) (by decide) fun bc hb' => ?_
      have ec : bb = bc := by
        cases bb <;> cases bc <;> first | rfl | exact absurd (hb.mpr (hb'.mp rfl)) (fun z => (nomatch z)) | exact absurd (hb'.mpr (hb.mp rfl)) (fun z => (nomatch z))
      subst ec
      refine v_nebb5 ?_
      rw [decide_eq_true rfl]
      repeat walk_at "k"
      try ((with_reducible show @ite _ _ _ _ _); refine v_ifF ?_)
      repeat walk_at "k"
      refine v_reprT sho ?_
      repeat walk_at "k"
      rw [decide_eq_true rfl]
      repeat walk_at "k"
      try ((with_reducible show @ite _ _ _ _ _); refine v_ifF ?_)
      repeat walk_at "k"
      exact ⟨rfl, _, _, _, rfl, fun d hd => ht2 d (List.mem_cons_of_mem _ hd)⟩
theorem rep_one {d : D} : rep 5 [d] = [d, d, d, d, d] := rfl
theorem vt40b {nx bk ct : En → Option Nat → Prop} {rt : D → Option Nat → Prop} {ex : Str → Option Nat → Prop} {s0 a4 a5 a6 a7 a8 a9 a10 a11 a12 : Sl} {prs ps : List D} {r r' : List Int} {a b : Int} {m : Option Nat} (hprs : ∀ x ∈ .tup [pd r a, pd r' b] :: prs, PrD x) (lr : prs.length ≤ 10) (lp : ps.length ≤ 900) (hp : ∀ d ∈ ps, Fine 12 d)
    (k : rt (.bl true) m) :
    t40b ⟨nx, rt, bk, ct, ex⟩ [s0, .val (.hnd hdl), .own (.tup [pd r a, pd r' b] :: prs), .own ps, a4, a5, a6, a7, a8, a9, a10, a11, a12] m := by
  unfold t40b
  have qq : PB 30 2000 r a ∧ PB 30 2000 r' b := by
    obtain ⟨f1, g1, c, F, G, W, r1, r2, d, e, w, a1, b1, e1, hf, hg, hc, df, dg, dc, hr, hr', pr, pr'⟩ := hprs _ (List.mem_cons_self ..)
    have e1 : [pd r a, pd r' b] = [pd r1 a1, pd r2 b1] := by injection e1
    simp only [List.cons.injEq, and_true] at e1
    obtain ⟨rfl, rfl⟩ := pd_inj e1.1
    obtain ⟨rfl, rfl⟩ := pd_inj e1.2
    exact ⟨pr.mono (by decide) (by decide), pr'.mono (by decide) (by decide)⟩
  repeat walk_at "k"
  refine ⟨by simp, by decide, by decide, by simp, by decide, ?_⟩
  rw [rep_one]
  repeat walk_at "k"
  refine v_repl (by decide) (by simp) (by decide) (by decide) ?_
  rw [rep_one]
  repeat walk_at "k"
  refine v_ixL0 nl_pr ?_
  repeat walk_at "k"
  refine v_ixL0 nl_pr ?_
  repeat walk_at "k"
  refine v_catB (by simp; omega) ?_
  repeat walk_at "k"
  refine v_appL (by with_unfolding_all exact rfl) ?_
  repeat walk_at "k"
  refine ⟨Nat.lt_of_lt_of_le (show _ < 16777216 by first | omega | (simp; omega)) (small_line (Nat.le_refl _)), ?_⟩
  have n0 : PB 30 2000 [] 1 := PB.dec (by decide)
  refine vt40c hprs lr (by simp; omega) (fun d hd => ?_) k
  simp only [List.mem_append, List.mem_cons, List.not_mem_nil, or_false] at hd
  rcases hd with (hd | rfl | rfl | rfl | rfl | rfl) | rfl
  · exact hp d hd
  · exact fine_non.mono (by decide)
  · exact fine_nil.mono (by decide)
  · exact (pap_fine n0 n0 n0 n0 n0).1.mono (by decide)
  · exact (pap_fine n0 n0 n0 n0 n0).2.mono (by decide)
  · exact (pap_fine (X := [1]) (a := 1) (PB.dec (by decide)) n0 n0 qq.1 qq.2).1.mono (by decide)
  · exact (pap_fine (X := []) (a := 1) (U := [1]) (b := 1) (V := [0, 1]) (c := 1) (S := [2]) (d := 3) (T := [1, 1]) (e := 1) n0 (PB.dec (by decide)) (PB.dec (by decide)) (PB.dec (by decide)) (PB.dec (by decide))).1.mono (by decide)
theorem vc_law : ∀ ds (m : Option Nat) Q Z, s_law ds m Q Z → okK [true] ds ∧ b_law { nx := fun _ m' => Q .non m', rt := Q, ex := Z } (st0 [true] ds 13) m := by
  rintro ds m Q Z ⟨ns, rfl, hl, rfl, k⟩
  refine ⟨⟨fun h => (nomatch h), trivial⟩, ?_⟩
  rw [b_law_eq]
  unfold b_law2
  repeat walk_at "k"
  refine ⟨ns, rfl, hl, rfl, ?_⟩
  have p50 : (2 : Nat) ^ 50 = 1125899906842624 := by decide
  rw [p50]
  repeat walk_at "k"
  refine v_kPO rfl rfl ?_
  repeat walk_at "k"
  refine v_kforR 2 (fun j ρ m' => ∃ (N : Nat) (prs ps : List D) (a4 a5 a6 a7 a8 a9 a10 a11 a12 : Sl), m' = some N ∧ 1000000 ≤ N + j * 1000 ∧ ρ = [.bor (.lst (zz ns)), .val (.hnd hdl), .own prs, .own ps, a4, a5, a6, a7, a8, a9, a10, a11, a12] ∧ prs.length = j ∧ (∀ x ∈ prs, PrD x) ∧ ps.length = 5 * j ∧ ∀ d ∈ ps, Fine 0 d) ⟨_, [], [], _, _, _, _, _, _, _, _, _, rfl, by omega, rfl, rfl, fun _ h => (nomatch h), rfl, fun _ h => (nomatch h)⟩ (fun ρ m' H => ?_) fun j ρ m' hj H => ?_
  rotate_left
  · obtain ⟨N, prs, ps, a4, a5, a6, a7, a8, a9, a10, a11, a12, rfl, hN, rfl, lr, hprs, lp, hps⟩ := H
    repeat walk_at "k"
    refine ⟨N, 3, rfl, rfl, by decide, by decide, by omega, fun c W w N1 hc dc h1 => ?_⟩
    repeat walk_at "k"
    refine ⟨N1, 4, rfl, rfl, by decide, by decide, by omega, fun f1 F d N2 hf df h2 => ?_⟩
    repeat walk_at "k"
    refine ⟨N2, 4, rfl, rfl, by decide, by decide, by omega, fun g1 G e N3 hg dg h3 => ?_⟩
    repeat walk_at "k"
    have dc : Dr 4 W w := ⟨Nat.le_trans dc.ln (by decide), dc.bd, dc.dd⟩
    have df : Dr 5 F d := ⟨Nat.le_trans df.ln (by decide), df.bd, df.dd⟩
    have dg : Dr 5 G e := ⟨Nat.le_trans dg.ln (by decide), dg.bd, dg.dd⟩
    refine v_drawN (by omega) (by decide) (by decide) fun w0 w1 w2 => ?_
    repeat walk_at "k"
    refine v_ifd (fun hd => ?_) fun hd => ?_
    · repeat walk_at "k"
      refine ⟨f1, c, F, d, W, w, 5, 200, 4, 200, rfl, hf, hc, df.pb, dc.pb, by decide, by decide, .inl (by decide), fun r a hr pr => ?_⟩
      repeat walk_at "k"
      refine ⟨g1, c, G, e, W, w, 5, 200, 4, 200, rfl, hg, hc, dg.pb, dc.pb, by decide, by decide, .inl (by decide), fun r' b hr' pr' => ?_⟩
      repeat walk_at "k"
      have hr := hr.cong (show f1 * c = c * f1 by grind)
      have hr' := hr'.cong (show g1 * c = c * g1 by grind)
      have pr : PB 20 500 r a := pr.mono (by decide) (by decide)
      have pr' : PB 20 500 r' b := pr'.mono (by decide) (by decide)
      refine vt40a hf hg hc df dg dc hr hr' pr pr' (by omega) (by omega) hps fun ps' a8 l1 h1' => ?_
      exact ⟨N3 - 1, _, ps', _, _, _, _, _, _, _, _, _, rfl, by omega, rfl, by simp; omega, fun x hx => (List.mem_append.mp hx).elim (hprs x) fun y => List.mem_singleton.mp y ▸ ⟨f1, g1, c, F, G, W, r, r', d, e, w, a, b, rfl, hf, hg, hc, df, dg, dc, hr, hr', pr, pr'⟩, by omega, h1'⟩
    · repeat walk_at "k"
      have hr := hf.cong (show f1 = 1 * f1 by grind)
      have hr' := hg.cong (show g1 = 1 * g1 by grind)
      have pr : PB 20 500 F d := df.pb.mono (by decide) (by decide)
      have pr' : PB 20 500 G e := dg.pb.mono (by decide) (by decide)
      refine vt40a hf hg P.one df dg Dr.one hr hr' pr pr' (by omega) (by omega) hps fun ps' a8 l1 h1' => ?_
      exact ⟨N3 - 1, _, ps', _, _, _, _, _, _, _, _, _, rfl, by omega, rfl, by simp; omega, fun x hx => (List.mem_append.mp hx).elim (hprs x) fun y => List.mem_singleton.mp y ▸ ⟨f1, g1, 1, F, G, [1], F, G, d, e, 1, d, e, rfl, hf, hg, P.one, df, dg, Dr.one, hr, hr', pr, pr'⟩, by omega, h1'⟩
  obtain ⟨N, prs, ps, a4, a5, a6, a7, a8, a9, a10, a11, a12, rfl, hN, rfl, lr, hprs, lp, hps⟩ := H
  repeat walk_at "k"
  refine v_kforR 6 (fun i ρ m' => ∃ (N' : Nat) (ps' : List D) (a4 a9 : Sl), m' = some N' ∧ N ≤ N' + i * 10000 ∧ ρ = [.bor (.lst (zz ns)), .val (.hnd hdl), .own prs, .own ps', a4, a5, a6, a7, a8, a9, a10, a11, a12] ∧ ps'.length = 10 + 2 * i ∧ ∀ d ∈ ps', Fine (2 * i) d) ⟨N, ps, _, _, rfl, by omega, rfl, by omega, hps⟩ (fun ρ m' H => ?_) fun i ρ m' hi H => ?_
  · obtain ⟨N', ps', a4, a9, rfl, hN', rfl, lp', hps'⟩ := H
    obtain ⟨x, prs, rfl⟩ : ∃ x l, prs = x :: l := by
      cases prs with
      | nil => cases lr
      | cons x l => exact ⟨x, l, rfl⟩
    obtain ⟨f1, g1, c, F, G, W, r, r', d, e, w, a, b, rfl, hx⟩ := hprs x (by simp)
    simp only [List.length_cons] at lr
    exact vt40b hprs (by omega) (by omega) hps' (k _)
  · obtain ⟨N', ps', a4, a9, rfl, hN', rfl, lp', hps'⟩ := H
    repeat walk_at "k"
    refine v_drawN (by omega) (by omega) (by omega) fun c c0 c1 => ?_
    refine v_ixB c0 (by omega) fun d hd => ?_
    have td := hps' d (List.mem_of_getElem? hd)
    repeat walk_at "k"
    refine ask_bent td (by omega) (by omega) fun t1 N1 ht1 h1 => ?_
    repeat walk_at "k"
    refine v_appL (by with_unfolding_all exact rfl) ?_
    repeat walk_at "k"
    refine ask_bent ht1 (by omega) (by omega) fun t2 N2 ht2 h2 => ?_
    repeat walk_at "k"
    refine v_drawN (by omega) (by decide) (by decide) fun w w0 w1 => ?_
    refine v_ixmem w0 (by simpa using w1) fun d' hd' => ?_
    have fd : Fine (2 * (i + 1)) d' := by
      simp only [List.mem_cons, List.not_mem_nil, or_false] at hd'
      rcases hd' with rfl | rfl
      · exact ht1.mono (by omega)
      · exact ht2.mono (by omega)
    refine ⟨Nat.lt_of_lt_of_le (show _ < 16777216 by first | omega | (simp; omega)) (small_line (Nat.le_refl _)), ?_⟩
    repeat walk_at "k"
    refine v_appL (by with_unfolding_all exact rfl) ?_
    repeat walk_at "k"
    have on : oddN 3 ≤ 5000 := by decide
    refine ask_odd (by omega) fun t3 N4 ht3 h3 => ?_
    refine ⟨Nat.lt_of_lt_of_le (show _ < 16777216 by first | omega | (simp; omega)) (small_line (Nat.le_refl _)), ?_⟩
    exact ⟨N4, _, _, _, rfl, by omega, rfl, by simp; omega, fun x hx => by
      simp only [List.mem_append, List.mem_cons, List.not_mem_nil, or_false] at hx
      rcases hx with (hx | rfl) | rfl
      · exact (hps' x hx).mono (by omega)
      · exact fd
      · exact ht3.mono (by omega)⟩
end RR
namespace RR
open PySem PySem.Spec PyProof.Rows L2
section
variable {P : Program} {w : World} {K : PySem.W.Frag} {mg : Str → Option Value} {base : Heap} {W : Wd}
abbrev st__law_folded : Stmt := topS 45
def N__law_folded : List Str := ["_law_script", "_law_found", "_law_k", "_law_cell"]
theorem sc__law_folded : FnScope N__law_folded ["_law_script"] (defScope st__law_folded) := ⟨rfl, rfl, rfl, by decide +kernel, rfl, by decide +kernel, by decide +kernel⟩
theorem w__law_folded (m_enumerate : mg "enumerate" = none) (m_range : mg "range" = none) : BodyJ P w K mg base W 0 N__law_folded "_law_folded" st__law_folded b__law_folded := by
  intro f cdv A outer s H E F0 hr
  have nd : N__law_folded.Nodup := by decide +kernel
  have tk := takes_of (X := XOf P w K mg base N__law_folded "_law_folded" (defScope st__law_folded) f cdv A outer s H E) rfl rfl rfl rfl
  have hp := passes_of (X := XOf P w K mg base N__law_folded "_law_folded" (defScope st__law_folded) f cdv A outer s H E) rfl
  exact (jls_of (jss_cons (js_setLcO 1 rfl nd (own := [("_law_k", 2)]) (ws := [2]) (ji_range1 (st := false) m_range (ja_cons ncl_w (j_int).fw ja_nil)) (blkOk_by (N := N__law_folded) (sc := defScope st__law_folded) (by decide +kernel)) (fun _ _ _ _ _ => (jg_name 2 nd)) (fun _ _ _ _ _ => jts_nil) (fun _ _ _ _ _ => ((j_bind okd_add (j_int).fd ((j_var 2)).sd)).sf) (by decide))
    (jss_cons (js_for hp rfl (ji_enumb 0 m_enumerate) (jg_tup rfl (jgs_cons (jg_name 2 nd) (jgs_cons (jg_name 3 nd) jgs_nil)))
      (jss_one (js_seti 1 ((j_bin ok_mod ((j_bind okd_add ((j_bind okd_mul ((j_ixw (j_own 1) ((j_bin ok_mod ((j_var 2)).sw (j_int).fw)).fw)).sd (j_int).fd)).fd ((j_var 3)).sd)).fw (j_int).fw)).sf ((j_bin ok_mod ((j_var 2)).sw (j_int).fw)).fw)))
    (jss_cons (js_for hp rfl (ji_range2 (st := true) m_range (ja_cons ncl_w (j_int).fw (ja_cons ncl_w (j_int).fw ja_nil))) (jg_name 2 nd)
      (jss_one (js_seti 1 ((j_bin ok_mod ((j_bind okd_add ((j_ixw (j_own 1) ((j_var 2)).sw)).sd ((j_bind okd_mul ((j_ixw (j_own 1) ((j_bin ok_sub ((j_var 2)).sw (j_int).fw)).fw)).sd (j_int).fd)).fd)).fw (j_int).fw)).sf ((j_var 2)).sw)))
    (jss_one (js_ret (j_ownr 1)))))))
abbrev st__law_common : Stmt := topS 51
def N__law_common : List Str := ["_law_numbers", "_law_found", "_law_number", "_law_one", "_law_other"]
theorem sc__law_common : FnScope N__law_common ["_law_numbers"] (defScope st__law_common) := ⟨rfl, rfl, rfl, by decide +kernel, rfl, by decide +kernel, by decide +kernel⟩
theorem w__law_common (m_abs : mg "abs" = none) : BodyJ P w K mg base W 0 N__law_common "_law_common" st__law_common b__law_common := by
  intro f cdv A outer s H E F0 hr
  have nd : N__law_common.Nodup := by decide +kernel
  have tk := takes_of (X := XOf P w K mg base N__law_common "_law_common" (defScope st__law_common) f cdv A outer s H E) rfl rfl rfl rfl
  have hp := passes_of (X := XOf P w K mg base N__law_common "_law_common" (defScope st__law_common) f cdv A outer s H E) rfl
  exact (jls_of (jss_cons (js_set 1 nd (j_int).sf)
    (jss_cons (js_for hp rfl (ji_bor 0) (jg_name 2 nd)
      (jss_cons (js_par 3 4 rfl nd (ja_cons ncl_s (j_var 1) (ja_cons ncl_s ((j_callB ca_abs m_abs (by decide +kernel) (ja_cons ncl_w ((j_var 2)).sw ja_nil))).sf ja_nil)))
    (jss_cons (js_while hp (jt_cmp ok_gt ((j_var 4)).sw (j_int).fw)
      (jss_one (js_par 3 4 rfl nd (ja_cons ncl_s (j_var 4) (ja_cons ncl_s ((j_bin ok_mod ((j_var 3)).sw ((j_var 4)).sw)).sf ja_nil)))))
    (jss_one (js_set 1 nd (j_var 3))))))
    (jss_one (js_ret ((j_var 1)).sr)))))
abbrev st__law_poly : Stmt := topS 52
def N__law_poly : List Str := ["_law_row", "_law_below", "_law_part", "_law_number"]
theorem sc__law_poly : FnScope N__law_poly ["_law_row", "_law_below"] (defScope st__law_poly) := ⟨rfl, rfl, rfl, by decide +kernel, rfl, by decide +kernel, by decide +kernel⟩
theorem w__law_poly (m_abs : mg "abs" = none) (m_list : mg "list" = none) (m_tuple : mg "tuple" = none) (h__law_common : FD P w K mg base W 1 "_law_common" [] s__law_common) : BodyJ P w K mg base W 1 N__law_poly "_law_poly" st__law_poly b__law_poly := by
  intro f cdv A outer s H E F0 hr
  have nd : N__law_poly.Nodup := by decide +kernel
  have tk := takes_of (X := XOf P w K mg base N__law_poly "_law_poly" (defScope st__law_poly) f cdv A outer s H E) rfl rfl rfl rfl
  have hp := passes_of (X := XOf P w K mg base N__law_poly "_law_poly" (defScope st__law_poly) f cdv A outer s H E) rfl
  exact (jls_of (jss_cons (js_set 2 nd ((j_if (jt_cmp (ok_ne hr.units) ((j_var 0)).sw ((j_tup ja_nil)).fw) (j_call h__law_common (hr.mono (by decide)) tk (by rfl) (ja_cons ncl_w ((j_bind okd_add ((j_callTy ca_list m_list (by decide +kernel) (ja_cons ncl_w ((j_var 0)).sw ja_nil))).fd ((j_lst (ja_cons ncl_s (j_var 1) ja_nil))).fd)).fw ja_nil)) (j_callB ca_abs m_abs (by decide +kernel) (ja_cons ncl_w ((j_var 1)).sw ja_nil)))).sf)
    (jss_cons (js_set 2 nd (j_if (jt_cmp ok_gt ((j_var 1)).sw (j_int).fw) (j_var 2) ((j_bin ok_sub (j_int).fw ((j_var 2)).sw)).sf))
    (jss_one (js_ret ((j_tup (ja_cons ncl_s ((j_callTy ca_tuple m_tuple (by decide +kernel) (ja_cons ncl_w ((j_lc rfl nd (own := [("_law_number", 3)]) (ws := [3]) (JI.weak (ji_seq (j_var 0))) (blkOk_by (N := N__law_poly) (sc := defScope st__law_poly) (by decide +kernel)) (fun _ _ _ _ _ => (jg_name 3 nd)) (fun _ _ _ _ _ => jts_nil) (fun _ _ _ _ _ => ((j_bin ok_fdiv ((j_var 3)).sw ((j_var 2)).sw)).sf) (by decide))).fw ja_nil))).sf (ja_cons ncl_s ((j_bin ok_fdiv ((j_var 1)).sw ((j_var 2)).sw)).sf ja_nil)))).fr)))))
abbrev st__law_cut : Stmt := topS 48
def N__law_cut : List Str := ["_law_numbers", "_law_size"]
theorem sc__law_cut : FnScope N__law_cut ["_law_numbers"] (defScope st__law_cut) := ⟨rfl, rfl, rfl, by decide +kernel, rfl, by decide +kernel, by decide +kernel⟩
theorem w__law_cut (m_len : mg "len" = none) (m_tuple : mg "tuple" = none) : BodyJ P w K mg base W 0 N__law_cut "_law_cut" st__law_cut b__law_cut := by
  intro f cdv A outer s H E F0 hr
  have nd : N__law_cut.Nodup := by decide +kernel
  have tk := takes_of (X := XOf P w K mg base N__law_cut "_law_cut" (defScope st__law_cut) f cdv A outer s H E) rfl rfl rfl rfl
  have hp := passes_of (X := XOf P w K mg base N__law_cut "_law_cut" (defScope st__law_cut) f cdv A outer s H E) rfl
  exact (jls_of (jss_cons (js_set 1 nd ((j_callB ca_len m_len (by decide +kernel) (ja_cons ncl_w (j_bor 0) ja_nil))).sf)
    (jss_cons (js_while hp (JW.t (jw_and (jt_cmp ok_gt ((j_var 1)).sw (j_int).fw) (jw_and1 (jt_cmp (ok_eq hr.units) ((j_ixw (j_bor 0) ((j_bin ok_sub ((j_var 1)).sw (j_int).fw)).fw)).sw (j_int).fw))))
      (jss_one (js_set 1 nd ((j_bin ok_sub ((j_var 1)).sw (j_int).fw)).sf)))
    (jss_one (js_ret ((j_callTy ca_tuple m_tuple (by decide +kernel) (ja_cons ncl_w ((j_sl (j_bor 0) jo_none (jo_some ((j_var 1)).sw))).fw ja_nil))).fr)))))
abbrev st__law_mixed : Stmt := topS 44
def N__law_mixed : List Str := ["_law_cell", "_law_k", "_law_number"]
theorem sc__law_mixed : FnScope N__law_mixed ["_law_cell", "_law_k"] (defScope st__law_mixed) := ⟨rfl, rfl, rfl, by decide +kernel, rfl, by decide +kernel, by decide +kernel⟩
theorem w__law_mixed  : BodyJ P w K mg base W 0 N__law_mixed "_law_mixed" st__law_mixed b__law_mixed := by
  intro f cdv A outer s H E F0 hr
  have nd : N__law_mixed.Nodup := by decide +kernel
  have tk := takes_of (X := XOf P w K mg base N__law_mixed "_law_mixed" (defScope st__law_mixed) f cdv A outer s H E) rfl rfl rfl rfl
  have hp := passes_of (X := XOf P w K mg base N__law_mixed "_law_mixed" (defScope st__law_mixed) f cdv A outer s H E) rfl
  exact (jls_of (jss_cons (js_set 2 nd ((j_bind okd_add ((j_bind okd_add ((j_bin ok_mod ((j_bind okd_mul ((j_bind okd_mul ((j_var 0)).sd ((j_bind okd_add (j_int).fd ((j_bind okd_mul (j_int).fd ((j_var 1)).sd)).fd)).fd)).fd (j_int).fd)).fw (j_int).fw)).fd ((j_bind okd_mul ((j_bind okd_mul (j_int).fd ((j_var 1)).sd)).fd ((j_var 1)).sd)).fd)).fd ((j_bind okd_mul (j_int).fd ((j_var 1)).sd)).fd)).sf)
    (jss_one (js_ret ((j_bin ok_fdiv ((j_bin ok_mod ((j_bind okd_mul ((j_var 2)).sd (j_int).fd)).fw (j_int).fw)).fw (j_int).fw)).fr))))
abbrev st__law_small : Stmt := topS 55
def N__law_small : List Str := ["_law_m", "_law_size"]
theorem sc__law_small : FnScope N__law_small ["_law_m", "_law_size"] (defScope st__law_small) := ⟨rfl, rfl, rfl, by decide +kernel, rfl, by decide +kernel, by decide +kernel⟩
theorem w__law_small (h__law_draw : FD P w K mg base DrW 2 "_law_draw" [] s__law_draw) : BodyJ P w K mg base DrW 2 N__law_small "_law_small" st__law_small b__law_small := by
  intro f cdv A outer s H E F0 hr
  have nd : N__law_small.Nodup := by decide +kernel
  have tk := takes_of (X := XOf P w K mg base N__law_small "_law_small" (defScope st__law_small) f cdv A outer s H E) rfl rfl rfl rfl
  have hp := passes_of (X := XOf P w K mg base N__law_small "_law_small" (defScope st__law_small) f cdv A outer s H E) rfl
  exact (jls_of (jss_one (js_ret ((j_bin ok_sub ((j_call h__law_draw (hr.mono (by decide)) tk (by rfl) (ja_cons ncl_w ((j_var 0)).sw (ja_cons ncl_w ((j_bind okd_add ((j_bind okd_mul (j_int).fd ((j_var 1)).sd)).fd (j_int).fd)).fw ja_nil)))).fw ((j_var 1)).sw)).fr)))
abbrev st__law_small_row : Stmt := topS 56
def N__law_small_row : List Str := ["_law_m", "_law_most", "_law_size", "_law_k"]
theorem sc__law_small_row : FnScope N__law_small_row ["_law_m", "_law_most", "_law_size"] (defScope st__law_small_row) := ⟨rfl, rfl, rfl, by decide +kernel, rfl, by decide +kernel, by decide +kernel⟩
theorem w__law_small_row (m_range : mg "range" = none) (h__law_cut : FD P w K mg base DrW 1 "_law_cut" [] s__law_cut) (h__law_draw : FD P w K mg base DrW 2 "_law_draw" [] s__law_draw) (h__law_small : FD P w K mg base DrW 3 "_law_small" [] s__law_small) : BodyJ P w K mg base DrW 3 N__law_small_row "_law_small_row" st__law_small_row b__law_small_row := by
  intro f cdv A outer s H E F0 hr
  have nd : N__law_small_row.Nodup := by decide +kernel
  have tk := takes_of (X := XOf P w K mg base N__law_small_row "_law_small_row" (defScope st__law_small_row) f cdv A outer s H E) rfl rfl rfl rfl
  have hp := passes_of (X := XOf P w K mg base N__law_small_row "_law_small_row" (defScope st__law_small_row) f cdv A outer s H E) rfl
  exact (jls_of (jss_one (js_ret ((j_call h__law_cut (hr.mono (by decide)) tk (by rfl) (ja_cons ncl_w ((j_lc rfl nd (own := [("_law_k", 3)]) (ws := [3]) (ji_range1 (st := false) m_range (ja_cons ncl_w ((j_call h__law_draw (hr.mono (by decide)) tk (by rfl) (ja_cons ncl_w ((j_var 0)).sw (ja_cons ncl_w ((j_bind okd_add ((j_var 1)).sd (j_int).fd)).fw ja_nil)))).fw ja_nil)) (blkOk_by (N := N__law_small_row) (sc := defScope st__law_small_row) (by decide +kernel)) (fun _ _ _ _ _ => (jg_name 3 nd)) (fun _ _ _ _ _ => jts_nil) (fun _ _ _ _ _ => ((j_call h__law_small (hr.mono (by decide)) takes0 (by rfl) (ja_cons ncl_w ((j_var 0)).sw (ja_cons ncl_w ((j_var 2)).sw ja_nil)))).sf) (by decide))).fw ja_nil))).fr)))
abbrev st__law_small_poly : Stmt := topS 60
def N__law_small_poly : List Str := ["_law_m", "_law_most"]
theorem sc__law_small_poly : FnScope N__law_small_poly ["_law_m", "_law_most"] (defScope st__law_small_poly) := ⟨rfl, rfl, rfl, by decide +kernel, rfl, by decide +kernel, by decide +kernel⟩
theorem w__law_small_poly (h__law_draw : FD P w K mg base DrW 2 "_law_draw" [] s__law_draw) (h__law_poly : FD P w K mg base DrW 2 "_law_poly" [] s__law_poly) (h__law_small_row : FD P w K mg base DrW 4 "_law_small_row" [] s__law_small_row) : BodyJ P w K mg base DrW 4 N__law_small_poly "_law_small_poly" st__law_small_poly b__law_small_poly := by
  intro f cdv A outer s H E F0 hr
  have nd : N__law_small_poly.Nodup := by decide +kernel
  have tk := takes_of (X := XOf P w K mg base N__law_small_poly "_law_small_poly" (defScope st__law_small_poly) f cdv A outer s H E) rfl rfl rfl rfl
  have hp := passes_of (X := XOf P w K mg base N__law_small_poly "_law_small_poly" (defScope st__law_small_poly) f cdv A outer s H E) rfl
  exact (jls_of (jss_one (js_ret ((j_call h__law_poly (hr.mono (by decide)) tk (by rfl) (ja_cons ncl_w ((j_call h__law_small_row (hr.mono (by decide)) tk (by rfl) (ja_cons ncl_w ((j_var 0)).sw (ja_cons ncl_w ((j_var 1)).sw (ja_cons ncl_w (j_int).fw ja_nil))))).fw (ja_cons ncl_w ((j_ix ((j_lst (ja_cons ncl_s (j_int).sf (ja_cons ncl_s (j_int).sf (ja_cons ncl_s (j_int).sf (ja_cons ncl_s (j_int).sf (ja_cons ncl_s (j_int).sf (ja_cons ncl_s (j_int).sf ja_nil)))))))).sf ((j_call h__law_draw (hr.mono (by decide)) tk (by rfl) (ja_cons ncl_w ((j_var 0)).sw (ja_cons ncl_w (j_int).fw ja_nil)))).fw)).sw ja_nil)))).fr)))
abbrev st_common : Stmt := topS 5
def N_common : List Str := ["one", "other"]
theorem sc_common : FnScope N_common ["one", "other"] (defScope st_common) := ⟨rfl, rfl, rfl, by decide +kernel, rfl, by decide +kernel, by decide +kernel⟩
theorem w_common (m_abs : mg "abs" = none) : BodyJ P w K mg base W 0 N_common "common" st_common b_numbers_common := by
  intro f cdv A outer s H E F0 hr
  have nd : N_common.Nodup := by decide +kernel
  have tk := takes_of (X := XOf P w K mg base N_common "common" (defScope st_common) f cdv A outer s H E) rfl rfl rfl rfl
  have hp := passes_of (X := XOf P w K mg base N_common "common" (defScope st_common) f cdv A outer s H E) rfl
  exact (jls_of (jss_cons (js_par 0 1 rfl nd (ja_cons ncl_s ((j_callB ca_abs m_abs (by decide +kernel) (ja_cons ncl_w ((j_var 0)).sw ja_nil))).sf (ja_cons ncl_s ((j_callB ca_abs m_abs (by decide +kernel) (ja_cons ncl_w ((j_var 1)).sw ja_nil))).sf ja_nil)))
    (jss_cons (js_while hp (jt_cmp ok_gt ((j_var 1)).sw (j_int).fw)
      (jss_one (js_par 0 1 rfl nd (ja_cons ncl_s (j_var 1) (ja_cons ncl_s ((j_bin ok_mod ((j_var 0)).sw ((j_var 1)).sw)).sf ja_nil)))))
    (jss_one (js_ret ((j_var 0)).sr)))))
abbrev st_fraction : Stmt := topS 7
def N_fraction : List Str := ["n", "d", "part"]
theorem sc_fraction : FnScope N_fraction ["n", "d"] (defScope st_fraction) := ⟨rfl, rfl, rfl, by decide +kernel, rfl, by decide +kernel, by decide +kernel⟩
theorem w_fraction (x_ByNought : ExcF K mg "ByNought") (h_common : FD P w K mg base W 1 "common" [] s_numbers_common) : BodyJ P w K mg base W 1 N_fraction "fraction" st_fraction b_fractions_fraction := by
  intro f cdv A outer s H E F0 hr
  have nd : N_fraction.Nodup := by decide +kernel
  have tk := takes_of (X := XOf P w K mg base N_fraction "fraction" (defScope st_fraction) f cdv A outer s H E) rfl rfl rfl rfl
  have hp := passes_of (X := XOf P w K mg base N_fraction "fraction" (defScope st_fraction) f cdv A outer s H E) rfl
  exact (jls_of (jss_cons (js_if (jt_cmp (ok_eq hr.units) ((j_var 1)).sw (j_int).fw)
      (jss_one (js_raise rfl tk x_ByNought))
      jss_nil)
    (jss_cons (js_set 2 nd ((j_call h_common (hr.mono (by decide)) tk (by rfl) (ja_cons ncl_w ((j_var 0)).sw (ja_cons ncl_w ((j_var 1)).sw ja_nil)))).sf)
    (jss_cons (js_set 2 nd (j_if (jt_cmp ok_gt ((j_var 1)).sw (j_int).fw) (j_var 2) ((j_bin ok_sub (j_int).fw ((j_var 2)).sw)).sf))
    (jss_one (js_ret ((j_tup (ja_cons ncl_s ((j_bin ok_fdiv ((j_var 0)).sw ((j_var 2)).sw)).sf (ja_cons ncl_s ((j_bin ok_fdiv ((j_var 1)).sw ((j_var 2)).sw)).sf ja_nil)))).fr))))))
abbrev st_over : Stmt := topS 8
def N_over : List Str := ["one", "other"]
theorem sc_over : FnScope N_over ["one", "other"] (defScope st_over) := ⟨rfl, rfl, rfl, by decide +kernel, rfl, by decide +kernel, by decide +kernel⟩
theorem w_over (h_fraction : FD P w K mg base W 2 "fraction" [] s_fractions_fraction) : BodyJ P w K mg base W 2 N_over "over" st_over b_fractions_over := by
  intro f cdv A outer s H E F0 hr
  have nd : N_over.Nodup := by decide +kernel
  have tk := takes_of (X := XOf P w K mg base N_over "over" (defScope st_over) f cdv A outer s H E) rfl rfl rfl rfl
  have hp := passes_of (X := XOf P w K mg base N_over "over" (defScope st_over) f cdv A outer s H E) rfl
  exact (jls_of (jss_one (js_ret ((j_call h_fraction (hr.mono (by decide)) tk (by rfl) (ja_cons ncl_w ((j_bind okd_mul ((j_ix (j_var 0) (j_int).fw)).sd ((j_ix (j_var 1) (j_int).fw)).sd)).fw (ja_cons ncl_w ((j_bind okd_mul ((j_ix (j_var 0) (j_int).fw)).sd ((j_ix (j_var 1) (j_int).fw)).sd)).fw ja_nil)))).fr)))
abbrev st_last_of : Stmt := topS 37
def N_last_of : List Str := ["some"]
theorem sc_last_of : FnScope N_last_of ["some"] (defScope st_last_of) := ⟨rfl, rfl, rfl, by decide +kernel, rfl, by decide +kernel, by decide +kernel⟩
theorem w_last_of (h_fraction : FD P w K mg base W 2 "fraction" [] s_fractions_fraction) : BodyJ P w K mg base W 2 N_last_of "last_of" st_last_of b_quotients_last_of := by
  intro f cdv A outer s H E F0 hr
  have nd : N_last_of.Nodup := by decide +kernel
  have tk := takes_of (X := XOf P w K mg base N_last_of "last_of" (defScope st_last_of) f cdv A outer s H E) rfl rfl rfl rfl
  have hp := passes_of (X := XOf P w K mg base N_last_of "last_of" (defScope st_last_of) f cdv A outer s H E) rfl
  exact (jls_of (jss_one (js_ret ((j_call h_fraction (hr.mono (by decide)) tk (by rfl) (ja_cons ncl_w ((j_ix (j_ix (j_var 0) (j_int).fw) ((j_neg (j_int).fw)).fw)).sw (ja_cons ncl_w ((j_ix (j_var 0) (j_int).fw)).sw ja_nil)))).fr)))
abbrev st_content : Stmt := topS 19
def N_content : List Str := ["row", "found", "number"]
theorem sc_content : FnScope N_content ["row"] (defScope st_content) := ⟨rfl, rfl, rfl, by decide +kernel, rfl, by decide +kernel, by decide +kernel⟩
theorem w_content (h_common : FD P w K mg base W 1 "common" [] s_numbers_common) : BodyJ P w K mg base W 1 N_content "content" st_content b_rows_content := by
  intro f cdv A outer s H E F0 hr
  have nd : N_content.Nodup := by decide +kernel
  have tk := takes_of (X := XOf P w K mg base N_content "content" (defScope st_content) f cdv A outer s H E) rfl rfl rfl rfl
  have hp := passes_of (X := XOf P w K mg base N_content "content" (defScope st_content) f cdv A outer s H E) rfl
  exact (jls_of (jss_cons (js_set 1 nd (j_int).sf)
    (jss_cons (js_for hp rfl (ji_seq (j_var 0)) (jg_name 2 nd)
      (jss_one (js_set 1 nd ((j_call h_common (hr.mono (by decide)) tk (by rfl) (ja_cons ncl_w ((j_var 1)).sw (ja_cons ncl_w ((j_var 2)).sw ja_nil)))).sf)))
    (jss_one (js_ret ((j_var 1)).sr)))))
abbrev st_poly : Stmt := topS 24
def N_poly : List Str := ["row", "d", "part", "number"]
theorem sc_poly : FnScope N_poly ["row", "d"] (defScope st_poly) := ⟨rfl, rfl, rfl, by decide +kernel, rfl, by decide +kernel, by decide +kernel⟩
theorem w_poly (m_tuple : mg "tuple" = none) (x_ByNought : ExcF K mg "ByNought") (h_common : FD P w K mg base W 1 "common" [] s_numbers_common) (h_content : FD P w K mg base W 2 "content" [] s_rows_content) : BodyJ P w K mg base W 2 N_poly "poly" st_poly b_polys_poly := by
  intro f cdv A outer s H E F0 hr
  have nd : N_poly.Nodup := by decide +kernel
  have tk := takes_of (X := XOf P w K mg base N_poly "poly" (defScope st_poly) f cdv A outer s H E) rfl rfl rfl rfl
  have hp := passes_of (X := XOf P w K mg base N_poly "poly" (defScope st_poly) f cdv A outer s H E) rfl
  exact (jls_of (jss_cons (js_if (jt_cmp (ok_eq hr.units) ((j_var 1)).sw (j_int).fw)
      (jss_one (js_raise rfl tk x_ByNought))
      jss_nil)
    (jss_cons (js_set 2 nd ((j_call h_common (hr.mono (by decide)) tk (by rfl) (ja_cons ncl_w ((j_call h_content (hr.mono (by decide)) tk (by rfl) (ja_cons ncl_w ((j_var 0)).sw ja_nil))).fw (ja_cons ncl_w ((j_var 1)).sw ja_nil)))).sf)
    (jss_cons (js_set 2 nd (j_if (jt_cmp ok_gt ((j_var 1)).sw (j_int).fw) (j_var 2) ((j_bin ok_sub (j_int).fw ((j_var 2)).sw)).sf))
    (jss_one (js_ret ((j_tup (ja_cons ncl_s ((j_callTy ca_tuple m_tuple (by decide +kernel) (ja_cons ncl_w ((j_lc rfl nd (own := [("number", 3)]) (ws := [3]) (JI.weak (ji_seq (j_var 0))) (blkOk_by (N := N_poly) (sc := defScope st_poly) (by decide +kernel)) (fun _ _ _ _ _ => (jg_name 3 nd)) (fun _ _ _ _ _ => jts_nil) (fun _ _ _ _ _ => ((j_bin ok_fdiv ((j_var 3)).sw ((j_var 2)).sw)).sf) (by decide))).fw ja_nil))).sf (ja_cons ncl_s ((j_bin ok_fdiv ((j_var 1)).sw ((j_var 2)).sw)).sf ja_nil)))).fr))))))
abbrev st_row_of : Stmt := topS 11
def N_row_of : List Str := ["numbers", "size"]
theorem sc_row_of : FnScope N_row_of ["numbers"] (defScope st_row_of) := ⟨rfl, rfl, rfl, by decide +kernel, rfl, by decide +kernel, by decide +kernel⟩
theorem w_row_of (m_len : mg "len" = none) (m_tuple : mg "tuple" = none) : BodyJ P w K mg base W 0 N_row_of "row_of" st_row_of b_rows_row_of := by
  intro f cdv A outer s H E F0 hr
  have nd : N_row_of.Nodup := by decide +kernel
  have tk := takes_of (X := XOf P w K mg base N_row_of "row_of" (defScope st_row_of) f cdv A outer s H E) rfl rfl rfl rfl
  have hp := passes_of (X := XOf P w K mg base N_row_of "row_of" (defScope st_row_of) f cdv A outer s H E) rfl
  exact (jls_of (jss_cons (js_set 1 nd ((j_callB ca_len m_len (by decide +kernel) (ja_cons ncl_w (j_bor 0) ja_nil))).sf)
    (jss_cons (js_while hp (JW.t (jw_and (jt_cmp ok_gt ((j_var 1)).sw (j_int).fw) (jw_and1 (jt_cmp (ok_eq hr.units) ((j_ixw (j_bor 0) ((j_bin ok_sub ((j_var 1)).sw (j_int).fw)).fw)).sw (j_int).fw))))
      (jss_one (js_aug 1 ip_sub nd (j_int).fw)))
    (jss_one (js_ret ((j_callTy ca_tuple m_tuple (by decide +kernel) (ja_cons ncl_w ((j_sl (j_bor 0) jo_none (jo_some ((j_var 1)).sw))).fw ja_nil))).fr)))))
abbrev st_scaled_rows : Stmt := topS 17
def N_scaled_rows : List Str := ["row", "number", "one"]
theorem sc_scaled_rows : FnScope N_scaled_rows ["row", "number"] (defScope st_scaled_rows) := ⟨rfl, rfl, rfl, by decide +kernel, rfl, by decide +kernel, by decide +kernel⟩
theorem w_scaled_rows (h_row_of : FD P w K mg base W 1 "row_of" [] s_rows_row_of) : BodyJ P w K mg base W 1 N_scaled_rows "scaled" st_scaled_rows b_rows_scaled := by
  intro f cdv A outer s H E F0 hr
  have nd : N_scaled_rows.Nodup := by decide +kernel
  have tk := takes_of (X := XOf P w K mg base N_scaled_rows "scaled" (defScope st_scaled_rows) f cdv A outer s H E) rfl rfl rfl rfl
  have hp := passes_of (X := XOf P w K mg base N_scaled_rows "scaled" (defScope st_scaled_rows) f cdv A outer s H E) rfl
  exact (jls_of (jss_one (js_ret ((j_call h_row_of (hr.mono (by decide)) tk (by rfl) (ja_cons ncl_w ((j_lc rfl nd (own := [("one", 2)]) (ws := [2]) (JI.weak (ji_seq (j_var 0))) (blkOk_by (N := N_scaled_rows) (sc := defScope st_scaled_rows) (by decide +kernel)) (fun _ _ _ _ _ => (jg_name 2 nd)) (fun _ _ _ _ _ => jts_nil) (fun _ _ _ _ _ => ((j_bind okd_mul ((j_var 1)).sd ((j_var 2)).sd)).sf) (by decide))).fw ja_nil))).fr)))
abbrev st_scaled_polys : Stmt := topS 30
def N_scaled_polys : List Str := ["one", "number"]
theorem sc_scaled_polys : FnScope N_scaled_polys ["one", "number"] (defScope st_scaled_polys) := ⟨rfl, rfl, rfl, by decide +kernel, rfl, by decide +kernel, by decide +kernel⟩
theorem w_scaled_polys (h_poly : FD P w K mg base W 3 "poly" [] s_polys_poly) (h_scaled_rows : FD P w K mg base W 2 "scaled_rows" [] s_rows_scaled) : BodyJ P w K mg base W 3 N_scaled_polys "scaled" st_scaled_polys b_polys_scaled := by
  intro f cdv A outer s H E F0 hr
  have nd : N_scaled_polys.Nodup := by decide +kernel
  have tk := takes_of (X := XOf P w K mg base N_scaled_polys "scaled" (defScope st_scaled_polys) f cdv A outer s H E) rfl rfl rfl rfl
  have hp := passes_of (X := XOf P w K mg base N_scaled_polys "scaled" (defScope st_scaled_polys) f cdv A outer s H E) rfl
  exact (jls_of (jss_one (js_ret ((j_call h_poly (hr.mono (by decide)) tk (by rfl) (ja_cons ncl_w ((j_call h_scaled_rows (hr.mono (by decide)) tk (by rfl) (ja_cons ncl_w ((j_ix (j_var 0) (j_int).fw)).sw (ja_cons ncl_w ((j_ix (j_var 1) (j_int).fw)).sw ja_nil)))).fw (ja_cons ncl_w ((j_bind okd_mul ((j_ix (j_var 0) (j_int).fw)).sd ((j_ix (j_var 1) (j_int).fw)).sd)).fw ja_nil)))).fr)))
abbrev st_divided : Stmt := topS 38
def N_divided : List Str := ["some", "other", "row", "below", "many", "scale", "turn", "rest", "whole", "at", "part", "k", "number"]
theorem sc_divided : FnScope N_divided ["some", "other"] (defScope st_divided) := ⟨rfl, rfl, rfl, by decide +kernel, rfl, by decide +kernel, by decide +kernel⟩
theorem w_divided (m_enumerate : mg "enumerate" = none) (m_len : mg "len" = none) (m_max : mg "max" = none) (m_range : mg "range" = none) (m_reversed : mg "reversed" = none) (c_NOUGHT : Cst K mg "NOUGHT" (.tup [(.tup []), (.int 1)])) (x_ByNought : ExcF K mg "ByNought") (h_poly : FD P w K mg base W 3 "poly" [] s_polys_poly) (h_row_of : FD P w K mg base W 1 "row_of" [] s_rows_row_of) : BodyJ P w K mg base W 3 N_divided "divided" st_divided b_quotients_divided := by
  intro f cdv A outer s H E F0 hr
  have nd : N_divided.Nodup := by decide +kernel
  have tk := takes_of (X := XOf P w K mg base N_divided "divided" (defScope st_divided) f cdv A outer s H E) rfl rfl rfl rfl
  have hp := passes_of (X := XOf P w K mg base N_divided "divided" (defScope st_divided) f cdv A outer s H E) rfl
  exact (jls_of (jss_cons (js_if (jt_cmp (ok_eq hr.units) ((j_var 1)).sw ((j_glob (by rfl) c_NOUGHT)).fw)
      (jss_one (js_raise rfl tk x_ByNought))
      jss_nil)
    (jss_cons (js_asg (j_var 1) (jg_tup rfl (jgs_cons (jg_name 2 nd) (jgs_cons (jg_name 3 nd) jgs_nil))))
    (jss_cons (js_set 4 nd ((j_callB (ca_max rfl) m_max (by decide +kernel) (ja_cons ncl_w (j_int).fw (ja_cons ncl_w ((j_bind okd_add ((j_bin ok_sub ((j_callB ca_len m_len (by decide +kernel) (ja_cons ncl_w ((j_ix (j_var 0) (j_int).fw)).sw ja_nil))).fw ((j_callB ca_len m_len (by decide +kernel) (ja_cons ncl_w ((j_var 2)).sw ja_nil))).fw)).fd (j_int).fd)).fw ja_nil)))).sf)
    (jss_cons (js_set 5 nd (j_int).sf)
    (jss_cons (js_for hp rfl (ji_range1 (st := true) m_range (ja_cons ncl_w ((j_var 4)).sw ja_nil)) (jg_name 6 nd)
      (jss_one (js_set 5 nd ((j_bind okd_mul ((j_var 5)).sd ((j_ix (j_var 2) ((j_neg (j_int).fw)).fw)).sd)).sf)))
    (jss_cons (js_setLcO 7 rfl nd (own := [("number", 12)]) (ws := [12]) (JI.weak (ji_seq (j_ix (j_var 0) (j_int).fw))) (blkOk_by (N := N_divided) (sc := defScope st_divided) (by decide +kernel)) (fun _ _ _ _ _ => (jg_name 12 nd)) (fun _ _ _ _ _ => jts_nil) (fun _ _ _ _ _ => ((j_bind okd_mul ((j_var 12)).sd ((j_var 5)).sd)).sf) (by decide))
    (jss_cons (js_setO 8 nd (j_bind okd_mul ((j_lst (ja_cons ncl_s (j_int).sf ja_nil))).fd ((j_var 4)).sd))
    (jss_cons (js_for hp rfl (ji_revr (st := true) ((j_var 4)).sw m_reversed m_range) (jg_name 9 nd)
      (jss_cons (js_set 10 nd ((j_bin ok_fdiv ((j_ixw (j_own 7) ((j_bin ok_sub ((j_bind okd_add ((j_var 9)).sd ((j_callB ca_len m_len (by decide +kernel) (ja_cons ncl_w ((j_var 2)).sw ja_nil))).fd)).fw (j_int).fw)).fw)).sw ((j_ix (j_var 2) ((j_neg (j_int).fw)).fw)).sw)).sf)
    (jss_cons (js_seti 8 ((j_bind okd_mul ((j_var 10)).sd ((j_var 3)).sd)).sf ((j_var 9)).sw)
    (jss_one (js_for hp rfl (ji_enum (j_var 2) m_enumerate) (jg_tup rfl (jgs_cons (jg_name 11 nd) (jgs_cons (jg_name 12 nd) jgs_nil)))
      (jss_one (js_seti 7 ((j_bin ok_sub ((j_ixw (j_own 7) ((j_bind okd_add ((j_var 9)).sd ((j_var 11)).sd)).fw)).sw ((j_bind okd_mul ((j_var 10)).sd ((j_var 12)).sd)).fw)).sf ((j_bind okd_add ((j_var 9)).sd ((j_var 11)).sd)).fw)))))))
    (jss_one (js_ret ((j_tup (ja_cons ncl_s ((j_call h_poly (hr.mono (by decide)) tk (by rfl) (ja_cons ncl_w ((j_call h_row_of (hr.mono (by decide)) tk (by rfl) (ja_cons ncl_w (j_own 8) ja_nil))).fw (ja_cons ncl_w ((j_bind okd_mul ((j_var 5)).sd ((j_ix (j_var 0) (j_int).fw)).sd)).fw ja_nil)))).sf (ja_cons ncl_s ((j_call h_poly (hr.mono (by decide)) tk (by rfl) (ja_cons ncl_w ((j_call h_row_of (hr.mono (by decide)) tk (by rfl) (ja_cons ncl_w (j_own 7) ja_nil))).fw (ja_cons ncl_w ((j_bind okd_mul ((j_var 5)).sd ((j_ix (j_var 0) (j_int).fw)).sd)).fw ja_nil)))).sf ja_nil)))).fr)))))))))))
abbrev st_at_size : Stmt := topS 12
def N_at_size : List Str := ["row", "size"]
theorem sc_at_size : FnScope N_at_size ["row", "size"] (defScope st_at_size) := ⟨rfl, rfl, rfl, by decide +kernel, rfl, by decide +kernel, by decide +kernel⟩
theorem w_at_size (m_len : mg "len" = none) (m_list : mg "list" = none) : BodyJ P w K mg base W 0 N_at_size "at_size" st_at_size b_rows_at_size := by
  intro f cdv A outer s H E F0 hr
  have nd : N_at_size.Nodup := by decide +kernel
  have tk := takes_of (X := XOf P w K mg base N_at_size "at_size" (defScope st_at_size) f cdv A outer s H E) rfl rfl rfl rfl
  have hp := passes_of (X := XOf P w K mg base N_at_size "at_size" (defScope st_at_size) f cdv A outer s H E) rfl
  exact (jls_of (jss_one (js_ret ((j_bind okd_add ((j_callTy ca_list m_list (by decide +kernel) (ja_cons ncl_w ((j_var 0)).sw ja_nil))).fd ((j_bind okd_mul ((j_lst (ja_cons ncl_s (j_int).sf ja_nil))).fd ((j_bin ok_sub ((j_var 1)).sw ((j_callB ca_len m_len (by decide +kernel) (ja_cons ncl_w ((j_var 0)).sw ja_nil))).fw)).fd)).fd)).fr)))
abbrev st_plus_rows : Stmt := topS 13
def N_plus_rows : List Str := ["one", "other", "size", "left", "right"]
theorem sc_plus_rows : FnScope N_plus_rows ["one", "other"] (defScope st_plus_rows) := ⟨rfl, rfl, rfl, by decide +kernel, rfl, by decide +kernel, by decide +kernel⟩
theorem w_plus_rows (m_len : mg "len" = none) (m_max : mg "max" = none) (m_zip : mg "zip" = none) (h_at_size : FD P w K mg base W 1 "at_size" [] s_rows_at_size) (h_row_of : FD P w K mg base W 1 "row_of" [] s_rows_row_of) : BodyJ P w K mg base W 1 N_plus_rows "plus" st_plus_rows b_rows_plus := by
  intro f cdv A outer s H E F0 hr
  have nd : N_plus_rows.Nodup := by decide +kernel
  have tk := takes_of (X := XOf P w K mg base N_plus_rows "plus" (defScope st_plus_rows) f cdv A outer s H E) rfl rfl rfl rfl
  have hp := passes_of (X := XOf P w K mg base N_plus_rows "plus" (defScope st_plus_rows) f cdv A outer s H E) rfl
  exact (jls_of (jss_cons (js_set 2 nd ((j_callB (ca_max rfl) m_max (by decide +kernel) (ja_cons ncl_w ((j_callB ca_len m_len (by decide +kernel) (ja_cons ncl_w ((j_var 0)).sw ja_nil))).fw (ja_cons ncl_w ((j_callB ca_len m_len (by decide +kernel) (ja_cons ncl_w ((j_var 1)).sw ja_nil))).fw ja_nil)))).sf)
    (jss_one (js_ret ((j_call h_row_of (hr.mono (by decide)) tk (by rfl) (ja_cons ncl_w ((j_lc rfl nd (own := [("left", 3), ("right", 4)]) (ws := [3, 4]) (JI.weak (ji_zip ((j_call h_at_size (hr.mono (by decide)) tk (by rfl) (ja_cons ncl_w ((j_var 0)).sw (ja_cons ncl_w ((j_var 2)).sw ja_nil)))).sf ((j_call h_at_size (hr.mono (by decide)) tk (by rfl) (ja_cons ncl_w ((j_var 1)).sw (ja_cons ncl_w ((j_var 2)).sw ja_nil)))).sf m_zip)) (blkOk_by (N := N_plus_rows) (sc := defScope st_plus_rows) (by decide +kernel)) (fun _ _ _ _ _ => (jg_tup rfl (jgs_cons (jg_name 3 nd) (jgs_cons (jg_name 4 nd) jgs_nil)))) (fun _ _ _ _ _ => jts_nil) (fun _ _ _ _ _ => ((j_bind okd_add ((j_var 3)).sd ((j_var 4)).sd)).sf) (by decide))).fw ja_nil))).fr))))
abbrev st_plus_polys : Stmt := topS 25
def N_plus_polys : List Str := ["one", "other"]
theorem sc_plus_polys : FnScope N_plus_polys ["one", "other"] (defScope st_plus_polys) := ⟨rfl, rfl, rfl, by decide +kernel, rfl, by decide +kernel, by decide +kernel⟩
theorem w_plus_polys (h_plus_rows : FD P w K mg base W 2 "plus_rows" [] s_rows_plus) (h_poly : FD P w K mg base W 3 "poly" [] s_polys_poly) (h_scaled_rows : FD P w K mg base W 2 "scaled_rows" [] s_rows_scaled) : BodyJ P w K mg base W 3 N_plus_polys "plus" st_plus_polys b_polys_plus := by
  intro f cdv A outer s H E F0 hr
  have nd : N_plus_polys.Nodup := by decide +kernel
  have tk := takes_of (X := XOf P w K mg base N_plus_polys "plus" (defScope st_plus_polys) f cdv A outer s H E) rfl rfl rfl rfl
  have hp := passes_of (X := XOf P w K mg base N_plus_polys "plus" (defScope st_plus_polys) f cdv A outer s H E) rfl
  exact (jls_of (jss_one (js_ret ((j_call h_poly (hr.mono (by decide)) tk (by rfl) (ja_cons ncl_w ((j_call h_plus_rows (hr.mono (by decide)) tk (by rfl) (ja_cons ncl_w ((j_call h_scaled_rows (hr.mono (by decide)) tk (by rfl) (ja_cons ncl_w ((j_ix (j_var 0) (j_int).fw)).sw (ja_cons ncl_w ((j_ix (j_var 1) (j_int).fw)).sw ja_nil)))).fw (ja_cons ncl_w ((j_call h_scaled_rows (hr.mono (by decide)) tk (by rfl) (ja_cons ncl_w ((j_ix (j_var 1) (j_int).fw)).sw (ja_cons ncl_w ((j_ix (j_var 0) (j_int).fw)).sw ja_nil)))).fw ja_nil)))).fw (ja_cons ncl_w ((j_bind okd_mul ((j_ix (j_var 0) (j_int).fw)).sd ((j_ix (j_var 1) (j_int).fw)).sd)).fw ja_nil)))).fr)))
abbrev st_less : Stmt := topS 27
def N_less : List Str := ["one", "other"]
theorem sc_less : FnScope N_less ["one", "other"] (defScope st_less) := ⟨rfl, rfl, rfl, by decide +kernel, rfl, by decide +kernel, by decide +kernel⟩
theorem w_less (h_plus_polys : FD P w K mg base W 4 "plus_polys" [] s_polys_plus) (h_scaled_polys : FD P w K mg base W 4 "scaled_polys" [] s_polys_scaled) : BodyJ P w K mg base W 4 N_less "less" st_less b_polys_less := by
  intro f cdv A outer s H E F0 hr
  have nd : N_less.Nodup := by decide +kernel
  have tk := takes_of (X := XOf P w K mg base N_less "less" (defScope st_less) f cdv A outer s H E) rfl rfl rfl rfl
  have hp := passes_of (X := XOf P w K mg base N_less "less" (defScope st_less) f cdv A outer s H E) rfl
  exact (jls_of (jss_one (js_ret ((j_call h_plus_polys (hr.mono (by decide)) tk (by rfl) (ja_cons ncl_w ((j_var 0)).sw (ja_cons ncl_w ((j_call h_scaled_polys (hr.mono (by decide)) tk (by rfl) (ja_cons ncl_w ((j_var 1)).sw (ja_cons ncl_w ((j_tup (ja_cons ncl_s ((j_neg (j_int).fw)).sf (ja_cons ncl_s (j_int).sf ja_nil)))).fw ja_nil)))).fw ja_nil)))).fr)))
abbrev st_times_rows : Stmt := topS 15
def N_times_rows : List Str := ["one", "other", "found", "k", "left", "j", "right"]
theorem sc_times_rows : FnScope N_times_rows ["one", "other"] (defScope st_times_rows) := ⟨rfl, rfl, rfl, by decide +kernel, rfl, by decide +kernel, by decide +kernel⟩
theorem w_times_rows (m_enumerate : mg "enumerate" = none) (m_len : mg "len" = none) (m_max : mg "max" = none) (h_row_of : FD P w K mg base W 1 "row_of" [] s_rows_row_of) : BodyJ P w K mg base W 1 N_times_rows "times" st_times_rows b_rows_times := by
  intro f cdv A outer s H E F0 hr
  have nd : N_times_rows.Nodup := by decide +kernel
  have tk := takes_of (X := XOf P w K mg base N_times_rows "times" (defScope st_times_rows) f cdv A outer s H E) rfl rfl rfl rfl
  have hp := passes_of (X := XOf P w K mg base N_times_rows "times" (defScope st_times_rows) f cdv A outer s H E) rfl
  exact (jls_of (jss_cons (js_setO 2 nd (j_bind okd_mul ((j_lst (ja_cons ncl_s (j_int).sf ja_nil))).fd ((j_callB (ca_max rfl) m_max (by decide +kernel) (ja_cons ncl_w (j_int).fw (ja_cons ncl_w ((j_bin ok_sub ((j_bind okd_add ((j_callB ca_len m_len (by decide +kernel) (ja_cons ncl_w ((j_var 0)).sw ja_nil))).fd ((j_callB ca_len m_len (by decide +kernel) (ja_cons ncl_w ((j_var 1)).sw ja_nil))).fd)).fw (j_int).fw)).fw ja_nil)))).fd))
    (jss_cons (js_for hp rfl (ji_enum (j_var 0) m_enumerate) (jg_tup rfl (jgs_cons (jg_name 3 nd) (jgs_cons (jg_name 4 nd) jgs_nil)))
      (jss_one (js_for hp rfl (ji_enum (j_var 1) m_enumerate) (jg_tup rfl (jgs_cons (jg_name 5 nd) (jgs_cons (jg_name 6 nd) jgs_nil)))
      (jss_one (js_augi 2 ip_add ((j_bind okd_add ((j_var 3)).sd ((j_var 5)).sd)).fw ((j_bind okd_mul ((j_var 4)).sd ((j_var 6)).sd)).fw)))))
    (jss_one (js_ret ((j_call h_row_of (hr.mono (by decide)) tk (by rfl) (ja_cons ncl_w (j_own 2) ja_nil))).fr)))))
abbrev st_times_polys : Stmt := topS 28
def N_times_polys : List Str := ["one", "other"]
theorem sc_times_polys : FnScope N_times_polys ["one", "other"] (defScope st_times_polys) := ⟨rfl, rfl, rfl, by decide +kernel, rfl, by decide +kernel, by decide +kernel⟩
theorem w_times_polys (h_poly : FD P w K mg base W 3 "poly" [] s_polys_poly) (h_times_rows : FD P w K mg base W 2 "times_rows" [] s_rows_times) : BodyJ P w K mg base W 3 N_times_polys "times" st_times_polys b_polys_times := by
  intro f cdv A outer s H E F0 hr
  have nd : N_times_polys.Nodup := by decide +kernel
  have tk := takes_of (X := XOf P w K mg base N_times_polys "times" (defScope st_times_polys) f cdv A outer s H E) rfl rfl rfl rfl
  have hp := passes_of (X := XOf P w K mg base N_times_polys "times" (defScope st_times_polys) f cdv A outer s H E) rfl
  exact (jls_of (jss_one (js_ret ((j_call h_poly (hr.mono (by decide)) tk (by rfl) (ja_cons ncl_w ((j_call h_times_rows (hr.mono (by decide)) tk (by rfl) (ja_cons ncl_w ((j_ix (j_var 0) (j_int).fw)).sw (ja_cons ncl_w ((j_ix (j_var 1) (j_int).fw)).sw ja_nil)))).fw (ja_cons ncl_w ((j_bind okd_mul ((j_ix (j_var 0) (j_int).fw)).sd ((j_ix (j_var 1) (j_int).fw)).sd)).fw ja_nil)))).fr)))
abbrev st_lessened : Stmt := topS 40
def N_lessened : List Str := ["one", "two", "whole", "found", "part", "left", "right"]
theorem sc_lessened : FnScope N_lessened ["one", "two"] (defScope st_lessened) := ⟨rfl, rfl, rfl, by decide +kernel, rfl, by decide +kernel, by decide +kernel⟩
theorem w_lessened (m_zip : mg "zip" = none) (c_NOUGHT : Cst K mg "NOUGHT" (.tup [(.tup []), (.int 1)])) (h_content : FD P w K mg base W 2 "content" [] s_rows_content) (h_divided : FD P w K mg base W 4 "divided" [] s_quotients_divided) (h_fraction : FD P w K mg base W 2 "fraction" [] s_fractions_fraction) (h_less : FD P w K mg base W 5 "less" [] s_polys_less) (h_scaled_polys : FD P w K mg base W 4 "scaled_polys" [] s_polys_scaled) (h_times_polys : FD P w K mg base W 4 "times_polys" [] s_polys_times) : BodyJ P w K mg base W 5 N_lessened "lessened" st_lessened b_shared_lessened := by
  intro f cdv A outer s H E F0 hr
  have nd : N_lessened.Nodup := by decide +kernel
  have tk := takes_of (X := XOf P w K mg base N_lessened "lessened" (defScope st_lessened) f cdv A outer s H E) rfl rfl rfl rfl
  have hp := passes_of (X := XOf P w K mg base N_lessened "lessened" (defScope st_lessened) f cdv A outer s H E) rfl
  exact (jls_of (jss_cons (js_set 2 nd (j_ix ((j_call h_divided (hr.mono (by decide)) tk (by rfl) (ja_cons ncl_w ((j_ixw (j_bor 0) (j_int).fw)).sw (ja_cons ncl_w ((j_ixw (j_bor 1) (j_int).fw)).sw ja_nil)))).sf (j_int).fw))
    (jss_cons (js_setLc 3 rfl nd (own := [("left", 5), ("right", 6)]) (ws := [5, 6]) (ji_zipw (j_bor 0) (j_bor 1) m_zip) (blkOk_by (N := N_lessened) (sc := defScope st_lessened) (by decide +kernel)) (fun _ _ _ _ _ => (jg_tup rfl (jgs_cons (jg_name 5 nd) (jgs_cons (jg_name 6 nd) jgs_nil)))) (fun _ _ _ _ _ => jts_nil) (fun _ _ _ _ _ => ((j_call h_less (hr.mono (by decide)) takes0 (by rfl) (ja_cons ncl_w ((j_var 5)).sw (ja_cons ncl_w ((j_call h_times_polys (hr.mono (by decide)) takes0 (by rfl) (ja_cons ncl_w ((j_var 2)).sw (ja_cons ncl_w ((j_var 6)).sw ja_nil)))).fw ja_nil)))).sf) (by decide))
    (jss_cons (js_if (jt_cmp (ok_eq hr.units) ((j_ix (j_var 3) (j_int).fw)).sw ((j_glob (by rfl) c_NOUGHT)).fw)
      (jss_one (js_ret ((j_var 3)).sr))
      jss_nil)
    (jss_cons (js_set 4 nd ((j_call h_fraction (hr.mono (by decide)) tk (by rfl) (ja_cons ncl_w ((j_ix (j_ix (j_var 3) (j_int).fw) (j_int).fw)).sw (ja_cons ncl_w ((j_call h_content (hr.mono (by decide)) tk (by rfl) (ja_cons ncl_w ((j_ix (j_ix (j_var 3) (j_int).fw) (j_int).fw)).sw ja_nil))).fw ja_nil)))).sf)
    (jss_one (js_ret ((j_lc rfl nd (own := [("left", 5)]) (ws := [5]) (JI.weak (ji_seq (j_var 3))) (blkOk_by (N := N_lessened) (sc := defScope st_lessened) (by decide +kernel)) (fun _ _ _ _ _ => (jg_name 5 nd)) (fun _ _ _ _ _ => jts_nil) (fun _ _ _ _ _ => ((j_call h_scaled_polys (hr.mono (by decide)) takes0 (by rfl) (ja_cons ncl_w ((j_var 5)).sw (ja_cons ncl_w ((j_var 4)).sw ja_nil)))).sf) (by decide))).fr)))))))
abbrev st_common_part : Stmt := topS 41
def N_common_part : List Str := ["some", "other", "one", "two", "part"]
theorem sc_common_part : FnScope N_common_part ["some", "other"] (defScope st_common_part) := ⟨rfl, rfl, rfl, by decide +kernel, rfl, by decide +kernel, by decide +kernel⟩
theorem w_common_part (c_NOUGHT : Cst K mg "NOUGHT" (.tup [(.tup []), (.int 1)])) (c_ONE : Cst K mg "ONE" (.tup [(.tup [(.int 1)]), (.int 1)])) (h_last_of : FD P w K mg base W 3 "last_of" [] s_quotients_last_of) (h_lessened : FD P w K mg base W 6 "lessened" [] s_shared_lessened) (h_over : FD P w K mg base W 3 "over" [] s_fractions_over) (h_scaled_polys : FD P w K mg base W 4 "scaled_polys" [] s_polys_scaled) : BodyJ P w K mg base W 6 N_common_part "common_part" st_common_part b_shared_common_part := by
  intro f cdv A outer s H E F0 hr
  have nd : N_common_part.Nodup := by decide +kernel
  have tk := takes_of (X := XOf P w K mg base N_common_part "common_part" (defScope st_common_part) f cdv A outer s H E) rfl rfl rfl rfl
  have hp := passes_of (X := XOf P w K mg base N_common_part "common_part" (defScope st_common_part) f cdv A outer s H E) rfl
  exact (jls_of (jss_cons (js_par 2 3 rfl nd (ja_cons ncl_s ((j_lst (ja_cons ncl_s (j_var 0) (ja_cons ncl_s ((j_glob (by rfl) c_ONE)).sf (ja_cons ncl_s ((j_glob (by rfl) c_NOUGHT)).sf ja_nil))))).sf (ja_cons ncl_s ((j_lst (ja_cons ncl_s (j_var 1) (ja_cons ncl_s ((j_glob (by rfl) c_NOUGHT)).sf (ja_cons ncl_s ((j_glob (by rfl) c_ONE)).sf ja_nil))))).sf ja_nil)))
    (jss_cons (js_while hp (jt_cmp (ok_ne hr.units) ((j_ix (j_var 3) (j_int).fw)).sw ((j_glob (by rfl) c_NOUGHT)).fw)
      (jss_one (js_par 2 3 rfl nd (ja_cons ncl_s (j_var 3) (ja_cons ncl_s ((j_call h_lessened (hr.mono (by decide)) tk (by rfl) (ja_cons ncl_w ((j_var 2)).sw (ja_cons ncl_w ((j_var 3)).sw ja_nil)))).sf ja_nil)))))
    (jss_cons (js_if (jt_cmp (ok_eq hr.units) ((j_ix (j_var 2) (j_int).fw)).sw ((j_glob (by rfl) c_NOUGHT)).fw)
      (jss_one (js_ret ((j_tup (ja_cons ncl_s ((j_glob (by rfl) c_NOUGHT)).sf (ja_cons ncl_s ((j_glob (by rfl) c_NOUGHT)).sf (ja_cons ncl_s ((j_glob (by rfl) c_NOUGHT)).sf ja_nil))))).fr))
      jss_nil)
    (jss_cons (js_set 4 nd ((j_call h_over (hr.mono (by decide)) tk (by rfl) (ja_cons ncl_w ((j_tup (ja_cons ncl_s (j_int).sf (ja_cons ncl_s (j_int).sf ja_nil)))).fw (ja_cons ncl_w ((j_call h_last_of (hr.mono (by decide)) tk (by rfl) (ja_cons ncl_w ((j_ix (j_var 2) (j_int).fw)).sw ja_nil))).fw ja_nil)))).sf)
    (jss_one (js_ret ((j_tup (ja_cons ncl_s ((j_call h_scaled_polys (hr.mono (by decide)) tk (by rfl) (ja_cons ncl_w ((j_ix (j_var 2) (j_int).fw)).sw (ja_cons ncl_w ((j_var 4)).sw ja_nil)))).sf (ja_cons ncl_s ((j_call h_scaled_polys (hr.mono (by decide)) tk (by rfl) (ja_cons ncl_w ((j_ix (j_var 2) (j_int).fw)).sw (ja_cons ncl_w ((j_var 4)).sw ja_nil)))).sf (ja_cons ncl_s ((j_call h_scaled_polys (hr.mono (by decide)) tk (by rfl) (ja_cons ncl_w ((j_ix (j_var 2) (j_int).fw)).sw (ja_cons ncl_w ((j_var 4)).sw ja_nil)))).sf ja_nil))))).fr)))))))
abbrev st_common_paper : Stmt := topS 42
def N_common_paper : List Str := ["some", "other", "found", "first", "second"]
theorem sc_common_paper : FnScope N_common_paper ["some", "other"] (defScope st_common_paper) := ⟨rfl, rfl, rfl, by decide +kernel, rfl, by decide +kernel, by decide +kernel⟩
theorem w_common_paper (c_NOUGHT : Cst K mg "NOUGHT" (.tup [(.tup []), (.int 1)])) (h_common_part : FD P w K mg base W 7 "common_part" [] s_shared_common_part) (h_divided : FD P w K mg base W 4 "divided" [] s_quotients_divided) : BodyJ P w K mg base W 7 N_common_paper "common_paper" st_common_paper b_shared_common_paper := by
  intro f cdv A outer s H E F0 hr
  have nd : N_common_paper.Nodup := by decide +kernel
  have tk := takes_of (X := XOf P w K mg base N_common_paper "common_paper" (defScope st_common_paper) f cdv A outer s H E) rfl rfl rfl rfl
  have hp := passes_of (X := XOf P w K mg base N_common_paper "common_paper" (defScope st_common_paper) f cdv A outer s H E) rfl
  exact (jls_of (jss_cons (js_asg ((j_call h_common_part (hr.mono (by decide)) tk (by rfl) (ja_cons ncl_w ((j_var 0)).sw (ja_cons ncl_w ((j_var 1)).sw ja_nil)))).sf (jg_tup rfl (jgs_cons (jg_name 2 nd) (jgs_cons (jg_name 3 nd) (jgs_cons (jg_name 4 nd) jgs_nil)))))
    (jss_cons (js_if (jt_cmp (ok_eq hr.units) ((j_var 2)).sw ((j_glob (by rfl) c_NOUGHT)).fw)
      (jss_one (js_ret ((j_tup (ja_cons ncl_s (j_var 2) (ja_cons ncl_s (j_var 3) (ja_cons ncl_s (j_var 4) (ja_cons ncl_s ((j_glob (by rfl) c_NOUGHT)).sf (ja_cons ncl_s ((j_glob (by rfl) c_NOUGHT)).sf ja_nil))))))).fr))
      jss_nil)
    (jss_one (js_ret ((j_tup (ja_cons ncl_s (j_var 2) (ja_cons ncl_s (j_var 3) (ja_cons ncl_s (j_var 4) (ja_cons ncl_s (j_ix ((j_call h_divided (hr.mono (by decide)) tk (by rfl) (ja_cons ncl_w ((j_var 0)).sw (ja_cons ncl_w ((j_var 2)).sw ja_nil)))).sf (j_int).fw) (ja_cons ncl_s (j_ix ((j_call h_divided (hr.mono (by decide)) tk (by rfl) (ja_cons ncl_w ((j_var 1)).sw (ja_cons ncl_w ((j_var 2)).sw ja_nil)))).sf (j_int).fw) ja_nil))))))).fr)))))
abbrev st__law_bent : Stmt := topS 61
def N__law_bent : List Str := ["_law_m", "_law_thing", "_law_way", "_law_at", "_law_parts", "_law_other"]
theorem sc__law_bent : FnScope N__law_bent ["_law_m", "_law_thing"] (defScope st__law_bent) := ⟨rfl, rfl, rfl, by decide +kernel, rfl, by decide +kernel, by decide +kernel⟩
theorem w__law_bent {k : Nat} {srec : DSp DrW.M} (hk : 2 ≤ k) (hrec : FDK P w K mg base DrW k "_law_bent" srec) (m_int : mg "int" = none) (m_isinstance : mg "isinstance" = none) (m_len : mg "len" = none) (m_list : mg "list" = none) (m_tuple : mg "tuple" = none) (h__law_draw : FD P w K mg base DrW 2 "_law_draw" [] s__law_draw) : BodyK P w K mg base DrW k N__law_bent "_law_bent" st__law_bent (b__law_bent_l srec) := by
  intro f cdv A outer s H E F0 V hV hr
  have nd : N__law_bent.Nodup := by decide +kernel
  have tk := takes_of (X := XOf P w K mg base N__law_bent "_law_bent" (defScope st__law_bent) f cdv A outer s H E) rfl rfl rfl rfl
  have hp := passes_of (X := XOf P w K mg base N__law_bent "_law_bent" (defScope st__law_bent) f cdv A outer s H E) rfl
  exact (jss_cons (js_set 2 nd ((j_call h__law_draw (hr.mono (Nat.le_trans (by decide) hk)) tk (by rfl) (ja_cons ncl_w ((j_var 0)).sw (ja_cons ncl_w (j_int).fw ja_nil)))).sf)
    (jss_cons (js_if (JW.t (jw_and (jt_val ((j_isi2 isi_tuple isi_list ((j_var 1)).sw m_isinstance m_tuple m_list (by decide +kernel) (by decide +kernel))).fw) (jw_and (jt_cmp ok_gt ((j_callB ca_len m_len (by decide +kernel) (ja_cons ncl_w ((j_var 1)).sw ja_nil))).fw (j_int).fw) (jw_and1 (jt_cmp ok_lt ((j_var 2)).sw (j_int).fw)))))
      (jss_cons (js_set 3 nd ((j_call h__law_draw (hr.mono (Nat.le_trans (by decide) hk)) tk (by rfl) (ja_cons ncl_w ((j_var 0)).sw (ja_cons ncl_w ((j_callB ca_len m_len (by decide +kernel) (ja_cons ncl_w ((j_var 1)).sw ja_nil))).fw ja_nil)))).sf)
    (jss_cons (js_setN 4 nd (jn_list (jb_s (j_var 1)) m_list))
    (jss_cons (js_if (jt_cmp ok_lt ((j_var 2)).sw (j_int).fw)
      (jss_one (js_setiL 4 (j_callK hrec hr tk (by rfl) (ja_cons ncl_s (j_var 0) (ja_cons ncl_s (j_ixB (jb_own 4) ((j_var 3)).sw) ja_nil))) ((j_var 3)).sw))
      (jss_one (js_if (jt_cmp (ok_eq hr.units) ((j_var 2)).sw (j_int).fw)
      (jss_one (js_popS 4 ((j_var 3)).sw))
      (jss_one (js_if (jt_cmp (ok_eq hr.units) ((j_var 2)).sw (j_int).fw)
      (jss_one (js_insS 4 ((j_var 3)).sw (j_ixB (jb_own 4) ((j_var 3)).sw)))
      (jss_cons (js_set 5 nd ((j_call h__law_draw (hr.mono (Nat.le_trans (by decide) hk)) tk (by rfl) (ja_cons ncl_w ((j_var 0)).sw (ja_cons ncl_w ((j_callB ca_len m_len (by decide +kernel) (ja_cons ncl_w (j_own 4) ja_nil))).fw ja_nil)))).sf)
    (jss_one (js_swapS 4 rfl (jp_var 3) (jp_var 5) (jp_var 5) (jp_var 3)))))))))
    (jss_one (js_ret (j_if (jt_val ((j_isi isi_tuple ((j_var 1)).sw m_isinstance m_tuple (by decide +kernel))).fw) ((j_tupleB (jb_own 4) m_tuple)).fr (j_ownr 4)))))))
      jss_nil)
    (jss_cons (js_if (JW.t (jw_and (jt_val ((j_isi isi_int ((j_var 1)).sw m_isinstance m_int (by decide +kernel))).fw) (jw_and1 (jt_cmp ok_lt ((j_var 2)).sw (j_int).fw))))
      (jss_one (js_ret ((j_ix ((j_lst (ja_cons ncl_s ((j_bin ok_addN ((j_var 1)).sw (j_int).fw)).sf (ja_cons ncl_s ((j_bin ok_subN ((j_var 1)).sw (j_int).fw)).sf (ja_cons ncl_s ((j_bin ok_subN (j_int).fw ((j_var 1)).sw)).sf (ja_cons ncl_s ((j_bin ok_mulN (j_int).fw ((j_var 1)).sw)).sf (ja_cons ncl_s (j_int).sf (ja_cons ncl_s (j_int).sf ja_nil)))))))).sf ((j_var 2)).sw)).sr))
      jss_nil)
    (jss_one (js_ret ((j_ix ((j_lst (ja_cons ncl_s (j_non).sf (ja_cons ncl_s (j_bl).sf (ja_cons ncl_s (j_int).sf (ja_cons ncl_s ((j_tup ja_nil)).sf (ja_cons ncl_s ((j_lst ja_nil)).sf (ja_cons ncl_s (j_str).sf (ja_cons ncl_s ((j_tup (ja_cons ncl_s (j_int).sf ja_nil))).sf (ja_cons ncl_s ((j_bin ok_pow (j_int).fw (j_int).fw)).sf (ja_cons ncl_s (j_dic).sf (ja_cons ncl_s ((j_lst (ja_cons ncl_s (j_int).sf ja_nil))).sf (ja_cons ncl_s (j_str).sf ja_nil))))))))))))).sf ((j_call h__law_draw (hr.mono (Nat.le_trans (by decide) hk)) tk (by rfl) (ja_cons ncl_w ((j_var 0)).sw (ja_cons ncl_w (j_int).fw ja_nil)))).fw)).sr)))))
abbrev st__law_odd : Stmt := topS 64
def N__law_odd : List Str := ["_law_m", "_law_deep", "_law_way", "_law_parts", "_law_much", "_law_some", "_law_k"]
theorem sc__law_odd : FnScope N__law_odd ["_law_m", "_law_deep"] (defScope st__law_odd) := ⟨rfl, rfl, rfl, by decide +kernel, rfl, by decide +kernel, by decide +kernel⟩
theorem w__law_odd {k : Nat} {srec : DSp DrW.M} (hk : 3 ≤ k) (hrec : FDK P w K mg base DrW k "_law_odd" srec) (m_range : mg "range" = none) (m_tuple : mg "tuple" = none) (h__law_draw : FD P w K mg base DrW 2 "_law_draw" [] s__law_draw) (h__law_small : FD P w K mg base DrW 3 "_law_small" [] s__law_small) : BodyK P w K mg base DrW k N__law_odd "_law_odd" st__law_odd (b__law_odd_t srec) := by
  intro f cdv A outer s H E F0 V hV hr
  have nd : N__law_odd.Nodup := by decide +kernel
  have tk := takes_of (X := XOf P w K mg base N__law_odd "_law_odd" (defScope st__law_odd) f cdv A outer s H E) rfl rfl rfl rfl
  have hp := passes_of (X := XOf P w K mg base N__law_odd "_law_odd" (defScope st__law_odd) f cdv A outer s H E) rfl
  exact (jss_cons (js_set 2 nd ((j_call h__law_draw (hr.mono (Nat.le_trans (by decide) hk)) tk (by rfl) (ja_cons ncl_w ((j_var 0)).sw (ja_cons ncl_w (j_int).fw ja_nil)))).sf)
    (jss_cons (js_if (JW.t (jw_and (jt_cmp ok_gt ((j_var 1)).sw (j_int).fw) (jw_and1 (jt_cmp ok_lt ((j_var 2)).sw (j_int).fw))))
      (jss_cons (js_setLc 3 rfl nd (own := [("_law_k", 6)]) (ws := [6]) (ji_range1 (st := false) m_range (ja_cons ncl_w ((j_call h__law_draw (hr.mono (Nat.le_trans (by decide) hk)) tk (by rfl) (ja_cons ncl_w ((j_var 0)).sw (ja_cons ncl_w (j_int).fw ja_nil)))).fw ja_nil)) (blkOk_by (N := N__law_odd) (sc := defScope st__law_odd) (by decide +kernel)) (fun _ _ _ _ _ => (jg_name 6 nd)) (fun _ _ _ _ _ => jts_nil) (fun _ _ _ _ _ => (j_callK hrec hr takes0 (by rfl) (ja_cons ncl_s (j_var 0) (ja_cons ncl_s ((j_bin ok_sub ((j_var 1)).sw (j_int).fw)).sf ja_nil)))) (by decide))
    (jss_one (js_ret ((j_ix ((j_lst (ja_cons ncl_s (j_var 3) (ja_cons ncl_s ((j_tupleB (jb_s (j_var 3)) m_tuple)).sf (ja_cons ncl_s ((j_tupleB (jb_s (j_var 3)) m_tuple)).sf (ja_cons ncl_s ((j_dc1 3)).sf (ja_cons ncl_s ((j_tup (ja_cons ncl_s ((j_tupleB (jb_s (j_var 3)) m_tuple)).sf (ja_cons ncl_s (j_int).sf ja_nil)))).sf ja_nil))))))).sf ((j_var 2)).sw)).sr)))
      jss_nil)
    (jss_cons (js_set 4 nd ((j_bin ok_pow (j_int).fw (j_int).fw)).sf)
    (jss_cons (js_set 5 nd ((j_lst (ja_cons ncl_s (j_non).sf (ja_cons ncl_s (j_bl).sf (ja_cons ncl_s (j_bl).sf (ja_cons ncl_s (j_str).sf (ja_cons ncl_s (j_str).sf (ja_cons ncl_s (j_str).sf (ja_cons ncl_s ((j_tup ja_nil)).sf (ja_cons ncl_s ((j_lst ja_nil)).sf (ja_cons ncl_s (j_dic).sf (ja_cons ncl_s (j_int).sf (ja_cons ncl_s ((j_call h__law_small (hr.mono (Nat.le_trans (by decide) hk)) tk (by rfl) (ja_cons ncl_w ((j_var 0)).sw (ja_cons ncl_w ((j_bin ok_pow (j_int).fw (j_int).fw)).fw ja_nil)))).sf (ja_cons ncl_s ((j_bind okd_mul ((j_bind okd_mul ((j_var 4)).sd ((j_var 4)).sd)).fd ((j_var 4)).sd)).sf ja_nil)))))))))))))).sf)
    (jss_one (js_ret ((j_ix (j_var 5) ((j_call h__law_draw (hr.mono (Nat.le_trans (by decide) hk)) tk (by rfl) (ja_cons ncl_w ((j_var 0)).sw (ja_cons ncl_w (j_int).fw ja_nil)))).fw)).sr))))))
abbrev st_is_tuple : Stmt := topS 33
def N_is_tuple : List Str := ["thing", "many"]
theorem sc_is_tuple : FnScope N_is_tuple ["thing", "many"] (defScope st_is_tuple) := ⟨rfl, rfl, rfl, by decide +kernel, rfl, by decide +kernel, by decide +kernel⟩
theorem w_is_tuple (m_isinstance : mg "isinstance" = none) (m_len : mg "len" = none) (m_tuple : mg "tuple" = none) : BodyJ P w K mg base W 0 N_is_tuple "is_tuple" st_is_tuple b_checking_is_tuple := by
  intro f cdv A outer s H E F0 hr
  have nd : N_is_tuple.Nodup := by decide +kernel
  have tk := takes_of (X := XOf P w K mg base N_is_tuple "is_tuple" (defScope st_is_tuple) f cdv A outer s H E) rfl rfl rfl rfl
  have hp := passes_of (X := XOf P w K mg base N_is_tuple "is_tuple" (defScope st_is_tuple) f cdv A outer s H E) rfl
  exact (jls_of (jss_one (js_ret ((j_and (j_isi isi_tuple (j_bor 0) m_isinstance m_tuple (by decide +kernel)) (j_one (j_cmp (ok_eq hr.units) ((j_callB ca_len m_len (by decide +kernel) (ja_cons ncl_w (j_bor 0) ja_nil))).fw ((j_var 1)).sw)))).fr)))
abbrev st_is_monic : Stmt := topS 34
def N_is_monic : List Str := ["some"]
theorem sc_is_monic : FnScope N_is_monic ["some"] (defScope st_is_monic) := ⟨rfl, rfl, rfl, by decide +kernel, rfl, by decide +kernel, by decide +kernel⟩
theorem w_is_monic  : BodyJ P w K mg base W 0 N_is_monic "is_monic" st_is_monic b_checking_is_monic := by
  intro f cdv A outer s H E F0 hr
  have nd : N_is_monic.Nodup := by decide +kernel
  have tk := takes_of (X := XOf P w K mg base N_is_monic "is_monic" (defScope st_is_monic) f cdv A outer s H E) rfl rfl rfl rfl
  have hp := passes_of (X := XOf P w K mg base N_is_monic "is_monic" (defScope st_is_monic) f cdv A outer s H E) rfl
  exact (jls_of (jss_one (js_ret ((j_cmp (ok_eq hr.units) ((j_ix (j_ix (j_var 0) (j_int).fw) ((j_neg (j_int).fw)).fw)).sw ((j_ix (j_var 0) (j_int).fw)).sw)).fr)))
abbrev st_is_whole : Stmt := topS 4
def N_is_whole : List Str := ["thing"]
theorem sc_is_whole : FnScope N_is_whole ["thing"] (defScope st_is_whole) := ⟨rfl, rfl, rfl, by decide +kernel, rfl, by decide +kernel, by decide +kernel⟩
theorem w_is_whole (m_bool : mg "bool" = none) (m_int : mg "int" = none) (m_isinstance : mg "isinstance" = none) : BodyJ P w K mg base W 0 N_is_whole "is_whole" st_is_whole b_numbers_is_whole := by
  intro f cdv A outer s H E F0 hr
  have nd : N_is_whole.Nodup := by decide +kernel
  have tk := takes_of (X := XOf P w K mg base N_is_whole "is_whole" (defScope st_is_whole) f cdv A outer s H E) rfl rfl rfl rfl
  have hp := passes_of (X := XOf P w K mg base N_is_whole "is_whole" (defScope st_is_whole) f cdv A outer s H E) rfl
  exact (jls_of (jss_one (js_ret ((j_and (j_isi isi_int (j_bor 0) m_isinstance m_int (by decide +kernel)) (j_one (j_not (j_isi isi_bool (j_bor 0) m_isinstance m_bool (by decide +kernel)))))).fr)))
abbrev st_is_row : Stmt := topS 10
def N_is_row : List Str := ["thing", "number"]
theorem sc_is_row : FnScope N_is_row ["thing"] (defScope st_is_row) := ⟨rfl, rfl, rfl, by decide +kernel, rfl, by decide +kernel, by decide +kernel⟩
theorem w_is_row (m_all : mg "all" = none) (m_isinstance : mg "isinstance" = none) (m_tuple : mg "tuple" = none) (h_is_whole : FD P w K mg base W 1 "is_whole" [] s_numbers_is_whole) : BodyJ P w K mg base W 1 N_is_row "is_row" st_is_row b_rows_is_row_b := by
  intro f cdv A outer s H E F0 hr
  have nd : N_is_row.Nodup := by decide +kernel
  have tk := takes_of (X := XOf P w K mg base N_is_row "is_row" (defScope st_is_row) f cdv A outer s H E) rfl rfl rfl rfl
  have hp := passes_of (X := XOf P w K mg base N_is_row "is_row" (defScope st_is_row) f cdv A outer s H E) rfl
  exact (jls_of (jss_cons (js_if (JW.t (jw_or (jt_not (jt_val ((j_isi isi_tuple (j_bor 0) m_isinstance m_tuple (by decide +kernel))).fw)) (jw_or1 (jt_not (jt_val ((j_callB (ca_all rfl) m_all (by decide +kernel) (ja_cons ncl_w ((j_lcB rfl nd (own := [("number", 1)]) (ws := [1]) (ji_borB 0) (blkOk_by (N := N_is_row) (sc := defScope st_is_row) (by decide +kernel)) (fun _ _ _ _ _ => (jgb_name 1 nd)) (fun _ _ _ _ _ => jts_nil) (fun _ _ _ _ _ => ((j_call h_is_whole (hr.mono (by decide)) takes0 (by rfl) (ja_cons ncl_w (j_bor 1) ja_nil))).sf) (by decide))).fw ja_nil))).fw)))))
      (jss_one (js_ret (j_bl).fr))
      jss_nil)
    (jss_one (js_ret ((j_or (j_cmp (ok_eq hr.units) (j_bor 0) ((j_tup ja_nil)).fw) (j_one (j_cmp (ok_ne hr.units) (j_ixww (j_bor 0) ((j_neg (j_int).fw)).fw) (j_int).fw)))).fr))))
abbrev st_is_poly : Stmt := topS 23
def N_is_poly : List Str := ["thing"]
theorem sc_is_poly : FnScope N_is_poly ["thing"] (defScope st_is_poly) := ⟨rfl, rfl, rfl, by decide +kernel, rfl, by decide +kernel, by decide +kernel⟩
theorem w_is_poly (m_isinstance : mg "isinstance" = none) (m_len : mg "len" = none) (m_tuple : mg "tuple" = none) (h_common : FD P w K mg base W 1 "common" [] s_numbers_common) (h_content : FD P w K mg base W 2 "content" [] s_rows_content) (h_is_row : FD P w K mg base W 2 "is_row" [] s_rows_is_row_b) (h_is_whole : FD P w K mg base W 1 "is_whole" [] s_numbers_is_whole) : BodyJ P w K mg base W 2 N_is_poly "is_poly" st_is_poly b_polys_is_poly_b := by
  intro f cdv A outer s H E F0 hr
  have nd : N_is_poly.Nodup := by decide +kernel
  have tk := takes_of (X := XOf P w K mg base N_is_poly "is_poly" (defScope st_is_poly) f cdv A outer s H E) rfl rfl rfl rfl
  have hp := passes_of (X := XOf P w K mg base N_is_poly "is_poly" (defScope st_is_poly) f cdv A outer s H E) rfl
  exact (jls_of (jss_cons (js_if (JW.t (jw_or (jt_not (jt_val ((j_isi isi_tuple (j_bor 0) m_isinstance m_tuple (by decide +kernel))).fw)) (jw_or (jt_cmp (ok_ne hr.units) ((j_callB ca_len m_len (by decide +kernel) (ja_cons ncl_w (j_bor 0) ja_nil))).fw (j_int).fw) (jw_or (jt_not (jt_val ((j_call h_is_row (hr.mono (by decide)) tk (by rfl) (ja_cons ncl_w (j_ixww (j_bor 0) (j_int).fw) ja_nil))).fw)) (jw_or1 (jt_not (jt_val ((j_call h_is_whole (hr.mono (by decide)) tk (by rfl) (ja_cons ncl_w (j_ixww (j_bor 0) (j_int).fw) ja_nil))).fw)))))))
      (jss_one (js_ret (j_bl).fr))
      jss_nil)
    (jss_one (js_ret ((j_and (j_cmp ok_gt (j_ixww (j_bor 0) (j_int).fw) (j_int).fw) (j_one (j_cmp (ok_eq hr.units) ((j_call h_common (hr.mono (by decide)) tk (by rfl) (ja_cons ncl_w ((j_call h_content (hr.mono (by decide)) tk (by rfl) (ja_cons ncl_w (j_ixww (j_bor 0) (j_int).fw) ja_nil))).fw (ja_cons ncl_w (j_ixww (j_bor 0) (j_int).fw) ja_nil)))).fw (j_int).fw)))).fr))))
abbrev st_shows_common : Stmt := topS 35
def N_shows_common : List Str := ["one", "other", "paper", "found", "first", "second", "left", "right", "part"]
theorem sc_shows_common : FnScope N_shows_common ["one", "other", "paper"] (defScope st_shows_common) := ⟨rfl, rfl, rfl, by decide +kernel, rfl, by decide +kernel, by decide +kernel⟩
theorem w_shows_common (m_all : mg "all" = none) (c_NOUGHT : Cst K mg "NOUGHT" (.tup [(.tup []), (.int 1)])) (h_is_monic : FD P w K mg base W 1 "is_monic" [] s_checking_is_monic) (h_is_poly : FD P w K mg base W 3 "is_poly" [] s_polys_is_poly_b) (h_is_tuple : FD P w K mg base W 1 "is_tuple" [] s_checking_is_tuple) (h_plus_polys : FD P w K mg base W 4 "plus_polys" [] s_polys_plus) (h_times_polys : FD P w K mg base W 4 "times_polys" [] s_polys_times) : BodyK P w K mg base W 4 N_shows_common "shows_common" st_shows_common b_checking_shows_common := by
  intro f cdv A outer s H E F0 V hV hr
  have nd : N_shows_common.Nodup := by decide +kernel
  have tk := takes_of (X := XOf P w K mg base N_shows_common "shows_common" (defScope st_shows_common) f cdv A outer s H E) rfl rfl rfl rfl
  have hp := passes_of (X := XOf P w K mg base N_shows_common "shows_common" (defScope st_shows_common) f cdv A outer s H E) rfl
  exact (jss_cons (js_if (JW.t (jw_or (jt_not (jt_val ((j_call h_is_tuple (hr.mono (by decide)) tk (by rfl) (ja_cons ncl_w ((j_var 2)).sw (ja_cons ncl_w (j_int).fw ja_nil)))).fw)) (jw_or1 (jt_not (jt_val ((j_callB (ca_all rfl) m_all (by decide +kernel) (ja_cons ncl_w ((j_lc rfl nd (own := [("part", 8)]) (ws := [8]) (JI.weak (ji_seq (j_var 2))) (blkOk_by (N := N_shows_common) (sc := defScope st_shows_common) (by decide +kernel)) (fun _ _ _ _ _ => (jg_name 8 nd)) (fun _ _ _ _ _ => jts_nil) (fun _ _ _ _ _ => ((j_call h_is_poly (hr.mono (by decide)) takes0 (by rfl) (ja_cons ncl_w ((j_var 8)).sw ja_nil))).sf) (by decide))).fw ja_nil))).fw)))))
      (jss_one (js_ret (j_bl).fr))
      jss_nil)
    (jss_cons (js_asg (j_var 2) (jg_tup rfl (jgs_cons (jg_name 3 nd) (jgs_cons (jg_name 4 nd) (jgs_cons (jg_name 5 nd) (jgs_cons (jg_name 6 nd) (jgs_cons (jg_name 7 nd) jgs_nil)))))))
    (jss_cons (js_if (JW.t (jw_and (jt_cmp (ok_ne hr.units) ((j_var 3)).sw ((j_glob (by rfl) c_NOUGHT)).fw) (jw_and1 (jt_not (jt_val ((j_call h_is_monic (hr.mono (by decide)) tk (by rfl) (ja_cons ncl_w ((j_var 3)).sw ja_nil))).fw)))))
      (jss_one (js_ret (j_bl).fr))
      jss_nil)
    (jss_cons (js_if (JW.t (jw_or (jt_cmp (ok_ne hr.units) ((j_call h_times_polys (hr.mono (by decide)) tk (by rfl) (ja_cons ncl_w ((j_var 6)).sw (ja_cons ncl_w ((j_var 3)).sw ja_nil)))).fw ((j_var 0)).sw) (jw_or1 (jt_cmp (ok_ne hr.units) ((j_call h_times_polys (hr.mono (by decide)) tk (by rfl) (ja_cons ncl_w ((j_var 7)).sw (ja_cons ncl_w ((j_var 3)).sw ja_nil)))).fw ((j_var 1)).sw))))
      (jss_one (js_ret (j_bl).fr))
      jss_nil)
    (jss_one (js_ret ((j_cmp (ok_eq hr.units) ((j_call h_plus_polys (hr.mono (by decide)) tk (by rfl) (ja_cons ncl_w ((j_call h_times_polys (hr.mono (by decide)) tk (by rfl) (ja_cons ncl_w ((j_var 4)).sw (ja_cons ncl_w ((j_var 0)).sw ja_nil)))).fw (ja_cons ncl_w ((j_call h_times_polys (hr.mono (by decide)) tk (by rfl) (ja_cons ncl_w ((j_var 5)).sw (ja_cons ncl_w ((j_var 1)).sw ja_nil)))).fw ja_nil)))).fw ((j_var 3)).sw)).fr))))))
abbrev st__law_product : Stmt := topS 50
def N__law_product : List Str := ["_law_one", "_law_other", "_law_found", "_law_k", "_law_number", "_law_j", "_law_more"]
theorem sc__law_product : FnScope N__law_product ["_law_one", "_law_other"] (defScope st__law_product) := ⟨rfl, rfl, rfl, by decide +kernel, rfl, by decide +kernel, by decide +kernel⟩
theorem w__law_product (m_enumerate : mg "enumerate" = none) (m_len : mg "len" = none) (m_max : mg "max" = none) (h__law_cut : FD P w K mg base W 1 "_law_cut" [] s__law_cut) : BodyJ P w K mg base W 1 N__law_product "_law_product" st__law_product b__law_product := by
  intro f cdv A outer s H E F0 hr
  have nd : N__law_product.Nodup := by decide +kernel
  have tk := takes_of (X := XOf P w K mg base N__law_product "_law_product" (defScope st__law_product) f cdv A outer s H E) rfl rfl rfl rfl
  have hp := passes_of (X := XOf P w K mg base N__law_product "_law_product" (defScope st__law_product) f cdv A outer s H E) rfl
  exact (jls_of (jss_cons (js_setO 2 nd (j_bind okd_mul ((j_lst (ja_cons ncl_s (j_int).sf ja_nil))).fd ((j_callB (ca_max rfl) m_max (by decide +kernel) (ja_cons ncl_w (j_int).fw (ja_cons ncl_w ((j_bin ok_sub ((j_bind okd_add ((j_callB ca_len m_len (by decide +kernel) (ja_cons ncl_w ((j_var 0)).sw ja_nil))).fd ((j_callB ca_len m_len (by decide +kernel) (ja_cons ncl_w ((j_var 1)).sw ja_nil))).fd)).fw (j_int).fw)).fw ja_nil)))).fd))
    (jss_cons (js_for hp rfl (ji_enum (j_var 0) m_enumerate) (jg_tup rfl (jgs_cons (jg_name 3 nd) (jgs_cons (jg_name 4 nd) jgs_nil)))
      (jss_one (js_for hp rfl (ji_enum (j_var 1) m_enumerate) (jg_tup rfl (jgs_cons (jg_name 5 nd) (jgs_cons (jg_name 6 nd) jgs_nil)))
      (jss_one (js_seti 2 ((j_bind okd_add ((j_ixw (j_own 2) ((j_bind okd_add ((j_var 3)).sd ((j_var 5)).sd)).fw)).sd ((j_bind okd_mul ((j_var 4)).sd ((j_var 6)).sd)).fd)).sf ((j_bind okd_add ((j_var 3)).sd ((j_var 5)).sd)).fw)))))
    (jss_one (js_ret ((j_call h__law_cut (hr.mono (by decide)) tk (by rfl) (ja_cons ncl_w (j_own 2) ja_nil))).fr)))))
abbrev st__law_times : Stmt := topS 54
def N__law_times : List Str := ["_law_one", "_law_other"]
theorem sc__law_times : FnScope N__law_times ["_law_one", "_law_other"] (defScope st__law_times) := ⟨rfl, rfl, rfl, by decide +kernel, rfl, by decide +kernel, by decide +kernel⟩
theorem w__law_times (h__law_poly : FD P w K mg base W 2 "_law_poly" [] s__law_poly) (h__law_product : FD P w K mg base W 2 "_law_product" [] s__law_product) : BodyJ P w K mg base W 2 N__law_times "_law_times" st__law_times b__law_times := by
  intro f cdv A outer s H E F0 hr
  have nd : N__law_times.Nodup := by decide +kernel
  have tk := takes_of (X := XOf P w K mg base N__law_times "_law_times" (defScope st__law_times) f cdv A outer s H E) rfl rfl rfl rfl
  have hp := passes_of (X := XOf P w K mg base N__law_times "_law_times" (defScope st__law_times) f cdv A outer s H E) rfl
  exact (jls_of (jss_one (js_ret ((j_call h__law_poly (hr.mono (by decide)) tk (by rfl) (ja_cons ncl_w ((j_call h__law_product (hr.mono (by decide)) tk (by rfl) (ja_cons ncl_w ((j_ix (j_var 0) (j_int).fw)).sw (ja_cons ncl_w ((j_ix (j_var 1) (j_int).fw)).sw ja_nil)))).fw (ja_cons ncl_w ((j_bind okd_mul ((j_ix (j_var 0) (j_int).fw)).sd ((j_ix (j_var 1) (j_int).fw)).sd)).fw ja_nil)))).fr)))
abbrev st__law_sum : Stmt := topS 49
def N__law_sum : List Str := ["_law_one", "_law_other", "_law_factor", "_law_size", "_law_left", "_law_right", "_law_number", "_law_more"]
theorem sc__law_sum : FnScope N__law_sum ["_law_one", "_law_other", "_law_factor"] (defScope st__law_sum) := ⟨rfl, rfl, rfl, by decide +kernel, rfl, by decide +kernel, by decide +kernel⟩
theorem w__law_sum (m_len : mg "len" = none) (m_list : mg "list" = none) (m_max : mg "max" = none) (m_zip : mg "zip" = none) (h__law_cut : FD P w K mg base W 1 "_law_cut" [] s__law_cut) : BodyJ P w K mg base W 1 N__law_sum "_law_sum" st__law_sum b__law_sum := by
  intro f cdv A outer s H E F0 hr
  have nd : N__law_sum.Nodup := by decide +kernel
  have tk := takes_of (X := XOf P w K mg base N__law_sum "_law_sum" (defScope st__law_sum) f cdv A outer s H E) rfl rfl rfl rfl
  have hp := passes_of (X := XOf P w K mg base N__law_sum "_law_sum" (defScope st__law_sum) f cdv A outer s H E) rfl
  exact (jls_of (jss_cons (js_set 3 nd ((j_callB (ca_max rfl) m_max (by decide +kernel) (ja_cons ncl_w ((j_callB ca_len m_len (by decide +kernel) (ja_cons ncl_w ((j_var 0)).sw ja_nil))).fw (ja_cons ncl_w ((j_callB ca_len m_len (by decide +kernel) (ja_cons ncl_w ((j_var 1)).sw ja_nil))).fw ja_nil)))).sf)
    (jss_cons (js_set 4 nd ((j_bind okd_add ((j_callTy ca_list m_list (by decide +kernel) (ja_cons ncl_w ((j_var 0)).sw ja_nil))).fd ((j_bind okd_mul ((j_lst (ja_cons ncl_s (j_int).sf ja_nil))).fd ((j_bin ok_sub ((j_var 3)).sw ((j_callB ca_len m_len (by decide +kernel) (ja_cons ncl_w ((j_var 0)).sw ja_nil))).fw)).fd)).fd)).sf)
    (jss_cons (js_set 5 nd ((j_bind okd_add ((j_callTy ca_list m_list (by decide +kernel) (ja_cons ncl_w ((j_var 1)).sw ja_nil))).fd ((j_bind okd_mul ((j_lst (ja_cons ncl_s (j_int).sf ja_nil))).fd ((j_bin ok_sub ((j_var 3)).sw ((j_callB ca_len m_len (by decide +kernel) (ja_cons ncl_w ((j_var 1)).sw ja_nil))).fw)).fd)).fd)).sf)
    (jss_one (js_ret ((j_call h__law_cut (hr.mono (by decide)) tk (by rfl) (ja_cons ncl_w ((j_lc rfl nd (own := [("_law_number", 6), ("_law_more", 7)]) (ws := [6, 7]) (JI.weak (ji_zip (j_var 4) (j_var 5) m_zip)) (blkOk_by (N := N__law_sum) (sc := defScope st__law_sum) (by decide +kernel)) (fun _ _ _ _ _ => (jg_tup rfl (jgs_cons (jg_name 6 nd) (jgs_cons (jg_name 7 nd) jgs_nil)))) (fun _ _ _ _ _ => jts_nil) (fun _ _ _ _ _ => ((j_bind okd_add ((j_var 6)).sd ((j_bind okd_mul ((j_var 2)).sd ((j_var 7)).sd)).fd)).sf) (by decide))).fw ja_nil))).fr))))))
abbrev st__law_plus : Stmt := topS 53
def N__law_plus : List Str := ["_law_one", "_law_other", "_law_factor", "_law_left", "_law_right", "_law_number"]
theorem sc__law_plus : FnScope N__law_plus ["_law_one", "_law_other", "_law_factor"] (defScope st__law_plus) := ⟨rfl, rfl, rfl, by decide +kernel, rfl, by decide +kernel, by decide +kernel⟩
theorem w__law_plus (m_tuple : mg "tuple" = none) (h__law_poly : FD P w K mg base W 2 "_law_poly" [] s__law_poly) (h__law_sum : FD P w K mg base W 2 "_law_sum" [] s__law_sum) : BodyJ P w K mg base W 2 N__law_plus "_law_plus" st__law_plus b__law_plus := by
  intro f cdv A outer s H E F0 hr
  have nd : N__law_plus.Nodup := by decide +kernel
  have tk := takes_of (X := XOf P w K mg base N__law_plus "_law_plus" (defScope st__law_plus) f cdv A outer s H E) rfl rfl rfl rfl
  have hp := passes_of (X := XOf P w K mg base N__law_plus "_law_plus" (defScope st__law_plus) f cdv A outer s H E) rfl
  exact (jls_of (jss_cons (js_set 3 nd ((j_callTy ca_tuple m_tuple (by decide +kernel) (ja_cons ncl_w ((j_lc rfl nd (own := [("_law_number", 5)]) (ws := [5]) (JI.weak (ji_seq (j_ix (j_var 0) (j_int).fw))) (blkOk_by (N := N__law_plus) (sc := defScope st__law_plus) (by decide +kernel)) (fun _ _ _ _ _ => (jg_name 5 nd)) (fun _ _ _ _ _ => jts_nil) (fun _ _ _ _ _ => ((j_bind okd_mul ((j_var 5)).sd ((j_ix (j_var 1) (j_int).fw)).sd)).sf) (by decide))).fw ja_nil))).sf)
    (jss_cons (js_set 4 nd ((j_callTy ca_tuple m_tuple (by decide +kernel) (ja_cons ncl_w ((j_lc rfl nd (own := [("_law_number", 5)]) (ws := [5]) (JI.weak (ji_seq (j_ix (j_var 1) (j_int).fw))) (blkOk_by (N := N__law_plus) (sc := defScope st__law_plus) (by decide +kernel)) (fun _ _ _ _ _ => (jg_name 5 nd)) (fun _ _ _ _ _ => jts_nil) (fun _ _ _ _ _ => ((j_bind okd_mul ((j_var 5)).sd ((j_ix (j_var 0) (j_int).fw)).sd)).sf) (by decide))).fw ja_nil))).sf)
    (jss_one (js_ret ((j_call h__law_poly (hr.mono (by decide)) tk (by rfl) (ja_cons ncl_w ((j_call h__law_sum (hr.mono (by decide)) tk (by rfl) (ja_cons ncl_w ((j_var 3)).sw (ja_cons ncl_w ((j_var 4)).sw (ja_cons ncl_w ((j_var 2)).sw ja_nil))))).fw (ja_cons ncl_w ((j_bind okd_mul ((j_ix (j_var 0) (j_int).fw)).sd ((j_ix (j_var 1) (j_int).fw)).sd)).fw ja_nil)))).fr)))))
abbrev st__law_is_row : Stmt := topS 57
def N__law_is_row : List Str := ["_law_thing", "_law_one"]
theorem sc__law_is_row : FnScope N__law_is_row ["_law_thing"] (defScope st__law_is_row) := ⟨rfl, rfl, rfl, by decide +kernel, rfl, by decide +kernel, by decide +kernel⟩
theorem w__law_is_row (m_bool : mg "bool" = none) (m_int : mg "int" = none) (m_isinstance : mg "isinstance" = none) (m_tuple : mg "tuple" = none) : BodyK P w K mg base W 0 N__law_is_row "_law_is_row" st__law_is_row b__law_is_row := by
  intro f cdv A outer s H E F0 V hV hr
  have nd : N__law_is_row.Nodup := by decide +kernel
  have tk := takes_of (X := XOf P w K mg base N__law_is_row "_law_is_row" (defScope st__law_is_row) f cdv A outer s H E) rfl rfl rfl rfl
  have hp := passes_of (X := XOf P w K mg base N__law_is_row "_law_is_row" (defScope st__law_is_row) f cdv A outer s H E) rfl
  exact (jss_cons (js_if (jt_not (jt_val ((j_isi isi_tuple ((j_var 0)).sw m_isinstance m_tuple (by decide +kernel))).fw))
      (jss_one (js_ret (j_bl).fr))
      jss_nil)
    (jss_cons (js_if (jt_cmp (ok_ne0 hr.units) ((j_lc rfl nd (own := [("_law_one", 1)]) (ws := [1]) (JI.weak (ji_seq (j_var 0))) (blkOk_by (N := N__law_is_row) (sc := defScope st__law_is_row) (by decide +kernel)) (fun _ _ _ _ _ => (jg_name 1 nd)) (fun _ _ _ _ _ => (jts_one (JW.t (jw_or (jt_val ((j_isi isi_bool ((j_var 1)).sw m_isinstance m_bool (by decide +kernel))).fw) (jw_or1 (jt_not (jt_val ((j_isi isi_int ((j_var 1)).sw m_isinstance m_int (by decide +kernel))).fw))))))) (fun _ _ _ _ _ => (j_var 1)) (by decide))).fw ((j_lst ja_nil)).fw)
      (jss_one (js_ret (j_bl).fr))
      jss_nil)
    (jss_one (js_ret ((j_or (j_cmp (ok_eq hr.units) ((j_var 0)).sw ((j_tup ja_nil)).fw) (j_one (j_cmp (ok_ne hr.units) ((j_ix (j_var 0) ((j_neg (j_int).fw)).fw)).sw (j_int).fw)))).fr))))
abbrev st__law_is_number : Stmt := topS 58
def N__law_is_number : List Str := ["_law_thing"]
theorem sc__law_is_number : FnScope N__law_is_number ["_law_thing"] (defScope st__law_is_number) := ⟨rfl, rfl, rfl, by decide +kernel, rfl, by decide +kernel, by decide +kernel⟩
theorem w__law_is_number (m_bool : mg "bool" = none) (m_int : mg "int" = none) (m_isinstance : mg "isinstance" = none) : BodyK P w K mg base W 0 N__law_is_number "_law_is_number" st__law_is_number b__law_is_number := by
  intro f cdv A outer s H E F0 V hV hr
  have nd : N__law_is_number.Nodup := by decide +kernel
  have tk := takes_of (X := XOf P w K mg base N__law_is_number "_law_is_number" (defScope st__law_is_number) f cdv A outer s H E) rfl rfl rfl rfl
  have hp := passes_of (X := XOf P w K mg base N__law_is_number "_law_is_number" (defScope st__law_is_number) f cdv A outer s H E) rfl
  exact (jss_one (js_ret ((j_and (j_isi isi_int ((j_var 0)).sw m_isinstance m_int (by decide +kernel)) (j_one (j_not (j_isi isi_bool ((j_var 0)).sw m_isinstance m_bool (by decide +kernel)))))).fr))
abbrev st__law_is_poly : Stmt := topS 59
def N__law_is_poly : List Str := ["_law_thing"]
theorem sc__law_is_poly : FnScope N__law_is_poly ["_law_thing"] (defScope st__law_is_poly) := ⟨rfl, rfl, rfl, by decide +kernel, rfl, by decide +kernel, by decide +kernel⟩
theorem w__law_is_poly (m_isinstance : mg "isinstance" = none) (m_len : mg "len" = none) (m_list : mg "list" = none) (m_tuple : mg "tuple" = none) (h__law_common : FD P w K mg base W 1 "_law_common" [] s__law_common) (h__law_is_number : FDK P w K mg base W 1 "_law_is_number" s__law_is_number) (h__law_is_row : FDK P w K mg base W 1 "_law_is_row" s__law_is_row) : BodyK P w K mg base W 1 N__law_is_poly "_law_is_poly" st__law_is_poly b__law_is_poly_t := by
  intro f cdv A outer s H E F0 V hV hr
  have nd : N__law_is_poly.Nodup := by decide +kernel
  have tk := takes_of (X := XOf P w K mg base N__law_is_poly "_law_is_poly" (defScope st__law_is_poly) f cdv A outer s H E) rfl rfl rfl rfl
  have hp := passes_of (X := XOf P w K mg base N__law_is_poly "_law_is_poly" (defScope st__law_is_poly) f cdv A outer s H E) rfl
  exact (jss_cons (js_if (JW.t (jw_or (jt_not (jt_val ((j_isi isi_tuple ((j_var 0)).sw m_isinstance m_tuple (by decide +kernel))).fw)) (jw_or (jt_cmp (ok_ne hr.units) ((j_callB ca_len m_len (by decide +kernel) (ja_cons ncl_w ((j_var 0)).sw ja_nil))).fw (j_int).fw) (jw_or (jt_not (jt_val ((j_callK h__law_is_row (hr.mono (by decide)) tk (by rfl) (ja_cons ncl_s (j_ix (j_var 0) (j_int).fw) ja_nil))).sw)) (jw_or1 (jt_not (jt_val ((j_callK h__law_is_number (hr.mono (by decide)) tk (by rfl) (ja_cons ncl_s (j_ix (j_var 0) (j_int).fw) ja_nil))).sw)))))))
      (jss_one (js_ret (j_bl).fr))
      jss_nil)
    (jss_one (js_ret ((j_and (j_cmp ok_gt ((j_ix (j_var 0) (j_int).fw)).sw (j_int).fw) (j_one (j_cmp (ok_eq hr.units) ((j_call h__law_common (hr.mono (by decide)) tk (by rfl) (ja_cons ncl_w ((j_bind okd_add ((j_callTy ca_list m_list (by decide +kernel) (ja_cons ncl_w ((j_ix (j_var 0) (j_int).fw)).sw ja_nil))).fd ((j_lst (ja_cons ncl_s (j_ix (j_var 0) (j_int).fw) ja_nil))).fd)).fw ja_nil))).fw (j_int).fw)))).fr)))
abbrev st__law_shows_common : Stmt := topS 62
def N__law_shows_common : List Str := ["_law_one", "_law_other", "_law_paper", "_law_shared_one", "_law_first", "_law_second", "_law_left", "_law_right", "_law_part"]
theorem sc__law_shows_common : FnScope N__law_shows_common ["_law_one", "_law_other", "_law_paper"] (defScope st__law_shows_common) := ⟨rfl, rfl, rfl, by decide +kernel, rfl, by decide +kernel, by decide +kernel⟩
theorem w__law_shows_common (m_all : mg "all" = none) (m_isinstance : mg "isinstance" = none) (m_len : mg "len" = none) (m_tuple : mg "tuple" = none) (h__law_is_poly : FDK P w K mg base W 2 "_law_is_poly" s__law_is_poly_t) (h__law_plus : FD P w K mg base W 3 "_law_plus" [] s__law_plus) (h__law_times : FD P w K mg base W 3 "_law_times" [] s__law_times) : BodyK P w K mg base W 3 N__law_shows_common "_law_shows_common" st__law_shows_common b__law_shows_common := by
  intro f cdv A outer s H E F0 V hV hr
  have nd : N__law_shows_common.Nodup := by decide +kernel
  have tk := takes_of (X := XOf P w K mg base N__law_shows_common "_law_shows_common" (defScope st__law_shows_common) f cdv A outer s H E) rfl rfl rfl rfl
  have hp := passes_of (X := XOf P w K mg base N__law_shows_common "_law_shows_common" (defScope st__law_shows_common) f cdv A outer s H E) rfl
  exact (jss_cons (js_if (JW.t (jw_or (jt_not (jt_val ((j_isi isi_tuple ((j_var 2)).sw m_isinstance m_tuple (by decide +kernel))).fw)) (jw_or (jt_cmp (ok_ne hr.units) ((j_callB ca_len m_len (by decide +kernel) (ja_cons ncl_w ((j_var 2)).sw ja_nil))).fw (j_int).fw) (jw_or1 (jt_not (jt_val ((j_callB (ca_all rfl) m_all (by decide +kernel) (ja_cons ncl_w ((j_lc rfl nd (own := [("_law_part", 8)]) (ws := [8]) (JI.weak (ji_seq (j_var 2))) (blkOk_by (N := N__law_shows_common) (sc := defScope st__law_shows_common) (by decide +kernel)) (fun _ _ _ _ _ => (jg_name 8 nd)) (fun _ _ _ _ _ => jts_nil) (fun _ _ _ _ _ => (j_callK h__law_is_poly (hr.mono (by decide)) takes0 (by rfl) (ja_cons ncl_s (j_var 8) ja_nil))) (by decide))).fw ja_nil))).fw))))))
      (jss_one (js_ret (j_bl).fr))
      jss_nil)
    (jss_cons (js_asg (j_var 2) (jg_tup rfl (jgs_cons (jg_name 3 nd) (jgs_cons (jg_name 4 nd) (jgs_cons (jg_name 5 nd) (jgs_cons (jg_name 6 nd) (jgs_cons (jg_name 7 nd) jgs_nil)))))))
    (jss_cons (js_if (JW.t (jw_and (jt_cmp (ok_ne hr.units) ((j_ix (j_var 3) (j_int).fw)).sw ((j_tup ja_nil)).fw) (jw_and1 (jt_cmp (ok_ne hr.units) ((j_ix (j_ix (j_var 3) (j_int).fw) ((j_neg (j_int).fw)).fw)).sw ((j_ix (j_var 3) (j_int).fw)).sw))))
      (jss_one (js_ret (j_bl).fr))
      jss_nil)
    (jss_cons (js_if (JW.t (jw_or (jt_cmp (ok_ne hr.units) ((j_call h__law_times (hr.mono (by decide)) tk (by rfl) (ja_cons ncl_w ((j_var 6)).sw (ja_cons ncl_w ((j_var 3)).sw ja_nil)))).fw ((j_var 0)).sw) (jw_or1 (jt_cmp (ok_ne hr.units) ((j_call h__law_times (hr.mono (by decide)) tk (by rfl) (ja_cons ncl_w ((j_var 7)).sw (ja_cons ncl_w ((j_var 3)).sw ja_nil)))).fw ((j_var 1)).sw))))
      (jss_one (js_ret (j_bl).fr))
      jss_nil)
    (jss_one (js_ret ((j_cmp (ok_eq hr.units) ((j_call h__law_plus (hr.mono (by decide)) tk (by rfl) (ja_cons ncl_w ((j_call h__law_times (hr.mono (by decide)) tk (by rfl) (ja_cons ncl_w ((j_var 4)).sw (ja_cons ncl_w ((j_var 0)).sw ja_nil)))).fw (ja_cons ncl_w ((j_call h__law_times (hr.mono (by decide)) tk (by rfl) (ja_cons ncl_w ((j_var 5)).sw (ja_cons ncl_w ((j_var 1)).sw ja_nil)))).fw (ja_cons ncl_w (j_int).fw ja_nil))))).fw ((j_var 3)).sw)).fr))))))
abbrev st__law_scaled : Stmt := topS 63
def N__law_scaled : List Str := ["_law_paper", "_law_number", "_law_more", "_law_one"]
theorem sc__law_scaled : FnScope N__law_scaled ["_law_paper", "_law_number"] (defScope st__law_scaled) := ⟨rfl, rfl, rfl, by decide +kernel, rfl, by decide +kernel, by decide +kernel⟩
theorem w__law_scaled (m_tuple : mg "tuple" = none) (h__law_poly : FD P w K mg base W 2 "_law_poly" [] s__law_poly) (h__law_times : FD P w K mg base W 3 "_law_times" [] s__law_times) : BodyJ P w K mg base W 3 N__law_scaled "_law_scaled" st__law_scaled b__law_scaled := by
  intro f cdv A outer s H E F0 hr
  have nd : N__law_scaled.Nodup := by decide +kernel
  have tk := takes_of (X := XOf P w K mg base N__law_scaled "_law_scaled" (defScope st__law_scaled) f cdv A outer s H E) rfl rfl rfl rfl
  have hp := passes_of (X := XOf P w K mg base N__law_scaled "_law_scaled" (defScope st__law_scaled) f cdv A outer s H E) rfl
  exact (jls_of (jss_cons (js_setLc 2 rfl nd (own := [("_law_one", 3)]) (ws := [3]) (JI.weak (ji_seq ((j_sl ((j_var 0)).sw jo_none (jo_some (j_int).fw))).sf)) (blkOk_by (N := N__law_scaled) (sc := defScope st__law_scaled) (by decide +kernel)) (fun _ _ _ _ _ => (jg_name 3 nd)) (fun _ _ _ _ _ => jts_nil) (fun _ _ _ _ _ => ((j_call h__law_times (hr.mono (by decide)) takes0 (by rfl) (ja_cons ncl_w ((j_var 3)).sw (ja_cons ncl_w ((j_tup (ja_cons ncl_s ((j_tup (ja_cons ncl_s (j_var 1) ja_nil))).sf (ja_cons ncl_s (j_int).sf ja_nil)))).fw ja_nil)))).sf) (by decide))
    (jss_one (js_ret ((j_callTy ca_tuple m_tuple (by decide +kernel) (ja_cons ncl_w ((j_bind okd_add ((j_var 2)).sd ((j_lc rfl nd (own := [("_law_one", 3)]) (ws := [3]) (JI.weak (ji_seq ((j_sl ((j_var 0)).sw (jo_some (j_int).fw) jo_none)).sf)) (blkOk_by (N := N__law_scaled) (sc := defScope st__law_scaled) (by decide +kernel)) (fun _ _ _ _ _ => (jg_name 3 nd)) (fun _ _ _ _ _ => jts_nil) (fun _ _ _ _ _ => ((j_call h__law_times (hr.mono (by decide)) takes0 (by rfl) (ja_cons ncl_w ((j_var 3)).sw (ja_cons ncl_w ((j_call h__law_poly (hr.mono (by decide)) takes0 (by rfl) (ja_cons ncl_w ((j_tup (ja_cons ncl_s (j_int).sf ja_nil))).fw (ja_cons ncl_w ((j_var 1)).sw ja_nil)))).fw ja_nil)))).sf) (by decide))).fd)).fw ja_nil))).fr))))
abbrev st_law : Stmt := topS 65
def N_law : List Str := ["_law_script", "_law_m", "_law_pairs", "_law_papers", "_law_turn", "_law_third", "_law_one", "_law_other", "_law_paper", "_law_bent_here", "_law_nought", "_law_kept", "_law_told"]
theorem sc_law : FnScope N_law ["_law_script"] (defScope st_law) := ⟨rfl, rfl, rfl, by decide +kernel, rfl, by decide +kernel, by decide +kernel⟩
theorem w_law (m_bool : mg "bool" = none) (m_isinstance : mg "isinstance" = none) (m_len : mg "len" = none) (m_list : mg "list" = none) (m_range : mg "range" = none) (m_repr : mg "repr" = none) (i_dig : PySem.W.nsIn K cStatics "sys.int_max_str_digits" = some none) (h__law_begun : FD P w K mg base DrW 2 "_law_begun" [] s__law_begun) (h__law_bent : FDK P w K mg base DrW 34 "_law_bent" (s__law_bent_l 30)) (h__law_draw : FD P w K mg base DrW 2 "_law_draw" [] s__law_draw) (h__law_odd : FDK P w K mg base DrW 12 "_law_odd" (s__law_odd_t 7)) (h__law_scaled : FD P w K mg base DrW 4 "_law_scaled" [] s__law_scaled) (h__law_shows_common : FDK P w K mg base DrW 4 "_law_shows_common" s__law_shows_common) (h__law_small_poly : FD P w K mg base DrW 5 "_law_small_poly" [] s__law_small_poly) (h__law_times : FD P w K mg base DrW 3 "_law_times" [] s__law_times) (h_common_paper : FD P w K mg base DrW 8 "common_paper" [] s_shared_common_paper) (h_shows_common : FDK P w K mg base DrW 5 "shows_common" s_checking_shows_common) : BodyJ P w K mg base DrW 34 N_law "law" st_law b_law := by
  intro f cdv A outer s H E F0 hr
  have nd : N_law.Nodup := by decide +kernel
  have tk := takes_of (X := XOf P w K mg base N_law "law" (defScope st_law) f cdv A outer s H E) rfl rfl rfl rfl
  have hp := passes_of (X := XOf P w K mg base N_law "law" (defScope st_law) f cdv A outer s H E) rfl
  exact (jls_of (jss_cons (js_set 1 nd ((j_call h__law_begun (hr.mono (by decide)) tk (by rfl) (ja_cons ncl_w (j_bor 0) ja_nil))).sf)
    (jss_cons (js_parO 2 3 rfl nd (j_lst ja_nil) (j_lst ja_nil))
    (jss_cons (js_for hp rfl (ji_range1 (st := true) m_range (ja_cons ncl_w (j_int).fw ja_nil)) (jg_name 4 nd)
      (jss_cons (js_set 5 nd ((j_call h__law_small_poly (hr.mono (by decide)) tk (by rfl) (ja_cons ncl_w ((j_var 1)).sw (ja_cons ncl_w (j_int).fw ja_nil)))).sf)
    (jss_cons (js_par 6 7 rfl nd (ja_cons ncl_s ((j_call h__law_small_poly (hr.mono (by decide)) tk (by rfl) (ja_cons ncl_w ((j_var 1)).sw (ja_cons ncl_w (j_int).fw ja_nil)))).sf (ja_cons ncl_s ((j_call h__law_small_poly (hr.mono (by decide)) tk (by rfl) (ja_cons ncl_w ((j_var 1)).sw (ja_cons ncl_w (j_int).fw ja_nil)))).sf ja_nil)))
    (jss_cons (js_if (jt_cmp ok_gt ((j_call h__law_draw (hr.mono (by decide)) tk (by rfl) (ja_cons ncl_w ((j_var 1)).sw (ja_cons ncl_w (j_int).fw ja_nil)))).fw (j_int).fw)
      (jss_one (js_par 6 7 rfl nd (ja_cons ncl_s ((j_call h__law_times (hr.mono (by decide)) tk (by rfl) (ja_cons ncl_w ((j_var 6)).sw (ja_cons ncl_w ((j_var 5)).sw ja_nil)))).sf (ja_cons ncl_s ((j_call h__law_times (hr.mono (by decide)) tk (by rfl) (ja_cons ncl_w ((j_var 7)).sw (ja_cons ncl_w ((j_var 5)).sw ja_nil)))).sf ja_nil))))
      jss_nil)
    (jss_cons (js_set 8 nd ((j_call h_common_paper (hr.mono (by decide)) tk (by rfl) (ja_cons ncl_w ((j_var 6)).sw (ja_cons ncl_w ((j_var 7)).sw ja_nil)))).sf)
    (jss_cons (js_if (JW.t (jw_or (jt_not (jt_val ((j_callK h__law_shows_common (hr.mono (by decide)) tk (by rfl) (ja_cons ncl_s (j_var 6) (ja_cons ncl_s (j_var 7) (ja_cons ncl_s (j_var 8) ja_nil))))).sw)) (jw_or1 (jt_cmp (ok_ne hr.units) ((j_var 8)).sw ((j_call h_common_paper (hr.mono (by decide)) tk (by rfl) (ja_cons ncl_w ((j_var 6)).sw (ja_cons ncl_w ((j_var 7)).sw ja_nil)))).fw))))
      (jss_one (js_ret (j_bl).fr))
      jss_nil)
    (jss_cons (js_append 2 ((j_tup (ja_cons ncl_s (j_var 6) (ja_cons ncl_s (j_var 7) ja_nil)))).sf)
    (jss_cons (js_setN 3 nd (jn_cat (jb_own 3) ((j_lst (ja_cons ncl_s (j_var 8) (ja_cons ncl_s ((j_tup (ja_cons ncl_s (j_ix (j_var 8) (j_int).fw) (ja_cons ncl_s (j_ix (j_var 8) (j_int).fw) (ja_cons ncl_s (j_ix (j_var 8) (j_int).fw) (ja_cons ncl_s (j_ix (j_var 8) (j_int).fw) (ja_cons ncl_s (j_ix (j_var 8) (j_int).fw) ja_nil))))))).sf (ja_cons ncl_s ((j_callTy ca_list m_list (by decide +kernel) (ja_cons ncl_w ((j_var 8)).sw ja_nil))).sf ja_nil))))).sf))
    (jss_one (js_setN 3 nd (jn_cat (jb_own 3) ((j_lst (ja_cons ncl_s ((j_call h__law_scaled (hr.mono (by decide)) tk (by rfl) (ja_cons ncl_w ((j_var 8)).sw (ja_cons ncl_w (j_int).fw ja_nil)))).sf (ja_cons ncl_s ((j_call h__law_scaled (hr.mono (by decide)) tk (by rfl) (ja_cons ncl_w ((j_var 8)).sw (ja_cons ncl_w ((j_neg (j_int).fw)).fw ja_nil)))).sf ja_nil)))).sf)))))))))))
    (jss_cons (js_for hp rfl (ji_range1 (st := true) m_range (ja_cons ncl_w (j_int).fw ja_nil)) (jg_name 4 nd)
      (jss_cons (js_set 9 nd (j_callK h__law_bent (hr.mono (by decide)) tk (by rfl) (ja_cons ncl_s (j_var 1) (ja_cons ncl_s (j_ixB (jb_own 3) ((j_call h__law_draw (hr.mono (by decide)) tk (by rfl) (ja_cons ncl_w ((j_var 1)).sw (ja_cons ncl_w ((j_callB ca_len m_len (by decide +kernel) (ja_cons ncl_w (j_own 3) ja_nil))).fw ja_nil)))).fw) ja_nil))))
    (jss_cons (js_appendL 3 (j_ix ((j_lst (ja_cons ncl_s (j_var 9) (ja_cons ncl_s (j_callK h__law_bent (hr.mono (by decide)) tk (by rfl) (ja_cons ncl_s (j_var 1) (ja_cons ncl_s (j_var 9) ja_nil))) ja_nil)))).sf ((j_call h__law_draw (hr.mono (by decide)) tk (by rfl) (ja_cons ncl_w ((j_var 1)).sw (ja_cons ncl_w (j_int).fw ja_nil)))).fw))
    (jss_one (js_appendL 3 (j_callK h__law_odd (hr.mono (by decide)) tk (by rfl) (ja_cons ncl_s (j_var 1) (ja_cons ncl_s (j_int).sf ja_nil))))))))
    (jss_cons (js_set 10 nd ((j_tup (ja_cons ncl_s ((j_tup ja_nil)).sf (ja_cons ncl_s (j_int).sf ja_nil)))).sf)
    (jss_cons (js_setN 3 nd (jn_cat (jb_own 3) ((j_lst (ja_cons ncl_s (j_non).sf (ja_cons ncl_s ((j_tup ja_nil)).sf (ja_cons ncl_s ((j_bind okd_mul ((j_tup (ja_cons ncl_s (j_var 10) ja_nil))).fd (j_int).fd)).sf (ja_cons ncl_s ((j_bind okd_mul ((j_lst (ja_cons ncl_s (j_var 10) ja_nil))).fd (j_int).fd)).sf (ja_cons ncl_s ((j_tup (ja_cons ncl_s ((j_tup (ja_cons ncl_s ((j_tup (ja_cons ncl_s (j_int).sf ja_nil))).sf (ja_cons ncl_s (j_int).sf ja_nil)))).sf (ja_cons ncl_s (j_var 10) (ja_cons ncl_s (j_var 10) (ja_cons ncl_s (j_ix (j_ixw (j_own 2) (j_int).fw) (j_int).fw) (ja_cons ncl_s (j_ix (j_ixw (j_own 2) (j_int).fw) (j_int).fw) ja_nil))))))).sf ja_nil))))))).sf))
    (jss_cons (js_appendL 3 ((j_tup (ja_cons ncl_s (j_var 10) (ja_cons ncl_s ((j_tup (ja_cons ncl_s ((j_tup (ja_cons ncl_s (j_int).sf ja_nil))).sf (ja_cons ncl_s (j_int).sf ja_nil)))).sf (ja_cons ncl_s ((j_tup (ja_cons ncl_s ((j_tup (ja_cons ncl_s (j_int).sf (ja_cons ncl_s (j_int).sf ja_nil)))).sf (ja_cons ncl_s (j_int).sf ja_nil)))).sf (ja_cons ncl_s ((j_tup (ja_cons ncl_s ((j_tup (ja_cons ncl_s (j_int).sf ja_nil))).sf (ja_cons ncl_s (j_int).sf ja_nil)))).sf (ja_cons ncl_s ((j_tup (ja_cons ncl_s ((j_tup (ja_cons ncl_s (j_int).sf (ja_cons ncl_s (j_int).sf ja_nil)))).sf (ja_cons ncl_s (j_int).sf ja_nil)))).sf ja_nil))))))).sf)
    (jss_cons (js_for hp rfl (ji_seq ((j_bind okd_add (jd_own 2) ((j_lst (ja_cons ncl_s ((j_tup (ja_cons ncl_s (j_var 10) (ja_cons ncl_s (j_var 10) ja_nil)))).sf (ja_cons ncl_s ((j_tup (ja_cons ncl_s (j_ix (j_ixw (j_own 2) (j_int).fw) (j_int).fw) (ja_cons ncl_s (j_var 10) ja_nil)))).sf ja_nil)))).fd)).sf) (jg_tup rfl (jgs_cons (jg_name 6 nd) (jgs_cons (jg_name 7 nd) jgs_nil)))
      (jss_cons (js_for hp rfl (ji_seq ((jn_f (jn_cat (jb_own 3) ((j_lst (ja_cons ncl_s ((j_call h_common_paper (hr.mono (by decide)) tk (by rfl) (ja_cons ncl_w ((j_var 6)).sw (ja_cons ncl_w ((j_var 7)).sw ja_nil)))).sf ja_nil))).sf))).sf) (jg_name 8 nd)
      (jss_cons (js_set 11 nd ((j_callB (ca_reprT i_dig hr.gd hr.units) m_repr (by decide +kernel) (ja_cons ncl_w ((j_var 8)).sw ja_nil))).sf)
    (jss_cons (js_set 12 nd (j_callK h_shows_common (hr.mono (by decide)) tk (by rfl) (ja_cons ncl_s (j_var 6) (ja_cons ncl_s (j_var 7) (ja_cons ncl_s (j_var 8) ja_nil)))))
    (jss_one (js_if (JW.t (jw_or (jt_not (jt_val ((j_isi isi_bool ((j_var 12)).sw m_isinstance m_bool (by decide +kernel))).fw)) (jw_or (jt_cmp (ok_ne hr.units) ((j_var 12)).sw ((j_callK h__law_shows_common (hr.mono (by decide)) tk (by rfl) (ja_cons ncl_s (j_var 6) (ja_cons ncl_s (j_var 7) (ja_cons ncl_s (j_var 8) ja_nil))))).sw) (jw_or1 (jt_cmp (ok_ne hr.units) ((j_callB (ca_reprT i_dig hr.gd hr.units) m_repr (by decide +kernel) (ja_cons ncl_w ((j_var 8)).sw ja_nil))).fw ((j_var 11)).sw)))))
      (jss_one (js_ret (j_bl).fr))
      jss_nil)))))
    (jss_one (js_if (jt_not (jt_val ((j_callK h_shows_common (hr.mono (by decide)) tk (by rfl) (ja_cons ncl_s (j_var 6) (ja_cons ncl_s (j_var 7) (ja_cons ncl_s ((j_call h_common_paper (hr.mono (by decide)) tk (by rfl) (ja_cons ncl_w ((j_var 6)).sw (ja_cons ncl_w ((j_var 7)).sw ja_nil)))).sf ja_nil))))).sw))
      (jss_one (js_ret (j_bl).fr))
      jss_nil))))
    (jss_one (js_ret (j_bl).fr)))))))))))
abbrev st__law_draw : Stmt := topS 46
theorem sc__law_draw : FnScope N__law_draw ["_law_m", "_law_many"] (defScope st__law_draw) := ⟨rfl, rfl, rfl, by decide +kernel, rfl, by decide +kernel, by decide +kernel⟩
theorem x__law_draw (DF : Dfn K mg "_law_draw" "_law_draw" st__law_draw ["_law_m", "_law_many"]) (hm : FD P w K mg base W0 1 "_law_mixed" [] s__law_mixed) (ml : mg "len" = none) : FD P w K mg base DrW 2 "_law_draw" [] s0__law_draw := by
  obtain ⟨f, fd, F, gf, bf⟩ := DF.ex
  obtain ⟨fm, fdm, psm, dsm, dvs, G, gm, km, bm, hd, hdd⟩ := hm
  have e0 : dvs = [] := List.length_eq_zero_iff.mp (hdd [] (fun _ => none)).length
  subst e0
  have G := hMix_of G
  refine ⟨f, fd, _, [], [], ?_, gf, F.kp, bf, .nil, fun _ _ => .nil⟩
  have S := sc__law_draw
  refine okG F S (fun vs H Q E h => ?_) fun cdv A outer s H vs Q E hr h => ?_
  · obtain ⟨F, m, ds, Qd, Zd, rz, dv, ⟨N, many, rfl, _⟩, _⟩ := h
    exact dv.length
  have hu : (A.deeper (envOfC "_law_draw" (defScope st__law_draw) s.heap.objs.size f cdv)).units + 1 < cLine := by have := hr.units; omega
  have tk := takes_of (X := XOf P w K mg base N__law_draw "_law_draw" (defScope st__law_draw) f cdv A outer s H E) rfl rfl rfl rfl
  refine ⟨_, pss_cons (ps_set (i := 2) S.nd rfl (.inl rfl) (pe_dget hu (pv 0) pe_str (fun _ _ => rfl)))
    (pss_cons (ps_dput hu (pv 0) pe_str (pe_op op_add (pv 2) pe_int) rfl)
    (pss_cons (ps_if (pt_cmpR (op_neD hr.units) (pe_dget hu (pv 0) pe_str (fun _ _ => rfl)) (pe_lst pa_nil) (nomark _))
      (pss_cons (ps_set (i := 3) S.nd rfl (.inl rfl) (pe_op op_modN (pv 2) (pe_callB call_len_seq (by rfl) ml PySem.boot_len (pa_cons (pe_dget hu (pv 0) pe_str (fun _ _ => rfl)) pa_nil))))
      (pss_cons (ps_set (i := 4) S.nd rfl (.inl rfl) (pe_ix ix_list (pe_dget hu (pv 0) pe_str (fun _ _ => rfl)) (pv 3) (fun _ _ => rfl)))
      (pss_one (ps_if (pt_cmpR op_notIn_seq (pv 4) (pe_tup (pa_cons pe_int (pa_cons (pe_un un_neg pe_int) pa_nil))) rfl)
        (pss_cons (ps_asg (pe_op op_fdivA (pv 4) (pv 1)) (pg_sub (pe_dget hu (pv 0) pe_str (fun _ _ => rfl)) (pv 3) set_list (fun _ => rfl)))
        (pss_one (ps_ret (pe_op op_modN (pv 4) (pv 1)))))
        pss_nil))))
      pss_nil)
    (pss_one (ps_ret (pe_op op_modN (pe_callG (E := fun σ cls d H' => E cls d H') (dvs := []) G (hr.mono (by decide)) (by rfl) gm km bm hd (fun σ => passAt tk σ)
      (pa_cons (pe_callG (E := fun σ cls d H' => E cls d H') (dvs := []) G (hr.mono (by decide)) (by rfl) gm km bm hd (fun σ => passAt tk σ)
        (pa_cons (pe_op op_add (pe_ix ix_list (pe_dget hu (pv 0) pe_str (fun _ _ => rfl)) (pe_op op_modN (pv 2) pe_int) (fun _ _ => rfl)) (pe_op op_mulA pe_int (pe_op op_fdivA (pv 2) pe_int))) (pa_cons (pv 2) pa_nil)))
      (pa_cons (pe_op op_add (pv 2) pe_int) pa_nil))) (pv 1)))))), ?_⟩
  exact rd_draw (mg := mg) h
abbrev st__law_begun : Stmt := topS 47
theorem sc__law_begun : FnScope N__law_begun ["_law_script"] (defScope st__law_begun) := ⟨rfl, rfl, rfl, by decide +kernel, rfl, by decide +kernel, by decide +kernel⟩
theorem x__law_begun (DF : Dfn K mg "_law_begun" "_law_begun" st__law_begun ["_law_script"]) (hm : FD P w K mg base W0 1 "_law_folded" [] s__law_folded) : FD P w K mg base DrW 2 "_law_begun" [] s0__law_begun := by
  obtain ⟨f, fd, F, gf, bf⟩ := DF.ex
  obtain ⟨fm, fdm, psm, dsm, dvs, G, gm, km, bm, hd, hdd⟩ := hm
  have e0 : dvs = [] := List.length_eq_zero_iff.mp (hdd [] (fun _ => none)).length
  subst e0
  have G := hFold_of G
  refine ⟨f, fd, _, [], [], ?_, gf, F.kp, bf, .nil, fun _ _ => .nil⟩
  have S := sc__law_begun
  refine okG F S (fun vs H Q E h => ?_) fun cdv A outer s H vs Q E hr h => ?_
  · obtain ⟨F, m, ds, Qd, Zd, rz, dv, ⟨ns, rfl, _⟩, _⟩ := h
    exact dv.length
  have hu : (A.deeper (envOfC "_law_begun" (defScope st__law_begun) s.heap.objs.size f cdv)).units + 1 < cLine := by have := hr.units; omega
  have tk := takes_of (X := XOf P w K mg base N__law_begun "_law_begun" (defScope st__law_begun) f cdv A outer s H E) rfl rfl rfl rfl
  refine ⟨_, pss_cons (ps_set (i := 1) S.nd rfl (.inl rfl) (pe_disp (pps_cons pe_str (pe_callG (E := fun σ cls d H' => E cls d H') (dvs := []) G (hr.mono (by decide)) (by rfl) gm km bm hd (fun σ => passAt tk σ) (pa_cons (pv 0) pa_nil))
      (pps_cons pe_str (pe_lst pa_nil) (pps_cons pe_str pe_int pps_nil))) rfl rfl (by decide) (by decide)))
    (pss_cons (ps_if (PW.pt (pw_and (pt_cmpR (op_neD hr.units) (pv 0) (pe_lst pa_nil) (nomark _)) (pw_and1 (pt_cmpR op_eq (pe_op op_modN (pe_ix ix_list (pv 0) pe_int (fun _ _ => rfl)) pe_int) pe_int (nomark _)))))
      (pss_one (ps_dput hu (pv 1) pe_str (pe_op op_cat (pe_lst (pa_cons (pe_op op_fdivA (pe_ix ix_list (pv 0) pe_int (fun _ _ => rfl)) pe_int) pa_nil)) (pe_slice sl_list (pv 0) (po_some pe_int) po_none)) rfl))
      pss_nil)
    (pss_one (ps_ret (pv 1)))), ?_⟩
  exact rd_begun (mg := mg) h
theorem ok_law {f : Addr} {fd : FuncData} (F : Fun K "law" "law" st_law f fd) (D__law_folded : Dfn K mg "_law_folded" "_law_folded" st__law_folded ["_law_script"]) (D__law_begun : Dfn K mg "_law_begun" "_law_begun" st__law_begun ["_law_script"]) (D__law_common : Dfn K mg "_law_common" "_law_common" st__law_common ["_law_numbers"]) (D__law_poly : Dfn K mg "_law_poly" "_law_poly" st__law_poly ["_law_row", "_law_below"]) (D__law_cut : Dfn K mg "_law_cut" "_law_cut" st__law_cut ["_law_numbers"]) (D__law_mixed : Dfn K mg "_law_mixed" "_law_mixed" st__law_mixed ["_law_cell", "_law_k"]) (D__law_draw : Dfn K mg "_law_draw" "_law_draw" st__law_draw ["_law_m", "_law_many"]) (D__law_small : Dfn K mg "_law_small" "_law_small" st__law_small ["_law_m", "_law_size"]) (D__law_small_row : Dfn K mg "_law_small_row" "_law_small_row" st__law_small_row ["_law_m", "_law_most", "_law_size"]) (D__law_small_poly : Dfn K mg "_law_small_poly" "_law_small_poly" st__law_small_poly ["_law_m", "_law_most"]) (D_common : Dfn K mg "common" "common" st_common ["one", "other"]) (D_fraction : DfD K mg "fraction" "fraction" st_fraction ["n", "d"] [1]) (D_over : Dfn K mg "over" "over" st_over ["one", "other"]) (D_last_of : Dfn K mg "last_of" "last_of" st_last_of ["some"]) (D_content : Dfn K mg "content" "content" st_content ["row"]) (D_poly : DfD K mg "poly" "poly" st_poly ["row", "d"] [1]) (D_row_of : Dfn K mg "row_of" "row_of" st_row_of ["numbers"]) (D_scaled_rows : Dfn K mg "scaled_rows" "scaled" st_scaled_rows ["row", "number"]) (D_scaled_polys : Dfn K mg "scaled_polys" "scaled" st_scaled_polys ["one", "number"]) (D_divided : Dfn K mg "divided" "divided" st_divided ["some", "other"]) (D_at_size : Dfn K mg "at_size" "at_size" st_at_size ["row", "size"]) (D_plus_rows : Dfn K mg "plus_rows" "plus" st_plus_rows ["one", "other"]) (D_plus_polys : Dfn K mg "plus_polys" "plus" st_plus_polys ["one", "other"]) (D_less : Dfn K mg "less" "less" st_less ["one", "other"]) (D_times_rows : Dfn K mg "times_rows" "times" st_times_rows ["one", "other"]) (D_times_polys : Dfn K mg "times_polys" "times" st_times_polys ["one", "other"]) (D_lessened : Dfn K mg "lessened" "lessened" st_lessened ["one", "two"]) (D_common_part : Dfn K mg "common_part" "common_part" st_common_part ["some", "other"]) (D_common_paper : Dfn K mg "common_paper" "common_paper" st_common_paper ["some", "other"]) (D__law_bent : Dfn K mg "_law_bent" "_law_bent" st__law_bent ["_law_m", "_law_thing"]) (D__law_odd : Dfn K mg "_law_odd" "_law_odd" st__law_odd ["_law_m", "_law_deep"]) (D_is_tuple : Dfn K mg "is_tuple" "is_tuple" st_is_tuple ["thing", "many"]) (D_is_monic : Dfn K mg "is_monic" "is_monic" st_is_monic ["some"]) (D_is_whole : Dfn K mg "is_whole" "is_whole" st_is_whole ["thing"]) (D_is_row : Dfn K mg "is_row" "is_row" st_is_row ["thing"]) (D_is_poly : Dfn K mg "is_poly" "is_poly" st_is_poly ["thing"]) (D_shows_common : Dfn K mg "shows_common" "shows_common" st_shows_common ["one", "other", "paper"]) (D__law_product : Dfn K mg "_law_product" "_law_product" st__law_product ["_law_one", "_law_other"]) (D__law_times : Dfn K mg "_law_times" "_law_times" st__law_times ["_law_one", "_law_other"]) (D__law_sum : Dfn K mg "_law_sum" "_law_sum" st__law_sum ["_law_one", "_law_other", "_law_factor"]) (D__law_plus : Dfn K mg "_law_plus" "_law_plus" st__law_plus ["_law_one", "_law_other", "_law_factor"]) (D__law_is_row : Dfn K mg "_law_is_row" "_law_is_row" st__law_is_row ["_law_thing"]) (D__law_is_number : Dfn K mg "_law_is_number" "_law_is_number" st__law_is_number ["_law_thing"]) (D__law_is_poly : Dfn K mg "_law_is_poly" "_law_is_poly" st__law_is_poly ["_law_thing"]) (D__law_shows_common : Dfn K mg "_law_shows_common" "_law_shows_common" st__law_shows_common ["_law_one", "_law_other", "_law_paper"]) (D__law_scaled : Dfn K mg "_law_scaled" "_law_scaled" st__law_scaled ["_law_paper", "_law_number"]) (m_abs : mg "abs" = none) (m_all : mg "all" = none) (m_bool : mg "bool" = none) (m_enumerate : mg "enumerate" = none) (m_int : mg "int" = none) (m_isinstance : mg "isinstance" = none) (m_len : mg "len" = none) (m_list : mg "list" = none) (m_max : mg "max" = none) (m_range : mg "range" = none) (m_repr : mg "repr" = none) (m_reversed : mg "reversed" = none) (m_tuple : mg "tuple" = none) (m_zip : mg "zip" = none) (x_ByNought : ExcF K mg "ByNought") (c_NOUGHT : Cst K mg "NOUGHT" (.tup [(.tup []), (.int 1)])) (c_ONE : Cst K mg "ONE" (.tup [(.tup [(.int 1)]), (.int 1)])) (i_dig : PySem.W.nsIn K cStatics "sys.int_max_str_digits" = some none) : FnG P w K mg base (L2.CX P w) 35 f fd ["_law_script"] (spLaw K) := by
  have h__law_begun : FD P w K mg base DrW 2 "_law_begun" [] s__law_begun := x__law_begun D__law_begun (D__law_folded.go [true] sc__law_folded (w__law_folded m_enumerate m_range) vc__law_folded)
  have h__law_common : FD P w K mg base DrW 1 "_law_common" [] s__law_common := D__law_common.go [true] sc__law_common (w__law_common m_abs) vc__law_common
  have h__law_poly : FD P w K mg base DrW 2 "_law_poly" [] s__law_poly := D__law_poly.go [false, false] sc__law_poly (w__law_poly m_abs m_list m_tuple h__law_common) vc__law_poly
  have h__law_cut : FD P w K mg base DrW 1 "_law_cut" [] s__law_cut := D__law_cut.go [true] sc__law_cut (w__law_cut m_len m_tuple) vc__law_cut
  have h__law_draw : FD P w K mg base DrW 2 "_law_draw" [] s__law_draw := x__law_draw D__law_draw (D__law_mixed.go [false, false] sc__law_mixed w__law_mixed vc__law_mixed) m_len
  have h__law_small : FD P w K mg base DrW 3 "_law_small" [] s__law_small := D__law_small.go [false, false] sc__law_small (w__law_small h__law_draw) vc__law_small
  have h__law_small_row : FD P w K mg base DrW 4 "_law_small_row" [] s__law_small_row := D__law_small_row.go [false, false, false] sc__law_small_row (w__law_small_row m_range h__law_cut h__law_draw h__law_small) vc__law_small_row
  have h__law_small_poly : FD P w K mg base DrW 5 "_law_small_poly" [] s__law_small_poly := D__law_small_poly.go [false, false] sc__law_small_poly (w__law_small_poly h__law_draw h__law_poly h__law_small_row) vc__law_small_poly
  have h_common : FD P w K mg base DrW 1 "common" [] s_numbers_common := D_common.go [false, false] sc_common (w_common m_abs) vc_numbers_common
  have h_fraction : FD P w K mg base DrW 2 "fraction" [] s_fractions_fraction := D_fraction.go 1 [false, false] sc_fraction (w_fraction x_ByNought h_common) vc_fractions_fraction (fun ds m Q Z h => okK_len (vc_fractions_fraction ds m Q Z h).1)
  have h_fraction_1 : FD P w K mg base DrW 2 "fraction" [.int 1] s_fractions_fraction := D_fraction.go 0 [false, false] sc_fraction (w_fraction x_ByNought h_common) vc_fractions_fraction (fun ds m Q Z h => okK_len (vc_fractions_fraction ds m Q Z h).1)
  have h_over : FD P w K mg base DrW 3 "over" [] s_fractions_over := D_over.go [false, false] sc_over (w_over h_fraction) vc_fractions_over
  have h_last_of : FD P w K mg base DrW 3 "last_of" [] s_quotients_last_of := D_last_of.go [false] sc_last_of (w_last_of h_fraction) vc_quotients_last_of
  have h_content : FD P w K mg base DrW 2 "content" [] s_rows_content := D_content.go [false] sc_content (w_content h_common) vc_rows_content
  have h_poly : FD P w K mg base DrW 3 "poly" [] s_polys_poly := D_poly.go 1 [false, false] sc_poly (w_poly m_tuple x_ByNought h_common h_content) vc_polys_poly (fun ds m Q Z h => okK_len (vc_polys_poly ds m Q Z h).1)
  have h_poly_1 : FD P w K mg base DrW 3 "poly" [.int 1] s_polys_poly := D_poly.go 0 [false, false] sc_poly (w_poly m_tuple x_ByNought h_common h_content) vc_polys_poly (fun ds m Q Z h => okK_len (vc_polys_poly ds m Q Z h).1)
  have h_row_of : FD P w K mg base DrW 1 "row_of" [] s_rows_row_of := D_row_of.go [true] sc_row_of (w_row_of m_len m_tuple) vc_rows_row_of
  have h_scaled_rows : FD P w K mg base DrW 2 "scaled_rows" [] s_rows_scaled := D_scaled_rows.go [false, false] sc_scaled_rows (w_scaled_rows h_row_of) vc_rows_scaled
  have h_scaled_polys : FD P w K mg base DrW 4 "scaled_polys" [] s_polys_scaled := D_scaled_polys.go [false, false] sc_scaled_polys (w_scaled_polys h_poly h_scaled_rows) vc_polys_scaled
  have h_divided : FD P w K mg base DrW 4 "divided" [] s_quotients_divided := D_divided.go [false, false] sc_divided (w_divided m_enumerate m_len m_max m_range m_reversed c_NOUGHT x_ByNought h_poly h_row_of) vc_quotients_divided
  have h_at_size : FD P w K mg base DrW 1 "at_size" [] s_rows_at_size := D_at_size.go [false, false] sc_at_size (w_at_size m_len m_list) vc_rows_at_size
  have h_plus_rows : FD P w K mg base DrW 2 "plus_rows" [] s_rows_plus := D_plus_rows.go [false, false] sc_plus_rows (w_plus_rows m_len m_max m_zip h_at_size h_row_of) vc_rows_plus
  have h_plus_polys : FD P w K mg base DrW 4 "plus_polys" [] s_polys_plus := D_plus_polys.go [false, false] sc_plus_polys (w_plus_polys h_plus_rows h_poly h_scaled_rows) vc_polys_plus
  have h_less : FD P w K mg base DrW 5 "less" [] s_polys_less := D_less.go [false, false] sc_less (w_less h_plus_polys h_scaled_polys) vc_polys_less
  have h_times_rows : FD P w K mg base DrW 2 "times_rows" [] s_rows_times := D_times_rows.go [false, false] sc_times_rows (w_times_rows m_enumerate m_len m_max h_row_of) vc_rows_times
  have h_times_polys : FD P w K mg base DrW 4 "times_polys" [] s_polys_times := D_times_polys.go [false, false] sc_times_polys (w_times_polys h_poly h_times_rows) vc_polys_times
  have h_lessened : FD P w K mg base DrW 6 "lessened" [] s_shared_lessened := D_lessened.go [true, true] sc_lessened (w_lessened m_zip c_NOUGHT h_content h_divided h_fraction h_less h_scaled_polys h_times_polys) vc_shared_lessened
  have h_common_part : FD P w K mg base DrW 7 "common_part" [] s_shared_common_part := D_common_part.go [false, false] sc_common_part (w_common_part c_NOUGHT c_ONE h_last_of h_lessened h_over h_scaled_polys) vc_shared_common_part
  have h_common_paper : FD P w K mg base DrW 8 "common_paper" [] s_shared_common_paper := D_common_paper.go [false, false] sc_common_paper (w_common_paper c_NOUGHT h_common_part h_divided) vc_shared_common_paper
  have hz__law_bent : FDK P w K mg base DrW 3 "_law_bent" (fun _ _ _ _ => False) := fdK_none D__law_bent [false, false] sc__law_bent
  have h__law_bent_z0 : FDK P w K mg base DrW 4 "_law_bent" (s__law_bent_l 0) := D__law_bent.goK [false, false] sc__law_bent (w__law_bent (k := 3) (srec := srecBl 0) (by decide) hz__law_bent m_int m_isinstance m_len m_list m_tuple h__law_draw) (vc__law_bent_l 0)
  have h__law_bent_z1 : FDK P w K mg base DrW 5 "_law_bent" (s__law_bent_l 1) := D__law_bent.goK [false, false] sc__law_bent (w__law_bent (k := 4) (srec := srecBl 1) (by decide) h__law_bent_z0 m_int m_isinstance m_len m_list m_tuple h__law_draw) (vc__law_bent_l 1)
  have h__law_bent_z2 : FDK P w K mg base DrW 6 "_law_bent" (s__law_bent_l 2) := D__law_bent.goK [false, false] sc__law_bent (w__law_bent (k := 5) (srec := srecBl 2) (by decide) h__law_bent_z1 m_int m_isinstance m_len m_list m_tuple h__law_draw) (vc__law_bent_l 2)
  have h__law_bent_z3 : FDK P w K mg base DrW 7 "_law_bent" (s__law_bent_l 3) := D__law_bent.goK [false, false] sc__law_bent (w__law_bent (k := 6) (srec := srecBl 3) (by decide) h__law_bent_z2 m_int m_isinstance m_len m_list m_tuple h__law_draw) (vc__law_bent_l 3)
  have h__law_bent_z4 : FDK P w K mg base DrW 8 "_law_bent" (s__law_bent_l 4) := D__law_bent.goK [false, false] sc__law_bent (w__law_bent (k := 7) (srec := srecBl 4) (by decide) h__law_bent_z3 m_int m_isinstance m_len m_list m_tuple h__law_draw) (vc__law_bent_l 4)
  have h__law_bent_z5 : FDK P w K mg base DrW 9 "_law_bent" (s__law_bent_l 5) := D__law_bent.goK [false, false] sc__law_bent (w__law_bent (k := 8) (srec := srecBl 5) (by decide) h__law_bent_z4 m_int m_isinstance m_len m_list m_tuple h__law_draw) (vc__law_bent_l 5)
  have h__law_bent_z6 : FDK P w K mg base DrW 10 "_law_bent" (s__law_bent_l 6) := D__law_bent.goK [false, false] sc__law_bent (w__law_bent (k := 9) (srec := srecBl 6) (by decide) h__law_bent_z5 m_int m_isinstance m_len m_list m_tuple h__law_draw) (vc__law_bent_l 6)
  have h__law_bent_z7 : FDK P w K mg base DrW 11 "_law_bent" (s__law_bent_l 7) := D__law_bent.goK [false, false] sc__law_bent (w__law_bent (k := 10) (srec := srecBl 7) (by decide) h__law_bent_z6 m_int m_isinstance m_len m_list m_tuple h__law_draw) (vc__law_bent_l 7)
  have h__law_bent_z8 : FDK P w K mg base DrW 12 "_law_bent" (s__law_bent_l 8) := D__law_bent.goK [false, false] sc__law_bent (w__law_bent (k := 11) (srec := srecBl 8) (by decide) h__law_bent_z7 m_int m_isinstance m_len m_list m_tuple h__law_draw) (vc__law_bent_l 8)
  have h__law_bent_z9 : FDK P w K mg base DrW 13 "_law_bent" (s__law_bent_l 9) := D__law_bent.goK [false, false] sc__law_bent (w__law_bent (k := 12) (srec := srecBl 9) (by decide) h__law_bent_z8 m_int m_isinstance m_len m_list m_tuple h__law_draw) (vc__law_bent_l 9)
  have h__law_bent_z10 : FDK P w K mg base DrW 14 "_law_bent" (s__law_bent_l 10) := D__law_bent.goK [false, false] sc__law_bent (w__law_bent (k := 13) (srec := srecBl 10) (by decide) h__law_bent_z9 m_int m_isinstance m_len m_list m_tuple h__law_draw) (vc__law_bent_l 10)
  have h__law_bent_z11 : FDK P w K mg base DrW 15 "_law_bent" (s__law_bent_l 11) := D__law_bent.goK [false, false] sc__law_bent (w__law_bent (k := 14) (srec := srecBl 11) (by decide) h__law_bent_z10 m_int m_isinstance m_len m_list m_tuple h__law_draw) (vc__law_bent_l 11)
  have h__law_bent_z12 : FDK P w K mg base DrW 16 "_law_bent" (s__law_bent_l 12) := D__law_bent.goK [false, false] sc__law_bent (w__law_bent (k := 15) (srec := srecBl 12) (by decide) h__law_bent_z11 m_int m_isinstance m_len m_list m_tuple h__law_draw) (vc__law_bent_l 12)
  have h__law_bent_z13 : FDK P w K mg base DrW 17 "_law_bent" (s__law_bent_l 13) := D__law_bent.goK [false, false] sc__law_bent (w__law_bent (k := 16) (srec := srecBl 13) (by decide) h__law_bent_z12 m_int m_isinstance m_len m_list m_tuple h__law_draw) (vc__law_bent_l 13)
  have h__law_bent_z14 : FDK P w K mg base DrW 18 "_law_bent" (s__law_bent_l 14) := D__law_bent.goK [false, false] sc__law_bent (w__law_bent (k := 17) (srec := srecBl 14) (by decide) h__law_bent_z13 m_int m_isinstance m_len m_list m_tuple h__law_draw) (vc__law_bent_l 14)
  have h__law_bent_z15 : FDK P w K mg base DrW 19 "_law_bent" (s__law_bent_l 15) := D__law_bent.goK [false, false] sc__law_bent (w__law_bent (k := 18) (srec := srecBl 15) (by decide) h__law_bent_z14 m_int m_isinstance m_len m_list m_tuple h__law_draw) (vc__law_bent_l 15)
  have h__law_bent_z16 : FDK P w K mg base DrW 20 "_law_bent" (s__law_bent_l 16) := D__law_bent.goK [false, false] sc__law_bent (w__law_bent (k := 19) (srec := srecBl 16) (by decide) h__law_bent_z15 m_int m_isinstance m_len m_list m_tuple h__law_draw) (vc__law_bent_l 16)
  have h__law_bent_z17 : FDK P w K mg base DrW 21 "_law_bent" (s__law_bent_l 17) := D__law_bent.goK [false, false] sc__law_bent (w__law_bent (k := 20) (srec := srecBl 17) (by decide) h__law_bent_z16 m_int m_isinstance m_len m_list m_tuple h__law_draw) (vc__law_bent_l 17)
  have h__law_bent_z18 : FDK P w K mg base DrW 22 "_law_bent" (s__law_bent_l 18) := D__law_bent.goK [false, false] sc__law_bent (w__law_bent (k := 21) (srec := srecBl 18) (by decide) h__law_bent_z17 m_int m_isinstance m_len m_list m_tuple h__law_draw) (vc__law_bent_l 18)
  have h__law_bent_z19 : FDK P w K mg base DrW 23 "_law_bent" (s__law_bent_l 19) := D__law_bent.goK [false, false] sc__law_bent (w__law_bent (k := 22) (srec := srecBl 19) (by decide) h__law_bent_z18 m_int m_isinstance m_len m_list m_tuple h__law_draw) (vc__law_bent_l 19)
  have h__law_bent_z20 : FDK P w K mg base DrW 24 "_law_bent" (s__law_bent_l 20) := D__law_bent.goK [false, false] sc__law_bent (w__law_bent (k := 23) (srec := srecBl 20) (by decide) h__law_bent_z19 m_int m_isinstance m_len m_list m_tuple h__law_draw) (vc__law_bent_l 20)
  have h__law_bent_z21 : FDK P w K mg base DrW 25 "_law_bent" (s__law_bent_l 21) := D__law_bent.goK [false, false] sc__law_bent (w__law_bent (k := 24) (srec := srecBl 21) (by decide) h__law_bent_z20 m_int m_isinstance m_len m_list m_tuple h__law_draw) (vc__law_bent_l 21)
  have h__law_bent_z22 : FDK P w K mg base DrW 26 "_law_bent" (s__law_bent_l 22) := D__law_bent.goK [false, false] sc__law_bent (w__law_bent (k := 25) (srec := srecBl 22) (by decide) h__law_bent_z21 m_int m_isinstance m_len m_list m_tuple h__law_draw) (vc__law_bent_l 22)
  have h__law_bent_z23 : FDK P w K mg base DrW 27 "_law_bent" (s__law_bent_l 23) := D__law_bent.goK [false, false] sc__law_bent (w__law_bent (k := 26) (srec := srecBl 23) (by decide) h__law_bent_z22 m_int m_isinstance m_len m_list m_tuple h__law_draw) (vc__law_bent_l 23)
  have h__law_bent_z24 : FDK P w K mg base DrW 28 "_law_bent" (s__law_bent_l 24) := D__law_bent.goK [false, false] sc__law_bent (w__law_bent (k := 27) (srec := srecBl 24) (by decide) h__law_bent_z23 m_int m_isinstance m_len m_list m_tuple h__law_draw) (vc__law_bent_l 24)
  have h__law_bent_z25 : FDK P w K mg base DrW 29 "_law_bent" (s__law_bent_l 25) := D__law_bent.goK [false, false] sc__law_bent (w__law_bent (k := 28) (srec := srecBl 25) (by decide) h__law_bent_z24 m_int m_isinstance m_len m_list m_tuple h__law_draw) (vc__law_bent_l 25)
  have h__law_bent_z26 : FDK P w K mg base DrW 30 "_law_bent" (s__law_bent_l 26) := D__law_bent.goK [false, false] sc__law_bent (w__law_bent (k := 29) (srec := srecBl 26) (by decide) h__law_bent_z25 m_int m_isinstance m_len m_list m_tuple h__law_draw) (vc__law_bent_l 26)
  have h__law_bent_z27 : FDK P w K mg base DrW 31 "_law_bent" (s__law_bent_l 27) := D__law_bent.goK [false, false] sc__law_bent (w__law_bent (k := 30) (srec := srecBl 27) (by decide) h__law_bent_z26 m_int m_isinstance m_len m_list m_tuple h__law_draw) (vc__law_bent_l 27)
  have h__law_bent_z28 : FDK P w K mg base DrW 32 "_law_bent" (s__law_bent_l 28) := D__law_bent.goK [false, false] sc__law_bent (w__law_bent (k := 31) (srec := srecBl 28) (by decide) h__law_bent_z27 m_int m_isinstance m_len m_list m_tuple h__law_draw) (vc__law_bent_l 28)
  have h__law_bent_z29 : FDK P w K mg base DrW 33 "_law_bent" (s__law_bent_l 29) := D__law_bent.goK [false, false] sc__law_bent (w__law_bent (k := 32) (srec := srecBl 29) (by decide) h__law_bent_z28 m_int m_isinstance m_len m_list m_tuple h__law_draw) (vc__law_bent_l 29)
  have h__law_bent : FDK P w K mg base DrW 34 "_law_bent" (s__law_bent_l 30) := D__law_bent.goK [false, false] sc__law_bent (w__law_bent (k := 33) (srec := srecBl 30) (by decide) h__law_bent_z29 m_int m_isinstance m_len m_list m_tuple h__law_draw) (vc__law_bent_l 30)
  have hz__law_odd : FDK P w K mg base DrW 4 "_law_odd" (fun _ _ _ _ => False) := fdK_none D__law_odd [false, false] sc__law_odd
  have h__law_odd_z0 : FDK P w K mg base DrW 5 "_law_odd" (s__law_odd_t 0) := D__law_odd.goK [false, false] sc__law_odd (w__law_odd (k := 4) (srec := srecOdd 0) (by decide) hz__law_odd m_range m_tuple h__law_draw h__law_small) (vc__law_odd_t 0)
  have h__law_odd_z1 : FDK P w K mg base DrW 6 "_law_odd" (s__law_odd_t 1) := D__law_odd.goK [false, false] sc__law_odd (w__law_odd (k := 5) (srec := srecOdd 1) (by decide) h__law_odd_z0 m_range m_tuple h__law_draw h__law_small) (vc__law_odd_t 1)
  have h__law_odd_z2 : FDK P w K mg base DrW 7 "_law_odd" (s__law_odd_t 2) := D__law_odd.goK [false, false] sc__law_odd (w__law_odd (k := 6) (srec := srecOdd 2) (by decide) h__law_odd_z1 m_range m_tuple h__law_draw h__law_small) (vc__law_odd_t 2)
  have h__law_odd_z3 : FDK P w K mg base DrW 8 "_law_odd" (s__law_odd_t 3) := D__law_odd.goK [false, false] sc__law_odd (w__law_odd (k := 7) (srec := srecOdd 3) (by decide) h__law_odd_z2 m_range m_tuple h__law_draw h__law_small) (vc__law_odd_t 3)
  have h__law_odd_z4 : FDK P w K mg base DrW 9 "_law_odd" (s__law_odd_t 4) := D__law_odd.goK [false, false] sc__law_odd (w__law_odd (k := 8) (srec := srecOdd 4) (by decide) h__law_odd_z3 m_range m_tuple h__law_draw h__law_small) (vc__law_odd_t 4)
  have h__law_odd_z5 : FDK P w K mg base DrW 10 "_law_odd" (s__law_odd_t 5) := D__law_odd.goK [false, false] sc__law_odd (w__law_odd (k := 9) (srec := srecOdd 5) (by decide) h__law_odd_z4 m_range m_tuple h__law_draw h__law_small) (vc__law_odd_t 5)
  have h__law_odd_z6 : FDK P w K mg base DrW 11 "_law_odd" (s__law_odd_t 6) := D__law_odd.goK [false, false] sc__law_odd (w__law_odd (k := 10) (srec := srecOdd 6) (by decide) h__law_odd_z5 m_range m_tuple h__law_draw h__law_small) (vc__law_odd_t 6)
  have h__law_odd : FDK P w K mg base DrW 12 "_law_odd" (s__law_odd_t 7) := D__law_odd.goK [false, false] sc__law_odd (w__law_odd (k := 11) (srec := srecOdd 7) (by decide) h__law_odd_z6 m_range m_tuple h__law_draw h__law_small) (vc__law_odd_t 7)
  have h_is_tuple : FD P w K mg base DrW 1 "is_tuple" [] s_checking_is_tuple := D_is_tuple.go [true, false] sc_is_tuple (w_is_tuple m_isinstance m_len m_tuple) vc_checking_is_tuple
  have h_is_monic : FD P w K mg base DrW 1 "is_monic" [] s_checking_is_monic := D_is_monic.go [false] sc_is_monic (w_is_monic ) vc_checking_is_monic
  have h_is_whole : FD P w K mg base DrW 1 "is_whole" [] s_numbers_is_whole := D_is_whole.go [true] sc_is_whole (w_is_whole m_bool m_int m_isinstance) vc_numbers_is_whole
  have h_is_row : FD P w K mg base DrW 2 "is_row" [] s_rows_is_row_b := D_is_row.go [true] sc_is_row (w_is_row m_all m_isinstance m_tuple h_is_whole) vc_rows_is_row_b
  have h_is_poly : FD P w K mg base DrW 3 "is_poly" [] s_polys_is_poly_b := D_is_poly.go [true] sc_is_poly (w_is_poly m_isinstance m_len m_tuple h_common h_content h_is_row h_is_whole) vc_polys_is_poly_b
  have h_shows_common : FDK P w K mg base DrW 5 "shows_common" s_checking_shows_common := D_shows_common.goK [false, false, false] sc_shows_common (w_shows_common m_all c_NOUGHT h_is_monic h_is_poly h_is_tuple h_plus_polys h_times_polys) vc_checking_shows_common
  have h__law_product : FD P w K mg base DrW 2 "_law_product" [] s__law_product := D__law_product.go [false, false] sc__law_product (w__law_product m_enumerate m_len m_max h__law_cut) vc__law_product
  have h__law_times : FD P w K mg base DrW 3 "_law_times" [] s__law_times := D__law_times.go [false, false] sc__law_times (w__law_times h__law_poly h__law_product) vc__law_times
  have h__law_sum : FD P w K mg base DrW 2 "_law_sum" [] s__law_sum := D__law_sum.go [false, false, false] sc__law_sum (w__law_sum m_len m_list m_max m_zip h__law_cut) vc__law_sum
  have h__law_plus : FD P w K mg base DrW 3 "_law_plus" [] s__law_plus := D__law_plus.go [false, false, false] sc__law_plus (w__law_plus m_tuple h__law_poly h__law_sum) vc__law_plus
  have h__law_is_row : FDK P w K mg base DrW 1 "_law_is_row" s__law_is_row := D__law_is_row.goK [false] sc__law_is_row (w__law_is_row m_bool m_int m_isinstance m_tuple) vc__law_is_row
  have h__law_is_number : FDK P w K mg base DrW 1 "_law_is_number" s__law_is_number := D__law_is_number.goK [false] sc__law_is_number (w__law_is_number m_bool m_int m_isinstance) vc__law_is_number
  have h__law_is_poly : FDK P w K mg base DrW 2 "_law_is_poly" s__law_is_poly_t := D__law_is_poly.goK [false] sc__law_is_poly (w__law_is_poly m_isinstance m_len m_list m_tuple h__law_common h__law_is_number h__law_is_row) vc__law_is_poly_t
  have h__law_shows_common : FDK P w K mg base DrW 4 "_law_shows_common" s__law_shows_common := D__law_shows_common.goK [false, false, false] sc__law_shows_common (w__law_shows_common m_all m_isinstance m_len m_tuple h__law_is_poly h__law_plus h__law_times) vc__law_shows_common
  have h__law_scaled : FD P w K mg base DrW 4 "_law_scaled" [] s__law_scaled := D__law_scaled.go [false, false] sc__law_scaled (w__law_scaled m_tuple h__law_poly h__law_times) vc__law_scaled
  exact law_go F sc_law (w_law m_bool m_isinstance m_len m_list m_range m_repr i_dig h__law_begun h__law_bent h__law_draw h__law_odd h__law_scaled h__law_shows_common h__law_small_poly h__law_times h_common_paper h_shows_common) vc_law
end
theorem r_int (i : Int) (t : Tok) : RelV (.int i) (.int i t) := ⟨t, rfl⟩
theorem r_ref (a : Addr) : RelV (.ref a) (.ref a) := rfl
theorem all_mk {l : PySem.W.OpenLaw} {w : World} {K : PySem.W.Frag} {h : Heap} {mg : Str → Option Value} {fa f0 f1 f2 f3 f4 f5 f6 f7 f8 f9 f10 f11 f12 f13 f14 f15 f16 f17 f18 f19 f20 f21 f22 f23 f24 f25 f26 f27 f28 f29 f30 f31 f32 f33 f34 f35 f36 f37 f38 f39 f40 f41 f42 f43 f44 f45 f46 : Addr} (X : K.In h) (G : h.Ns mainGlobals mg) (hfa : mg "law" = some (.ref fa))
    {od0 an0 od1 an1 od2 an2 od3 an3 od4 an4 od5 an5 od6 an6 od7 an7 od8 an8 od9 an9 od10 an10 od11 an11 od12 an12 od13 an13 od14 an14 od15 an15 od16 an16 od17 an17 od18 an18 od19 an19 od20 an20 od21 an21 od22 an22 od23 an23 od24 an24 od25 an25 od26 an26 od27 an27 od28 an28 od29 an29 od30 an30 od31 an31 od32 an32 od33 an33 od34 an34 od35 an35 od36 an36 od37 an37 od38 an38 od39 an39 od40 an40 od41 an41 od42 an42 od43 an43 od44 an44 od45 an45 od46 an46 : Option Addr} {sl0 sl1 sl2 sl3 sl4 sl5 sl6 sl7 sl8 sl9 sl10 sl11 sl12 sl13 sl14 sl15 sl16 sl17 sl18 sl19 sl20 sl21 sl22 sl23 sl24 sl25 sl26 sl27 sl28 sl29 sl30 sl31 sl32 sl33 sl34 sl35 sl36 sl37 sl38 sl39 sl40 sl41 sl42 sl43 sl44 sl45 sl46 : Array (Option Value)} {oc0 kV0 dc0 pm0 ct0 cd0 oc1 kV1 dc1 pm1 ct1 cd1 oc2 kV2 dc2 pm2 ct2 cd2 oc3 kV3 dc3 pm3 ct3 cd3 oc4 kV4 dc4 pm4 ct4 cd4 oc5 kV5 dc5 pm5 ct5 cd5 oc6 kV6 dc6 pm6 ct6 cd6 oc7 kV7 dc7 pm7 ct7 cd7 oc8 kV8 dc8 pm8 ct8 cd8 oc9 kV9 dc9 pm9 ct9 cd9 oc10 kV10 dc10 pm10 ct10 cd10 oc11 kV11 dc11 pm11 ct11 cd11 oc12 kV12 dc12 pm12 ct12 cd12 oc13 kV13 dc13 pm13 ct13 cd13 oc14 kV14 dc14 pm14 ct14 cd14 oc15 kV15 dc15 pm15 ct15 cd15 oc16 kV16 dc16 pm16 ct16 cd16 oc17 kV17 dc17 pm17 ct17 cd17 oc18 kV18 dc18 pm18 ct18 cd18 oc19 kV19 dc19 pm19 ct19 cd19 oc20 kV20 dc20 pm20 ct20 cd20 oc21 kV21 dc21 pm21 ct21 cd21 oc22 kV22 dc22 pm22 ct22 cd22 oc23 kV23 dc23 pm23 ct23 cd23 oc24 kV24 dc24 pm24 ct24 cd24 oc25 kV25 dc25 pm25 ct25 cd25 oc26 kV26 dc26 pm26 ct26 cd26 oc27 kV27 dc27 pm27 ct27 cd27 oc28 kV28 dc28 pm28 ct28 cd28 oc29 kV29 dc29 pm29 ct29 cd29 oc30 kV30 dc30 pm30 ct30 cd30 oc31 kV31 dc31 pm31 ct31 cd31 oc32 kV32 dc32 pm32 ct32 cd32 oc33 kV33 dc33 pm33 ct33 cd33 oc34 kV34 dc34 pm34 ct34 cd34 oc35 kV35 dc35 pm35 ct35 cd35 oc36 kV36 dc36 pm36 ct36 cd36 oc37 kV37 dc37 pm37 ct37 cd37 oc38 kV38 dc38 pm38 ct38 cd38 oc39 kV39 dc39 pm39 ct39 cd39 oc40 kV40 dc40 pm40 ct40 cd40 oc41 kV41 dc41 pm41 ct41 cd41 oc42 kV42 dc42 pm42 ct42 cd42 oc43 kV43 dc43 pm43 ct43 cd43 oc44 kV44 dc44 pm44 ct44 cd44 oc45 kV45 dc45 pm45 ct45 cd45 oc46 kV46 dc46 pm46 ct46 cd46 : Value}
    (a0_0 : PySem.W.nsIn K mainGlobals "_law_folded" = some (some (.ref f0)))
    (l0 : K.lookup f0 = some ⟨oc0, od0, .func (PySem.W.fnOf "_law_folded" "_law_folded" (defArgs st__law_folded) (defBody st__law_folded) (defScope st__law_folded) .none kV0 dc0 pm0 an0 cd0 ct0), sl0⟩) (c0 : PySem.W.codeIn K cd0 "_law_folded" = true) (k0 : PySem.W.keepIn K (.ref f0) = true)
    (a1_0 : PySem.W.nsIn K mainGlobals "_law_begun" = some (some (.ref f1)))
    (l1 : K.lookup f1 = some ⟨oc1, od1, .func (PySem.W.fnOf "_law_begun" "_law_begun" (defArgs st__law_begun) (defBody st__law_begun) (defScope st__law_begun) .none kV1 dc1 pm1 an1 cd1 ct1), sl1⟩) (c1 : PySem.W.codeIn K cd1 "_law_begun" = true) (k1 : PySem.W.keepIn K (.ref f1) = true)
    (a2_0 : PySem.W.nsIn K mainGlobals "_law_common" = some (some (.ref f2)))
    (l2 : K.lookup f2 = some ⟨oc2, od2, .func (PySem.W.fnOf "_law_common" "_law_common" (defArgs st__law_common) (defBody st__law_common) (defScope st__law_common) .none kV2 dc2 pm2 an2 cd2 ct2), sl2⟩) (c2 : PySem.W.codeIn K cd2 "_law_common" = true) (k2 : PySem.W.keepIn K (.ref f2) = true)
    (a3_0 : PySem.W.nsIn K mainGlobals "_law_poly" = some (some (.ref f3)))
    (l3 : K.lookup f3 = some ⟨oc3, od3, .func (PySem.W.fnOf "_law_poly" "_law_poly" (defArgs st__law_poly) (defBody st__law_poly) (defScope st__law_poly) .none kV3 dc3 pm3 an3 cd3 ct3), sl3⟩) (c3 : PySem.W.codeIn K cd3 "_law_poly" = true) (k3 : PySem.W.keepIn K (.ref f3) = true)
    (a4_0 : PySem.W.nsIn K mainGlobals "_law_cut" = some (some (.ref f4)))
    (l4 : K.lookup f4 = some ⟨oc4, od4, .func (PySem.W.fnOf "_law_cut" "_law_cut" (defArgs st__law_cut) (defBody st__law_cut) (defScope st__law_cut) .none kV4 dc4 pm4 an4 cd4 ct4), sl4⟩) (c4 : PySem.W.codeIn K cd4 "_law_cut" = true) (k4 : PySem.W.keepIn K (.ref f4) = true)
    (a5_0 : PySem.W.nsIn K mainGlobals "_law_mixed" = some (some (.ref f5)))
    (l5 : K.lookup f5 = some ⟨oc5, od5, .func (PySem.W.fnOf "_law_mixed" "_law_mixed" (defArgs st__law_mixed) (defBody st__law_mixed) (defScope st__law_mixed) .none kV5 dc5 pm5 an5 cd5 ct5), sl5⟩) (c5 : PySem.W.codeIn K cd5 "_law_mixed" = true) (k5 : PySem.W.keepIn K (.ref f5) = true)
    (a6_0 : PySem.W.nsIn K mainGlobals "_law_draw" = some (some (.ref f6)))
    (l6 : K.lookup f6 = some ⟨oc6, od6, .func (PySem.W.fnOf "_law_draw" "_law_draw" (defArgs st__law_draw) (defBody st__law_draw) (defScope st__law_draw) .none kV6 dc6 pm6 an6 cd6 ct6), sl6⟩) (c6 : PySem.W.codeIn K cd6 "_law_draw" = true) (k6 : PySem.W.keepIn K (.ref f6) = true)
    (a7_0 : PySem.W.nsIn K mainGlobals "_law_small" = some (some (.ref f7)))
    (l7 : K.lookup f7 = some ⟨oc7, od7, .func (PySem.W.fnOf "_law_small" "_law_small" (defArgs st__law_small) (defBody st__law_small) (defScope st__law_small) .none kV7 dc7 pm7 an7 cd7 ct7), sl7⟩) (c7 : PySem.W.codeIn K cd7 "_law_small" = true) (k7 : PySem.W.keepIn K (.ref f7) = true)
    (a8_0 : PySem.W.nsIn K mainGlobals "_law_small_row" = some (some (.ref f8)))
    (l8 : K.lookup f8 = some ⟨oc8, od8, .func (PySem.W.fnOf "_law_small_row" "_law_small_row" (defArgs st__law_small_row) (defBody st__law_small_row) (defScope st__law_small_row) .none kV8 dc8 pm8 an8 cd8 ct8), sl8⟩) (c8 : PySem.W.codeIn K cd8 "_law_small_row" = true) (k8 : PySem.W.keepIn K (.ref f8) = true)
    (a9_0 : PySem.W.nsIn K mainGlobals "_law_small_poly" = some (some (.ref f9)))
    (l9 : K.lookup f9 = some ⟨oc9, od9, .func (PySem.W.fnOf "_law_small_poly" "_law_small_poly" (defArgs st__law_small_poly) (defBody st__law_small_poly) (defScope st__law_small_poly) .none kV9 dc9 pm9 an9 cd9 ct9), sl9⟩) (c9 : PySem.W.codeIn K cd9 "_law_small_poly" = true) (k9 : PySem.W.keepIn K (.ref f9) = true)
    (a10_0 : PySem.W.nsIn K mainGlobals "common" = some (some (.ref f10)))
    (l10 : K.lookup f10 = some ⟨oc10, od10, .func (PySem.W.fnOf "common" "common" (defArgs st_common) (defBody st_common) (defScope st_common) .none kV10 dc10 pm10 an10 cd10 ct10), sl10⟩) (c10 : PySem.W.codeIn K cd10 "common" = true) (k10 : PySem.W.keepIn K (.ref f10) = true)
    (a11_0 : PySem.W.nsIn K mainGlobals "fraction" = some (some (.ref f11)))
    {T11 : Addr} {tc11 : Value} {td11 : Option Addr} {ts11 : Array (Option Value)} {tn11 : Nat} {tk11_0 : Tok}
    (l11 : K.lookup f11 = some ⟨oc11, od11, .func (PySem.W.fnOf "fraction" "fraction" (defArgs st_fraction) (defBody st_fraction) (defScope st_fraction) (.ref T11) kV11 dc11 pm11 an11 cd11 ct11), sl11⟩) (c11 : PySem.W.codeIn K cd11 "fraction" = true) (k11 : PySem.W.keepIn K (.ref f11) = true)
    (d11 : K.lookup T11 = some ⟨tc11, td11, .seq #[.int 1 tk11_0] tn11, ts11⟩)
    (a12_0 : PySem.W.nsIn K mainGlobals "over" = some (some (.ref f12)))
    (l12 : K.lookup f12 = some ⟨oc12, od12, .func (PySem.W.fnOf "over" "over" (defArgs st_over) (defBody st_over) (defScope st_over) .none kV12 dc12 pm12 an12 cd12 ct12), sl12⟩) (c12 : PySem.W.codeIn K cd12 "over" = true) (k12 : PySem.W.keepIn K (.ref f12) = true)
    (a13_0 : PySem.W.nsIn K mainGlobals "last_of" = some (some (.ref f13)))
    (l13 : K.lookup f13 = some ⟨oc13, od13, .func (PySem.W.fnOf "last_of" "last_of" (defArgs st_last_of) (defBody st_last_of) (defScope st_last_of) .none kV13 dc13 pm13 an13 cd13 ct13), sl13⟩) (c13 : PySem.W.codeIn K cd13 "last_of" = true) (k13 : PySem.W.keepIn K (.ref f13) = true)
    (a14_0 : PySem.W.nsIn K mainGlobals "content" = some (some (.ref f14)))
    (l14 : K.lookup f14 = some ⟨oc14, od14, .func (PySem.W.fnOf "content" "content" (defArgs st_content) (defBody st_content) (defScope st_content) .none kV14 dc14 pm14 an14 cd14 ct14), sl14⟩) (c14 : PySem.W.codeIn K cd14 "content" = true) (k14 : PySem.W.keepIn K (.ref f14) = true)
    (a15_0 : PySem.W.nsIn K mainGlobals "poly" = some (some (.ref f15)))
    {T15 : Addr} {tc15 : Value} {td15 : Option Addr} {ts15 : Array (Option Value)} {tn15 : Nat} {tk15_0 : Tok}
    (l15 : K.lookup f15 = some ⟨oc15, od15, .func (PySem.W.fnOf "poly" "poly" (defArgs st_poly) (defBody st_poly) (defScope st_poly) (.ref T15) kV15 dc15 pm15 an15 cd15 ct15), sl15⟩) (c15 : PySem.W.codeIn K cd15 "poly" = true) (k15 : PySem.W.keepIn K (.ref f15) = true)
    (d15 : K.lookup T15 = some ⟨tc15, td15, .seq #[.int 1 tk15_0] tn15, ts15⟩)
    (a16_0 : PySem.W.nsIn K mainGlobals "row_of" = some (some (.ref f16)))
    (l16 : K.lookup f16 = some ⟨oc16, od16, .func (PySem.W.fnOf "row_of" "row_of" (defArgs st_row_of) (defBody st_row_of) (defScope st_row_of) .none kV16 dc16 pm16 an16 cd16 ct16), sl16⟩) (c16 : PySem.W.codeIn K cd16 "row_of" = true) (k16 : PySem.W.keepIn K (.ref f16) = true)
    (a17_0 : PySem.W.nsIn K mainGlobals "scaled_rows" = some (some (.ref f17)))
    (l17 : K.lookup f17 = some ⟨oc17, od17, .func (PySem.W.fnOf "scaled" "scaled" (defArgs st_scaled_rows) (defBody st_scaled_rows) (defScope st_scaled_rows) .none kV17 dc17 pm17 an17 cd17 ct17), sl17⟩) (c17 : PySem.W.codeIn K cd17 "scaled" = true) (k17 : PySem.W.keepIn K (.ref f17) = true)
    (a18_0 : PySem.W.nsIn K mainGlobals "scaled_polys" = some (some (.ref f18)))
    (l18 : K.lookup f18 = some ⟨oc18, od18, .func (PySem.W.fnOf "scaled" "scaled" (defArgs st_scaled_polys) (defBody st_scaled_polys) (defScope st_scaled_polys) .none kV18 dc18 pm18 an18 cd18 ct18), sl18⟩) (c18 : PySem.W.codeIn K cd18 "scaled" = true) (k18 : PySem.W.keepIn K (.ref f18) = true)
    (a19_0 : PySem.W.nsIn K mainGlobals "divided" = some (some (.ref f19)))
    (l19 : K.lookup f19 = some ⟨oc19, od19, .func (PySem.W.fnOf "divided" "divided" (defArgs st_divided) (defBody st_divided) (defScope st_divided) .none kV19 dc19 pm19 an19 cd19 ct19), sl19⟩) (c19 : PySem.W.codeIn K cd19 "divided" = true) (k19 : PySem.W.keepIn K (.ref f19) = true)
    (a20_0 : PySem.W.nsIn K mainGlobals "at_size" = some (some (.ref f20)))
    (l20 : K.lookup f20 = some ⟨oc20, od20, .func (PySem.W.fnOf "at_size" "at_size" (defArgs st_at_size) (defBody st_at_size) (defScope st_at_size) .none kV20 dc20 pm20 an20 cd20 ct20), sl20⟩) (c20 : PySem.W.codeIn K cd20 "at_size" = true) (k20 : PySem.W.keepIn K (.ref f20) = true)
    (a21_0 : PySem.W.nsIn K mainGlobals "plus_rows" = some (some (.ref f21)))
    (l21 : K.lookup f21 = some ⟨oc21, od21, .func (PySem.W.fnOf "plus" "plus" (defArgs st_plus_rows) (defBody st_plus_rows) (defScope st_plus_rows) .none kV21 dc21 pm21 an21 cd21 ct21), sl21⟩) (c21 : PySem.W.codeIn K cd21 "plus" = true) (k21 : PySem.W.keepIn K (.ref f21) = true)
    (a22_0 : PySem.W.nsIn K mainGlobals "plus_polys" = some (some (.ref f22)))
    (l22 : K.lookup f22 = some ⟨oc22, od22, .func (PySem.W.fnOf "plus" "plus" (defArgs st_plus_polys) (defBody st_plus_polys) (defScope st_plus_polys) .none kV22 dc22 pm22 an22 cd22 ct22), sl22⟩) (c22 : PySem.W.codeIn K cd22 "plus" = true) (k22 : PySem.W.keepIn K (.ref f22) = true)
    (a23_0 : PySem.W.nsIn K mainGlobals "less" = some (some (.ref f23)))
    (l23 : K.lookup f23 = some ⟨oc23, od23, .func (PySem.W.fnOf "less" "less" (defArgs st_less) (defBody st_less) (defScope st_less) .none kV23 dc23 pm23 an23 cd23 ct23), sl23⟩) (c23 : PySem.W.codeIn K cd23 "less" = true) (k23 : PySem.W.keepIn K (.ref f23) = true)
    (a24_0 : PySem.W.nsIn K mainGlobals "times_rows" = some (some (.ref f24)))
    (l24 : K.lookup f24 = some ⟨oc24, od24, .func (PySem.W.fnOf "times" "times" (defArgs st_times_rows) (defBody st_times_rows) (defScope st_times_rows) .none kV24 dc24 pm24 an24 cd24 ct24), sl24⟩) (c24 : PySem.W.codeIn K cd24 "times" = true) (k24 : PySem.W.keepIn K (.ref f24) = true)
    (a25_0 : PySem.W.nsIn K mainGlobals "times_polys" = some (some (.ref f25)))
    (l25 : K.lookup f25 = some ⟨oc25, od25, .func (PySem.W.fnOf "times" "times" (defArgs st_times_polys) (defBody st_times_polys) (defScope st_times_polys) .none kV25 dc25 pm25 an25 cd25 ct25), sl25⟩) (c25 : PySem.W.codeIn K cd25 "times" = true) (k25 : PySem.W.keepIn K (.ref f25) = true)
    (a26_0 : PySem.W.nsIn K mainGlobals "lessened" = some (some (.ref f26)))
    (l26 : K.lookup f26 = some ⟨oc26, od26, .func (PySem.W.fnOf "lessened" "lessened" (defArgs st_lessened) (defBody st_lessened) (defScope st_lessened) .none kV26 dc26 pm26 an26 cd26 ct26), sl26⟩) (c26 : PySem.W.codeIn K cd26 "lessened" = true) (k26 : PySem.W.keepIn K (.ref f26) = true)
    (a27_0 : PySem.W.nsIn K mainGlobals "common_part" = some (some (.ref f27)))
    (l27 : K.lookup f27 = some ⟨oc27, od27, .func (PySem.W.fnOf "common_part" "common_part" (defArgs st_common_part) (defBody st_common_part) (defScope st_common_part) .none kV27 dc27 pm27 an27 cd27 ct27), sl27⟩) (c27 : PySem.W.codeIn K cd27 "common_part" = true) (k27 : PySem.W.keepIn K (.ref f27) = true)
    (a28_0 : PySem.W.nsIn K mainGlobals "common_paper" = some (some (.ref f28)))
    (l28 : K.lookup f28 = some ⟨oc28, od28, .func (PySem.W.fnOf "common_paper" "common_paper" (defArgs st_common_paper) (defBody st_common_paper) (defScope st_common_paper) .none kV28 dc28 pm28 an28 cd28 ct28), sl28⟩) (c28 : PySem.W.codeIn K cd28 "common_paper" = true) (k28 : PySem.W.keepIn K (.ref f28) = true)
    (a29_0 : PySem.W.nsIn K mainGlobals "_law_bent" = some (some (.ref f29)))
    (l29 : K.lookup f29 = some ⟨oc29, od29, .func (PySem.W.fnOf "_law_bent" "_law_bent" (defArgs st__law_bent) (defBody st__law_bent) (defScope st__law_bent) .none kV29 dc29 pm29 an29 cd29 ct29), sl29⟩) (c29 : PySem.W.codeIn K cd29 "_law_bent" = true) (k29 : PySem.W.keepIn K (.ref f29) = true)
    (a30_0 : PySem.W.nsIn K mainGlobals "_law_odd" = some (some (.ref f30)))
    (l30 : K.lookup f30 = some ⟨oc30, od30, .func (PySem.W.fnOf "_law_odd" "_law_odd" (defArgs st__law_odd) (defBody st__law_odd) (defScope st__law_odd) .none kV30 dc30 pm30 an30 cd30 ct30), sl30⟩) (c30 : PySem.W.codeIn K cd30 "_law_odd" = true) (k30 : PySem.W.keepIn K (.ref f30) = true)
    (a31_0 : PySem.W.nsIn K mainGlobals "is_tuple" = some (some (.ref f31)))
    (l31 : K.lookup f31 = some ⟨oc31, od31, .func (PySem.W.fnOf "is_tuple" "is_tuple" (defArgs st_is_tuple) (defBody st_is_tuple) (defScope st_is_tuple) .none kV31 dc31 pm31 an31 cd31 ct31), sl31⟩) (c31 : PySem.W.codeIn K cd31 "is_tuple" = true) (k31 : PySem.W.keepIn K (.ref f31) = true)
    (a32_0 : PySem.W.nsIn K mainGlobals "is_monic" = some (some (.ref f32)))
    (l32 : K.lookup f32 = some ⟨oc32, od32, .func (PySem.W.fnOf "is_monic" "is_monic" (defArgs st_is_monic) (defBody st_is_monic) (defScope st_is_monic) .none kV32 dc32 pm32 an32 cd32 ct32), sl32⟩) (c32 : PySem.W.codeIn K cd32 "is_monic" = true) (k32 : PySem.W.keepIn K (.ref f32) = true)
    (a33_0 : PySem.W.nsIn K mainGlobals "is_whole" = some (some (.ref f33)))
    (l33 : K.lookup f33 = some ⟨oc33, od33, .func (PySem.W.fnOf "is_whole" "is_whole" (defArgs st_is_whole) (defBody st_is_whole) (defScope st_is_whole) .none kV33 dc33 pm33 an33 cd33 ct33), sl33⟩) (c33 : PySem.W.codeIn K cd33 "is_whole" = true) (k33 : PySem.W.keepIn K (.ref f33) = true)
    (a34_0 : PySem.W.nsIn K mainGlobals "is_row" = some (some (.ref f34)))
    (l34 : K.lookup f34 = some ⟨oc34, od34, .func (PySem.W.fnOf "is_row" "is_row" (defArgs st_is_row) (defBody st_is_row) (defScope st_is_row) .none kV34 dc34 pm34 an34 cd34 ct34), sl34⟩) (c34 : PySem.W.codeIn K cd34 "is_row" = true) (k34 : PySem.W.keepIn K (.ref f34) = true)
    (a35_0 : PySem.W.nsIn K mainGlobals "is_poly" = some (some (.ref f35)))
    (l35 : K.lookup f35 = some ⟨oc35, od35, .func (PySem.W.fnOf "is_poly" "is_poly" (defArgs st_is_poly) (defBody st_is_poly) (defScope st_is_poly) .none kV35 dc35 pm35 an35 cd35 ct35), sl35⟩) (c35 : PySem.W.codeIn K cd35 "is_poly" = true) (k35 : PySem.W.keepIn K (.ref f35) = true)
    (a36_0 : PySem.W.nsIn K mainGlobals "shows_common" = some (some (.ref f36)))
    (l36 : K.lookup f36 = some ⟨oc36, od36, .func (PySem.W.fnOf "shows_common" "shows_common" (defArgs st_shows_common) (defBody st_shows_common) (defScope st_shows_common) .none kV36 dc36 pm36 an36 cd36 ct36), sl36⟩) (c36 : PySem.W.codeIn K cd36 "shows_common" = true) (k36 : PySem.W.keepIn K (.ref f36) = true)
    (a37_0 : PySem.W.nsIn K mainGlobals "_law_product" = some (some (.ref f37)))
    (l37 : K.lookup f37 = some ⟨oc37, od37, .func (PySem.W.fnOf "_law_product" "_law_product" (defArgs st__law_product) (defBody st__law_product) (defScope st__law_product) .none kV37 dc37 pm37 an37 cd37 ct37), sl37⟩) (c37 : PySem.W.codeIn K cd37 "_law_product" = true) (k37 : PySem.W.keepIn K (.ref f37) = true)
    (a38_0 : PySem.W.nsIn K mainGlobals "_law_times" = some (some (.ref f38)))
    (l38 : K.lookup f38 = some ⟨oc38, od38, .func (PySem.W.fnOf "_law_times" "_law_times" (defArgs st__law_times) (defBody st__law_times) (defScope st__law_times) .none kV38 dc38 pm38 an38 cd38 ct38), sl38⟩) (c38 : PySem.W.codeIn K cd38 "_law_times" = true) (k38 : PySem.W.keepIn K (.ref f38) = true)
    (a39_0 : PySem.W.nsIn K mainGlobals "_law_sum" = some (some (.ref f39)))
    (l39 : K.lookup f39 = some ⟨oc39, od39, .func (PySem.W.fnOf "_law_sum" "_law_sum" (defArgs st__law_sum) (defBody st__law_sum) (defScope st__law_sum) .none kV39 dc39 pm39 an39 cd39 ct39), sl39⟩) (c39 : PySem.W.codeIn K cd39 "_law_sum" = true) (k39 : PySem.W.keepIn K (.ref f39) = true)
    (a40_0 : PySem.W.nsIn K mainGlobals "_law_plus" = some (some (.ref f40)))
    (l40 : K.lookup f40 = some ⟨oc40, od40, .func (PySem.W.fnOf "_law_plus" "_law_plus" (defArgs st__law_plus) (defBody st__law_plus) (defScope st__law_plus) .none kV40 dc40 pm40 an40 cd40 ct40), sl40⟩) (c40 : PySem.W.codeIn K cd40 "_law_plus" = true) (k40 : PySem.W.keepIn K (.ref f40) = true)
    (a41_0 : PySem.W.nsIn K mainGlobals "_law_is_row" = some (some (.ref f41)))
    (l41 : K.lookup f41 = some ⟨oc41, od41, .func (PySem.W.fnOf "_law_is_row" "_law_is_row" (defArgs st__law_is_row) (defBody st__law_is_row) (defScope st__law_is_row) .none kV41 dc41 pm41 an41 cd41 ct41), sl41⟩) (c41 : PySem.W.codeIn K cd41 "_law_is_row" = true) (k41 : PySem.W.keepIn K (.ref f41) = true)
    (a42_0 : PySem.W.nsIn K mainGlobals "_law_is_number" = some (some (.ref f42)))
    (l42 : K.lookup f42 = some ⟨oc42, od42, .func (PySem.W.fnOf "_law_is_number" "_law_is_number" (defArgs st__law_is_number) (defBody st__law_is_number) (defScope st__law_is_number) .none kV42 dc42 pm42 an42 cd42 ct42), sl42⟩) (c42 : PySem.W.codeIn K cd42 "_law_is_number" = true) (k42 : PySem.W.keepIn K (.ref f42) = true)
    (a43_0 : PySem.W.nsIn K mainGlobals "_law_is_poly" = some (some (.ref f43)))
    (l43 : K.lookup f43 = some ⟨oc43, od43, .func (PySem.W.fnOf "_law_is_poly" "_law_is_poly" (defArgs st__law_is_poly) (defBody st__law_is_poly) (defScope st__law_is_poly) .none kV43 dc43 pm43 an43 cd43 ct43), sl43⟩) (c43 : PySem.W.codeIn K cd43 "_law_is_poly" = true) (k43 : PySem.W.keepIn K (.ref f43) = true)
    (a44_0 : PySem.W.nsIn K mainGlobals "_law_shows_common" = some (some (.ref f44)))
    (l44 : K.lookup f44 = some ⟨oc44, od44, .func (PySem.W.fnOf "_law_shows_common" "_law_shows_common" (defArgs st__law_shows_common) (defBody st__law_shows_common) (defScope st__law_shows_common) .none kV44 dc44 pm44 an44 cd44 ct44), sl44⟩) (c44 : PySem.W.codeIn K cd44 "_law_shows_common" = true) (k44 : PySem.W.keepIn K (.ref f44) = true)
    (a45_0 : PySem.W.nsIn K mainGlobals "_law_scaled" = some (some (.ref f45)))
    (l45 : K.lookup f45 = some ⟨oc45, od45, .func (PySem.W.fnOf "_law_scaled" "_law_scaled" (defArgs st__law_scaled) (defBody st__law_scaled) (defScope st__law_scaled) .none kV45 dc45 pm45 an45 cd45 ct45), sl45⟩) (c45 : PySem.W.codeIn K cd45 "_law_scaled" = true) (k45 : PySem.W.keepIn K (.ref f45) = true)
    (a46_0 : PySem.W.nsIn K mainGlobals "law" = some (some (.ref f46)))
    (l46 : K.lookup f46 = some ⟨oc46, od46, .func (PySem.W.fnOf "law" "law" (defArgs st_law) (defBody st_law) (defScope st_law) .none kV46 dc46 pm46 an46 cd46 ct46), sl46⟩) (c46 : PySem.W.codeIn K cd46 "law" = true) (k46 : PySem.W.keepIn K (.ref f46) = true)
    {cE_ByNought : Addr} (eE_ByNought : PySem.W.nsIn K mainGlobals "ByNought" = some (some (.ref cE_ByNought)))
    (xE_ByNought : PySem.W.excIn K cE_ByNought [.type "ValueError", .type "Exception", .type "BaseException", .type "object"] "ValueError.__new__" = true) (uE_ByNought : PySem.W.keepIn K (.ref cE_ByNought) = true) (bE_ByNought : PySem.W.subIn K (.ref cE_ByNought) (.type "BaseException") = some true) (tE_ByNought : PySem.W.typeIn K (.ref cE_ByNought) = some (.type "type"))
    {qT0_0 : Addr} {qd0_0 : Option Addr} {qs0_0 : Array (Option Value)} {qn0_0 : Nat} {qT0_1 : Addr} {qd0_1 : Option Addr} {qs0_1 : Array (Option Value)} {qn0_1 : Nat} {qt0_2 : Tok} (q0 : PySem.W.nsIn K mainGlobals "NOUGHT" = some (some (.ref qT0_0))) (r0_0 : K.lookup qT0_0 = some ⟨.type "tuple", qd0_0, .seq #[(.ref qT0_1), (.int 1 qt0_2)] qn0_0, qs0_0⟩) (r0_1 : K.lookup qT0_1 = some ⟨.type "tuple", qd0_1, .seq #[] qn0_1, qs0_1⟩)
    {qT1_0 : Addr} {qd1_0 : Option Addr} {qs1_0 : Array (Option Value)} {qn1_0 : Nat} {qT1_1 : Addr} {qd1_1 : Option Addr} {qs1_1 : Array (Option Value)} {qn1_1 : Nat} {qt1_2 : Tok} {qt1_3 : Tok} (q1 : PySem.W.nsIn K mainGlobals "ONE" = some (some (.ref qT1_0))) (r1_0 : K.lookup qT1_0 = some ⟨.type "tuple", qd1_0, .seq #[(.ref qT1_1), (.int 1 qt1_3)] qn1_0, qs1_0⟩) (r1_1 : K.lookup qT1_1 = some ⟨.type "tuple", qd1_1, .seq #[(.int 1 qt1_2)] qn1_1, qs1_1⟩)
    (iD_i_dig : PySem.W.nsIn K cStatics "sys.int_max_str_digits" = some none)
    (z0 : PySem.W.nsIn K mainGlobals "abs" = some none) (z1 : PySem.W.nsIn K mainGlobals "all" = some none) (z2 : PySem.W.nsIn K mainGlobals "bool" = some none) (z3 : PySem.W.nsIn K mainGlobals "enumerate" = some none) (z4 : PySem.W.nsIn K mainGlobals "int" = some none) (z5 : PySem.W.nsIn K mainGlobals "isinstance" = some none) (z6 : PySem.W.nsIn K mainGlobals "len" = some none) (z7 : PySem.W.nsIn K mainGlobals "list" = some none) (z8 : PySem.W.nsIn K mainGlobals "max" = some none) (z9 : PySem.W.nsIn K mainGlobals "range" = some none) (z10 : PySem.W.nsIn K mainGlobals "repr" = some none) (z11 : PySem.W.nsIn K mainGlobals "reversed" = some none) (z12 : PySem.W.nsIn K mainGlobals "tuple" = some none) (z13 : PySem.W.nsIn K mainGlobals "zip" = some none) :
    ∃ fd : FuncData, (∀ (s : Shared) (v : Value), BindsTo s fd ⟨[v], []⟩ [("_law_script", v)]) ∧ ∀ base : Heap, K.In base → base.Ns mainGlobals mg → FnG l.prog w K mg base (L2.CX l.prog w) 35 fa fd ["_law_script"] (spLaw K) := by
  have e := hfa.symm.trans (PySem.W.mg_of X G a46_0)
  cases e
  have D0_0 : Dfn K mg "_law_folded" "_law_folded" st__law_folded ["_law_script"] := ⟨_, _, fun_mk (st := st__law_folded) l0 c0 k0, PySem.W.mg_of X G a0_0, (fun_mk (st := st__law_folded) l0 c0 k0).binds (ps := ["_law_script"]) fun _ _ _ _ _ _ us hl => match us, hl with | [_], _ => rfl⟩
  have D1_0 : Dfn K mg "_law_begun" "_law_begun" st__law_begun ["_law_script"] := ⟨_, _, fun_mk (st := st__law_begun) l1 c1 k1, PySem.W.mg_of X G a1_0, (fun_mk (st := st__law_begun) l1 c1 k1).binds (ps := ["_law_script"]) fun _ _ _ _ _ _ us hl => match us, hl with | [_], _ => rfl⟩
  have D2_0 : Dfn K mg "_law_common" "_law_common" st__law_common ["_law_numbers"] := ⟨_, _, fun_mk (st := st__law_common) l2 c2 k2, PySem.W.mg_of X G a2_0, (fun_mk (st := st__law_common) l2 c2 k2).binds (ps := ["_law_numbers"]) fun _ _ _ _ _ _ us hl => match us, hl with | [_], _ => rfl⟩
  have D3_0 : Dfn K mg "_law_poly" "_law_poly" st__law_poly ["_law_row", "_law_below"] := ⟨_, _, fun_mk (st := st__law_poly) l3 c3 k3, PySem.W.mg_of X G a3_0, (fun_mk (st := st__law_poly) l3 c3 k3).binds (ps := ["_law_row", "_law_below"]) fun _ _ _ _ _ _ us hl => match us, hl with | [_, _], _ => rfl⟩
  have D4_0 : Dfn K mg "_law_cut" "_law_cut" st__law_cut ["_law_numbers"] := ⟨_, _, fun_mk (st := st__law_cut) l4 c4 k4, PySem.W.mg_of X G a4_0, (fun_mk (st := st__law_cut) l4 c4 k4).binds (ps := ["_law_numbers"]) fun _ _ _ _ _ _ us hl => match us, hl with | [_], _ => rfl⟩
  have D5_0 : Dfn K mg "_law_mixed" "_law_mixed" st__law_mixed ["_law_cell", "_law_k"] := ⟨_, _, fun_mk (st := st__law_mixed) l5 c5 k5, PySem.W.mg_of X G a5_0, (fun_mk (st := st__law_mixed) l5 c5 k5).binds (ps := ["_law_cell", "_law_k"]) fun _ _ _ _ _ _ us hl => match us, hl with | [_, _], _ => rfl⟩
  have D6_0 : Dfn K mg "_law_draw" "_law_draw" st__law_draw ["_law_m", "_law_many"] := ⟨_, _, fun_mk (st := st__law_draw) l6 c6 k6, PySem.W.mg_of X G a6_0, (fun_mk (st := st__law_draw) l6 c6 k6).binds (ps := ["_law_m", "_law_many"]) fun _ _ _ _ _ _ us hl => match us, hl with | [_, _], _ => rfl⟩
  have D7_0 : Dfn K mg "_law_small" "_law_small" st__law_small ["_law_m", "_law_size"] := ⟨_, _, fun_mk (st := st__law_small) l7 c7 k7, PySem.W.mg_of X G a7_0, (fun_mk (st := st__law_small) l7 c7 k7).binds (ps := ["_law_m", "_law_size"]) fun _ _ _ _ _ _ us hl => match us, hl with | [_, _], _ => rfl⟩
  have D8_0 : Dfn K mg "_law_small_row" "_law_small_row" st__law_small_row ["_law_m", "_law_most", "_law_size"] := ⟨_, _, fun_mk (st := st__law_small_row) l8 c8 k8, PySem.W.mg_of X G a8_0, (fun_mk (st := st__law_small_row) l8 c8 k8).binds (ps := ["_law_m", "_law_most", "_law_size"]) fun _ _ _ _ _ _ us hl => match us, hl with | [_, _, _], _ => rfl⟩
  have D9_0 : Dfn K mg "_law_small_poly" "_law_small_poly" st__law_small_poly ["_law_m", "_law_most"] := ⟨_, _, fun_mk (st := st__law_small_poly) l9 c9 k9, PySem.W.mg_of X G a9_0, (fun_mk (st := st__law_small_poly) l9 c9 k9).binds (ps := ["_law_m", "_law_most"]) fun _ _ _ _ _ _ us hl => match us, hl with | [_, _], _ => rfl⟩
  have D10_0 : Dfn K mg "common" "common" st_common ["one", "other"] := ⟨_, _, fun_mk (st := st_common) l10 c10 k10, PySem.W.mg_of X G a10_0, (fun_mk (st := st_common) l10 c10 k10).binds (ps := ["one", "other"]) fun _ _ _ _ _ _ us hl => match us, hl with | [_, _], _ => rfl⟩
  have G11 : FunD K "fraction" "fraction" (defArgs st_fraction) (defBody st_fraction) (defScope st_fraction) (([1] : List Int).map V.int) [] f11 (PySem.W.fnOf "fraction" "fraction" (defArgs st_fraction) (defBody st_fraction) (defScope st_fraction) (.ref T11) kV11 dc11 pm11 an11 cd11 ct11) := ⟨⟨_, _, _, _, _, _, _, _, _, _, rfl, l11, c11, .inr ⟨fun z => (nomatch z), T11, _, [.int 1 tk11_0], tn11, rfl, d11, rfl, .cons ⟨_, rfl⟩ (.nil)⟩, .inl rfl⟩, k11⟩
  have D11_0 : DfD K mg "fraction" "fraction" st_fraction ["n", "d"] [1] := ⟨_, _, G11, PySem.W.mg_of X G a11_0, fun j hj => match j, hj with | 0, _ => G11.binds1 (ps := ["n", "d"]) 1 0 (fun z => nomatch z) rfl (fun _ _ _ _ _ _ _ us its hu hi => (match us, hu, its, hi with | [_], _, [_], _ => ⟨_, rfl, rfl⟩)) | 1, _ => G11.binds1 (ps := ["n", "d"]) 2 1 (fun z => nomatch z) rfl (fun _ _ _ _ _ _ _ us its hu hi => (match us, hu, its, hi with | [_, _], _, [_], _ => ⟨_, rfl, rfl⟩))⟩
  have D12_0 : Dfn K mg "over" "over" st_over ["one", "other"] := ⟨_, _, fun_mk (st := st_over) l12 c12 k12, PySem.W.mg_of X G a12_0, (fun_mk (st := st_over) l12 c12 k12).binds (ps := ["one", "other"]) fun _ _ _ _ _ _ us hl => match us, hl with | [_, _], _ => rfl⟩
  have D13_0 : Dfn K mg "last_of" "last_of" st_last_of ["some"] := ⟨_, _, fun_mk (st := st_last_of) l13 c13 k13, PySem.W.mg_of X G a13_0, (fun_mk (st := st_last_of) l13 c13 k13).binds (ps := ["some"]) fun _ _ _ _ _ _ us hl => match us, hl with | [_], _ => rfl⟩
  have D14_0 : Dfn K mg "content" "content" st_content ["row"] := ⟨_, _, fun_mk (st := st_content) l14 c14 k14, PySem.W.mg_of X G a14_0, (fun_mk (st := st_content) l14 c14 k14).binds (ps := ["row"]) fun _ _ _ _ _ _ us hl => match us, hl with | [_], _ => rfl⟩
  have G15 : FunD K "poly" "poly" (defArgs st_poly) (defBody st_poly) (defScope st_poly) (([1] : List Int).map V.int) [] f15 (PySem.W.fnOf "poly" "poly" (defArgs st_poly) (defBody st_poly) (defScope st_poly) (.ref T15) kV15 dc15 pm15 an15 cd15 ct15) := ⟨⟨_, _, _, _, _, _, _, _, _, _, rfl, l15, c15, .inr ⟨fun z => (nomatch z), T15, _, [.int 1 tk15_0], tn15, rfl, d15, rfl, .cons ⟨_, rfl⟩ (.nil)⟩, .inl rfl⟩, k15⟩
  have D15_0 : DfD K mg "poly" "poly" st_poly ["row", "d"] [1] := ⟨_, _, G15, PySem.W.mg_of X G a15_0, fun j hj => match j, hj with | 0, _ => G15.binds1 (ps := ["row", "d"]) 1 0 (fun z => nomatch z) rfl (fun _ _ _ _ _ _ _ us its hu hi => (match us, hu, its, hi with | [_], _, [_], _ => ⟨_, rfl, rfl⟩)) | 1, _ => G15.binds1 (ps := ["row", "d"]) 2 1 (fun z => nomatch z) rfl (fun _ _ _ _ _ _ _ us its hu hi => (match us, hu, its, hi with | [_, _], _, [_], _ => ⟨_, rfl, rfl⟩))⟩
  have D16_0 : Dfn K mg "row_of" "row_of" st_row_of ["numbers"] := ⟨_, _, fun_mk (st := st_row_of) l16 c16 k16, PySem.W.mg_of X G a16_0, (fun_mk (st := st_row_of) l16 c16 k16).binds (ps := ["numbers"]) fun _ _ _ _ _ _ us hl => match us, hl with | [_], _ => rfl⟩
  have D17_0 : Dfn K mg "scaled_rows" "scaled" st_scaled_rows ["row", "number"] := ⟨_, _, fun_mk (st := st_scaled_rows) l17 c17 k17, PySem.W.mg_of X G a17_0, (fun_mk (st := st_scaled_rows) l17 c17 k17).binds (ps := ["row", "number"]) fun _ _ _ _ _ _ us hl => match us, hl with | [_, _], _ => rfl⟩
  have D18_0 : Dfn K mg "scaled_polys" "scaled" st_scaled_polys ["one", "number"] := ⟨_, _, fun_mk (st := st_scaled_polys) l18 c18 k18, PySem.W.mg_of X G a18_0, (fun_mk (st := st_scaled_polys) l18 c18 k18).binds (ps := ["one", "number"]) fun _ _ _ _ _ _ us hl => match us, hl with | [_, _], _ => rfl⟩
  have D19_0 : Dfn K mg "divided" "divided" st_divided ["some", "other"] := ⟨_, _, fun_mk (st := st_divided) l19 c19 k19, PySem.W.mg_of X G a19_0, (fun_mk (st := st_divided) l19 c19 k19).binds (ps := ["some", "other"]) fun _ _ _ _ _ _ us hl => match us, hl with | [_, _], _ => rfl⟩
  have D20_0 : Dfn K mg "at_size" "at_size" st_at_size ["row", "size"] := ⟨_, _, fun_mk (st := st_at_size) l20 c20 k20, PySem.W.mg_of X G a20_0, (fun_mk (st := st_at_size) l20 c20 k20).binds (ps := ["row", "size"]) fun _ _ _ _ _ _ us hl => match us, hl with | [_, _], _ => rfl⟩
  have D21_0 : Dfn K mg "plus_rows" "plus" st_plus_rows ["one", "other"] := ⟨_, _, fun_mk (st := st_plus_rows) l21 c21 k21, PySem.W.mg_of X G a21_0, (fun_mk (st := st_plus_rows) l21 c21 k21).binds (ps := ["one", "other"]) fun _ _ _ _ _ _ us hl => match us, hl with | [_, _], _ => rfl⟩
  have D22_0 : Dfn K mg "plus_polys" "plus" st_plus_polys ["one", "other"] := ⟨_, _, fun_mk (st := st_plus_polys) l22 c22 k22, PySem.W.mg_of X G a22_0, (fun_mk (st := st_plus_polys) l22 c22 k22).binds (ps := ["one", "other"]) fun _ _ _ _ _ _ us hl => match us, hl with | [_, _], _ => rfl⟩
  have D23_0 : Dfn K mg "less" "less" st_less ["one", "other"] := ⟨_, _, fun_mk (st := st_less) l23 c23 k23, PySem.W.mg_of X G a23_0, (fun_mk (st := st_less) l23 c23 k23).binds (ps := ["one", "other"]) fun _ _ _ _ _ _ us hl => match us, hl with | [_, _], _ => rfl⟩
  have D24_0 : Dfn K mg "times_rows" "times" st_times_rows ["one", "other"] := ⟨_, _, fun_mk (st := st_times_rows) l24 c24 k24, PySem.W.mg_of X G a24_0, (fun_mk (st := st_times_rows) l24 c24 k24).binds (ps := ["one", "other"]) fun _ _ _ _ _ _ us hl => match us, hl with | [_, _], _ => rfl⟩
  have D25_0 : Dfn K mg "times_polys" "times" st_times_polys ["one", "other"] := ⟨_, _, fun_mk (st := st_times_polys) l25 c25 k25, PySem.W.mg_of X G a25_0, (fun_mk (st := st_times_polys) l25 c25 k25).binds (ps := ["one", "other"]) fun _ _ _ _ _ _ us hl => match us, hl with | [_, _], _ => rfl⟩
  have D26_0 : Dfn K mg "lessened" "lessened" st_lessened ["one", "two"] := ⟨_, _, fun_mk (st := st_lessened) l26 c26 k26, PySem.W.mg_of X G a26_0, (fun_mk (st := st_lessened) l26 c26 k26).binds (ps := ["one", "two"]) fun _ _ _ _ _ _ us hl => match us, hl with | [_, _], _ => rfl⟩
  have D27_0 : Dfn K mg "common_part" "common_part" st_common_part ["some", "other"] := ⟨_, _, fun_mk (st := st_common_part) l27 c27 k27, PySem.W.mg_of X G a27_0, (fun_mk (st := st_common_part) l27 c27 k27).binds (ps := ["some", "other"]) fun _ _ _ _ _ _ us hl => match us, hl with | [_, _], _ => rfl⟩
  have D28_0 : Dfn K mg "common_paper" "common_paper" st_common_paper ["some", "other"] := ⟨_, _, fun_mk (st := st_common_paper) l28 c28 k28, PySem.W.mg_of X G a28_0, (fun_mk (st := st_common_paper) l28 c28 k28).binds (ps := ["some", "other"]) fun _ _ _ _ _ _ us hl => match us, hl with | [_, _], _ => rfl⟩
  have D29_0 : Dfn K mg "_law_bent" "_law_bent" st__law_bent ["_law_m", "_law_thing"] := ⟨_, _, fun_mk (st := st__law_bent) l29 c29 k29, PySem.W.mg_of X G a29_0, (fun_mk (st := st__law_bent) l29 c29 k29).binds (ps := ["_law_m", "_law_thing"]) fun _ _ _ _ _ _ us hl => match us, hl with | [_, _], _ => rfl⟩
  have D30_0 : Dfn K mg "_law_odd" "_law_odd" st__law_odd ["_law_m", "_law_deep"] := ⟨_, _, fun_mk (st := st__law_odd) l30 c30 k30, PySem.W.mg_of X G a30_0, (fun_mk (st := st__law_odd) l30 c30 k30).binds (ps := ["_law_m", "_law_deep"]) fun _ _ _ _ _ _ us hl => match us, hl with | [_, _], _ => rfl⟩
  have D31_0 : Dfn K mg "is_tuple" "is_tuple" st_is_tuple ["thing", "many"] := ⟨_, _, fun_mk (st := st_is_tuple) l31 c31 k31, PySem.W.mg_of X G a31_0, (fun_mk (st := st_is_tuple) l31 c31 k31).binds (ps := ["thing", "many"]) fun _ _ _ _ _ _ us hl => match us, hl with | [_, _], _ => rfl⟩
  have D32_0 : Dfn K mg "is_monic" "is_monic" st_is_monic ["some"] := ⟨_, _, fun_mk (st := st_is_monic) l32 c32 k32, PySem.W.mg_of X G a32_0, (fun_mk (st := st_is_monic) l32 c32 k32).binds (ps := ["some"]) fun _ _ _ _ _ _ us hl => match us, hl with | [_], _ => rfl⟩
  have D33_0 : Dfn K mg "is_whole" "is_whole" st_is_whole ["thing"] := ⟨_, _, fun_mk (st := st_is_whole) l33 c33 k33, PySem.W.mg_of X G a33_0, (fun_mk (st := st_is_whole) l33 c33 k33).binds (ps := ["thing"]) fun _ _ _ _ _ _ us hl => match us, hl with | [_], _ => rfl⟩
  have D34_0 : Dfn K mg "is_row" "is_row" st_is_row ["thing"] := ⟨_, _, fun_mk (st := st_is_row) l34 c34 k34, PySem.W.mg_of X G a34_0, (fun_mk (st := st_is_row) l34 c34 k34).binds (ps := ["thing"]) fun _ _ _ _ _ _ us hl => match us, hl with | [_], _ => rfl⟩
  have D35_0 : Dfn K mg "is_poly" "is_poly" st_is_poly ["thing"] := ⟨_, _, fun_mk (st := st_is_poly) l35 c35 k35, PySem.W.mg_of X G a35_0, (fun_mk (st := st_is_poly) l35 c35 k35).binds (ps := ["thing"]) fun _ _ _ _ _ _ us hl => match us, hl with | [_], _ => rfl⟩
  have D36_0 : Dfn K mg "shows_common" "shows_common" st_shows_common ["one", "other", "paper"] := ⟨_, _, fun_mk (st := st_shows_common) l36 c36 k36, PySem.W.mg_of X G a36_0, (fun_mk (st := st_shows_common) l36 c36 k36).binds (ps := ["one", "other", "paper"]) fun _ _ _ _ _ _ us hl => match us, hl with | [_, _, _], _ => rfl⟩
  have D37_0 : Dfn K mg "_law_product" "_law_product" st__law_product ["_law_one", "_law_other"] := ⟨_, _, fun_mk (st := st__law_product) l37 c37 k37, PySem.W.mg_of X G a37_0, (fun_mk (st := st__law_product) l37 c37 k37).binds (ps := ["_law_one", "_law_other"]) fun _ _ _ _ _ _ us hl => match us, hl with | [_, _], _ => rfl⟩
  have D38_0 : Dfn K mg "_law_times" "_law_times" st__law_times ["_law_one", "_law_other"] := ⟨_, _, fun_mk (st := st__law_times) l38 c38 k38, PySem.W.mg_of X G a38_0, (fun_mk (st := st__law_times) l38 c38 k38).binds (ps := ["_law_one", "_law_other"]) fun _ _ _ _ _ _ us hl => match us, hl with | [_, _], _ => rfl⟩
  have D39_0 : Dfn K mg "_law_sum" "_law_sum" st__law_sum ["_law_one", "_law_other", "_law_factor"] := ⟨_, _, fun_mk (st := st__law_sum) l39 c39 k39, PySem.W.mg_of X G a39_0, (fun_mk (st := st__law_sum) l39 c39 k39).binds (ps := ["_law_one", "_law_other", "_law_factor"]) fun _ _ _ _ _ _ us hl => match us, hl with | [_, _, _], _ => rfl⟩
  have D40_0 : Dfn K mg "_law_plus" "_law_plus" st__law_plus ["_law_one", "_law_other", "_law_factor"] := ⟨_, _, fun_mk (st := st__law_plus) l40 c40 k40, PySem.W.mg_of X G a40_0, (fun_mk (st := st__law_plus) l40 c40 k40).binds (ps := ["_law_one", "_law_other", "_law_factor"]) fun _ _ _ _ _ _ us hl => match us, hl with | [_, _, _], _ => rfl⟩
  have D41_0 : Dfn K mg "_law_is_row" "_law_is_row" st__law_is_row ["_law_thing"] := ⟨_, _, fun_mk (st := st__law_is_row) l41 c41 k41, PySem.W.mg_of X G a41_0, (fun_mk (st := st__law_is_row) l41 c41 k41).binds (ps := ["_law_thing"]) fun _ _ _ _ _ _ us hl => match us, hl with | [_], _ => rfl⟩
  have D42_0 : Dfn K mg "_law_is_number" "_law_is_number" st__law_is_number ["_law_thing"] := ⟨_, _, fun_mk (st := st__law_is_number) l42 c42 k42, PySem.W.mg_of X G a42_0, (fun_mk (st := st__law_is_number) l42 c42 k42).binds (ps := ["_law_thing"]) fun _ _ _ _ _ _ us hl => match us, hl with | [_], _ => rfl⟩
  have D43_0 : Dfn K mg "_law_is_poly" "_law_is_poly" st__law_is_poly ["_law_thing"] := ⟨_, _, fun_mk (st := st__law_is_poly) l43 c43 k43, PySem.W.mg_of X G a43_0, (fun_mk (st := st__law_is_poly) l43 c43 k43).binds (ps := ["_law_thing"]) fun _ _ _ _ _ _ us hl => match us, hl with | [_], _ => rfl⟩
  have D44_0 : Dfn K mg "_law_shows_common" "_law_shows_common" st__law_shows_common ["_law_one", "_law_other", "_law_paper"] := ⟨_, _, fun_mk (st := st__law_shows_common) l44 c44 k44, PySem.W.mg_of X G a44_0, (fun_mk (st := st__law_shows_common) l44 c44 k44).binds (ps := ["_law_one", "_law_other", "_law_paper"]) fun _ _ _ _ _ _ us hl => match us, hl with | [_, _, _], _ => rfl⟩
  have D45_0 : Dfn K mg "_law_scaled" "_law_scaled" st__law_scaled ["_law_paper", "_law_number"] := ⟨_, _, fun_mk (st := st__law_scaled) l45 c45 k45, PySem.W.mg_of X G a45_0, (fun_mk (st := st__law_scaled) l45 c45 k45).binds (ps := ["_law_paper", "_law_number"]) fun _ _ _ _ _ _ us hl => match us, hl with | [_, _], _ => rfl⟩
  exact ⟨PySem.W.fnOf "law" "law" (defArgs st_law) (defBody st_law) (defScope st_law) .none kV46 dc46 pm46 an46 cd46 ct46, fun s v => .of_eq rfl, fun base _ _ => ok_law (fun_mk (st := st_law) l46 c46 k46) D0_0 D1_0 D2_0 D3_0 D4_0 D5_0 D6_0 D7_0 D8_0 D9_0 D10_0 D11_0 D12_0 D13_0 D14_0 D15_0 D16_0 D17_0 D18_0 D19_0 D20_0 D21_0 D22_0 D23_0 D24_0 D25_0 D26_0 D27_0 D28_0 D29_0 D30_0 D31_0 D32_0 D33_0 D34_0 D35_0 D36_0 D37_0 D38_0 D39_0 D40_0 D41_0 D42_0 D43_0 D44_0 D45_0  (PySem.W.mg_none_of X G z0) (PySem.W.mg_none_of X G z1) (PySem.W.mg_none_of X G z2) (PySem.W.mg_none_of X G z3) (PySem.W.mg_none_of X G z4) (PySem.W.mg_none_of X G z5) (PySem.W.mg_none_of X G z6) (PySem.W.mg_none_of X G z7) (PySem.W.mg_none_of X G z8) (PySem.W.mg_none_of X G z9) (PySem.W.mg_none_of X G z10) (PySem.W.mg_none_of X G z11) (PySem.W.mg_none_of X G z12) (PySem.W.mg_none_of X G z13) ⟨cE_ByNought, _, _, _, PySem.F.excBase_ValueError, PySem.W.mg_of X G eE_ByNought, xE_ByNought, uE_ByNought, bE_ByNought, tE_ByNought⟩ ⟨_, _, PySem.W.mg_of X G q0, (r_ref _), (.tup (.inr ⟨_, _, _, r0_0, rfl, rfl, small_line (Nat.le_of_ble_eq_true rfl), (.cons (r_ref _) (.cons (r_int _ _) .nil))⟩) (.cons (.tup (.inr ⟨_, _, _, r0_1, rfl, rfl, small_line (Nat.le_of_ble_eq_true rfl), .nil⟩) .nil) (.cons (.int _) .nil)))⟩ ⟨_, _, PySem.W.mg_of X G q1, (r_ref _), (.tup (.inr ⟨_, _, _, r1_0, rfl, rfl, small_line (Nat.le_of_ble_eq_true rfl), (.cons (r_ref _) (.cons (r_int _ _) .nil))⟩) (.cons (.tup (.inr ⟨_, _, _, r1_1, rfl, rfl, small_line (Nat.le_of_ble_eq_true rfl), (.cons (r_int _ _) .nil)⟩) (.cons (.int _) .nil)) (.cons (.int _) .nil)))⟩ iD_i_dig⟩
end RR
open PySem PySem.W PyProof.Rows
set_option maxHeartbeats 0 in
theorem PySem.Challenge.cw_rootring_k40_papers_of_common_parts_holds : PySem.Challenge.rw_rootring_k40_papers_of_common_parts.Holds := by
  w_on; o_law; k_head; (case hw => w_witness2)
  k_fill
  refine RR.walk_ofG (l := PySem.Challenge.rw_rootring_k40_papers_of_common_parts) (n := 63) (k := 35) (x := "_law_script") (C := fun w => L2.CX PySem.Challenge.pw_rootring_k40_papers_of_common_parts w) (sp := fun w => RR.spLaw _) rfl (by decide) rfl ⟨rfl, by decide, by decide⟩ (fun w h Y => PySem.W.kIn_of Y) ?F (fun _ _ a ns hl hS => ⟨a, ns, rfl, hS, hl, fun _ => rfl⟩) (fun _ _ _ _ _ h => by obtain ⟨_, _, _, _, _, _, _, _, _, _, _, _, z⟩ := h; exact z)
  case F =>
    intro w mg fa h KX G hmg
    refine' RR.all_mk KX G hmg ?a0_0 ?l0 ?c0 ?k0 ?a1_0 ?l1 ?c1 ?k1 ?a2_0 ?l2 ?c2 ?k2 ?a3_0 ?l3 ?c3 ?k3 ?a4_0 ?l4 ?c4 ?k4 ?a5_0 ?l5 ?c5 ?k5 ?a6_0 ?l6 ?c6 ?k6 ?a7_0 ?l7 ?c7 ?k7 ?a8_0 ?l8 ?c8 ?k8 ?a9_0 ?l9 ?c9 ?k9 ?a10_0 ?l10 ?c10 ?k10 ?a11_0 ?l11 ?c11 ?k11 ?d11 ?a12_0 ?l12 ?c12 ?k12 ?a13_0 ?l13 ?c13 ?k13 ?a14_0 ?l14 ?c14 ?k14 ?a15_0 ?l15 ?c15 ?k15 ?d15 ?a16_0 ?l16 ?c16 ?k16 ?a17_0 ?l17 ?c17 ?k17 ?a18_0 ?l18 ?c18 ?k18 ?a19_0 ?l19 ?c19 ?k19 ?a20_0 ?l20 ?c20 ?k20 ?a21_0 ?l21 ?c21 ?k21 ?a22_0 ?l22 ?c22 ?k22 ?a23_0 ?l23 ?c23 ?k23 ?a24_0 ?l24 ?c24 ?k24 ?a25_0 ?l25 ?c25 ?k25 ?a26_0 ?l26 ?c26 ?k26 ?a27_0 ?l27 ?c27 ?k27 ?a28_0 ?l28 ?c28 ?k28 ?a29_0 ?l29 ?c29 ?k29 ?a30_0 ?l30 ?c30 ?k30 ?a31_0 ?l31 ?c31 ?k31 ?a32_0 ?l32 ?c32 ?k32 ?a33_0 ?l33 ?c33 ?k33 ?a34_0 ?l34 ?c34 ?k34 ?a35_0 ?l35 ?c35 ?k35 ?a36_0 ?l36 ?c36 ?k36 ?a37_0 ?l37 ?c37 ?k37 ?a38_0 ?l38 ?c38 ?k38 ?a39_0 ?l39 ?c39 ?k39 ?a40_0 ?l40 ?c40 ?k40 ?a41_0 ?l41 ?c41 ?k41 ?a42_0 ?l42 ?c42 ?k42 ?a43_0 ?l43 ?c43 ?k43 ?a44_0 ?l44 ?c44 ?k44 ?a45_0 ?l45 ?c45 ?k45 ?a46_0 ?l46 ?c46 ?k46 ?eE_ByNought ?xE_ByNought ?uE_ByNought ?bE_ByNought ?tE_ByNought ?q0 ?r0_0 ?r0_1 ?q1 ?r1_0 ?r1_1 ?iD_i_dig ?z0 ?z1 ?z2 ?z3 ?z4 ?z5 ?z6 ?z7 ?z8 ?z9 ?z10 ?z11 ?z12 ?z13
    (case a0_0 => k_is); (case l0 => k_is); (case c0 => k_is); (case k0 => k_is); (case a1_0 => k_is); (case l1 => k_is); (case c1 => k_is); (case k1 => k_is); (case a2_0 => k_is); (case l2 => k_is); (case c2 => k_is); (case k2 => k_is); (case a3_0 => k_is); (case l3 => k_is); (case c3 => k_is); (case k3 => k_is); (case a4_0 => k_is); (case l4 => k_is); (case c4 => k_is); (case k4 => k_is); (case a5_0 => k_is); (case l5 => k_is); (case c5 => k_is); (case k5 => k_is); (case a6_0 => k_is); (case l6 => k_is); (case c6 => k_is); (case k6 => k_is); (case a7_0 => k_is); (case l7 => k_is); (case c7 => k_is); (case k7 => k_is); (case a8_0 => k_is); (case l8 => k_is); (case c8 => k_is); (case k8 => k_is); (case a9_0 => k_is); (case l9 => k_is); (case c9 => k_is); (case k9 => k_is); (case a10_0 => k_is); (case l10 => k_is); (case c10 => k_is); (case k10 => k_is); (case a11_0 => k_is); (case l11 => k_is); (case c11 => k_is); (case k11 => k_is); (case d11 => k_is); (case a12_0 => k_is); (case l12 => k_is); (case c12 => k_is); (case k12 => k_is); (case a13_0 => k_is); (case l13 => k_is); (case c13 => k_is); (case k13 => k_is); (case a14_0 => k_is); (case l14 => k_is); (case c14 => k_is); (case k14 => k_is); (case a15_0 => k_is); (case l15 => k_is); (case c15 => k_is); (case k15 => k_is); (case d15 => k_is); (case a16_0 => k_is); (case l16 => k_is); (case c16 => k_is); (case k16 => k_is); (case a17_0 => k_is); (case l17 => k_is); (case c17 => k_is); (case k17 => k_is); (case a18_0 => k_is); (case l18 => k_is); (case c18 => k_is); (case k18 => k_is); (case a19_0 => k_is); (case l19 => k_is); (case c19 => k_is); (case k19 => k_is); (case a20_0 => k_is); (case l20 => k_is); (case c20 => k_is); (case k20 => k_is); (case a21_0 => k_is); (case l21 => k_is); (case c21 => k_is); (case k21 => k_is); (case a22_0 => k_is); (case l22 => k_is); (case c22 => k_is); (case k22 => k_is); (case a23_0 => k_is); (case l23 => k_is); (case c23 => k_is); (case k23 => k_is); (case a24_0 => k_is); (case l24 => k_is); (case c24 => k_is); (case k24 => k_is); (case a25_0 => k_is); (case l25 => k_is); (case c25 => k_is); (case k25 => k_is); (case a26_0 => k_is); (case l26 => k_is); (case c26 => k_is); (case k26 => k_is); (case a27_0 => k_is); (case l27 => k_is); (case c27 => k_is); (case k27 => k_is); (case a28_0 => k_is); (case l28 => k_is); (case c28 => k_is); (case k28 => k_is); (case a29_0 => k_is); (case l29 => k_is); (case c29 => k_is); (case k29 => k_is); (case a30_0 => k_is); (case l30 => k_is); (case c30 => k_is); (case k30 => k_is); (case a31_0 => k_is); (case l31 => k_is); (case c31 => k_is); (case k31 => k_is); (case a32_0 => k_is); (case l32 => k_is); (case c32 => k_is); (case k32 => k_is); (case a33_0 => k_is); (case l33 => k_is); (case c33 => k_is); (case k33 => k_is); (case a34_0 => k_is); (case l34 => k_is); (case c34 => k_is); (case k34 => k_is); (case a35_0 => k_is); (case l35 => k_is); (case c35 => k_is); (case k35 => k_is); (case a36_0 => k_is); (case l36 => k_is); (case c36 => k_is); (case k36 => k_is); (case a37_0 => k_is); (case l37 => k_is); (case c37 => k_is); (case k37 => k_is); (case a38_0 => k_is); (case l38 => k_is); (case c38 => k_is); (case k38 => k_is); (case a39_0 => k_is); (case l39 => k_is); (case c39 => k_is); (case k39 => k_is); (case a40_0 => k_is); (case l40 => k_is); (case c40 => k_is); (case k40 => k_is); (case a41_0 => k_is); (case l41 => k_is); (case c41 => k_is); (case k41 => k_is); (case a42_0 => k_is); (case l42 => k_is); (case c42 => k_is); (case k42 => k_is); (case a43_0 => k_is); (case l43 => k_is); (case c43 => k_is); (case k43 => k_is); (case a44_0 => k_is); (case l44 => k_is); (case c44 => k_is); (case k44 => k_is); (case a45_0 => k_is); (case l45 => k_is); (case c45 => k_is); (case k45 => k_is); (case a46_0 => k_is); (case l46 => k_is); (case c46 => k_is); (case k46 => k_is); (case eE_ByNought => k_is); (case xE_ByNought => k_exc); (case uE_ByNought => k_is); (case bE_ByNought => k_is); (case tE_ByNought => k_is); (case q0 => k_is); (case r0_0 => k_is); (case r0_1 => k_is); (case q1 => k_is); (case r1_0 => k_is); (case r1_1 => k_is); (case iD_i_dig => k_is); (case z0 => k_is); (case z1 => k_is); (case z2 => k_is); (case z3 => k_is); (case z4 => k_is); (case z5 => k_is); (case z6 => k_is); (case z7 => k_is); (case z8 => k_is); (case z9 => k_is); (case z10 => k_is); (case z11 => k_is); (case z12 => k_is); (case z13 => k_is)
