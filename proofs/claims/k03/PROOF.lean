import PyProof.Rows.All
import Wide.All
import OpenK.AllK
import Wide.FinOn
import PyProof.EqAt
import PyProof.EqKinds
import PyProof.TupleCall
import Lean
import HandS.ForMost
import HandS.Exc
import HandS.TryOnly
import HandS.ExcOwn
import HandS.WordsExc
import HandS.Wide
import HandS.Deep
import HandS.TryMany
import HandS.Defaults
import HandS.AnyAll
import HandS.HeadHook2
import HandS.Style
import HandS.SortOrd
import HandS.SortRule
import HandS.More
import HandS.Text
import HandS.ExcInit
import HandS.ExcField
import KE.KExcSuper
import HandS.Property
import KE.KExcIs
import HandS.ExcIs
import KE.LtData
import HandS.IsInst
import HandS.TupLe
import HandS.Codes
import HandS.Iter
import KE.KDictCopyH
import HandS.FltList
import HandS.HeadHook4
import HandS.HeadWalk
import HandS.Head0
import HandS.Head1
import HandS.Head2
import HandS.HeadEnd
import HandS.HeadHook1
import PySem.Challenge.RW_surecues_k03_how_numbers_are_written
set_option Elab.async false
set_option linter.all false
set_option maxRecDepth 100000
set_option maxHeartbeats 4000000
set_option exponentiation.threshold 10000
namespace DL
open PySem PySem.Spec L2

/-! ### data -/
inductive D where
  | non | bl (b : Bool) | int (i : Int) | str (x : Str) | obj (a : Addr) | tup (ds : List D) | lst (ds : List D)

/-- which lists stand still -/
abbrev Fz := Addr → Prop
mutual
def Dn (K : PySem.W.Frag) (F : Fz) (H : Hp) : D → V → Prop
  | .non, v => v = .non
  | .bl b, v => v = .bl b
  | .int i, v => v = .int i
  | .str x, v => v = .str x
  | .obj a, v => v = .ref a
  | .tup ds, v => ∃ a vs, v = .ref a ∧ SqT K H a vs ∧ DnA K F H ds vs
  | .lst ds, v => ∃ a vs, v = .ref a ∧ F a ∧ H a = some (.lst vs) ∧ DnA K F H ds vs
def DnA (K : PySem.W.Frag) (F : Fz) (H : Hp) : List D → List V → Prop
  | [], [] => True
  | d :: ds, v :: vs => Dn K F H d v ∧ DnA K F H ds vs
  | [], _ :: _ => False
  | _ :: _, [] => False
end

/-- the heap has grown, what stands still is as it was -/
structure Mon (H : Hp) (F : Fz) (H' : Hp) (F' : Fz) : Prop where
  fr : ∀ a, F a → F' a
  tup : ∀ a xs, Rd H a (.tup xs) → Rd H' a (.tup xs)
  lst : ∀ a xs, F a → H a = some (.lst xs) → H' a = some (.lst xs)
section
variable {K : PySem.W.Frag} {H H1 H' : Hp} {F F1 F' : Fz}
theorem Mon.refl : Mon H F H F := ⟨fun _ h => h, fun _ _ h => h, fun _ _ _ h => h⟩
theorem Mon.trans (m : Mon H F H1 F1) (n : Mon H1 F1 H' F') : Mon H F H' F' :=
  ⟨fun a h => n.fr a (m.fr a h), fun a xs h => n.tup a xs (m.tup a xs h), fun a xs f h => n.lst a xs (m.fr a f) (m.lst a xs f h)⟩
theorem Mon.sqT (m : Mon H F H' F') {a : Addr} {xs : List V} (h : SqT K H a xs) : SqT K H' a xs := by
  rcases h with h | h
  · exact .inl (m.tup _ _ h)
  · exact .inr h
mutual
theorem Dn.mon (m : Mon H F H' F') : ∀ (d : D) (v : V), Dn K F H d v → Dn K F' H' d v
  | .non, _, h => h
  | .bl _, _, h => h
  | .int _, _, h => h
  | .str _, _, h => h
  | .obj _, _, h => h
  | .tup ds, v, h => by
    obtain ⟨a, vs, e, s, h⟩ := h
    exact ⟨a, vs, e, m.sqT s, DnA.mon m ds vs h⟩
  | .lst ds, v, h => by
    obtain ⟨a, vs, e, f, s, h⟩ := h
    exact ⟨a, vs, e, m.fr a f, m.lst a vs f s, DnA.mon m ds vs h⟩
theorem DnA.mon (m : Mon H F H' F') : ∀ (ds : List D) (vs : List V), DnA K F H ds vs → DnA K F' H' ds vs
  | [], [], _ => trivial
  | d :: ds, v :: vs, h => ⟨Dn.mon m d v h.1, DnA.mon m ds vs h.2⟩
  | [], _ :: _, h => h
  | _ :: _, [], h => h
end
theorem DnA.length : ∀ {ds : List D} {vs : List V}, DnA K F H ds vs → vs.length = ds.length
  | [], [], _ => rfl
  | _ :: ds, _ :: vs, h => by rw [List.length_cons, List.length_cons, DnA.length h.2]
  | [], _ :: _, h => h.elim
  | _ :: _, [], h => h.elim
theorem DnA.get : ∀ {ds : List D} {vs : List V} {i : Nat} {d : D}, DnA K F H ds vs → ds[i]? = some d → ∃ v, vs[i]? = some v ∧ Dn K F H d v
  | [], _, _, _, _, e => by simp at e
  | _ :: _, [], _, _, h, _ => h.elim
  | d :: ds, v :: vs, 0, d', h, e => by
    have e' : d = d' := by simpa using e
    subst e'
    exact ⟨v, rfl, h.1⟩
  | d :: ds, v :: vs, i + 1, d', h, e => DnA.get (i := i) h.2 (by simpa using e)
theorem DnA.getV : ∀ {ds : List D} {vs : List V} {i : Nat} {v : V}, DnA K F H ds vs → vs[i]? = some v → ∃ d, ds[i]? = some d ∧ Dn K F H d v
  | [], [], _, _, _, e => by simp at e
  | [], _ :: _, _, _, h, _ => h.elim
  | _ :: _, [], _, _, h, _ => h.elim
  | d :: ds, v :: vs, 0, v', h, e => by
    have e' : v = v' := by simpa using e
    subst e'
    exact ⟨d, rfl, h.1⟩
  | d :: ds, v :: vs, i + 1, v', h, e => DnA.getV (i := i) h.2 (by simpa using e)
theorem DnA.append : ∀ {ds es : List D} {vs ws : List V}, DnA K F H ds vs → DnA K F H es ws → DnA K F H (ds ++ es) (vs ++ ws)
  | [], _, [], _, _, h => h
  | [], _, _ :: _, _, h, _ => h.elim
  | _ :: _, _, [], _, h, _ => h.elim
  | d :: ds, es, v :: vs, ws, h, g => ⟨h.1, DnA.append h.2 g⟩
theorem DnA.take : ∀ {ds : List D} {vs : List V} (n : Nat), DnA K F H ds vs → DnA K F H (ds.take n) (vs.take n)
  | _, _, 0, _ => trivial
  | [], [], _ + 1, _ => trivial
  | [], _ :: _, _ + 1, h => h.elim
  | _ :: _, [], _ + 1, h => h.elim
  | _ :: ds, _ :: vs, n + 1, h => ⟨h.1, DnA.take n h.2⟩
theorem DnA.drop : ∀ {ds : List D} {vs : List V} (n : Nat), DnA K F H ds vs → DnA K F H (ds.drop n) (vs.drop n)
  | [], [], 0, _ => trivial
  | _ :: _, _ :: _, 0, h => h
  | [], [], _ + 1, _ => trivial
  | [], _ :: _, _, h => h.elim
  | _ :: _, [], _, h => h.elim
  | _ :: ds, _ :: vs, n + 1, h => DnA.drop n h.2
theorem DnA.set {d : D} {v : V} (hd : Dn K F H d v) : ∀ {ds : List D} {vs : List V} (i : Nat), DnA K F H ds vs → DnA K F H (ds.set i d) (vs.set i v)
  | [], [], _, _ => trivial
  | [], _ :: _, _, h => h.elim
  | _ :: _, [], _, h => h.elim
  | _ :: _, _ :: _, 0, h => ⟨hd, h.2⟩
  | _ :: ds, _ :: vs, i + 1, h => ⟨h.1, DnA.set hd i h.2⟩
theorem DnA.rev : ∀ {ds : List D} {vs : List V}, DnA K F H ds vs → DnA K F H ds.reverse vs.reverse
  | [], [], _ => trivial
  | [], _ :: _, h => h.elim
  | _ :: _, [], h => h.elim
  | d :: ds, v :: vs, h => by
    rw [List.reverse_cons, List.reverse_cons]
    exact DnA.append (DnA.rev h.2) ⟨h.1, trivial⟩
theorem DnA.nil_of {vs : List V} (h : DnA K F H [] vs) : vs = [] := by
  cases vs with
  | nil => rfl
  | cons _ _ => exact h.elim
theorem DnA.cons_of {d : D} {ds : List D} {vs : List V} (h : DnA K F H (d :: ds) vs) : ∃ v r, vs = v :: r ∧ Dn K F H d v ∧ DnA K F H ds r := by
  cases vs with
  | nil => exact h.elim
  | cons v r => exact ⟨v, r, rfl, h.1, h.2⟩
end

/-! ### resources: what a def holds of objects that change -/
structure Res where
  holds : PySem.W.Frag → Hp → Fz → (Addr → Prop) → Prop
  stable : ∀ {K : PySem.W.Frag} {H H' : Hp} {F F' : Fz} {A : Addr → Prop}, holds K H F A → Mon H F H' F' → (∀ a, A a → H' a = H a) → holds K H' F' A
  /-- no dict of an exception is its own -/
  nx : ∀ {K : PySem.W.Frag} {H : Hp} {F : Fz} {A : Addr → Prop}, holds K H F A → ∀ a vs, A a → H a ≠ some (.xd vs)
/-- nothing -/
def emp : Res := ⟨fun _ _ _ A => ∀ a, ¬ A a, fun h _ _ => h, fun h a _ ha => (h a ha).elim⟩

/-! ### objects -/
/-- a field: data, a list of its own, a dict of its own -/
inductive FV where
  | d (x : D)
  | own (ds : List D)
  | dic (kvs : List (Key × D))
/-- an object at a: an instance of the class at C, or (none) a dict with texts as keys -/
structure Ob where
  a : Addr
  C : Option Addr
  fs : List (Str × FV)
def DnK (K : PySem.W.Frag) (F : Fz) (H : Hp) : List (Key × D) → List (Key × V) → Prop
  | [], [] => True
  | p :: ps, q :: qs => p.1 = q.1 ∧ Dn K F H p.2 q.2 ∧ DnK K F H ps qs
  | [], _ :: _ => False
  | _ :: _, [] => False
theorem DnK.mon {K : PySem.W.Frag} {H H' : Hp} {F F' : Fz} (m : Mon H F H' F') : ∀ {ps : List (Key × D)} {qs : List (Key × V)}, DnK K F H ps qs → DnK K F' H' ps qs
  | [], [], _ => trivial
  | _ :: _, _ :: _, h => ⟨h.1, Dn.mon m _ _ h.2.1, DnK.mon m h.2.2⟩
  | [], _ :: _, h => h
  | _ :: _, [], h => h

/-- a field by its value: the cells stand in Hc, the data are read in H; ads: the cells that are its own -/
def FvAt (K : PySem.W.Frag) (F : Fz) (H Hc : Hp) : FV → V → List Addr → Prop
  | .d x, v, ads => ads = [] ∧ Dn K F H x v
  | .own ds, v, ads => ∃ p vs, v = .ref p ∧ ads = [p] ∧ Hc p = some (.lst vs) ∧ DnA K F H ds vs
  | .dic ds, v, ads => ∃ p vs, v = .ref p ∧ ads = [p] ∧ Hc p = some (.dK vs) ∧ DnK K F H ds vs
def FsAt (K : PySem.W.Frag) (F : Fz) (H Hc : Hp) : List (Str × FV) → List (Str × V) → List Addr → Prop
  | [], [], ads => ads = []
  | p :: ps, q :: qs, ads => p.1 = q.1 ∧ ∃ a1 a2, ads = a1 ++ a2 ∧ FvAt K F H Hc p.2 q.2 a1 ∧ FsAt K F H Hc ps qs a2
  | [], _ :: _, _ => False
  | _ :: _, [], _ => False
def kText (p : Str × V) : Key × V := (.inr p.1, p.2)
def ObAt (K : PySem.W.Frag) (F : Fz) (H Hc : Hp) (o : Ob) (ads : List Addr) : Prop :=
  ∃ vs as, ads = o.a :: as ∧ FsAt K F H Hc o.fs vs as ∧ match o.C with
    | some C => ∃ dx, Hc o.a = some (.ins C dx vs)
    | none => match o.fs with
      | [] => GxR.TabG Hc o.a
      | _ :: _ => Hc o.a = some (.dK (vs.map kText))
def ObsAt (K : PySem.W.Frag) (F : Fz) (H Hc : Hp) : List Ob → List Addr → Prop
  | [], ads => ads = []
  | o :: os, ads => ∃ a1 a2, ads = a1 ++ a2 ∧ ObAt K F H Hc o a1 ∧ ObsAt K F H Hc os a2
section
variable {K : PySem.W.Frag} {H H' Hc Hd : Hp} {F F' : Fz}
theorem FvAt.mon (m : Mon H F H' F') : ∀ {x : FV} {v : V} {ads : List Addr}, (∀ a ∈ ads, ∀ o, Hc a = some o → Hd a = some o) → FvAt K F H Hc x v ads → FvAt K F' H' Hd x v ads
  | .d _, _, _, _, ⟨h1, h2⟩ => ⟨h1, Dn.mon m _ _ h2⟩
  | .own _, _, _, c, ⟨p, vs, h1, h2, h3, h4⟩ => ⟨p, vs, h1, h2, c p (by rw [h2]; exact List.mem_singleton_self p) _ h3, DnA.mon m _ _ h4⟩
  | .dic _, _, _, c, ⟨p, vs, h1, h2, h3, h4⟩ => ⟨p, vs, h1, h2, c p (by rw [h2]; exact List.mem_singleton_self p) _ h3, DnK.mon m h4⟩
theorem FsAt.mon (m : Mon H F H' F') : ∀ {fs : List (Str × FV)} {vs : List (Str × V)} {ads : List Addr}, (∀ a ∈ ads, ∀ o, Hc a = some o → Hd a = some o) → FsAt K F H Hc fs vs ads → FsAt K F' H' Hd fs vs ads
  | [], [], _, _, h => h
  | _ :: _, _ :: _, _, c, ⟨h1, a1, a2, h2, h3, h4⟩ => by
    subst h2
    exact ⟨h1, a1, a2, rfl, FvAt.mon m (fun a ha => c a (List.mem_append_left _ ha)) h3, FsAt.mon m (fun a ha => c a (List.mem_append_right _ ha)) h4⟩
  | [], _ :: _, _, _, h => h.elim
  | _ :: _, [], _, _, h => h.elim
theorem ObAt.mon (m : Mon H F H' F') {o : Ob} {ads : List Addr} (c : ∀ a ∈ ads, ∀ o, Hc a = some o → Hd a = some o) (h : ObAt K F H Hc o ads) : ObAt K F' H' Hd o ads := by
  obtain ⟨vs, as, rfl, h2, h3⟩ := h
  refine ⟨vs, as, rfl, FsAt.mon m (fun a ha => c a (List.mem_cons_of_mem _ ha)) h2, ?_⟩
  obtain ⟨a0, C, fs⟩ := o
  cases C with
  | some C =>
    obtain ⟨dx, h3⟩ := h3
    exact ⟨dx, c _ List.mem_cons_self _ h3⟩
  | none =>
    cases fs with
    | nil =>
      obtain ⟨ps, h4, h5⟩ := h3
      exact ⟨ps, c _ List.mem_cons_self _ h4, h5⟩
    | cons f fs => exact c _ List.mem_cons_self _ h3
theorem ObsAt.mon (m : Mon H F H' F') : ∀ {os : List Ob} {ads : List Addr}, (∀ a ∈ ads, ∀ o, Hc a = some o → Hd a = some o) → ObsAt K F H Hc os ads → ObsAt K F' H' Hd os ads
  | [], _, _, h => h
  | _ :: _, _, c, ⟨a1, a2, h2, h3, h4⟩ => by
    subst h2
    exact ⟨a1, a2, rfl, ObAt.mon m (fun a ha => c a (List.mem_append_left _ ha)) h3, ObsAt.mon m (fun a ha => c a (List.mem_append_right _ ha)) h4⟩
end

/-! ### what is known of a value -/
inductive S where
  | any
  | d (x : D)
  | own (ds : List D)
  | bor (ds : List D)
  | scr (ns : List Int)
  | dic (kvs : List (Key × D))
  | bdic (kvs : List (Key × D))
  /-- the object at a, and what is known of objects that are not changed here -/
  | bob (a : Addr) (l : List Ob)
  /-- a dict that a loop walks, at a -/
  | ldic (a : Addr) (kvs : List (Key × D))
  | exn (a dd : Addr) (fs : List (Str × D))

def DnF (K : PySem.W.Frag) (F : Fz) (H : Hp) : List (Str × D) → List (Str × V) → Prop
  | [], [] => True
  | p :: ps, q :: qs => p.1 = q.1 ∧ Dn K F H p.2 q.2 ∧ DnF K F H ps qs
  | [], _ :: _ => False
  | _ :: _, [] => False
theorem DnF.mon {K : PySem.W.Frag} {H H' : Hp} {F F' : Fz} (m : Mon H F H' F') : ∀ {ps : List (Str × D)} {qs : List (Str × V)}, DnF K F H ps qs → DnF K F' H' ps qs
  | [], [], _ => trivial
  | _ :: _, _ :: _, h => ⟨h.1, Dn.mon m _ _ h.2.1, DnF.mon m h.2.2⟩
  | [], _ :: _, h => h
  | _ :: _, [], h => h
/-- how things stood at the entry of the def: the heap, what stood still, what could be changed -/
structure En where
  H : Hp
  F : Fz
  A : Addr → Prop

/-- a slot -/
def SlotOk (K : PySem.W.Frag) (e : En) (ow : Addr → Nat) (H : Hp) (F : Fz) (A : Addr → Prop) (i : Nat) : S → Option V → Prop
  | .any, _ => True
  | .d x, o => ∃ v, o = some v ∧ Dn K F H x v
  | .own ds, o => ∃ a vs, o = some (.ref a) ∧ ow a = i ∧ ¬ F a ∧ ¬ A a ∧ H a = some (.lst vs) ∧ DnA K F H ds vs ∧ e.H a = none
  | .bor ds, o => ∃ a vs, o = some (.ref a) ∧ e.H a = some (.lst vs) ∧ ¬ e.A a ∧ DnA K F H ds vs
  | .scr ns, o => ∃ a, o = some (.ref a) ∧ SqL K e.H a (ns.map V.int) ∧ ¬ e.A a
  | .dic ds, o => ∃ a vs, o = some (.ref a) ∧ ow a = i ∧ ¬ F a ∧ ¬ A a ∧ H a = some (.dK vs) ∧ DnK K F H ds vs ∧ e.H a = none
  | .bdic ds, o => ∃ a vs, o = some (.ref a) ∧ Rd e.H a (.dK vs) ∧ ¬ e.A a ∧ DnK K F H ds vs
  | .bob a l, o => o = some (.ref a) ∧ ∃ ads, ObsAt K F H e.H l ads ∧ ∀ b ∈ ads, ¬ e.A b
  | .ldic a ds, o => o = some (.ref a) ∧ ∃ vs, Rd e.H a (.dK vs) ∧ ¬ e.A a ∧ DnK K F H ds vs
  | .exn a dd fs, o => o = some (.ref a) ∧ ¬ A dd ∧ ∃ vs, H dd = some (.xd vs) ∧ DnF K F H fs vs

/-- the state of a body: G what is known of the slots, R the resource with its place A -/
structure Sta (K : PySem.W.Frag) (e : En) (G : List S) (R : Res) (A : Addr → Prop) (σ : St) (H : Hp) (F : Fz) : Prop where
  fr : ∀ a o, e.H a = some o → ¬ e.A a → H a = some o
  th : ∀ a, e.H a ≠ none → H a ≠ none
  f0 : ∀ a, e.F a → F a
  f1 : ∀ a, F a → e.F a ∨ e.H a = none
  ft : ∀ a, F a → H a ≠ none
  at_ : ∀ a, A a → H a ≠ none ∧ ¬ F a ∧ (e.A a ∨ e.H a = none)
  rs : R.holds K H F A
  len : G.length = σ.length
  sl : ∃ ow : Addr → Nat, ∀ (i : Nat) (s : S), G[i]? = some s → ∃ o, σ[i]? = some o ∧ SlotOk K e ow H F A i s o

/-- the heap has grown -/
structure Grow (H : Hp) (F : Fz) (H' : Hp) (F' : Fz) : Prop where
  h : ∀ a o, H a = some o → H' a = some o
  f : ∀ a, F a → F' a
  n : ∀ a, F' a → F a ∨ H a = none
  t : ∀ a, F' a → H' a ≠ none
section
variable {K : PySem.W.Frag} {e : En} {G : List S} {R : Res} {A : Addr → Prop} {σ : St} {H H1 H' : Hp} {F F1 F' : Fz}
theorem Grow.mon (g : Grow H F H' F') : Mon H F H' F' := ⟨g.f, fun a xs h => by
    rcases h with h | ⟨o, h⟩
    · exact .inl (g.h _ _ h)
    · exact .inr ⟨o, g.h _ _ h⟩, fun a xs _ h => g.h _ _ h⟩
theorem Grow.refl (t : ∀ a, F a → H a ≠ none) : Grow H F H F := ⟨fun _ _ h => h, fun _ h => h, fun _ h => .inl h, t⟩
theorem Grow.trans (g : Grow H F H1 F1) (k : Grow H1 F1 H' F') : Grow H F H' F' := ⟨fun a o h => k.h a o (g.h a o h), fun a h => k.f a (g.f a h), fun a h => by
    rcases k.n a h with q | q
    · exact g.n a q
    · refine .inr ?_
      cases z : H a with
      | none => rfl
      | some o => (exfalso; rw [g.h a o z] at q; exact nomatch q), k.t⟩
/-- a new tuple -/
theorem Grow.tup {p : Addr} {vs : List V} (hp : H p = none) (t : ∀ a, F a → H a ≠ none) : Grow H F (upd H p (.tup vs)) F :=
  ⟨fun a o h => by rw [upd_ne (ne_of_none h hp)]; exact h, fun _ h => h, fun _ h => .inl h, fun a h => by
    by_cases q : a = p
    · rw [q, upd_same]; exact fun z => nomatch z
    · rw [upd_ne q]; exact t a h⟩
/-- a new object, not frozen -/
theorem Grow.new {p : Addr} {o : HO} (hp : H p = none) (t : ∀ a, F a → H a ≠ none) : Grow H F (upd H p o) F :=
  ⟨fun a o h => by rw [upd_ne (ne_of_none h hp)]; exact h, fun _ h => h, fun _ h => .inl h, fun a h => by
    by_cases q : a = p
    · rw [q, upd_same]; exact fun z => nomatch z
    · rw [upd_ne q]; exact t a h⟩
/-- one more list stands still from now on; it was new -/
theorem Grow.freeze {p : Addr} (g : Grow H F H' F') (hp : H p = none) (hp' : H' p ≠ none) : Grow H F H' (fun a => F' a ∨ a = p) :=
  ⟨g.h, fun a h => .inl (g.f a h), fun a h => by
    rcases h with h | h
    · exact g.n a h
    · rw [h]; exact .inr hp, fun a h => by
    rcases h with h | h
    · exact g.t a h
    · rw [h]; exact hp'⟩
theorem ne_none_of {a : Addr} {o : HO} (h : H a = some o) (q : H a = none) : False := by rw [h] at q; cases q
theorem SlotOk.grow {ow : Addr → Nat} {i : Nat} (m : Mon H F H' F') (g : ∀ a o, H a = some o → H' a = some o) (n : ∀ a, F' a → F a ∨ H a = none) : ∀ {s : S} {o : Option V}, SlotOk K e ow H F A i s o → SlotOk K e ow H' F' A i s o
  | .any, _, _ => trivial
  | .d x, o, ⟨v, h1, h2⟩ => ⟨v, h1, Dn.mon m _ _ h2⟩
  | .own ds, o, ⟨a, vs, h1, h2, h3, h4, h5, h6, h7⟩ => ⟨a, vs, h1, h2, (fun z => (n a z).elim h3 fun q => ne_none_of h5 q), h4, g _ _ h5, DnA.mon m _ _ h6, h7⟩
  | .bor ds, o, ⟨a, vs, h1, h2, h3, h4⟩ => ⟨a, vs, h1, h2, h3, DnA.mon m _ _ h4⟩
  | .scr ns, o, h => h
  | .dic ds, o, ⟨a, vs, h1, h2, h3, h4, h5, h6, h7⟩ => ⟨a, vs, h1, h2, (fun z => (n a z).elim h3 fun q => ne_none_of h5 q), h4, g _ _ h5, DnK.mon m h6, h7⟩
  | .bdic ds, o, ⟨a, vs, h1, h2, h3, h4⟩ => ⟨a, vs, h1, h2, h3, DnK.mon m h4⟩
  | .bob a l, o, ⟨h1, ads, h2, h3⟩ => ⟨h1, ads, ObsAt.mon m (fun _ _ _ z => z) h2, h3⟩
  | .ldic a ds, o, ⟨h1, vs, h2, h3, h4⟩ => ⟨h1, vs, h2, h3, DnK.mon m h4⟩
  | .exn a dd fs, o, ⟨h1, h2, vs, h3, h4⟩ => ⟨h1, h2, vs, g _ _ h3, DnF.mon m h4⟩
theorem Sta.grow (s : Sta K e G R A σ H F) (g : Grow H F H' F') : Sta K e G R A σ H' F' where
  fr := fun a o h na => g.h a o (s.fr a o h na)
  f0 := fun a h => g.f a (s.f0 a h)
  th := fun a h z => by
    cases w : H a with
    | none => exact s.th a h w
    | some o => rw [g.h a o w] at z; cases z
  f1 := fun a h => by
    rcases g.n a h with q | q
    · exact s.f1 a q
    · refine .inr ?_
      cases w : e.H a with
      | none => rfl
      | some o => exact absurd q (s.th a (by rw [w]; exact fun z => nomatch z))
  ft := g.t
  at_ := fun a h => by
    obtain ⟨h1, h2, h3⟩ := s.at_ a h
    refine ⟨fun z => ?_, fun z => ?_, h3⟩
    · cases w : H a with
      | none => exact h1 w
      | some o => rw [g.h a o w] at z; cases z
    · rcases g.n a z with q | q
      · exact h2 q
      · exact h1 q
  rs := R.stable s.rs g.mon fun a h => by
    cases w : H a with
    | none => exact absurd w (s.at_ a h).1
    | some o => exact g.h a o w
  len := s.len
  sl := by
    obtain ⟨ow, h⟩ := s.sl
    exact ⟨ow, fun i x hx => by
      obtain ⟨o, h1, h2⟩ := h i x hx
      exact ⟨o, h1, SlotOk.grow g.mon g.h g.n h2⟩⟩
end
end DL

namespace DL
open PySem PySem.Spec L2

/-! ### the canonical readings -/
def tE (X : Cx) (e : Expr) : TE := fun σ H Q => ∃ t, PE X e t ∧ t σ H Q
def tT (X : Cx) (e : Expr) : TT := fun σ H Q => ∃ t, PT X e t ∧ t σ H Q
def tA (X : Cx) (es : List Expr) : TA := fun σ H Q => ∃ t, PA X es t ∧ t σ H Q
def tSs (X : Cx) (st : List Stmt) : TS := fun D σ H => ∃ t, PSs X st t ∧ t D σ H
def tO (X : Cx) (e : Option Expr) : TO := fun σ H Q => ∃ t, PO X e t ∧ t σ H Q
section
variable {X : Cx}
theorem pe_t {e : Expr} : PE X e (tE X e) := ⟨fun pins s σ H Q I h => by obtain ⟨t, h, q⟩ := h; exact h.run pins s σ H Q I q⟩
theorem pt_t {e : Expr} : PT X e (tT X e) := ⟨fun pins s σ H Q I h => by obtain ⟨t, h, q⟩ := h; exact h.run pins s σ H Q I q⟩
theorem pa_t {es : List Expr} : PA X es (tA X es) := ⟨fun pos pins s σ H Q I h => by obtain ⟨t, h, q⟩ := h; exact h.run pos pins s σ H Q I q⟩
theorem pss_t {st : List Stmt} : PSs X st (tSs X st) := ⟨fun pins s σ H D I h => by obtain ⟨t, h, q⟩ := h; exact h.run pins s σ H D I q⟩
theorem po_t {e : Option Expr} : PO X e (tO X e) := ⟨fun pins s σ H Q I h => by obtain ⟨t, h, q⟩ := h; exact h.run pins s σ H Q I q⟩
end

/-! ### a value that was reckoned -/
def SR (K : PySem.W.Frag) : S → Hp → V → Hp → Fz → Prop
  | .any, _, _, _, _ => True
  | .d x, _, v, H', F' => Dn K F' H' x v
  | .own ds, H, v, H', F' => ∃ a vs, v = .ref a ∧ H a = none ∧ ¬ F' a ∧ H' a = some (.lst vs) ∧ DnA K F' H' ds vs
  | .bor ds, _, v, H', F' => ∃ a vs, v = .ref a ∧ H' a = some (.lst vs) ∧ DnA K F' H' ds vs
  | .scr ns, _, v, H', _ => ∃ a, v = .ref a ∧ SqL K H' a (ns.map V.int)
  | .dic ds, H, v, H', F' => ∃ a vs, v = .ref a ∧ H a = none ∧ ¬ F' a ∧ H' a = some (.dK vs) ∧ DnK K F' H' ds vs
  | .bdic ds, _, v, H', F' => ∃ a vs, v = .ref a ∧ Rd H' a (.dK vs) ∧ DnK K F' H' ds vs
  | .bob a l, _, v, H', F' => v = .ref a ∧ ∃ ads, ObsAt K F' H' H' l ads
  | .ldic a ds, _, v, H', F' => v = .ref a ∧ ∃ vs, Rd H' a (.dK vs) ∧ DnK K F' H' ds vs
  | .exn a dd fs, _, v, H', F' => v = .ref a ∧ ∃ vs, H' dd = some (.xd vs) ∧ DnF K F' H' fs vs
def SRs (K : PySem.W.Frag) : List S → Hp → List V → Hp → Fz → Prop
  | [], _, [], _, _ => True
  | s :: ss, H, v :: vs, H', F' => SR K s H v H' F' ∧ SRs K ss H vs H' F'
  | [], _, _ :: _, _, _ => False
  | _ :: _, _, [], _, _ => False
section
variable {K : PySem.W.Frag} {H H0 H1 H' : Hp} {F F1 F' : Fz} {v : V}
theorem sqL_grow (g : ∀ a o, H a = some o → H' a = some o) {a : Addr} {xs : List V} (h : SqL K H a xs) : SqL K H' a xs := by
  rcases h with (h | ⟨o, h⟩) | h
  · exact .inl (.inl (g _ _ h))
  · exact .inl (.inr ⟨o, g _ _ h⟩)
  · exact .inr h
theorem rd_grow (g : ∀ a o, H a = some o → H' a = some o) {a : Addr} {o : HO} (h : Rd H a o) : Rd H' a o := by
  rcases h with h | ⟨b, h⟩
  · exact .inl (g _ _ h)
  · exact .inr ⟨b, g _ _ h⟩
theorem SR.grow : ∀ {s : S}, SR K s H v H1 F1 → Grow H1 F1 H' F' → SR K s H v H' F'
  | .any, _, _ => trivial
  | .d x, h, g => Dn.mon g.mon _ _ h
  | .own ds, ⟨a, vs, h1, h2, h3, h4, h5⟩, g => ⟨a, vs, h1, h2, (fun z => (g.n a z).elim h3 fun q => ne_none_of h4 q), g.h _ _ h4, DnA.mon g.mon _ _ h5⟩
  | .bor ds, ⟨a, vs, h1, h4, h5⟩, g => ⟨a, vs, h1, g.h _ _ h4, DnA.mon g.mon _ _ h5⟩
  | .scr ns, ⟨a, h1, h4⟩, g => ⟨a, h1, sqL_grow g.h h4⟩
  | .dic ds, ⟨a, vs, h1, h2, h3, h4, h5⟩, g => ⟨a, vs, h1, h2, (fun z => (g.n a z).elim h3 fun q => ne_none_of h4 q), g.h _ _ h4, DnK.mon g.mon h5⟩
  | .bdic ds, ⟨a, vs, h1, h4, h5⟩, g => ⟨a, vs, h1, rd_grow g.h h4, DnK.mon g.mon h5⟩
  | .bob a l, ⟨h1, ads, h2⟩, g => ⟨h1, ads, ObsAt.mon g.mon (fun a _ o z => g.h a o z) h2⟩
  | .ldic a ds, ⟨h1, vs, h4, h5⟩, g => ⟨h1, vs, rd_grow g.h h4, DnK.mon g.mon h5⟩
  | .exn a dd fs, ⟨h1, vs, h4, h5⟩, g => ⟨h1, vs, g.h _ _ h4, DnF.mon g.mon h5⟩
theorem none_pre (g : ∀ a o, H a = some o → H1 a = some o) {a : Addr} (h : H1 a = none) : H a = none := by
  cases z : H a with
  | none => rfl
  | some o => rw [g a o z] at h; cases h
theorem _root_.DL.Grow.nn (g : Grow H F H1 F1) : ∀ a, H1 a = none → H a = none := fun a h => none_pre g.h h
theorem SR.pre (g : ∀ a, H1 a = none → H a = none) : ∀ {s : S}, SR K s H1 v H' F' → SR K s H v H' F'
  | .any, _ => trivial
  | .d x, h => h
  | .own ds, ⟨a, vs, h1, h2, h3⟩ => ⟨a, vs, h1, g a h2, h3⟩
  | .bor ds, h => h
  | .scr ns, h => h
  | .dic ds, ⟨a, vs, h1, h2, h3⟩ => ⟨a, vs, h1, g a h2, h3⟩
  | .bdic ds, h => h
  | .bob a l, h => h
  | .ldic a ds, h => h
  | .exn a dd fs, h => h
theorem SRs.grow : ∀ {ss : List S} {vs : List V}, SRs K ss H vs H1 F1 → Grow H1 F1 H' F' → SRs K ss H vs H' F'
  | [], [], _, _ => trivial
  | _ :: _, _ :: _, h, g => ⟨h.1.grow g, SRs.grow h.2 g⟩
  | [], _ :: _, h, _ => h
  | _ :: _, [], h, _ => h
theorem SRs.pre (g : ∀ a, H1 a = none → H a = none) : ∀ {ss : List S} {vs : List V}, SRs K ss H1 vs H' F' → SRs K ss H vs H' F'
  | [], [], _ => trivial
  | _ :: _, _ :: _, h => ⟨SR.pre g h.1, SRs.pre g h.2⟩
  | [], _ :: _, h => h
  | _ :: _, [], h => h
theorem SRs.length : ∀ {ss : List S} {vs : List V}, SRs K ss H vs H' F' → vs.length = ss.length
  | [], [], _ => rfl
  | _ :: _, _ :: _, h => by rw [List.length_cons, List.length_cons, SRs.length h.2]
  | [], _ :: _, h => h.elim
  | _ :: _, [], h => h.elim
theorem SRs.ds : ∀ {ds : List D} {vs : List V}, SRs K (ds.map S.d) H vs H' F' → DnA K F' H' ds vs
  | [], [], _ => trivial
  | _ :: _, _ :: _, h => ⟨h.1, SRs.ds h.2⟩
  | [], _ :: _, h => h
  | _ :: _, [], h => h
end

/-! ### the judgements -/
/-- an expression that changes nothing -/
def Ev (X : Cx) (e : Expr) (G : List S) (R : Res) (s : S) : Prop :=
  ∀ (en : En) (A : Addr → Prop) (σ : L2.St) (H : Hp) (F : Fz) (Q : VK), Sta X.K en G R A σ H F → (∀ v H' F', Grow H F H' F' → SR X.K s H v H' F' → Q v H') → tE X e σ H Q
def Tv (X : Cx) (e : Expr) (G : List S) (R : Res) (b : Bool) : Prop :=
  ∀ (en : En) (A : Addr → Prop) (σ : L2.St) (H : Hp) (F : Fz) (Q : Bool → Hp → Prop), Sta X.K en G R A σ H F → (∀ H' F', Grow H F H' F' → Q b H') → tT X e σ H Q
def EvA (X : Cx) (es : List Expr) (G : List S) (R : Res) (ss : List S) : Prop :=
  ∀ (en : En) (A : Addr → Prop) (σ : L2.St) (H : Hp) (F : Fz) (Q : List V → Hp → Prop), Sta X.K en G R A σ H F → (∀ vs H' F', Grow H F H' F' → SRs X.K ss H vs H' F' → Q vs H') → tA X es σ H Q
def EvO (X : Cx) (e : Option Expr) (G : List S) (R : Res) (o : Option Int) : Prop :=
  ∀ (en : En) (A : Addr → Prop) (σ : L2.St) (H : Hp) (F : Fz) (Q : Option Int → Hp → Prop), Sta X.K en G R A σ H F → (∀ H' F', Grow H F H' F' → Q o H') → tO X e σ H Q

section
variable {X : Cx} {G : List S} {R : Res} {a b c e : Expr} {es : List Expr} {pos : Pos} {s s1 s2 : S} {ss : List S}
/-! ### names, constants -/
theorem slot_at {K : PySem.W.Frag} {en : En} {A : Addr → Prop} {σ : L2.St} {H : Hp} {F : Fz} (st : Sta K en G R A σ H F) {i : Nat} (h : G[i]? = some s) : ∃ ow o, σ[i]? = some o ∧ SlotOk K en ow H F A i s o := by
  obtain ⟨ow, q⟩ := st.sl
  obtain ⟨o, h1, h2⟩ := q i s h
  exact ⟨ow, o, h1, h2⟩
theorem ev_var (i : Nat) {d : D} {x : Str} {pos : Pos} (hs : G[i]? = some (.d d)) (hN : X.N[i]? = some x := by rfl) (hv : Vis X.env.scope x := by first | exact Or.inl rfl | exact Or.inr (Or.inl rfl) | exact Or.inr (Or.inr rfl)) (hd : (x == ("__debug__" : Str)) = false := by decide)
    (hcd : (x == ("__classdict__" : Str)) = false := by decide) : Ev X (.Name x pos) G R (.d d) := by
  intro en A σ H F Q st k
  obtain ⟨ow, o, h1, v, h2, h3⟩ := slot_at st hs
  subst h2
  exact ⟨_, pe_var hN hv hd hcd, v, h1, k v H F (Grow.refl st.ft) h3⟩
theorem ev_varB (i : Nat) {ds : List D} {x : Str} {pos : Pos} (hs : G[i]? = some (.own ds) ∨ G[i]? = some (.bor ds)) (hN : X.N[i]? = some x := by rfl) (hv : Vis X.env.scope x := by first | exact Or.inl rfl | exact Or.inr (Or.inl rfl) | exact Or.inr (Or.inr rfl)) (hd : (x == ("__debug__" : Str)) = false := by decide)
    (hcd : (x == ("__classdict__" : Str)) = false := by decide) : Ev X (.Name x pos) G R (.bor ds) := by
  intro en A σ H F Q st k
  rcases hs with hs | hs
  · obtain ⟨ow, o, h1, a, vs, h2, h3, h4, h5, h6, h7, h8⟩ := slot_at st hs
    subst h2
    exact ⟨_, pe_var hN hv hd hcd, _, h1, k _ H F (Grow.refl st.ft) ⟨a, vs, rfl, h6, h7⟩⟩
  · obtain ⟨ow, o, h1, a, vs, h2, h3, h4, h5⟩ := slot_at st hs
    subst h2
    exact ⟨_, pe_var hN hv hd hcd, _, h1, k _ H F (Grow.refl st.ft) ⟨a, vs, rfl, st.fr _ _ h3 h4, h5⟩⟩
theorem ev_varS (i : Nat) {ns : List Int} {x : Str} {pos : Pos} (hs : G[i]? = some (.scr ns)) (hN : X.N[i]? = some x := by rfl) (hv : Vis X.env.scope x := by first | exact Or.inl rfl | exact Or.inr (Or.inl rfl) | exact Or.inr (Or.inr rfl)) (hd : (x == ("__debug__" : Str)) = false := by decide)
    (hcd : (x == ("__classdict__" : Str)) = false := by decide) : Ev X (.Name x pos) G R (.scr ns) := by
  intro en A σ H F Q st k
  obtain ⟨ow, o, h1, a, h2, h3, h4⟩ := slot_at st hs
  subst h2
  refine ⟨_, pe_var hN hv hd hcd, _, h1, k _ H F (Grow.refl st.ft) ⟨a, rfl, ?_⟩⟩
  rcases h3 with (h | ⟨o, h⟩) | h
  · exact .inl (.inl (st.fr _ _ h h4))
  · exact .inl (.inr ⟨o, st.fr _ _ h h4⟩)
  · exact .inr h
theorem ev_varK (i : Nat) {ds : List (Key × D)} {x : Str} {pos : Pos} (hs : G[i]? = some (.dic ds) ∨ G[i]? = some (.bdic ds)) (hN : X.N[i]? = some x := by rfl) (hv : Vis X.env.scope x := by first | exact Or.inl rfl | exact Or.inr (Or.inl rfl) | exact Or.inr (Or.inr rfl)) (hd : (x == ("__debug__" : Str)) = false := by decide)
    (hcd : (x == ("__classdict__" : Str)) = false := by decide) : Ev X (.Name x pos) G R (.bdic ds) := by
  intro en A σ H F Q st k
  rcases hs with hs | hs
  · obtain ⟨ow, o, h1, a, vs, h2, h3, h4, h5, h6, h7, h8⟩ := slot_at st hs
    subst h2
    exact ⟨_, pe_var hN hv hd hcd, _, h1, k _ H F (Grow.refl st.ft) ⟨a, vs, rfl, .inl h6, h7⟩⟩
  · obtain ⟨ow, o, h1, a, vs, h2, h3, h4, h5⟩ := slot_at st hs
    subst h2
    exact ⟨_, pe_var hN hv hd hcd, _, h1, k _ H F (Grow.refl st.ft) ⟨a, vs, rfl, (by
      rcases h3 with h3 | ⟨b, h3⟩
      · exact .inl (st.fr _ _ h3 h4)
      · exact .inr ⟨b, st.fr _ _ h3 h4⟩), h5⟩⟩
theorem ev_int {i j} : Ev X (.Constant (.int i) j pos) G R (.d (.int i)) := fun en A σ H F Q st k => ⟨_, pe_int, k _ H F (Grow.refl st.ft) rfl⟩
theorem ev_bl {i j} : Ev X (.Constant (.bool i) j pos) G R (.d (.bl i)) := fun en A σ H F Q st k => ⟨_, pe_bl, k _ H F (Grow.refl st.ft) rfl⟩
theorem ev_non {j} : Ev X (.Constant .none j pos) G R (.d .non) := fun en A σ H F Q st k => ⟨_, pe_non, k _ H F (Grow.refl st.ft) rfl⟩
theorem ev_str {x j} : Ev X (.Constant (.str x) j pos) G R (.d (.str x)) := fun en A σ H F Q st k => ⟨_, pe_str, k _ H F (Grow.refl st.ft) rfl⟩
/-- a module's constant -/
def Cst (K : PySem.W.Frag) (mg : Str → Option Value) (x : Str) (d : D) : Prop := ∃ v u, mg x = some u ∧ RelV v u ∧ ∀ F H, Dn K F H d v
theorem ev_cst {x : Str} {d : D} (h : Cst X.K X.mg x d) (hg : Gl X x := by rfl) (hd : (x == ("__debug__" : Str)) = false := by decide) : Ev X (.Name x pos) G R (.d d) := by
  intro en A σ H F Q st k
  obtain ⟨v, u, h1, h2, h3⟩ := h
  exact ⟨_, pe_glob hg h1 h2 hd, k _ H F (Grow.refl st.ft) (h3 F H)⟩
/-- less is asked of a value -/
theorem ev_sub (h : Ev X e G R s1) (w : ∀ K H v H' F', Grow H F' H' F' → SR K s1 H v H' F' → SR K s2 H v H' F') : True := trivial
theorem ev_frz {ds : List D} (h : Ev X e G R (.own ds)) : Ev X e G R (.d (.lst ds)) := by
  intro en A σ H F Q st k
  refine h en A σ H F Q st fun v H' F' g r => ?_
  obtain ⟨a, vs, rfl, h2, h3, h4, h5⟩ := r
  have g' : Grow H F H' (fun b => F' b ∨ b = a) := g.freeze h2 (by rw [h4]; exact fun z => nomatch z)
  refine k _ H' _ g' ⟨a, vs, rfl, .inr rfl, h4, ?_⟩
  exact DnA.mon ⟨fun b h => .inl h, fun _ _ h => h, fun _ _ _ h => h⟩ _ _ h5
theorem ev_ob {ds : List D} (h : Ev X e G R (.own ds)) : Ev X e G R (.bor ds) := by
  intro en A σ H F Q st k
  refine h en A σ H F Q st fun v H' F' g r => ?_
  obtain ⟨a, vs, rfl, h2, h3, h4, h5⟩ := r
  exact k _ H' F' g ⟨a, vs, rfl, h4, h5⟩
theorem ev_lb {ds : List D} (h : Ev X e G R (.d (.lst ds))) : Ev X e G R (.bor ds) := by
  intro en A σ H F Q st k
  refine h en A σ H F Q st fun v H' F' g r => ?_
  obtain ⟨a, vs, rfl, h2, h3, h4⟩ := r
  exact k _ H' F' g ⟨a, vs, rfl, h3, h4⟩
theorem ev_eq {d d' : D} (h : Ev X e G R (.d d)) (q : d = d') : Ev X e G R (.d d') := q ▸ h
theorem ev_cast (h : Ev X e G R s) (q : s = s2) : Ev X e G R s2 := q ▸ h

/-! ### operators -/
def RO (K : PySem.W.Frag) (r : R2) (s1 s2 s : S) : Prop := ∀ (H0 : Hp) (x y : V) (H : Hp) (F : Fz) (Q : VK), (∀ a, F a → H a ≠ none) → SR K s1 H0 x H F → SR K s2 H0 y H F → (∀ v H' F', Grow H F H' F' → SR K s H v H' F' → Q v H') → r x y H Q
theorem ev_op {op : Operator} {r : R2} (ho : OpR X (binaryOp op) r) (hr : RO X.K r s1 s2 s) (ha : Ev X a G R s1) (hb : Ev X b G R s2) : Ev X (.BinOp a op b pos) G R s := by
  intro en A σ H F Q st k
  refine ⟨_, pe_op ho pe_t pe_t, ?_⟩
  refine ha en A σ H F _ st fun x H1 F1 g1 r1 => ?_
  refine hb en A σ H1 F1 _ (st.grow g1) fun y H2 F2 g2 r2 => ?_
  refine hr H x y H2 F2 Q g2.t (SR.grow r1 g2) (SR.pre g1.nn r2) fun v H3 F3 g3 r3 => ?_
  exact k v H3 F3 ((g1.trans g2).trans g3) (SR.pre (g1.trans g2).nn r3)
theorem ev_cmpR {op : CmpOp} {r : R2} (ho : OpR X (compareOp op) r) (hr : RO X.K r s1 s2 s) (ha : Ev X a G R s1) (hb : Ev X b G R s2) (hm : behindInMarks op b = false) : Ev X (.Compare a [op] [b] pos) G R s := by
  intro en A σ H F Q st k
  refine ⟨_, pe_cmpR ho pe_t pe_t hm, ?_⟩
  refine ha en A σ H F _ st fun x H1 F1 g1 r1 => ?_
  refine hb en A σ H1 F1 _ (st.grow g1) fun y H2 F2 g2 r2 => ?_
  refine hr H x y H2 F2 Q g2.t (SR.grow r1 g2) (SR.pre g1.nn r2) fun v H3 F3 g3 r3 => ?_
  exact k v H3 F3 ((g1.trans g2).trans g3) (SR.pre (g1.trans g2).nn r3)
theorem tv_cmpR {op : CmpOp} {r : R2} {q : Bool} (ho : OpR X (compareOp op) r) (hr : RO X.K r s1 s2 (.d (.bl q))) (ha : Ev X a G R s1) (hb : Ev X b G R s2) (hm : behindInMarks op b = false) : Tv X (.Compare a [op] [b] pos) G R q := by
  intro en A σ H F Q st k
  refine ⟨_, pt_cmpR ho pe_t pe_t hm, ?_⟩
  refine ha en A σ H F _ st fun x H1 F1 g1 r1 => ?_
  refine hb en A σ H1 F1 _ (st.grow g1) fun y H2 F2 g2 r2 => ?_
  refine hr H x y H2 F2 _ g2.t (SR.grow r1 g2) (SR.pre g1.nn r2) fun v H3 F3 g3 r3 => ?_
  exact ⟨q, r3, k H3 F3 ((g1.trans g2).trans g3)⟩
/-- a chain a < b < c -/
theorem tv_chain {op op' : CmpOp} {r r' : R2} {q q' : Bool} {s3 : S} (ho : OpR X (compareOp op) r) (ho' : OpR X (compareOp op') r') (hr : RO X.K r s1 s2 (.d (.bl q))) (hr' : RO X.K r' s2 s3 (.d (.bl q')))
    (ha : Ev X a G R s1) (hb : Ev X b G R s2) (hc : Ev X c G R s3) (hm : behindInMarks op b = false) (hm' : behindInMarks op' c = false) : True := trivial
theorem ro_I0 {K : PySem.W.Frag} {f : Int → Int → Int} {i j : Int} : RO K (rI0 fun i j => .int (f i j)) (.d (.int i)) (.d (.int j)) (.d (.int (f i j))) :=
  fun H0 x y H F Q ft hx hy k => ⟨i, j, hx, hy, k _ H F (Grow.refl ft) rfl⟩
theorem ro_B0 {K : PySem.W.Frag} {f : Int → Int → Bool} {i j : Int} : RO K (rI0 fun i j => .bl (f i j)) (.d (.int i)) (.d (.int j)) (.d (.bl (f i j))) :=
  fun H0 x y H F Q ft hx hy k => ⟨i, j, hx, hy, k _ H F (Grow.refl ft) rfl⟩
theorem ro_I {K : PySem.W.Frag} {C : Int → Int → Prop} {f : Int → Int → Int} {i j : Int} (h : C i j) : RO K (rI C fun i j => .int (f i j)) (.d (.int i)) (.d (.int j)) (.d (.int (f i j))) :=
  fun H0 x y H F Q ft hx hy k => ⟨i, j, hx, hy, h, k _ H F (Grow.refl ft) rfl⟩
variable {i j : Int}
theorem ev_add (ha : Ev X a G R (.d (.int i))) (hb : Ev X b G R (.d (.int j))) : Ev X (.BinOp a .Add b pos) G R (.d (.int (i + j))) := ev_op op_add ro_I0 ha hb
theorem ev_minus (ha : Ev X a G R (.d (.int i))) (hb : Ev X b G R (.d (.int j))) : Ev X (.BinOp a .Sub b pos) G R (.d (.int (i - j))) := ev_op op_sub ro_I0 ha hb
theorem ev_mul (h : CMul i j) (ha : Ev X a G R (.d (.int i))) (hb : Ev X b G R (.d (.int j))) : Ev X (.BinOp a .Mult b pos) G R (.d (.int (i * j))) := ev_op op_mul (ro_I h) ha hb
theorem ev_mulW (h : CMulW i j) (ha : Ev X a G R (.d (.int i))) (hb : Ev X b G R (.d (.int j))) : Ev X (.BinOp a .Mult b pos) G R (.d (.int (i * j))) := ev_op op_mulW (ro_I h) ha hb
theorem ev_fdiv (h : CDivW i j) (ha : Ev X a G R (.d (.int i))) (hb : Ev X b G R (.d (.int j))) : Ev X (.BinOp a .FloorDiv b pos) G R (.d (.int (i / j))) := ev_op op_fdivW (ro_I h) ha hb
theorem ev_mod (h : 0 < j) (ha : Ev X a G R (.d (.int i))) (hb : Ev X b G R (.d (.int j))) : Ev X (.BinOp a .Mod b pos) G R (.d (.int (i % j))) := ev_op op_mod (ro_I h) ha hb
theorem ev_pow (h : CPow i j) (ha : Ev X a G R (.d (.int i))) (hb : Ev X b G R (.d (.int j))) : Ev X (.BinOp a .Pow b pos) G R (.d (.int (i ^ j.toNat))) := ev_op op_pow (ro_I h) ha hb
theorem ev_un {op : UnaryOp} {f : Int → Int} (ho : UnR X (unaryOp op) (rU fun i => .int (f i))) (ha : Ev X a G R (.d (.int i))) : Ev X (.UnaryOp op a pos) G R (.d (.int (f i))) := by
  intro en A σ H F Q st k
  refine ⟨_, pe_un ho pe_t, ?_⟩
  refine ha en A σ H F _ st fun x H1 F1 g1 r1 => ?_
  exact ⟨i, r1, k _ H1 F1 g1 rfl⟩
theorem ev_neg (ha : Ev X a G R (.d (.int i))) : Ev X (.UnaryOp .USub a pos) G R (.d (.int (-i))) := ev_un un_neg ha
theorem tv_lt (ha : Ev X a G R (.d (.int i))) (hb : Ev X b G R (.d (.int j))) : Tv X (.Compare a [.Lt] [b] pos) G R (decide (i < j)) := tv_cmpR op_lt ro_B0 ha hb (nomark _)
theorem tv_le (ha : Ev X a G R (.d (.int i))) (hb : Ev X b G R (.d (.int j))) : Tv X (.Compare a [.LtE] [b] pos) G R (decide (i ≤ j)) := tv_cmpR op_le ro_B0 ha hb (nomark _)
theorem tv_gt (ha : Ev X a G R (.d (.int i))) (hb : Ev X b G R (.d (.int j))) : Tv X (.Compare a [.Gt] [b] pos) G R (decide (j < i)) := tv_cmpR op_gt ro_B0 ha hb (nomark _)
theorem tv_ge (ha : Ev X a G R (.d (.int i))) (hb : Ev X b G R (.d (.int j))) : Tv X (.Compare a [.GtE] [b] pos) G R (decide (j ≤ i)) := tv_cmpR op_ge ro_B0 ha hb (nomark _)
theorem ev_lt (ha : Ev X a G R (.d (.int i))) (hb : Ev X b G R (.d (.int j))) : Ev X (.Compare a [.Lt] [b] pos) G R (.d (.bl (decide (i < j)))) := ev_cmpR op_lt ro_B0 ha hb (nomark _)
theorem ev_le (ha : Ev X a G R (.d (.int i))) (hb : Ev X b G R (.d (.int j))) : Ev X (.Compare a [.LtE] [b] pos) G R (.d (.bl (decide (i ≤ j)))) := ev_cmpR op_le ro_B0 ha hb (nomark _)
theorem ev_gt (ha : Ev X a G R (.d (.int i))) (hb : Ev X b G R (.d (.int j))) : Ev X (.Compare a [.Gt] [b] pos) G R (.d (.bl (decide (j < i)))) := ev_cmpR op_gt ro_B0 ha hb (nomark _)
theorem ev_ge (ha : Ev X a G R (.d (.int i))) (hb : Ev X b G R (.d (.int j))) : Ev X (.Compare a [.GtE] [b] pos) G R (.d (.bl (decide (j ≤ i)))) := ev_cmpR op_ge ro_B0 ha hb (nomark _)

/-! ### tests -/
theorem tv_val {q : Bool} (h : Ev X e G R (.d (.bl q))) (he : ∀ whole, isTrue e X.env whole = (do let v ← whole; standAt e.pos; holding [v] (truthy v)) := by intro _; rfl) : Tv X e G R q := by
  intro en A σ H F Q st k
  refine ⟨_, pt_val pe_t he, ?_⟩
  refine h en A σ H F _ st fun x H1 F1 g1 r1 => ?_
  exact ⟨q, r1, k H1 F1 g1⟩
theorem tv_not {q : Bool} (h : Tv X a G R q) : Tv X (.UnaryOp .Not a pos) G R (!q) := by
  intro en A σ H F Q st k
  refine ⟨_, pt_not pt_t, ?_⟩
  exact h en A σ H F _ st fun H1 F1 g1 => k H1 F1 g1
/-- a test whatever its whole is -/
def Tw (X : Cx) (e : Expr) (G : List S) (R : Res) (b : Bool) : Prop :=
  ∀ (en : En) (A : Addr → Prop) (σ : L2.St) (H : Hp) (F : Fz) (Q : Bool → Hp → Prop), Sta X.K en G R A σ H F → (∀ H' F', Grow H F H' F' → Q b H') → ∃ t, PW X e t ∧ t σ H Q
def tW (X : Cx) (e : Expr) : TT := fun σ H Q => ∃ t, PW X e t ∧ t σ H Q
theorem pw_t {e : Expr} : PW X e (tW X e) := ⟨fun w pins s σ H Q I h => by obtain ⟨t, h, q⟩ := h; exact h.run w pins s σ H Q I q⟩
theorem tw_tv {q : Bool} (h : Tw X e G R q) : Tv X e G R q := fun en A σ H F Q st k => ⟨_, pw_t.pt, h en A σ H F Q st k⟩
theorem tw_and1 {q : Bool} (h : Tv X a G R q) : Tw X (.BoolOp .And [a] pos) G R q := fun en A σ H F Q st k => ⟨_, pw_and1 pt_t, h en A σ H F Q st k⟩
theorem tw_or1 {q : Bool} (h : Tv X a G R q) : Tw X (.BoolOp .Or [a] pos) G R q := fun en A σ H F Q st k => ⟨_, pw_or1 pt_t, h en A σ H F Q st k⟩
theorem tw_and {q q' : Bool} (h : Tv X a G R q) (h' : q = true → Tw X (.BoolOp .And (b :: es) pos) G R q') : Tw X (.BoolOp .And (a :: b :: es) pos) G R (q && q') := by
  intro en A σ H F Q st k
  refine ⟨_, pw_and pt_t pw_t, ?_⟩
  refine h en A σ H F _ st fun H1 F1 g1 => ?_
  cases q with
  | false => exact iteF (k H1 F1 g1)
  | true => exact iteT (h' rfl en A σ H1 F1 _ (st.grow g1) fun H2 F2 g2 => k H2 F2 (g1.trans g2))
theorem tw_or {q q' : Bool} (h : Tv X a G R q) (h' : q = false → Tw X (.BoolOp .Or (b :: es) pos) G R q') : Tw X (.BoolOp .Or (a :: b :: es) pos) G R (q || q') := by
  intro en A σ H F Q st k
  refine ⟨_, pw_or pt_t pw_t, ?_⟩
  refine h en A σ H F _ st fun H1 F1 g1 => ?_
  cases q with
  | true => exact iteT (k H1 F1 g1)
  | false => exact iteF (h' rfl en A σ H1 F1 _ (st.grow g1) fun H2 F2 g2 => k H2 F2 (g1.trans g2))
/-- all fail, all hold -/
theorem tw_orF (h : Tv X a G R false) (h' : Tw X (.BoolOp .Or (b :: es) pos) G R false) : Tw X (.BoolOp .Or (a :: b :: es) pos) G R false := tw_or h fun _ => h'
theorem tw_andT (h : Tv X a G R true) (h' : Tw X (.BoolOp .And (b :: es) pos) G R true) : Tw X (.BoolOp .And (a :: b :: es) pos) G R true := tw_and h fun _ => h'
theorem tw_andF {q : Bool} (h : Tv X a G R q) (h' : q = true → Tw X (.BoolOp .And (b :: es) pos) G R false) : Tw X (.BoolOp .And (a :: b :: es) pos) G R false := by
  have z := tw_and h h'
  rw [Bool.and_false] at z
  exact z
theorem tw_orT {q : Bool} (h : Tv X a G R q) (h' : q = false → Tw X (.BoolOp .Or (b :: es) pos) G R true) : Tw X (.BoolOp .Or (a :: b :: es) pos) G R true := by
  have z := tw_or h h'
  rw [Bool.or_true] at z
  exact z
/-- .. as values -/
theorem ev_one {op} (h : Ev X a G R s) : Ev X (.BoolOp op [a] pos) G R s := fun en A σ H F Q st k => ⟨_, pe_one pe_t, h en A σ H F Q st k⟩
theorem ev_and {q q' : Bool} (h : Ev X a G R (.d (.bl q))) (h' : q = true → Ev X (.BoolOp .And (b :: es) pos) G R (.d (.bl q'))) : Ev X (.BoolOp .And (a :: b :: es) pos) G R (.d (.bl (q && q'))) := by
  intro en A σ H F Q st k
  refine ⟨_, pe_and pe_t pe_t, ?_⟩
  refine h en A σ H F _ st fun x H1 F1 g1 r1 => ⟨q, r1, ?_⟩
  cases q with
  | false => exact iteF (k _ H1 F1 g1 rfl)
  | true => exact iteT (h' rfl en A σ H1 F1 _ (st.grow g1) fun v H2 F2 g2 r2 => k v H2 F2 (g1.trans g2) (SR.pre g1.nn r2))
theorem ev_or {q q' : Bool} (h : Ev X a G R (.d (.bl q))) (h' : q = false → Ev X (.BoolOp .Or (b :: es) pos) G R (.d (.bl q'))) : Ev X (.BoolOp .Or (a :: b :: es) pos) G R (.d (.bl (q || q'))) := by
  intro en A σ H F Q st k
  refine ⟨_, pe_or pe_t pe_t, ?_⟩
  refine h en A σ H F _ st fun x H1 F1 g1 r1 => ⟨q, r1, ?_⟩
  cases q with
  | true => exact iteT (k _ H1 F1 g1 rfl)
  | false => exact iteF (h' rfl en A σ H1 F1 _ (st.grow g1) fun v H2 F2 g2 r2 => k v H2 F2 (g1.trans g2) (SR.pre g1.nn r2))
theorem ev_not {q : Bool} (h : Ev X a G R (.d (.bl q))) : Ev X (.UnaryOp .Not a pos) G R (.d (.bl (!q))) := by
  intro en A σ H F Q st k
  refine ⟨_, pe_not pe_t, ?_⟩
  exact h en A σ H F _ st fun x H1 F1 g1 r1 => ⟨q, r1, k _ H1 F1 g1 rfl⟩
theorem ev_ifE {q : Bool} (hc : Tv X c G R q) (h1 : q = true → Ev X a G R s) (h2 : q = false → Ev X b G R s) : Ev X (.IfExp c a b pos) G R s := by
  intro en A σ H F Q st k
  refine ⟨_, pe_ifExp pt_t pe_t pe_t, ?_⟩
  refine hc en A σ H F _ st fun H1 F1 g1 => ?_
  cases q with
  | true => exact iteT (h1 rfl en A σ H1 F1 _ (st.grow g1) fun v H2 F2 g2 r2 => k v H2 F2 (g1.trans g2) (SR.pre g1.nn r2))
  | false => exact iteF (h2 rfl en A σ H1 F1 _ (st.grow g1) fun v H2 F2 g2 r2 => k v H2 F2 (g1.trans g2) (SR.pre g1.nn r2))
theorem tv_eq {q q' : Bool} (h : Tv X e G R q) (w : q = q') : Tv X e G R q' := w ▸ h

/-! ### argument lists, displays -/
theorem eva_nil : EvA X [] G R [] := fun en A σ H F Q st k => ⟨_, pa_nil, k [] H F (Grow.refl st.ft) trivial⟩
theorem eva_cons (h : Ev X e G R s) (hr : EvA X es G R ss) (hs : starEach (e :: es) X.env = (false, eval e X.env) :: starEach es X.env := by rfl) : EvA X (e :: es) G R (s :: ss) := by
  intro en A σ H F Q st k
  refine ⟨_, pa_cons pe_t pa_t hs, ?_⟩
  refine h en A σ H F _ st fun v H1 F1 g1 r1 => ?_
  refine hr en A σ H1 F1 _ (st.grow g1) fun vs H2 F2 g2 r2 => ?_
  exact k (v :: vs) H2 F2 (g1.trans g2) ⟨SR.grow r1 g2, SRs.pre g1.nn r2⟩
/-- .. of data -/
def EvDs (X : Cx) (es : List Expr) (G : List S) (R : Res) (ds : List D) : Prop := EvA X es G R (ds.map S.d)
theorem evd_nil : EvDs X [] G R [] := eva_nil
theorem evd_cons {d : D} {ds : List D} (h : Ev X e G R (.d d)) (hr : EvDs X es G R ds) (hs : starEach (e :: es) X.env = (false, eval e X.env) :: starEach es X.env := by rfl) : EvDs X (e :: es) G R (d :: ds) := eva_cons h hr hs
theorem ev_tup {x1} {ds : List D} (h : EvDs X es G R ds) (hl : ds.length ≤ sizeLine := by exact Nat.le_of_ble_eq_true rfl) : Ev X (.Tuple es x1 pos) G R (.d (.tup ds)) := by
  intro en A σ H F Q st k
  refine ⟨_, pe_tup pa_t, ?_⟩
  refine h en A σ H F _ st fun vs H1 F1 g1 r1 => ?_
  have r2 := SRs.ds r1
  refine ⟨by rw [r2.length]; exact hl, fun p hp => ?_⟩
  have g2 : Grow H1 F1 (upd H1 p (.tup vs)) F1 := Grow.tup hp g1.t
  exact k _ _ F1 (g1.trans g2) ⟨p, vs, rfl, SqT.of upd_same, DnA.mon g2.mon _ _ r2⟩
theorem ev_lst {ds : List D} (h : EvDs X es G R ds) (hl : ds.length ≤ sizeLine := by exact Nat.le_of_ble_eq_true rfl) : Ev X (.List es pos) G R (.own ds) := by
  intro en A σ H F Q st k
  refine ⟨_, pe_lst pa_t, ?_⟩
  refine h en A σ H F _ st fun vs H1 F1 g1 r1 => ?_
  have r2 := SRs.ds r1
  refine ⟨by rw [r2.length]; exact hl, fun p hp => ?_⟩
  have g2 : Grow H1 F1 (upd H1 p (.lst vs)) F1 := Grow.new hp g1.t
  exact k _ _ F1 (g1.trans g2) ⟨p, vs, rfl, none_pre g1.h hp, fun z => absurd hp (g1.t p z), upd_same, DnA.mon g2.mon _ _ r2⟩

/-! ### subscripts -/
def atD (ds : List D) (i : Int) : Option D := atI ds i
theorem atI_rel {K : PySem.W.Frag} {F : Fz} {H : Hp} {ds : List D} {vs : List V} {i : Int} {d : D} (h : DnA K F H ds vs) (e : atI ds i = some d) : ∃ v, atI vs i = some v ∧ Dn K F H d v := by
  unfold atI at e ⊢
  rw [h.length]
  cases z : ixN ds.length i with
  | none => rw [z] at e; cases e
  | some j =>
    rw [z] at e
    exact h.get e
theorem ev_ixT {ds : List D} {d : D} (ha : Ev X a G R (.d (.tup ds))) (hb : Ev X b G R (.d (.int i))) (h : atI ds i = some d) (hs : PlainIx b := by exact fun _ _ => rfl) : Ev X (.Subscript a b pos) G R (.d d) := by
  intro en A σ H F Q st k
  refine ⟨_, pe_ix ix_tup pe_t pe_t hs, ?_⟩
  refine ha en A σ H F _ st fun x H1 F1 g1 r1 => ?_
  refine hb en A σ H1 F1 _ (st.grow g1) fun y H2 F2 g2 r2 => ?_
  obtain ⟨p, vs, rfl, h1, h2⟩ := SR.grow r1 g2
  obtain ⟨v, h3, h4⟩ := atI_rel h2 h
  exact ⟨p, vs, i, v, rfl, r2, h1, h3, k v H2 F2 (g1.trans g2) h4⟩
theorem ev_ixB {ds : List D} {d : D} (ha : Ev X a G R (.bor ds)) (hb : Ev X b G R (.d (.int i))) (h : atI ds i = some d) (hs : PlainIx b := by exact fun _ _ => rfl) : Ev X (.Subscript a b pos) G R (.d d) := by
  intro en A σ H F Q st k
  refine ⟨_, pe_ix ix_list pe_t pe_t hs, ?_⟩
  refine ha en A σ H F _ st fun x H1 F1 g1 r1 => ?_
  refine hb en A σ H1 F1 _ (st.grow g1) fun y H2 F2 g2 r2 => ?_
  obtain ⟨p, vs, rfl, h1, h2⟩ := SR.grow r1 g2
  obtain ⟨v, h3, h4⟩ := atI_rel h2 h
  exact ⟨p, vs, i, v, rfl, r2, SqL.of h1, h3, k v H2 F2 (g1.trans g2) h4⟩
theorem ev_ixS {ns : List Int} {n : Int} (ha : Ev X a G R (.scr ns)) (hb : Ev X b G R (.d (.int i))) (h : atI ns i = some n) (hs : PlainIx b := by exact fun _ _ => rfl) : Ev X (.Subscript a b pos) G R (.d (.int n)) := by
  intro en A σ H F Q st k
  refine ⟨_, pe_ix ix_list pe_t pe_t hs, ?_⟩
  refine ha en A σ H F _ st fun x H1 F1 g1 r1 => ?_
  refine hb en A σ H1 F1 _ (st.grow g1) fun y H2 F2 g2 r2 => ?_
  obtain ⟨p, rfl, h1⟩ := SR.grow r1 g2
  refine ⟨p, _, i, .int n, rfl, r2, h1, ?_, k _ H2 F2 (g1.trans g2) rfl⟩
  unfold atI at h ⊢
  rw [List.length_map]
  cases z : ixN ns.length i with
  | none => rw [z] at h; cases h
  | some j =>
    rw [z] at h
    have h' : ns[j]? = some n := h
    show (ns.map V.int)[j]? = some (V.int n)
    rw [List.getElem?_map, h']
    rfl

/-! ### calls of built-in functions -/
def RC (K : PySem.W.Frag) (r : List V → Hp → VK → Prop) (ss : List S) (s : S) : Prop := ∀ (H0 : Hp) (xs : List V) (H : Hp) (F : Fz) (Q : VK), (∀ a, F a → H a ≠ none) → SRs K ss H0 xs H F → (∀ v H' F', Grow H F H' F' → SR K s H v H' F' → Q v H') → r xs H Q
variable {x : Str} {p : Pos} {id T : String} {r : List V → Hp → VK → Prop}
theorem ev_callB (hc : CallR X (.builtin id) r) (hm : X.mg x = none) (hv : bootBuiltins x = some (.builtin id)) (hr : RC X.K r ss s) (ha : EvA X (e :: es) G R ss) (hg : Gl X x := by rfl) (hn : x ≠ "__name__" := by decide) (hdb : (x == ("__debug__" : Str)) = false := by decide)
    (he : starEach (e :: es) X.env = (false, eval e X.env) :: starEach es X.env := by rfl) (hpl : (backTo pos (starEach es X.env)).any (·.1) = false := by rfl) : Ev X (.Call (.Name x p) (e :: es) [] pos) G R s := by
  intro en A σ H F Q st k
  refine ⟨_, pe_callB hc hg hm hv pa_t hn hdb he hpl, ?_⟩
  refine ha en A σ H F _ st fun vs H1 F1 g1 r1 => ?_
  exact hr H vs H1 F1 Q g1.t r1 fun v H2 F2 g2 r2 => k v H2 F2 (g1.trans g2) (SR.pre g1.nn r2)
theorem ev_callTy (hc : CallR X (.type T) r) (hm : X.mg x = none) (hv : bootBuiltins x = some (.type T)) (hr : RC X.K r ss s) (ha : EvA X (e :: es) G R ss) (hg : Gl X x := by rfl) (hn : x ≠ "__name__" := by decide) (hdb : (x == ("__debug__" : Str)) = false := by decide)
    (he : starEach (e :: es) X.env = (false, eval e X.env) :: starEach es X.env := by rfl) (hpl : (backTo pos (starEach es X.env)).any (·.1) = false := by rfl) : Ev X (.Call (.Name x p) (e :: es) [] pos) G R s := by
  intro en A σ H F Q st k
  refine ⟨_, pe_callTy hc hg hm hv pa_t hn hdb he hpl, ?_⟩
  refine ha en A σ H F _ st fun vs H1 F1 g1 r1 => ?_
  exact hr H vs H1 F1 Q g1.t r1 fun v H2 F2 g2 r2 => k v H2 F2 (g1.trans g2) (SR.pre g1.nn r2)
theorem srs1 {K : PySem.W.Frag} {H H' : Hp} {F' : Fz} {vs : List V} (h : SRs K [s] H vs H' F') : ∃ v, vs = [v] ∧ SR K s H v H' F' := by
  cases vs with
  | nil => exact h.elim
  | cons v r =>
    cases r with
    | nil => exact ⟨v, rfl, h.1⟩
    | cons _ _ => exact h.2.elim
theorem srs2 {K : PySem.W.Frag} {H H' : Hp} {F' : Fz} {vs : List V} (h : SRs K [s, s1] H vs H' F') : ∃ v w, vs = [v, w] ∧ SR K s H v H' F' ∧ SR K s1 H w H' F' := by
  cases vs with
  | nil => exact h.elim
  | cons v r =>
    obtain ⟨w, e, h2⟩ := srs1 h.2
    exact ⟨v, w, by rw [e], h.1, h2⟩
theorem ev_abs (hm : X.mg "abs" = none) (ha : Ev X e G R (.d (.int i))) (hg : Gl X "abs" := by rfl) (he : starEach [e] X.env = [(false, eval e X.env)] := by rfl) : Ev X (.Call (.Name "abs" p) [e] [] pos) G R (.d (.int i.natAbs)) := by
  refine ev_callB call_abs hm (by decide +kernel) ?_ (eva_cons ha eva_nil he) hg (by decide) (by decide) he (by rfl)
  intro H0 xs H F Q ft h k
  obtain ⟨v, e, h'⟩ := srs1 h
  subst e
  replace h' : v = .int i := h'
  refine ⟨i, by rw [h'], ?_⟩
  have q : (if i < 0 then -i else i) = (i.natAbs : Int) := by split <;> omega
  rw [q]
  exact k _ H F (Grow.refl ft) rfl
theorem ev_max2 (hc : X.calm = true) (hm : X.mg "max" = none) (ha : EvA X [a, b] G R [.d (.int i), .d (.int j)]) (hg : Gl X "max" := by rfl) (he : starEach [a, b] X.env = (false, eval a X.env) :: starEach [b] X.env := by rfl) (hpl : (backTo pos (starEach [b] X.env)).any (·.1) = false := by rfl) :
    Ev X (.Call (.Name "max" p) [a, b] [] pos) G R (.d (.int (max i j))) := by
  refine ev_callB (call_max2 hc) hm (by decide +kernel) ?_ ha hg (by decide) (by decide) he hpl
  intro H0 xs H F Q ft h k
  obtain ⟨v, w, e, h1, h2⟩ := srs2 h
  subst e
  have h1' : v = .int i := h1
  have h2' : w = .int j := h2
  refine ⟨i, j, by rw [h1', h2'], ?_⟩
  have q : (if j > i then j else i) = max i j := by split <;> omega
  rw [q]
  exact k _ H F (Grow.refl ft) rfl
theorem ev_min2 (hc : X.calm = true) (hm : X.mg "min" = none) (ha : EvA X [a, b] G R [.d (.int i), .d (.int j)]) (hg : Gl X "min" := by rfl) (he : starEach [a, b] X.env = (false, eval a X.env) :: starEach [b] X.env := by rfl) (hpl : (backTo pos (starEach [b] X.env)).any (·.1) = false := by rfl) :
    Ev X (.Call (.Name "min" p) [a, b] [] pos) G R (.d (.int (min i j))) := by
  refine ev_callB (call_min2 hc) hm (by decide +kernel) ?_ ha hg (by decide) (by decide) he hpl
  intro H0 xs H F Q ft h k
  obtain ⟨v, w, e, h1, h2⟩ := srs2 h
  subst e
  have h1' : v = .int i := h1
  have h2' : w = .int j := h2
  refine ⟨i, j, by rw [h1', h2'], ?_⟩
  have q : (if j < i then j else i) = min i j := by split <;> omega
  rw [q]
  exact k _ H F (Grow.refl ft) rfl
theorem ev_len (n : Nat) (hm : X.mg "len" = none) (ha : Ev X e G R s) (hs : (∃ ds : List D, (s = .bor ds ∨ s = .d (.tup ds)) ∧ ds.length = n) ∨ (∃ ns : List Int, s = .scr ns ∧ ns.length = n)) (hg : Gl X "len" := by rfl) (he : starEach [e] X.env = [(false, eval e X.env)] := by rfl) : Ev X (.Call (.Name "len" p) [e] [] pos) G R (.d (.int n)) := by
  refine ev_callB call_len_seq hm boot_len ?_ (eva_cons ha eva_nil he) hg (by decide) (by decide) he (by rfl)
  intro H0 xs H F Q ft h k
  obtain ⟨v, e, h'⟩ := srs1 h
  subst e
  clear h
  have z : ∃ p ys, [v] = [V.ref p] ∧ (SqL X.K H p ys ∨ SqT X.K H p ys) ∧ ys.length = n := by
    rcases hs with ⟨ds, hs, hl⟩ | ⟨ns, hs, hl⟩
    · rcases hs with rfl | rfl
      · obtain ⟨a, vs, rfl, h1, h2⟩ := h'
        exact ⟨a, vs, rfl, .inl (SqL.of h1), by rw [h2.length, hl]⟩
      · obtain ⟨a, vs, rfl, h1, h2⟩ := h'
        exact ⟨a, vs, rfl, .inr h1, by rw [h2.length, hl]⟩
    · subst hs
      obtain ⟨a, rfl, h1⟩ := h'
      exact ⟨a, _, rfl, .inl h1, by rw [List.length_map, hl]⟩
  obtain ⟨p, ys, e1, e2, e3⟩ := z
  refine ⟨p, ys, e1, e2, ?_⟩
  rw [e3]
  exact k _ H F (Grow.refl ft) rfl
end
end DL

namespace DL
open PySem PySem.Spec L2

/-- an exception by its class and what its own dict holds (none: it has none) -/
structure Exn where
  cls : Addr
  fl : Option (List (Str × D))
def ExnOk (K : PySem.W.Frag) (F : Fz) (H : Hp) (x : Exn) (cls : Value) (d : Option Addr) : Prop :=
  cls = .ref x.cls ∧ match x.fl with
    | none => d = none
    | some fs => ∃ dx vs, d = some dx ∧ H dx = some (.xd vs) ∧ DnF K F H fs vs
/-- what is wanted of an exception -/
abbrev Exw := Exn → List S → Res → Prop
def Wd (K : PySem.W.Frag) (en : En) (H0 : Hp) (F0 : Fz) (W : Exw) : WX := fun cls d σ H => ∃ x G R A F, W x G R ∧ Sta K en G R A σ H F ∧ ExnOk K F H x cls d ∧ Mon H0 F0 H F

/-- the state without its slots -/
structure Fin (K : PySem.W.Frag) (e : En) (R : Res) (A : Addr → Prop) (H : Hp) (F : Fz) : Prop where
  fr : ∀ a o, e.H a = some o → ¬ e.A a → H a = some o
  th : ∀ a, e.H a ≠ none → H a ≠ none
  f0 : ∀ a, e.F a → F a
  f1 : ∀ a, F a → e.F a ∨ e.H a = none
  ft : ∀ a, F a → H a ≠ none
  at_ : ∀ a, A a → H a ≠ none ∧ ¬ F a ∧ (e.A a ∨ e.H a = none)
  rs : R.holds K H F A
theorem Sta.fin {K : PySem.W.Frag} {e : En} {G : List S} {R : Res} {A : Addr → Prop} {σ : L2.St} {H : Hp} {F : Fz} (s : Sta K e G R A σ H F) : Fin K e R A H F :=
  ⟨s.fr, s.th, s.f0, s.f1, s.ft, s.at_, s.rs⟩
def Apart (A : Addr → Prop) (s : S) (v : V) : Prop := match s with
  | .own _ => ∀ a, v = .ref a → ¬ A a
  | .dic _ => ∀ a, v = .ref a → ¬ A a
  | _ => True

/-- what is wanted behind a block -/
structure Out where
  nx : List S → Res → Prop
  rt : S → Res → Prop
  bk : List S → Res → Prop := fun _ _ => False
  ct : List S → Res → Prop := fun _ _ => False
structure Post (X : Cx) (W : Exw) (en : En) (H : Hp) (F : Fz) (O : Out) (D : Ends) : Prop where
  tk : Takes X (Wd X.K en H F W)
  nx : ∀ G R A σ H' F', O.nx G R → Sta X.K en G R A σ H' F' → Mon H F H' F' → D.nx σ H'
  rt : ∀ s R A v H' F', O.rt s R → Fin X.K en R A H' F' → SR X.K s en.H v H' F' → Apart A s v → D.rt v H'
  bk : ∀ G R A σ H' F', O.bk G R → Sta X.K en G R A σ H' F' → Mon H F H' F' → D.bk σ H'
  ct : ∀ G R A σ H' F', O.ct G R → Sta X.K en G R A σ H' F' → Mon H F H' F' → D.ct σ H'
theorem Post.from {X : Cx} {W : Exw} {en : En} {H H1 : Hp} {F F1 : Fz} {O : Out} {D : Ends} (p : Post X W en H F O D) (m : Mon H F H1 F1) : Post X W en H1 F1 O D :=
  ⟨p.tk.imp fun cls d σ H' ⟨x, G, R, A, F', h1, h2, h3, h4⟩ => ⟨x, G, R, A, F', h1, h2, h3, m.trans h4⟩, fun G R A σ H' F' h s n => p.nx G R A σ H' F' h s (m.trans n), p.rt, fun G R A σ H' F' h s n => p.bk G R A σ H' F' h s (m.trans n), fun G R A σ H' F' h s n => p.ct G R A σ H' F' h s (m.trans n)⟩

def Ex (X : Cx) (W : Exw) (st : List Stmt) (G : List S) (R : Res) (O : Out) : Prop :=
  ∀ (en : En) (A : Addr → Prop) (σ : L2.St) (H : Hp) (F : Fz) (D : Ends), Sta X.K en G R A σ H F → Post X W en H F O D → tSs X st D σ H
/-- .. and then the rest -/
def Out.thn (O : Out) (X : Cx) (W : Exw) (rest : List Stmt) : Out := { O with nx := fun G R => Ex X W rest G R O }
theorem Post.thn {X : Cx} {W : Exw} {rest : List Stmt} {en : En} {H H' : Hp} {F F' : Fz} {O : Out} {D : Ends} (m : Mon H F H' F') (p : Post X W en H F O D) : Post X W en H' F' (O.thn X W rest) { D with nx := tSs X rest D } :=
  ⟨(p.from m).tk, fun G R A σ H2 F2 h s n => h en A σ H2 F2 D s (p.from (m.trans n)), p.rt, (p.from m).bk, (p.from m).ct⟩

/-! ### targets -/
def tG (X : Cx) (tg : Expr) : TG := fun v σ H Q => ∃ t, PG X tg t ∧ t v σ H Q
def tGs (X : Cx) (tgs : List Expr) : TGs := fun v σ H Q => ∃ t, PGs X tgs t ∧ t v σ H Q
theorem pg_t {X : Cx} {tg : Expr} : PG X tg (tG X tg) := ⟨fun pins s σ H v u Q I r h => by obtain ⟨t, h, q⟩ := h; exact h.run pins s σ H v u Q I r q⟩
theorem pgs_t {X : Cx} {tgs : List Expr} : PGs X tgs (tGs X tgs) := ⟨fun pins s σ H v u Q I r h => by obtain ⟨t, h, q⟩ := h; exact h.run pins s σ H v u Q I r q⟩
def Tg (X : Cx) (tg : Expr) (d : D) (G G' : List S) : Prop :=
  ∀ (en : En) (R : Res) (A : Addr → Prop) (σ : L2.St) (H : Hp) (F : Fz) (v : V) (Q : L2.St → Hp → Prop), Sta X.K en G R A σ H F → Dn X.K F H d v → (∀ σ', Sta X.K en G' R A σ' H F → Q σ' H) → tG X tg v σ H Q
def Tgs (X : Cx) (tgs : List Expr) (ds : List D) (G G' : List S) : Prop :=
  ∀ (en : En) (R : Res) (A : Addr → Prop) (σ : L2.St) (H : Hp) (F : Fz) (vs : List V) (Q : L2.St → Hp → Prop), Sta X.K en G R A σ H F → DnA X.K F H ds vs → (∀ σ', Sta X.K en G' R A σ' H F → Q σ' H) → tGs X tgs vs σ H Q

/-! ### slots written -/
def S.sto : S → Bool
  | .any => true
  | .d _ => true
  | .own _ => true
  | .dic _ => true
  | _ => false
section
variable {K : PySem.W.Frag} {en : En} {G : List S} {R : Res} {A : Addr → Prop} {σ : L2.St} {H H' : Hp} {F F' : Fz}
theorem Sta.nn (st : Sta K en G R A σ H F) : ∀ a, H a = none → en.H a = none := fun a h => by
  cases z : en.H a with
  | none => rfl
  | some o => exact absurd h (st.th a (by rw [z]; exact fun y => nomatch y))
theorem SlotOk.ow {ow ow' : Addr → Nat} {i : Nat} (h : ∀ a, H a ≠ none → ow a = i → ow' a = i) : ∀ {s : S} {o : Option V}, SlotOk K en ow H F A i s o → SlotOk K en ow' H F A i s o
  | .any, _, _ => trivial
  | .d x, o, h => h
  | .own ds, o, ⟨a, vs, h1, h2, h3, h4, h5, h6⟩ => ⟨a, vs, h1, h a (by rw [h5]; exact fun z => nomatch z) h2, h3, h4, h5, h6⟩
  | .bor ds, o, h => h
  | .scr ns, o, h => h
  | .dic ds, o, ⟨a, vs, h1, h2, h3, h4, h5, h6⟩ => ⟨a, vs, h1, h a (by rw [h5]; exact fun z => nomatch z) h2, h3, h4, h5, h6⟩
  | .bdic ds, o, h => h
  | .bob a l, o, h => h
  | .ldic a l, o, h => h
  | .exn a dd fs, o, h => h
theorem Sta.put {i : Nat} {s : S} {v : V} (st : Sta K en G R A σ H F) (g : Grow H F H' F') (hs : s.sto = true) (r : SR K s H v H' F') : Sta K en (G.set i s) R A (σ.set i (some v)) H' F' := by
  have st' := st.grow g
  refine ⟨st'.fr, st'.th, st'.f0, st'.f1, st'.ft, st'.at_, st'.rs, by rw [List.length_set, List.length_set]; exact st'.len, ?_⟩
  obtain ⟨ow, q⟩ := st.sl
  have en_none : ∀ a, H a = none → en.H a = none := fun a h => by
    cases z : en.H a with
    | none => rfl
    | some o => exact absurd h (st.th a (by rw [z]; exact fun y => nomatch y))
  have nA : ∀ a, H a = none → ¬ A a := fun a h z => (st.at_ a z).1 h
  have key : ∀ (ow' : Addr → Nat), (∀ a, H a ≠ none → ow' a = ow a) → (SlotOk K en ow' H' F' A i s (some v)) → ∃ ow : Addr → Nat, ∀ (j : Nat) (t : S), (G.set i s)[j]? = some t → ∃ o, (σ.set i (some v))[j]? = some o ∧ SlotOk K en ow H' F' A j t o := by
    intro ow' ho hi
    refine ⟨ow', fun j t ht => ?_⟩
    by_cases e : i = j
    · subst e
      have hl : i < G.length := by
        rcases Nat.lt_or_ge i G.length with z | z
        · exact z
        · rw [List.getElem?_eq_none (by rw [List.length_set]; exact z)] at ht; cases ht
      rw [List.getElem?_set_self hl] at ht
      cases ht
      exact ⟨some v, by rw [List.getElem?_set_self (by rw [← st.len]; exact hl)], hi⟩
    · rw [List.getElem?_set_ne e] at ht
      obtain ⟨o, h1, h2⟩ := q j t ht
      exact ⟨o, by rw [List.getElem?_set_ne e]; exact h1, SlotOk.grow g.mon g.h g.n (SlotOk.ow (fun a hn h => by rw [ho a hn]; exact h) h2)⟩
  cases s with
  | any => exact key ow (fun _ _ => rfl) trivial
  | d x => exact key ow (fun _ _ => rfl) ⟨v, rfl, r⟩
  | own ds =>
    obtain ⟨a, vs, rfl, h2, h3, h4, h5⟩ := r
    refine key (fun b => if b = a then i else ow b) (fun b hb => if_neg (fun (z : b = a) => hb (by rw [z]; exact h2))) ⟨a, vs, rfl, if_pos rfl, h3, nA a h2, h4, h5, en_none a h2⟩
  | dic ds =>
    obtain ⟨a, vs, rfl, h2, h3, h4, h5⟩ := r
    refine key (fun b => if b = a then i else ow b) (fun b hb => if_neg (fun (z : b = a) => hb (by rw [z]; exact h2))) ⟨a, vs, rfl, if_pos rfl, h3, nA a h2, h4, h5, en_none a h2⟩
  | bor ds => cases hs
  | scr ns => cases hs
  | bdic ds => cases hs
  | bob a l => cases hs
  | ldic a l => cases hs
  | exn a dd fs => cases hs
/-- forgetting -/
def Le : List S → List S → Prop
  | [], [] => True
  | s :: G, t :: G' => (t = s ∨ t = .any) ∧ Le G G'
  | [], _ :: _ => False
  | _ :: _, [] => False
theorem Le.refl : ∀ G : List S, Le G G
  | [] => trivial
  | _ :: G => ⟨.inl rfl, Le.refl G⟩
theorem Le.len : ∀ {G G' : List S}, Le G G' → G.length = G'.length
  | [], [], _ => rfl
  | _ :: _, _ :: _, h => by rw [List.length_cons, List.length_cons, Le.len h.2]
  | [], _ :: _, h => h.elim
  | _ :: _, [], h => h.elim
theorem Le.get : ∀ {G G' : List S} {i : Nat} {t : S}, Le G G' → G'[i]? = some t → ∃ s, G[i]? = some s ∧ (t = s ∨ t = .any)
  | [], [], _, _, _, e => by simp at e
  | s :: _, _ :: _, 0, t, h, e => by
    have e' : _ = t := Option.some.inj e
    subst e'
    exact ⟨s, rfl, h.1⟩
  | _ :: _, _ :: _, i + 1, t, h, e => Le.get (i := i) h.2 (by simpa using e)
  | [], _ :: _, _, _, h, _ => h.elim
  | _ :: _, [], _, _, h, _ => h.elim
theorem Sta.le {G' : List S} (st : Sta K en G R A σ H F) (l : Le G G') : Sta K en G' R A σ H F := by
  refine ⟨st.fr, st.th, st.f0, st.f1, st.ft, st.at_, st.rs, by rw [← l.len]; exact st.len, ?_⟩
  obtain ⟨ow, q⟩ := st.sl
  refine ⟨ow, fun i t ht => ?_⟩
  obtain ⟨s, h1, h2⟩ := l.get ht
  obtain ⟨o, h3, h4⟩ := q i s h1
  refine ⟨o, h3, ?_⟩
  rcases h2 with rfl | rfl
  · exact h4
  · trivial
/-- an own list stands still from now on -/
theorem Sta.freeze {i : Nat} {ds : List D} (st : Sta K en G R A σ H F) (h : G[i]? = some (.own ds)) : ∃ F', Sta K en (G.set i (.d (.lst ds))) R A σ H F' ∧ Mon H F H F' := by
  obtain ⟨ow, q⟩ := st.sl
  obtain ⟨o, h1, a, vs, rfl, h2, h3, h4, h5, h6, h7⟩ := q i _ h
  have m : Mon H F H (fun b => F b ∨ b = a) := ⟨fun b h => .inl h, fun _ _ h => h, fun _ _ _ h => h⟩
  refine ⟨fun b => F b ∨ b = a, ⟨st.fr, st.th, fun b h => .inl (st.f0 b h), fun b h => ?_, fun b h => ?_, fun b h => ?_, ?_, by rw [List.length_set]; exact st.len, ow, fun j t ht => ?_⟩, m⟩
  · rcases h with h | h
    · exact st.f1 b h
    · rw [h]; exact .inr h7
  · rcases h with h | h
    · exact st.ft b h
    · rw [h, h5]; exact fun z => nomatch z
  · obtain ⟨k1, k2, k3⟩ := st.at_ b h
    refine ⟨k1, fun z => ?_, k3⟩
    rcases z with z | z
    · exact k2 z
    · rw [z] at h; exact h4 h
  · exact R.stable st.rs m fun _ _ => rfl
  · by_cases e : i = j
    · subst e
      have hl : i < G.length := by
        rcases Nat.lt_or_ge i G.length with z | z
        · exact z
        · rw [List.getElem?_eq_none z] at h; cases h
      rw [List.getElem?_set_self hl] at ht
      cases ht
      exact ⟨_, h1, .ref a, rfl, a, vs, rfl, .inr rfl, h5, DnA.mon m _ _ h6⟩
    · rw [List.getElem?_set_ne e] at ht
      obtain ⟨o, k1, k2⟩ := q j t ht
      refine ⟨o, k1, ?_⟩
      cases t with
      | any => trivial
      | d x => obtain ⟨v, z1, z2⟩ := k2; exact ⟨v, z1, Dn.mon m _ _ z2⟩
      | own es =>
        obtain ⟨b, ws, z1, z2, z3, z4, z5, z6, z7⟩ := k2
        refine ⟨b, ws, z1, z2, fun z => ?_, z4, z5, DnA.mon m _ _ z6, z7⟩
        rcases z with z | z
        · exact z3 z
        · rw [z, h2] at z2; exact e z2
      | bor es => obtain ⟨b, ws, z1, z2, z3, z4⟩ := k2; exact ⟨b, ws, z1, z2, z3, DnA.mon m _ _ z4⟩
      | scr ns => exact k2
      | dic es =>
        obtain ⟨b, ws, z1, z2, z3, z4, z5, z6, z7⟩ := k2
        refine ⟨b, ws, z1, z2, fun z => ?_, z4, z5, DnK.mon m z6, z7⟩
        rcases z with z | z
        · exact z3 z
        · rw [z, h2] at z2; exact e z2
      | bdic es => obtain ⟨b, ws, z1, z2, z3, z4⟩ := k2; exact ⟨b, ws, z1, z2, z3, DnK.mon m z4⟩
      | bob b l => obtain ⟨z1, ads, z2, z3⟩ := k2; exact ⟨z1, ads, ObsAt.mon m (fun _ _ _ z => z) z2, z3⟩
      | ldic b l => obtain ⟨z1, vs0, z2, z3, z4⟩ := k2; exact ⟨z1, vs0, z2, z3, DnK.mon m z4⟩
      | exn b dd fs => obtain ⟨z1, z2, ws, z3, z4⟩ := k2; exact ⟨z1, z2, ws, z3, DnF.mon m z4⟩
theorem mon_upd {a : Addr} {o u : HO} (ho : H a = some o) (nt : ∀ xs, o ≠ .tup xs) (nf : ∀ b xs, o ≠ .frz b (.tup xs)) (hf : ¬ F a) : Mon H F (upd H a u) F := by
  refine ⟨fun _ h => h, fun b xs h => ?_, fun b xs f h => ?_⟩
  · rcases h with h | ⟨z, h⟩
    · refine .inl ?_
      rw [upd_ne (fun e => nt xs (by rw [e, ho] at h; exact Option.some.inj h))]
      exact h
    · refine .inr ⟨z, ?_⟩
      rw [upd_ne (fun e => nf z xs (by rw [e, ho] at h; exact Option.some.inj h))]
      exact h
  · rw [upd_ne (fun e => hf (by rw [← e]; exact f))]
    exact h
/-- an own list is changed -/
theorem Sta.mut {i : Nat} {ds es : List D} (st : Sta K en G R A σ H F) (h : G[i]? = some (.own ds)) : ∃ a vs, σ[i]? = some (some (.ref a)) ∧ H a = some (.lst vs) ∧ DnA K F H ds vs ∧
    ∀ ws, DnA K F H es ws → Sta K en (G.set i (.own es)) R A σ (upd H a (.lst ws)) F ∧ Mon H F (upd H a (.lst ws)) F := by
  obtain ⟨ow, q⟩ := st.sl
  obtain ⟨o, h1, a, vs, rfl, h2, h3, h4, h5, h6, h7⟩ := q i _ h
  refine ⟨a, vs, h1, h5, h6, fun ws hw => ?_⟩
  have m : Mon H F (upd H a (.lst ws)) F := mon_upd h5 (fun _ z => nomatch z) (fun _ _ z => nomatch z) h3
  have un : ∀ b o, b ≠ a → H b = some o → upd H a (.lst ws) b = some o := fun b o e h => by rw [upd_ne e]; exact h
  have tr : ∀ b, H b ≠ none → upd H a (.lst ws) b ≠ none := fun b hb => by
    by_cases e : b = a
    · rw [e, upd_same]; exact fun z => nomatch z
    · rw [upd_ne e]; exact hb
  refine ⟨⟨fun b o hb na => un b o (fun e => by rw [e, h7] at hb; cases hb) (st.fr b o hb na), fun b hb => tr b (st.th b hb), st.f0, st.f1, fun b hb => tr b (st.ft b hb), fun b hb => ?_, ?_, by rw [List.length_set]; exact st.len, ow, fun j t ht => ?_⟩, m⟩
  · obtain ⟨k1, k2, k3⟩ := st.at_ b hb
    exact ⟨tr b k1, k2, k3⟩
  · refine R.stable st.rs m fun b hb => ?_
    rw [upd_ne (fun e => h4 (by rw [← e]; exact hb))]
  · by_cases e : i = j
    · subst e
      have hl : i < G.length := by
        rcases Nat.lt_or_ge i G.length with z | z
        · exact z
        · rw [List.getElem?_eq_none z] at h; cases h
      rw [List.getElem?_set_self hl] at ht
      cases ht
      exact ⟨_, h1, a, ws, rfl, h2, h3, h4, upd_same, DnA.mon m _ _ hw, h7⟩
    · rw [List.getElem?_set_ne e] at ht
      obtain ⟨o, k1, k2⟩ := q j t ht
      refine ⟨o, k1, ?_⟩
      cases t with
      | any => trivial
      | d x => obtain ⟨v, z1, z2⟩ := k2; exact ⟨v, z1, Dn.mon m _ _ z2⟩
      | own fs =>
        obtain ⟨b, us, z1, z2, z3, z4, z5, z6, z7⟩ := k2
        exact ⟨b, us, z1, z2, z3, z4, un b _ (fun z => e (by rw [z, h2] at z2; exact z2)) z5, DnA.mon m _ _ z6, z7⟩
      | bor fs => obtain ⟨b, us, z1, z2, z3, z4⟩ := k2; exact ⟨b, us, z1, z2, z3, DnA.mon m _ _ z4⟩
      | scr ns => exact k2
      | dic fs =>
        obtain ⟨b, us, z1, z2, z3, z4, z5, z6, z7⟩ := k2
        exact ⟨b, us, z1, z2, z3, z4, un b _ (fun z => e (by rw [z, h2] at z2; exact z2)) z5, DnK.mon m z6, z7⟩
      | bdic fs => obtain ⟨b, us, z1, z2, z3, z4⟩ := k2; exact ⟨b, us, z1, z2, z3, DnK.mon m z4⟩
      | bob b l => obtain ⟨z1, ads, z2, z3⟩ := k2; exact ⟨z1, ads, ObsAt.mon m (fun _ _ _ z => z) z2, z3⟩
      | ldic b l => obtain ⟨z1, vs0, z2, z3, z4⟩ := k2; exact ⟨z1, vs0, z2, z3, DnK.mon m z4⟩
      | exn b dd fs => obtain ⟨z1, z2, us, z3, z4⟩ := k2; exact ⟨z1, z2, us, un dd _ (fun z => by rw [z, h5] at z3; cases z3) z3, DnF.mon m z4⟩
end

/-! ### statements -/
section
variable {X : Cx} {W : Exw} {G G' : List S} {R : Res} {O : Out} {e a b c tg : Expr} {rest body : List Stmt} {pos pos' : Pos} {s : S} {d : D}
theorem ex_nil (h : O.nx G R) : Ex X W [] G R O := fun en A σ H F D st p => ⟨_, pss_nil, p.nx G R A σ H F h st Mon.refl⟩
theorem ex_le (l : Le G G') (h : Ex X W rest G' R O) : Ex X W rest G R O := fun en A σ H F D st p => h en A σ H F D (st.le l) p
theorem ex_frz (i : Nat) {ds : List D} (h : G[i]? = some (.own ds)) (k : Ex X W rest (G.set i (.d (.lst ds))) R O) : Ex X W rest G R O := fun en A σ H F D st p => by
  obtain ⟨F', st', m⟩ := st.freeze h
  exact k en A σ H F' D st' (p.from m)
theorem ex_pass (k : Ex X W rest G R O) : Ex X W (.Pass pos :: rest) G R O := fun en A σ H F D st p =>
  ⟨_, pss_cons ps_pass pss_t, k en A σ H F D st p⟩
theorem ex_brk (h : O.bk G R) : Ex X W (.Break pos :: rest) G R O := fun en A σ H F D st p =>
  ⟨_, pss_cons ps_break pss_t, p.bk G R A σ H F h st Mon.refl⟩
theorem ex_cont (h : O.ct G R) : Ex X W (.Continue pos :: rest) G R O := fun en A σ H F D st p =>
  ⟨_, pss_cons ps_continue pss_t, p.ct G R A σ H F h st Mon.refl⟩
theorem ex_ret (he : Ev X e G R s) (h : O.rt s R) : Ex X W (.Return (some e) pos :: rest) G R O := fun en A σ H F D st p => by
  refine ⟨_, pss_cons (ps_ret pe_t) pss_t, ?_⟩
  refine he en A σ H F _ st fun v H' F' g r => ?_
  have st' := st.grow g
  refine p.rt s R A v H' F' h st'.fin (SR.pre st.nn r) ?_
  cases s with
  | own ds =>
    obtain ⟨a, vs, rfl, h2, _⟩ := r
    intro b e z
    cases e
    exact (st.at_ a z).1 h2
  | dic ds =>
    obtain ⟨a, vs, rfl, h2, _⟩ := r
    intro b e z
    cases e
    exact (st.at_ a z).1 h2
  | _ => trivial
end
end DL

namespace DL
open PySem PySem.Spec L2

/-! ### what a loop walks -/
def tI (X : Cx) (tg iter : Expr) : TI := fun σ H Q => ∃ t, PI X tg iter t ∧ t σ H Q
theorem pi_t {X : Cx} {tg iter : Expr} : PI X tg iter (tI X tg iter) := ⟨fun pins s σ H R I h => by obtain ⟨t, h, q⟩ := h; exact h.run pins s σ H R I q⟩
/-- J gives ds, whatever happens on the way -/
def Feed (K : PySem.W.Frag) (J : It) (ds : List D) (en : En) (H1 : Hp) (F1 : Fz) : Prop :=
  ∀ (i : Nat) (H : Hp) (F : Fz), Mon H1 F1 H F → (∀ a o, en.H a = some o → ¬ en.A a → H a = some o) →
    (ds.length ≤ i → J.stop i H) ∧ ∀ d, ds[i]? = some d → J.go i H ∧ ∀ x H', J.yld i H x H' → H' = H ∧ Dn K F H d x
def EvI (X : Cx) (tg iter : Expr) (G : List S) (R : Res) (ds : List D) : Prop :=
  ∀ (en : En) (A : Addr → Prop) (σ : L2.St) (H : Hp) (F : Fz) (Q : It → Hp → Prop), Sta X.K en G R A σ H F → (∀ J H' F', Grow H F H' F' → Feed X.K J ds en H' F' → Q J H') → tI X tg iter σ H Q

section
variable {X : Cx} {W : Exw} {G G' G1 : List S} {R : Res} {O : Out} {e a b c tg iter elt : Expr} {es : List Expr} {rest body orelse : List Stmt} {pos pos' : Pos} {s : S} {d : D} {ds : List D}

theorem evi_tup (h : Ev X iter G R (.d (.tup ds))) : EvI X tg iter G R ds := by
  intro en A σ H F Q st k
  refine ⟨_, pi_tup pe_t, ?_⟩
  refine h en A σ H F _ st fun v H1 F1 g r => ?_
  obtain ⟨p, vs, rfl, h1, h2⟩ := r
  refine ⟨p, rfl, ⟨vs, h1⟩, k _ H1 F1 g fun i H2 F2 m _ => ⟨fun hi => ⟨vs, m.sqT h1, by rw [h2.length]; exact hi⟩, fun d hd => ?_⟩⟩
  obtain ⟨v, e1, e2⟩ := h2.get hd
  refine ⟨⟨vs, v, m.sqT h1, e1⟩, fun x H' y => ⟨y.1, ?_⟩⟩
  have e3 := y.2 vs (m.sqT h1)
  rw [e1] at e3
  cases e3
  exact Dn.mon m _ _ e2
theorem evi_lst (h : Ev X iter G R (.d (.lst ds))) : EvI X tg iter G R ds := by
  intro en A σ H F Q st k
  refine ⟨_, pi_list pe_t, ?_⟩
  refine h en A σ H F _ st fun v H1 F1 g r => ?_
  obtain ⟨p, vs, rfl, h0, h1, h2⟩ := r
  refine ⟨p, rfl, ⟨vs, SqL.of h1⟩, k _ H1 F1 g fun i H2 F2 m _ => ?_⟩
  have h1' := SqL.of (K := X.K) (m.lst _ _ h0 h1)
  refine ⟨fun hi => ⟨vs, h1', by rw [h2.length]; exact hi⟩, fun d hd => ?_⟩
  obtain ⟨v, e1, e2⟩ := h2.get hd
  refine ⟨⟨vs, v, h1', e1⟩, fun x H' y => ⟨y.1, ?_⟩⟩
  have e3 := y.2 vs h1'
  rw [e1] at e3
  cases e3
  exact Dn.mon m _ _ e2
theorem evi_own (h : Ev X iter G R (.own ds)) : EvI X tg iter G R ds := evi_lst (ev_frz h)
/-- over a borrowed list at a name -/
theorem evi_bor (i : Nat) {x : Str} (hs : G[i]? = some (.bor ds)) (hN : X.N[i]? = some x := by rfl) (hv : Vis X.env.scope x := by first | exact Or.inl rfl | exact Or.inr (Or.inl rfl) | exact Or.inr (Or.inr rfl)) (hd : (x == ("__debug__" : Str)) = false := by decide)
    (hcd : (x == ("__classdict__" : Str)) = false := by decide) : EvI X tg (.Name x pos) G R ds := by
  intro en A σ H F Q st k
  refine ⟨_, pi_list (pe_var hN hv hd hcd), ?_⟩
  obtain ⟨ow, o, h1, p, vs, h2, h3, h4, h5⟩ := slot_at st hs
  subst h2
  refine ⟨_, h1, p, rfl, ⟨vs, SqL.of (st.fr _ _ h3 h4)⟩, k _ H F (Grow.refl st.ft) fun i H2 F2 m fr => ?_⟩
  have h1' := SqL.of (K := X.K) (fr _ _ h3 h4)
  refine ⟨fun hi => ⟨vs, h1', by rw [h5.length]; exact hi⟩, fun d hd => ?_⟩
  obtain ⟨v, e1, e2⟩ := h5.get hd
  refine ⟨⟨vs, v, h1', e1⟩, fun x H' y => ⟨y.1, ?_⟩⟩
  have e3 := y.2 vs h1'
  rw [e1] at e3
  cases e3
  exact Dn.mon m _ _ e2
def rangeD (lo : Int) (n : Nat) : List D := (List.range n).map fun (k : Nat) => D.int (lo + (k : Int))
theorem rangeD_len {lo : Int} {n : Nat} : (rangeD lo n).length = n := by unfold rangeD; rw [List.length_map, List.length_range]
theorem rangeD_at {lo : Int} {n i : Nat} {d : D} (h : (rangeD lo n)[i]? = some d) : i < n ∧ d = .int (lo + i) := by
  unfold rangeD at h
  rw [List.getElem?_map] at h
  rcases Nat.lt_or_ge i n with z | z
  · rw [List.getElem?_range z] at h
    exact ⟨z, (Option.some.inj h).symm⟩
  · rw [List.getElem?_eq_none (by rw [List.length_range]; exact z)] at h
    cases h
theorem feed_range {K : PySem.W.Frag} {lo : Int} {n : Nat} {en : En} {H1 : Hp} {F1 : Fz} : Feed K (Itr lo n) (rangeD lo n) en H1 F1 := fun i H F m fr => by
  refine ⟨fun hi => by rw [rangeD_len] at hi; exact hi, fun d hd => ?_⟩
  obtain ⟨h1, rfl⟩ := rangeD_at hd
  exact ⟨h1, fun x H' y => ⟨y.1, y.2⟩⟩
theorem evi_range {n : Nat} {p : Pos} (hm : X.mg "range" = none) (ha : Ev X a G R (.d (.int n))) (hn : n < 2 ^ 62) (hg : Gl X "range" := by rfl) (hs : starEach [a] X.env = [(false, eval a X.env)] := by rfl) : EvI X tg (.Call (.Name "range" p) [a] [] pos) G R (rangeD 0 n) := by
  intro en A σ H F Q st k
  refine ⟨_, pi_range1 hg hm pa_t hs, ?_⟩
  refine eva_cons ha eva_nil hs en A σ H F _ st fun vs H1 F1 g r => ?_
  obtain ⟨v, e, r1⟩ := srs1 r
  have r1' : v = .int n := r1
  refine ⟨n, by rw [e, r1'], by omega, by omega, ?_⟩
  exact k _ H1 F1 g (by rw [Int.toNat_natCast]; exact feed_range)
theorem evi_range2 {i j : Int} {p : Pos} (hm : X.mg "range" = none) (ha : EvA X [a, b] G R [.d (.int i), .d (.int j)]) (hn : -(2 ^ 62) ≤ i ∧ i < 2 ^ 62 ∧ -(2 ^ 62) ≤ j ∧ j < 2 ^ 62) (hg : Gl X "range" := by rfl)
    (hs : starEach [a, b] X.env = [(false, eval a X.env), (false, eval b X.env)] := by rfl) (hs2 : starEach [b] X.env = [(false, eval b X.env)] := by rfl) : EvI X tg (.Call (.Name "range" p) [a, b] [] pos) G R (rangeD i (j - i).toNat) := by
  intro en A σ H F Q st k
  refine ⟨_, pi_range2 hg hm pa_t hs hs2, ?_⟩
  refine ha en A σ H F _ st fun vs H1 F1 g r => ?_
  obtain ⟨v, w, e, r1, r2⟩ := srs2 r
  have r1' : v = .int i := r1
  have r2' : w = .int j := r2
  exact ⟨i, j, by rw [e, r1', r2'], hn, k _ H1 F1 g feed_range⟩

/-! ### assignments -/
theorem ex_set (i : Nat) {x : Str} (hN : X.N.Nodup) (he : Ev X e G R s) (k : Ex X W rest (G.set i s) R O) (hs : s.sto = true := by rfl) (hi : X.N[i]? = some x := by rfl) (hx : Loc X.env.scope x := by first | exact Or.inl rfl | exact Or.inr rfl)
    (hf : X.fn x = true ∨ X.env.scope.names.lookup x = some .local := by first | exact .inl rfl | exact .inr rfl) (hw : swapsWith e (some (.Name x pos')) pos.line X.env = pure false := by rfl) : Ex X W (.Assign [.Name x pos'] e pos :: rest) G R O := fun en A σ H F D st p => by
  refine ⟨_, pss_cons (ps_set hN hi hx pe_t hw hf) pss_t, ?_⟩
  refine he en A σ H F _ st fun v H' F' g r => ?_
  exact k en A _ H' F' D (st.put g hs r) (p.from g.mon)
theorem tg_name (i : Nat) {x : Str} (hN : X.N.Nodup) (hi : X.N[i]? = some x := by rfl) (hx : Loc X.env.scope x := by first | exact Or.inl rfl | exact Or.inr rfl) (hf : X.fn x = true ∨ X.env.scope.names.lookup x = some .local := by first | exact .inl rfl | exact .inr rfl) : Tg X (.Name x pos) d G (G.set i (.d d)) := by
  intro en R A σ H F v Q st r k
  exact ⟨_, pg_name hN hi hx hf, k _ (st.put (Grow.refl st.ft) rfl r)⟩
theorem tgs_nil : Tgs X [] [] G G := by
  intro en R A σ H F vs Q st r k
  exact ⟨_, pgs_nil, r.nil_of, k σ st⟩
theorem tgs_cons {tgs : List Expr} (h1 : Tg X tg d G G1) (h2 : Tgs X tgs ds G1 G') (hs : (assignEach (tg :: tgs) X.env).map (·.2) = assign tg X.env :: (assignEach tgs X.env).map (·.2) := by rfl) : Tgs X (tg :: tgs) (d :: ds) G G' := by
  intro en R A σ H F vs Q st r k
  obtain ⟨v, vr, rfl, r1, r2⟩ := r.cons_of
  refine ⟨_, pgs_cons pg_t pgs_t hs, v, vr, rfl, ?_⟩
  exact h1 en R A σ H F v _ st r1 fun σ' st' => h2 en R A σ' H F vr _ st' r2 k
theorem tg_tup {tgs : List Expr} {k : Nat} (hc : X.calm = true) (h : Tgs X tgs ds G G') (hn : (assignEach tgs X.env).length = ds.length := by rfl) (hst : (assignEach tgs X.env).findIdx? (·.1) = none := by rfl) : Tg X (.Tuple tgs k pos) (.tup ds) G G' := by
  intro en R A σ H F v Q st r q
  obtain ⟨a, vs, rfl, h1, h2⟩ := r
  exact ⟨_, pg_tup hc pgs_t hn hst, a, vs, rfl, h1, h2.length, h en R A σ H F vs _ st h2 q⟩
/-- a, b = e -/
theorem ex_asg (he : Ev X e G R (.d d)) (hg : Tg X tg d G G') (k : Ex X W rest G' R O) (hs : swapsWithSole [tg] e pos.line X.env = pure false := by rfl) (hw : swappedStores [tg] e X.env = pure none := by rfl)
    (h1 : (assignEach [tg] X.env).map (·.2) = [assign tg X.env] := by rfl) : Ex X W (.Assign [tg] e pos :: rest) G R O := fun en A σ H F D st p => by
  refine ⟨_, pss_cons (ps_asg pe_t pg_t hs hw h1) pss_t, ?_⟩
  refine he en A σ H F _ st fun v H' F' g r => ?_
  exact hg en R A σ H' F' v _ (st.grow g) r fun σ' st' => k en A σ' H' F' D st' (p.from g.mon)
/-- a, b = x, y -/
theorem ex_par (i j : Nat) {x y : Str} {s1 s2 : D} {px py pt : Pos} {kt k2 pt2} (hN : X.N.Nodup) (ha : EvA X [a, b] G R [.d s1, .d s2]) (k : Ex X W rest ((G.set i (.d s1)).set j (.d s2)) R O) (hc : X.calm = true := by rfl) (hi : X.N[i]? = some x := by rfl) (hj : X.N[j]? = some y := by rfl) (hij : i ≠ j := by decide)
    (hx : X.env.scope.names.lookup x = some .local := by rfl) (hy : X.env.scope.names.lookup y = some .local := by rfl)
    (hw : swappedStores [.Tuple [.Name x px, .Name y py] kt pt] (.Tuple [a, b] k2 pt2) X.env = pure (some [x, y]) := by rfl)
    (hs : swapsWithSole [.Tuple [.Name x px, .Name y py] kt pt] (.Tuple [a, b] k2 pt2) pos.line X.env = pure false := by rfl) :
    Ex X W (.Assign [.Tuple [.Name x px, .Name y py] kt pt] (.Tuple [a, b] k2 pt2) pos :: rest) G R O := fun en A σ H F D st p => by
  refine ⟨_, pss_cons (ps_par hc hN hi hj hij hx hy pa_t hw hs) pss_t, ?_⟩
  refine ha en A σ H F _ st fun vs H' F' g r => ?_
  obtain ⟨v, w, e, r1, r2⟩ := srs2 r
  refine ⟨v, w, e, ?_⟩
  have st1 := st.put (i := i) (s := .d s1) g rfl r1
  have st2 := st1.put (i := j) (s := .d s2) (Grow.refl g.t) rfl r2
  exact k en A _ H' F' D st2 (p.from g.mon)
/-- an expression as a statement -/
theorem ex_expr (he : Ev X e G R s) (k : Ex X W rest G R O) (hs : swapsWith e none pos.line X.env = pure false := by rfl) : Ex X W (.Expr e pos :: rest) G R O := fun en A σ H F D st p => by
  refine ⟨_, pss_cons (ps_expr pe_t hs) pss_t, ?_⟩
  exact he en A σ H F _ st fun v H' F' g r => k en A σ H' F' D (st.grow g) (p.from g.mon)
/-- x.append(e), x an own list -/
theorem ex_append (i : Nat) {x : Str} {p1 apos cpos : Pos} (he : Ev X e G R (.d d)) (h : G[i]? = some (.own ds)) (hl : ds.length < sizeLine) (k : Ex X W rest (G.set i (.own (ds ++ [d]))) R O)
    (hN : X.N[i]? = some x := by rfl) (hv : Vis X.env.scope x := by first | exact Or.inl rfl | exact Or.inr (Or.inl rfl) | exact Or.inr (Or.inr rfl)) (hd : (x == ("__debug__" : Str)) = false := by decide) (hcd : (x == ("__classdict__" : Str)) = false := by decide)
    (hbase : attributeBase (.Name x p1) "append" X.env (eval (.Name x p1) X.env) = eval (.Name x p1) X.env := by rfl)
    (hfew : ((backTo cpos (starEach [e] X.env)).all (fun x => !x.1) && (backToKw cpos (keywordEach [] X.env)).all (fun x => x.1.isSome)
      && decide ([e].length + ([] : List Keyword).length + (if ([] : List Keyword).isEmpty then 0 else 1) < 30)) = true := by rfl)
    (hline : (apos.endLine == cpos.line) = true := by rfl) (hse : starEach [e] X.env = [(false, eval e X.env)] := by rfl) (hs : swapsWith (.Call (.Attribute (.Name x p1) "append" apos) [e] [] cpos) none pos.line X.env = pure false := by rfl) :
    Ex X W (.Expr (.Call (.Attribute (.Name x p1) "append" apos) [e] [] cpos) pos :: rest) G R O := fun en A σ H F D st p => by
  refine ⟨_, pss_cons (ps_expr (pe_bm PySem.F.plainAttrs_list PySem.F.slot_list_append PySem.F.type_list_append mt_append (pe_var hN hv hd hcd) pa_t hbase hfew hline hse (by rfl)) hs) pss_t, ?_⟩
  obtain ⟨ow, o, h1, a, vs, rfl, h2, h3, h4, h5, h6, h7⟩ := slot_at st h
  refine ⟨_, h1, .inl ⟨rfl, _, SqL.of h5⟩, ?_⟩
  refine eva_cons he eva_nil hse en A σ H F _ st fun ws H' F' g r => ?_
  obtain ⟨v, e1, r1⟩ := srs1 r
  subst e1
  have st' := st.grow g
  obtain ⟨a', vs', k1, k2, k3, k4⟩ := st'.mut (es := ds ++ [d]) h
  rw [h1] at k1
  cases k1
  have h5' := g.h _ _ h5
  rw [k2] at h5'
  cases h5'
  refine ⟨a, vs, v, rfl, rfl, k2, by rw [h6.length]; exact hl, ?_⟩
  obtain ⟨st2, m2⟩ := k4 (vs ++ [v]) (DnA.append k3 ⟨r1, trivial⟩)
  exact k en A σ _ F' D st2 (p.from (g.mon.trans m2))

/-- return x, x an own list -/
theorem ex_retO (i : Nat) {x : Str} {p1 : Pos} (h : G[i]? = some (.own ds)) (ho : O.rt (.own ds) R) (hN : X.N[i]? = some x := by rfl) (hv : Vis X.env.scope x := by first | exact Or.inl rfl | exact Or.inr (Or.inl rfl) | exact Or.inr (Or.inr rfl)) (hd : (x == ("__debug__" : Str)) = false := by decide)
    (hcd : (x == ("__classdict__" : Str)) = false := by decide) : Ex X W (.Return (some (.Name x p1)) pos :: rest) G R O := fun en A σ H F D st p => by
  refine ⟨_, pss_cons (ps_ret (pe_var hN hv hd hcd)) pss_t, ?_⟩
  obtain ⟨ow, o, h1, a, vs, rfl, h2, h3, h4, h5, h6, h7⟩ := slot_at st h
  refine ⟨_, h1, ?_⟩
  exact p.rt (.own ds) R A _ H F ho st.fin ⟨a, vs, rfl, h7, h3, h5, h6⟩ (fun b e => by cases e; exact h4)
theorem ex_retN (h : O.rt (.d .non) R) : Ex X W (.Return none pos :: rest) G R O := fun en A σ H F D st p =>
  ⟨_, pss_cons ps_retN pss_t, p.rt (.d .non) R A .non H F h st.fin rfl trivial⟩

/-! ### tests -/
theorem ex_if {q : Bool} (hc : Tv X c G R q) (h1 : q = true → Ex X W body G R (O.thn X W rest)) (h2 : q = false → Ex X W orelse G R (O.thn X W rest)) : Ex X W (.If c body orelse pos :: rest) G R O := fun en A σ H F D st p => by
  refine ⟨_, pss_cons (ps_if pt_t pss_t pss_t) pss_t, ?_⟩
  refine hc en A σ H F _ st fun H' F' g => ?_
  cases q with
  | true => exact iteT (h1 rfl en A σ H' F' _ (st.grow g) (p.thn g.mon))
  | false => exact iteF (h2 rfl en A σ H' F' _ (st.grow g) (p.thn g.mon))

/-- both ways meet in M -/
theorem ex_ifM (M : List S → Res → Prop) {q : Bool} (hc : Tv X c G R q) (h1 : q = true → Ex X W body G R { O with nx := M }) (h2 : q = false → Ex X W orelse G R { O with nx := M }) (hr : ∀ G' R', M G' R' → Ex X W rest G' R' O) : Ex X W (.If c body orelse pos :: rest) G R O := by
  have up : ∀ b, Ex X W b G R { O with nx := M } → Ex X W b G R (O.thn X W rest) := fun b h en A σ H F D st p => h en A σ H F D st ⟨p.tk, fun G' R' A' σ' H' F' m s' n => p.nx G' R' A' σ' H' F' (hr G' R' m) s' n, p.rt, p.bk, p.ct⟩
  exact ex_if hc (fun z => up _ (h1 z)) fun z => up _ (h2 z)
/-- both ways meet at one state -/
theorem ex_ifJ (G1 : List S) {q : Bool} (hc : Tv X c G R q) (h1 : q = true → Ex X W body G R { O with nx := fun G' R' => G' = G1 ∧ R' = R }) (h2 : q = false → Ex X W orelse G R { O with nx := fun G' R' => G' = G1 ∧ R' = R }) (hr : Ex X W rest G1 R O) : Ex X W (.If c body orelse pos :: rest) G R O :=
  ex_ifM (fun G' R' => G' = G1 ∧ R' = R) hc h1 h2 fun G' R' h => by obtain ⟨rfl, rfl⟩ := h; exact hr
/-- the test is known -/
theorem ex_ifF (hc : Tv X c G R false) (h : Ex X W orelse G R (O.thn X W rest)) : Ex X W (.If c body orelse pos :: rest) G R O := ex_if hc (fun z => nomatch z) fun _ => h
theorem ex_ifT (hc : Tv X c G R true) (h : Ex X W body G R (O.thn X W rest)) : Ex X W (.If c body orelse pos :: rest) G R O := ex_if hc (fun _ => h) fun z => nomatch z
/-- .. and no else -/
theorem ex_ifN (hc : Tv X c G R false) (h : Ex X W rest G R O) : Ex X W (.If c body [] pos :: rest) G R O := ex_ifF hc (ex_nil h)

/-! ### loops -/
theorem ex_while (I : Nat → List S → Prop) (hp : PassesOwn (model X.prog X.w) X.A X.env X.xe) {n0 : Nat} (h0 : I n0 G)
    (ht : ∀ n G, I n G → ∃ q, Tv X c G R q ∧ (q = true → Ex X W body G R { O with nx := fun G' R' => R' = R ∧ ∃ m, m < n ∧ I m G', ct := fun G' R' => R' = R ∧ ∃ m, m < n ∧ I m G', bk := fun G' R' => Ex X W rest G' R' O }) ∧ (q = false → Ex X W rest G R O)) :
    Ex X W (.While c body [] pos :: rest) G R O := fun en A σ H F D st p => by
  refine ⟨_, pss_cons (ps_while hp pt_t pss_t) pss_t, ?_⟩
  refine ⟨fun m σ' H' => ∃ G' A' F', I m G' ∧ Sta X.K en G' R A' σ' H' F' ∧ Mon H F H' F', ⟨n0, G, A, F, h0, st, Mon.refl⟩, ?_⟩
  rintro m σ1 H1 ⟨G1, A1, F1, i1, st1, m1⟩
  obtain ⟨q, hc, hb, hn⟩ := ht m G1 i1
  refine hc en A1 σ1 H1 F1 _ st1 fun H2 F2 g2 => ?_
  have st2 := st1.grow g2
  cases q with
  | false => exact iteF (hn rfl en A1 σ1 H2 F2 D st2 (p.from (m1.trans g2.mon)))
  | true =>
    refine iteT ⟨fun σ' H' => ∃ k, k < m ∧ ∃ G' A' F', I k G' ∧ Sta X.K en G' R A' σ' H' F' ∧ Mon H F H' F', fun σ' H' h => h, ?_⟩
    refine hb rfl en A1 σ1 H2 F2 _ st2 ⟨(p.from (m1.trans g2.mon)).tk, fun G' R' A' σ' H' F' h s' n => ?_, p.rt, fun G' R' A' σ' H' F' h s' n => ?_, fun G' R' A' σ' H' F' h s' n => ?_⟩
    · obtain ⟨rfl, k, hk, ik⟩ := h
      exact ⟨k, hk, G', A', F', ik, s', (m1.trans g2.mon).trans n⟩
    · exact h en A' σ' H' F' D s' (p.from ((m1.trans g2.mon).trans n))
    · obtain ⟨rfl, k, hk, ik⟩ := h
      exact ⟨k, hk, G', A', F', ik, s', (m1.trans g2.mon).trans n⟩
theorem ex_for (I : Nat → List S → Prop) (hp : PassesOwn (model X.prog X.w) X.A X.env X.xe) (hi : EvI X tg iter G R ds) (h0 : I 0 G)
    (ht : ∀ k d G, ds[k]? = some d → I k G → ∃ G', Tg X tg d G G' ∧ Ex X W body G' R { O with nx := fun G' R' => R' = R ∧ I (k + 1) G', ct := fun G' R' => R' = R ∧ I (k + 1) G', bk := fun G' R' => Ex X W rest G' R' O })
    (hn : ∀ G, I ds.length G → Ex X W rest G R O) (hc : X.calm = true := by rfl) (hs : ∀ x, foldedSetIterable iter X.env x = pure x := by intro _; rfl) :
    Ex X W (.For tg iter body [] pos :: rest) G R O := fun en A σ H F D st p => by
  refine ⟨_, pss_cons (ps_for hp hc pi_t pg_t pss_t hs) pss_t, ?_⟩
  refine hi en A σ H F _ st fun J H1 F1 g1 feed => ?_
  refine ⟨fun i m σ' H' => m = ds.length - i ∧ i ≤ ds.length ∧ ∃ G' A' F', I i G' ∧ Sta X.K en G' R A' σ' H' F' ∧ Mon H1 F1 H' F', ⟨ds.length, by simp, Nat.zero_le _, G, A, F1, h0, st.grow g1, Mon.refl⟩, ?_⟩
  rintro i m σ2 H2 ⟨rfl, hle, G2, A2, F2, i2, st2, m2⟩
  obtain ⟨f1, f2⟩ := feed i H2 F2 m2 st2.fr
  rcases Nat.lt_or_ge i ds.length with hlt | hge
  · have hd : ds[i]? = some ds[i] := List.getElem?_eq_getElem hlt
    obtain ⟨f3, f4⟩ := f2 _ hd
    obtain ⟨G3, ht3, hb⟩ := ht i _ G2 hd i2
    refine .inr ⟨f3, fun σ' H' => ∃ G' A' F', I (i + 1) G' ∧ Sta X.K en G' R A' σ' H' F' ∧ Mon H1 F1 H' F', fun σ' H' h => ⟨ds.length - (i + 1), by omega, rfl, hlt, h⟩, fun x H' y => ?_⟩
    obtain ⟨rfl, hx⟩ := f4 x H' y
    refine ht3 en R A2 σ2 H' F2 x _ st2 hx fun σ3 st3 => ?_
    refine hb en A2 σ3 H' F2 _ st3 ⟨(p.from (g1.mon.trans m2)).tk, fun G' R' A' σ' H' F' h s' n => ?_, p.rt, fun G' R' A' σ' H' F' h s' n => ?_, fun G' R' A' σ' H' F' h s' n => ?_⟩
    · obtain ⟨rfl, ik⟩ := h
      exact ⟨G', A', F', ik, s', m2.trans n⟩
    · exact h en A' σ' H' F' D s' (p.from ((g1.mon.trans m2).trans n))
    · obtain ⟨rfl, ik⟩ := h
      exact ⟨G', A', F', ik, s', m2.trans n⟩
  · have e : i = ds.length := by omega
    subst e
    exact .inl ⟨f1 hge, hn G2 i2 en A2 σ2 H2 F2 D st2 (p.from (g1.mon.trans m2))⟩
end

/-! ### defs -/
inductive Oc where
  | ret (s : S)
  | exc (x : Exn)
/-- a contract: what is known of the arguments, how the call ends -/
abbrev Ct := List S → Oc → Prop
def OcOk (K : PySem.W.Frag) (H : Hp) (F : Fz) (Q : VK) (E : XK) : Oc → Prop
  | .ret r => ∀ v H' F', Grow H F H' F' → SR K r H v H' F' → Q v H'
  | .exc x => ∀ cls d H' F', Grow H F H' F' → ExnOk K F' H' x cls d → E cls d H'
def spD (K : PySem.W.Frag) (C : Ct) : Sp := fun vs H Q E => ∃ (F : Fz) (ss : List S) (oc : Oc), C ss oc ∧ (∀ a, F a → H a ≠ none) ∧ SRs K ss H vs H F ∧ OcOk K H F Q E oc

/-- at the entry -/
theorem slots_start {K : PySem.W.Frag} {H : Hp} {F : Fz} (ow : Addr → Nat) (m : Nat) : ∀ {ss : List S} {vs : List V} (n : Nat), SRs K ss H vs H F →
    ∀ (i : Nat) (s : S), (ss ++ List.replicate m S.any)[i]? = some s → ∃ o, (vs.map some ++ List.replicate m none)[i]? = some o ∧ SlotOk K ⟨H, F, fun _ => False⟩ ow H F (fun _ => False) n s o
  | [], [], n, _, i, s, h => by
    rw [List.nil_append, List.getElem?_replicate] at h
    split at h
    · cases h
      refine ⟨none, ?_, trivial⟩
      rw [List.map_nil, List.nil_append, List.getElem?_replicate, if_pos (by assumption)]
    · cases h
  | [], _ :: _, _, h, _, _, _ => h.elim
  | _ :: _, [], _, h, _, _, _ => h.elim
  | t :: ss, v :: vs, n, h, 0, s, e => by
    have e' : t = s := Option.some.inj e
    subst e'
    refine ⟨some v, rfl, ?_⟩
    have r := h.1
    cases t with
    | any => trivial
    | d x => exact ⟨v, rfl, r⟩
    | own ds =>
      obtain ⟨a, vs, rfl, h2, h3, h4, h5⟩ := r
      rw [h2] at h4; cases h4
    | bor ds =>
      obtain ⟨a, vs, rfl, h4, h5⟩ := r
      exact ⟨a, vs, rfl, h4, fun z => z, h5⟩
    | scr ns =>
      obtain ⟨a, rfl, h4⟩ := r
      exact ⟨a, rfl, h4, fun z => z⟩
    | dic ds =>
      obtain ⟨a, vs, rfl, h2, h3, h4, h5⟩ := r
      rw [h2] at h4; cases h4
    | bdic ds =>
      obtain ⟨a, vs, rfl, h4, h5⟩ := r
      exact ⟨a, vs, rfl, h4, fun z => z, h5⟩
    | bob a l =>
      obtain ⟨rfl, ads, h4⟩ := r
      exact ⟨rfl, ads, h4, fun _ _ z => z⟩
    | ldic a l =>
      obtain ⟨rfl, vs, h4, h5⟩ := r
      exact ⟨rfl, vs, h4, fun z => z, h5⟩
    | exn a dd fs =>
      obtain ⟨rfl, vs, h4, h5⟩ := r
      exact ⟨rfl, fun z => z, vs, h4, h5⟩
  | t :: ss, v :: vs, n, h, i + 1, s, e => slots_start ow m n h.2 i s e

section
variable {P : Program} {w : World} {K : PySem.W.Frag} {mg : Str → Option Value} {base : Heap}
/-- a def keeps its contract -/
theorem fn_mk {x qual : Str} {params : Arguments} {body : List Stmt} {scope : Scope} {dvs : List V} {kws : List (Str × V)} {f : Addr} {fd : FuncData} {N ps : List Str} {k : Nat} {C : Ct} (F : FunD K x qual params body scope dvs kws f fd) (S' : FnScope N ps scope)
    (hlen : ∀ ss oc, C ss oc → ss.length = ps.length)
    (hbody : ∀ (cdv : Value) (A : Around) (outer : List Env) (s : Shared) (H : Hp) (E : XK), Room k (A.deeper (PyProof.Rows.envOfC qual scope s.heap.objs.size f cdv)) →
      PassesOwn (model P w) (A.deeper (PyProof.Rows.envOfC qual scope s.heap.objs.size f cdv)) (PyProof.Rows.envOfC qual scope s.heap.objs.size f cdv) (cxOf (L2.CX P w) P w K mg base N qual scope f cdv A outer s H E).xe → ∀ ss oc, C ss oc →
      Ex (cxOf (L2.CX P w) P w K mg base N qual scope f cdv A outer s H E) (fun x _ _ => oc = .exc x) body (ss ++ List.replicate (N.length - ps.length) S.any) emp { nx := fun _ _ => oc = .ret (.d .non), rt := fun s _ => oc = .ret s }) :
    FnOk P w K mg base (L2.CX P w) (k + 1) f fd ps (spD K C) := by
  have len : ∀ vs H Q E, spD K C vs H Q E → vs.length = ps.length := fun vs H Q E h => by
    obtain ⟨F, ss, oc, h1, h2, h3, h4⟩ := h
    rw [h3.length]
    exact hlen ss oc h1
  refine F.ok S' len fun cdv A outer s H vs Q E hr hsp => ?_
  have hvl := len vs H Q E hsp
  obtain ⟨F, ss, oc, h1, h2, h3, h4⟩ := hsp
  have hl := hlen ss oc h1
  have tk0 : Takes (cxOf (L2.CX P w) P w K mg base N qual scope f cdv A outer s H E) (fun cls d _ H => E cls d H) := takes_of rfl rfl rfl rfl
  have hp : PassesOwn (model P w) (A.deeper (PyProof.Rows.envOfC qual scope s.heap.objs.size f cdv)) (PyProof.Rows.envOfC qual scope s.heap.objs.size f cdv) (cxOf (L2.CX P w) P w K mg base N qual scope f cdv A outer s H E).xe := PassesOwn.leaving
  have st : Sta K ⟨H, F, fun _ => False⟩ (ss ++ List.replicate (N.length - ps.length) S.any) emp (fun _ => False) (start N vs) H F := by
    refine ⟨fun a o h _ => h, fun a h => h, fun a h => h, fun a h => .inl h, h2, fun a h => h.elim, fun a h => h, ?_, fun _ => 0, fun i t ht => ?_⟩
    · unfold L2.start
      rw [List.length_append, List.length_append, List.length_replicate, List.length_replicate, List.length_map, hl, hvl]
    · unfold L2.start
      rw [hvl]
      obtain ⟨o, k1, k2⟩ := slots_start (K := K) (F := F) (fun _ => 0) (N.length - ps.length) 0 h3 i t ht
      refine ⟨o, k1, ?_⟩
      cases t with
      | own ds => obtain ⟨a, vs, z1, z2, z3, z4, z5, z6, z7⟩ := k2; have z7' : H a = none := z7; rw [z7'] at z5; cases z5
      | dic ds => obtain ⟨a, vs, z1, z2, z3, z4, z5, z6, z7⟩ := k2; have z7' : H a = none := z7; rw [z7'] at z5; cases z5
      | any => exact k2
      | d x => exact k2
      | bor x => exact k2
      | scr x => exact k2
      | bdic x => exact k2
      | bob a l => exact k2
      | ldic a l => exact k2
      | exn a dd fs => exact k2
  have fin : ∀ {R A' H' F'}, Fin K ⟨H, F, fun _ => False⟩ R A' H' F' → Grow H F H' F' := fun z => ⟨fun a o h => z.fr a o h fun y => y, z.f0, z.f1, z.ft⟩
  refine ⟨_, pss_t, hbody cdv A outer s H E hr hp ss oc h1 ⟨H, F, fun _ => False⟩ (fun _ => False) (start N vs) H F _ st ⟨tk0.imp fun cls d σ H' hw => ?_, fun G R A' σ H' F' h s' m => ?_, fun s R A' v H' F' h s' r _ => ?_, fun _ _ _ _ _ _ h => h.elim, fun _ _ _ _ _ _ h => h.elim⟩⟩
  · obtain ⟨x, G, R, A', F', rfl, s', hx, _⟩ := hw
    exact h4 cls d H' F' (fin s'.fin) hx
  · have h' : oc = .ret (.d .non) := h
    subst h'
    exact h4 .non H' F' (fin s'.fin) rfl
  · have h' : oc = .ret s := h
    subst h'
    exact h4 v H' F' (fin s') r
end
/-- a def of the module by its contract -/
structure Fn (P : Program) (w : World) (K : PySem.W.Frag) (mg : Str → Option Value) (base : Heap) (x : Str) (k : Nat) (C : Ct) : Prop where
  ex : ∃ (f : Addr) (fd : FuncData) (ps : List Str), FnOk P w K mg base (L2.CX P w) k f fd ps (spD K C) ∧ mg x = some (.ref f) ∧ PySem.W.keepIn K (.ref f) = true ∧ Binds K fd ps []
def S.arg : S → Bool
  | .own _ => false
  | .dic _ => false
  | _ => true
theorem srs_here {K : PySem.W.Frag} {H H' : Hp} {F' : Fz} : ∀ {ss : List S} {vs : List V}, ss.all S.arg = true → SRs K ss H vs H' F' → SRs K ss H' vs H' F'
  | [], [], _, _ => trivial
  | s :: ss, v :: vs, q, h => by
    rw [List.all_cons, Bool.and_eq_true] at q
    refine ⟨?_, srs_here q.2 h.2⟩
    have h1 := h.1
    cases s with
    | own ds => cases q.1
    | dic ds => cases q.1
    | any => trivial
    | d x => exact h1
    | bor x => exact h1
    | scr x => exact h1
    | bdic x => exact h1
    | bob a l => exact h1
    | ldic a l => exact h1
    | exn a dd fs => exact h1
  | [], _ :: _, _, h => h.elim
  | _ :: _, [], _, h => h.elim
section
variable {X : Cx} {W : Exw} {G : List S} {R : Res} {O : Out} {e : Expr} {es : List Expr} {rest : List Stmt} {pos pos' p : Pos} {s : S} {ss : List S} {x : Str} {k j : Nat} {C : Ct}
theorem ev_call (f : Fn X.prog X.w X.K X.mg X.base x k C) (hr : Room j X.A) (hk : k ≤ j) (ha : EvA X (e :: es) G R ss) (h : C ss (.ret s)) (hss : ss.all S.arg = true := by rfl) (hg : Gl X x := by rfl) (hdb : (x == ("__debug__" : Str)) = false := by decide)
    (he : starEach (e :: es) X.env = (false, eval e X.env) :: starEach es X.env := by rfl) (hpl : (backTo pos (starEach es X.env)).any (·.1) = false := by rfl) : Ev X (.Call (.Name x p) (e :: es) [] pos) G R s := by
  intro en A σ H F Q st q
  obtain ⟨f, fd, ps, h1, h2, h3, h4⟩ := f.ex
  refine ⟨_, pe_call h1 (hr.mono hk) hg h2 h3 h4 .nil passL pa_t hdb he hpl, ?_⟩
  refine ha en A σ H F _ st fun vs H1 F1 g1 r1 => ?_
  rw [List.append_nil]
  refine ⟨F1, ss, .ret s, h, g1.t, ?_, fun v H2 F2 g2 r2 => q v H2 F2 (g1.trans g2) (SR.pre g1.nn r2)⟩
  exact srs_here hss r1
end
end DL

namespace DL
open PySem PySem.Spec L2

/-- C() of an own exception class -/
theorem pmk_own0 {X : Cx} {C : Addr} {bmB : List Value} {B newId initId : String} {x : Str} {p pos : Pos} (F : ExcBaseFacts B newId initId bmB) (q : PySem.W.excIn X.K C bmB newId = true) (gC : X.mg x = some (.ref C)) (kC : PySem.W.keepIn X.K (.ref C) = true) (r : Raises X (.ref C)) (hg : Gl X x)
    (hdb : (x == ("__debug__" : Str)) = false := by decide) : PMk X (.Call (.Name x p) [] [] pos) (fun _ H Q => Q (.ref C) none H) := by
  intro pins s σ H Q I h
  refine wpAny_Call_Name_kw (ld_glob I hg gC ?_ hdb)
  refine PySem.W.callWith_K0 I.kIn kC ?_
  show wpAny _ _ (call (.ref C) []) _ _ _
  obtain ⟨bm, N, nm, qn, bs, hdct, sn, sub, ab, col, dd, k0, k1, k2, k3, k5, mN, hC, hN, hni, T⟩ := exc_obj I.kIn q
  refine PySem.wpAny_call_exc_subT F T hC hN hni (fun h' e hm => ?_) (Nat.zero_le _)
  exact mk_of I hm r h (I.hok.gone hm.new)

/-- what the written part says of an own exception class without an __init__ -/
structure ExcC (K : PySem.W.Frag) (mg : Str → Option Value) (x : Str) (C : Addr) : Prop where
  g : mg x = some (.ref C)
  e : PySem.W.excIn K C [.type "ValueError", .type "Exception", .type "BaseException", .type "object"] "ValueError.__new__" = true
  k : PySem.W.keepIn K (.ref C) = true
  b : PySem.W.subIn K (.ref C) (.type "BaseException") = some true
  t : PySem.W.typeIn K (.ref C) = some (.type "type")

section
variable {X : Cx} {W : Exw} {G G' : List S} {R : Res} {O : Out} {e : Expr} {es : List Expr} {rest body : List Stmt} {pos pos' p pos2 : Pos} {s : S} {ss : List S} {x : Str} {k j : Nat} {C : Ct} {xn : Exn}
theorem ex_raise0 {a : Addr} (T : ExcC X.K X.mg x a) (h : W ⟨a, none⟩ G R) (hc : X.calm = true := by rfl) (hg : Gl X x := by rfl) (hdb : (x == ("__debug__" : Str)) = false := by decide) :
    Ex X W (.Raise (some (.Call (.Name x p) [] [] pos2)) none pos :: rest) G R O := fun en A σ H F D st po => by
  refine ⟨_, pss_cons (ps_raise hc po.tk (pmk_own0 PySem.F.excBase_ValueError T.e T.g T.k (raises_own T.b T.t) hg hdb)) pss_t, ?_⟩
  exact ⟨_, G, R, A, F, h, st, ⟨rfl, rfl⟩, Mon.refl⟩

/-! ### a call that raises -/
def EvX (X : Cx) (e : Expr) (G : List S) (R : Res) (xn : Exn) : Prop :=
  ∀ (W : Exw) (en : En) (A : Addr → Prop) (σ : L2.St) (H H0 : Hp) (F F0 : Fz) (Q : VK), Takes X (Wd X.K en H0 F0 W) → Mon H0 F0 H F → Sta X.K en G R A σ H F → W xn G R → tE X e σ H Q
theorem evx_call (f : Fn X.prog X.w X.K X.mg X.base x k C) (hr : Room j X.A) (hk : k ≤ j) (ha : EvA X (e :: es) G R ss) (h : C ss (.exc xn)) (hss : ss.all S.arg = true := by rfl) (hg : Gl X x := by rfl) (hdb : (x == ("__debug__" : Str)) = false := by decide)
    (he : starEach (e :: es) X.env = (false, eval e X.env) :: starEach es X.env := by rfl) (hpl : (backTo pos (starEach es X.env)).any (·.1) = false := by rfl) : EvX X (.Call (.Name x p) (e :: es) [] pos) G R xn := by
  intro W en A σ H H0 F F0 Q tk m st hw
  obtain ⟨f, fd, ps, h1, h2, h3, h4⟩ := f.ex
  refine ⟨_, pe_callS h1 (hr.mono hk) hg h2 h3 h4 (fun σ => passAt tk σ) pa_t hdb he hpl, ?_⟩
  refine ha en A σ H F _ st fun vs H1 F1 g1 r1 => ?_
  refine ⟨F1, ss, .exc xn, h, g1.t, srs_here hss r1, fun cls d H2 F2 g2 hx => ?_⟩
  have g := g1.trans g2
  exact ⟨xn, G, R, A, F2, hw, st.grow g, hx, m.trans g.mon⟩
theorem ex_retX (he : EvX X e G R xn) (h : W xn G R) : Ex X W (.Return (some e) pos :: rest) G R O := fun en A σ H F D st po => by
  refine ⟨_, pss_cons (ps_ret pe_t) pss_t, ?_⟩
  exact he W en A σ H H F F _ po.tk Mon.refl st h
theorem ex_exprX (he : EvX X e G R xn) (h : W xn G R) (hs : swapsWith e none pos.line X.env = pure false := by rfl) : Ex X W (.Expr e pos :: rest) G R O := fun en A σ H F D st po => by
  refine ⟨_, pss_cons (ps_expr pe_t hs) pss_t, ?_⟩
  exact he W en A σ H H F F _ po.tk Mon.refl st h
theorem ex_setX (i : Nat) (he : EvX X e G R xn) (h : W xn G R) (hN : X.N.Nodup) (hi : X.N[i]? = some x := by rfl) (hx : Loc X.env.scope x := by first | exact Or.inl rfl | exact Or.inr rfl)
    (hf : X.fn x = true ∨ X.env.scope.names.lookup x = some .local := by first | exact .inl rfl | exact .inr rfl) (hw : swapsWith e (some (.Name x pos')) pos.line X.env = pure false := by rfl) : Ex X W (.Assign [.Name x pos'] e pos :: rest) G R O := fun en A σ H F D st po => by
  refine ⟨_, pss_cons (ps_set hN hi hx pe_t hw hf) pss_t, ?_⟩
  exact he W en A σ H H F F _ po.tk Mon.refl st h

/-! ### try -/
theorem takes_no {X : Cx} {en : En} {H : Hp} {F : Fz} : Takes X (Wd X.K en H F (fun _ _ _ => False)) := by
  refine takes0.imp fun cls d σ H' h => ?_
  obtain ⟨_, _, _, _, _, h, _⟩ := h
  exact h
/-- try: body except C: suite (one clause, no name) -/
theorem ex_try {c : Addr} {b0 : Stmt} {suite : List Stmt} {np pos' : Pos} (hn : Names X x (.ref c))
    (hb : ∀ (pn : List (Addr × Obj)) (xe : Value → Shared → Prop), PassesOwn (model X.prog X.w) X.A X.env xe →
      Ex (X.tr pn xe) (fun xn G' R' => ∃ b, PySem.W.exmOne X.K (.ref xn.cls) (.ref c) = some b ∧
        (b = true → ∀ (a : Addr) (oe : Obj) (pn : List (Addr × Obj)), Ex (X.suite a ((a, oe) :: pn)) (fun _ _ _ => False) (b0 :: suite) G' R' (O.thn X W rest)) ∧ (b = false → W xn G' R')) body G R (O.thn X W rest))
    (hs : X.stack = X.env :: X.outer := by rfl) (hf : X.env.frame = some X.env.locals := by rfl) :
    Ex X W (.Try body [.ExceptHandler (some (.Name x np)) none (b0 :: suite) pos'] [] [] pos :: rest) G R O := fun en A σ H F D st po => by
  refine ⟨_, pss_cons (ps_try_many (tb := fun W' D σ H => ∀ (pn : List (Addr × Obj)) (xe : Value → Shared → Prop), Takes (X.tr pn xe) W' → PassesOwn (model X.prog X.w) X.A X.env xe → tSs (X.tr pn xe) body D σ H)
    (l := [(.ref c, fun a cls d D σ H => ∀ (oe : Obj) (pn : List (Addr × Obj)), Zc cls d oe → (∃ vs, oe.data = .fields vs) → tSs (X.suite a ((a, oe) :: pn)) (b0 :: suite) D σ H)])
    hs hf po.tk (fun W' pn xe tk hp => ⟨fun pins s σ H D I h => pss_t.run pins s σ H D I (h pn xe tk hp)⟩)
    (.cons hn (fun a oe cls d pn z1 z2 => ⟨fun pins s σ H D I h => pss_t.run pins s σ H D I (h oe pn z1 z2)⟩) .nil)) pss_t, ?_⟩
  intro pn xe tk hp
  have po' := po.thn (rest := rest) Mon.refl
  refine hb pn xe hp en A σ H F _ st ⟨tk.imp fun cls d σ' H' hw => ?_, po'.nx, po'.rt, po'.bk, po'.ct⟩
  obtain ⟨xn, G', R', A', F', ⟨b, hb1, hb2, hb3⟩, st', ⟨hx1, hx2⟩, m⟩ := hw
  refine ⟨b, by rw [hx1]; exact hb1, fun e a ha oe pn' z1 z2 => ?_, fun e => ?_⟩
  · have po2 := po.thn (rest := rest) m
    exact hb2 e a oe pn' en A' σ' H' F' _ st' ⟨takes_no, po2.nx, po2.rt, po2.bk, po2.ct⟩
  · exact ⟨xn, G', R', A', F', hb3 e, st', ⟨hx1, hx2⟩, m⟩
theorem ex_tryM (Z : Exn → List S → Res → Prop) (M : List S → Res → Prop) {c : Addr} {b0 : Stmt} {suite : List Stmt} {np pos' : Pos} (hn : Names X x (.ref c))
    (hb : ∀ (pn : List (Addr × Obj)) (xe : Value → Shared → Prop), PassesOwn (model X.prog X.w) X.A X.env xe → Ex (X.tr pn xe) Z body G R { O with nx := M })
    (hh : ∀ xn G' R', Z xn G' R' → ∃ b, PySem.W.exmOne X.K (.ref xn.cls) (.ref c) = some b ∧
        (b = true → ∀ (a : Addr) (oe : Obj) (pn : List (Addr × Obj)), Ex (X.suite a ((a, oe) :: pn)) (fun _ _ _ => False) (b0 :: suite) G' R' { O with nx := M }) ∧ (b = false → W xn G' R'))
    (hr : ∀ G' R', M G' R' → Ex X W rest G' R' O)
    (hs : X.stack = X.env :: X.outer := by rfl) (hf : X.env.frame = some X.env.locals := by rfl) :
    Ex X W (.Try body [.ExceptHandler (some (.Name x np)) none (b0 :: suite) pos'] [] [] pos :: rest) G R O := by
  refine ex_try hn (fun pn xe hp => ?_) hs hf
  intro en A σ H F D st p
  refine hb pn xe hp en A σ H F D st ⟨p.tk.imp fun cls d σ' H' hw => ?_, fun G' R' A' σ' H' F' m s' n => p.nx G' R' A' σ' H' F' (hr G' R' m) s' n, p.rt, p.bk, p.ct⟩
  obtain ⟨xn, G', R', A', F', hz, r⟩ := hw
  obtain ⟨b, h1, h2, h3⟩ := hh xn G' R' hz
  refine ⟨xn, G', R', A', F', ⟨b, h1, fun z a oe pn' => ?_, h3⟩, r⟩
  intro en' A2 σ2 H2 F2 D2 st2 p2
  exact h2 z a oe pn' en' A2 σ2 H2 F2 D2 st2 ⟨p2.tk, fun G' R' A' σ' H' F' m s' n => p2.nx G' R' A' σ' H' F' (hr G' R' m) s' n, p2.rt, p2.bk, p2.ct⟩
end
end DL

namespace DL
open PySem PySem.Spec L2
section
variable {X : Cx} {G : List S} {R : Res} {a b : Expr} {pos : Pos} {i j : Int}
theorem ro_eqI {K : PySem.W.Frag} : RO K rEq (.d (.int i)) (.d (.int j)) (.d (.bl (decide (i = j)))) := fun H0 x y H F Q ft hx hy k => by
  have hx' : x = .int i := hx
  have hy' : y = .int j := hy
  subst hx' hy'
  refine ⟨rfl, k _ H F (Grow.refl ft) ?_⟩
  show V.bl _ = V.bl _
  rw [dec_int, Bool.beq_eq_decide_eq]
theorem ro_neI {K : PySem.W.Frag} : RO K rNe (.d (.int i)) (.d (.int j)) (.d (.bl (!decide (i = j)))) := fun H0 x y H F Q ft hx hy k => by
  have hx' : x = .int i := hx
  have hy' : y = .int j := hy
  subst hx' hy'
  refine ⟨rfl, k _ H F (Grow.refl ft) ?_⟩
  show V.bl _ = V.bl _
  rw [dec_int, Bool.beq_eq_decide_eq]
theorem ro_eqS {K : PySem.W.Frag} {x1 x2 : Str} : RO K rEq (.d (.str x1)) (.d (.str x2)) (.d (.bl (decide (x1 = x2)))) := fun H0 x y H F Q ft hx hy k => by
  have hx' : x = .str x1 := hx
  have hy' : y = .str x2 := hy
  subst hx' hy'
  refine ⟨rfl, k _ H F (Grow.refl ft) ?_⟩
  show V.bl _ = V.bl _
  by_cases e : x1 = x2
  · rw [decide_eq_true e, decide_eq_true (by rw [e])]
  · rw [decide_eq_false e, decide_eq_false (fun z => e (by cases z; rfl))]
theorem ro_neS {K : PySem.W.Frag} {x1 x2 : Str} : RO K rNe (.d (.str x1)) (.d (.str x2)) (.d (.bl (!decide (x1 = x2)))) := fun H0 x y H F Q ft hx hy k => by
  have hx' : x = .str x1 := hx
  have hy' : y = .str x2 := hy
  subst hx' hy'
  refine ⟨rfl, k _ H F (Grow.refl ft) ?_⟩
  show V.bl _ = V.bl _
  by_cases e : x1 = x2
  · rw [decide_eq_true e, decide_eq_true (by rw [e])]
  · rw [decide_eq_false e, decide_eq_false (fun z => e (by cases z; rfl))]
theorem tv_eqI (ha : Ev X a G R (.d (.int i))) (hb : Ev X b G R (.d (.int j))) : Tv X (.Compare a [.Eq] [b] pos) G R (decide (i = j)) := tv_cmpR op_eq ro_eqI ha hb (nomark _)
theorem tv_neI (ha : Ev X a G R (.d (.int i))) (hb : Ev X b G R (.d (.int j))) : Tv X (.Compare a [.NotEq] [b] pos) G R (!decide (i = j)) := tv_cmpR op_ne ro_neI ha hb (nomark _)
theorem ev_eqI (ha : Ev X a G R (.d (.int i))) (hb : Ev X b G R (.d (.int j))) : Ev X (.Compare a [.Eq] [b] pos) G R (.d (.bl (decide (i = j)))) := ev_cmpR op_eq ro_eqI ha hb (nomark _)
theorem ev_neI (ha : Ev X a G R (.d (.int i))) (hb : Ev X b G R (.d (.int j))) : Ev X (.Compare a [.NotEq] [b] pos) G R (.d (.bl (!decide (i = j)))) := ev_cmpR op_ne ro_neI ha hb (nomark _)
theorem tv_eqS {x1 x2 : Str} (ha : Ev X a G R (.d (.str x1))) (hb : Ev X b G R (.d (.str x2))) : Tv X (.Compare a [.Eq] [b] pos) G R (decide (x1 = x2)) := tv_cmpR op_eq ro_eqS ha hb (nomark _)
theorem tv_neS {x1 x2 : Str} (ha : Ev X a G R (.d (.str x1))) (hb : Ev X b G R (.d (.str x2))) : Tv X (.Compare a [.NotEq] [b] pos) G R (!decide (x1 = x2)) := tv_cmpR op_ne ro_neS ha hb (nomark _)

/-! ### data at any depth -/
mutual
def D.py : D → PyData
  | .non => .none
  | .bl b => .bool b
  | .int i => .int i
  | .str x => .str x
  | .obj _ => .none
  | .tup ds => .tuple (D.pys ds)
  | .lst ds => .list (D.pys ds)
def D.pys : List D → List PyData
  | [] => []
  | d :: ds => d.py :: D.pys ds
end
mutual
/-- no instances in it -/
def D.pure : D → Bool
  | .obj _ => false
  | .tup ds => D.pures ds
  | .lst ds => D.pures ds
  | _ => true
def D.pures : List D → Bool
  | [] => true
  | d :: ds => d.pure && D.pures ds
end
mutual
/-- no truth values in it either -/
def D.nb : D → Bool
  | .obj _ => false
  | .bl _ => false
  | .tup ds => D.nbs ds
  | .lst ds => D.nbs ds
  | _ => true
def D.nbs : List D → Bool
  | [] => true
  | d :: ds => d.nb && D.nbs ds
end
mutual
theorem D.nb_pure : ∀ d : D, d.nb = true → d.pure = true
  | .non, _ => rfl
  | .bl _, h => by cases h
  | .int _, _ => rfl
  | .str _, _ => rfl
  | .obj _, h => by cases h
  | .tup ds, h => D.nbs_pures ds h
  | .lst ds, h => D.nbs_pures ds h
theorem D.nbs_pures : ∀ ds : List D, D.nbs ds = true → D.pures ds = true
  | [], _ => rfl
  | d :: ds, h => by
    have h' : (d.nb && D.nbs ds) = true := h
    rw [Bool.and_eq_true] at h'
    show (d.pure && D.pures ds) = true
    rw [D.nb_pure d h'.1, D.nbs_pures ds h'.2]
    rfl
end
mutual
theorem Dn.dp {K : PySem.W.Frag} {F : Fz} {H : Hp} : ∀ (d : D) (v : V), d.pure = true → Dn K F H d v → Dp K H v d.py
  | .non, v, _, h => by have h' : v = .non := h; subst h'; exact .non
  | .bl b, v, _, h => by have h' : v = .bl b := h; subst h'; exact .bl b
  | .int b, v, _, h => by have h' : v = .int b := h; subst h'; exact .int b
  | .str b, v, _, h => by have h' : v = .str b := h; subst h'; exact .str b
  | .obj _, v, h, _ => by cases h
  | .tup ds, v, p, h => by
    obtain ⟨a, vs, rfl, h1, h2⟩ := h
    exact .tup h1 (DnA.dp ds vs p h2)
  | .lst ds, v, p, h => by
    obtain ⟨a, vs, rfl, _, h1, h2⟩ := h
    exact .lst (SqL.of h1) (DnA.dp ds vs p h2)
theorem DnA.dp {K : PySem.W.Frag} {F : Fz} {H : Hp} : ∀ (ds : List D) (vs : List V), D.pures ds = true → DnA K F H ds vs → DpAll K H vs (D.pys ds)
  | [], [], _, _ => .nil
  | d :: ds, v :: vs, p, h => by
    have p' : (d.pure && D.pures ds) = true := p
    rw [Bool.and_eq_true] at p'
    exact .cons (Dn.dp d v p'.1 h.1) (DnA.dp ds vs p'.2 h.2)
  | [], _ :: _, _, h => h.elim
  | _ :: _, [], _, h => h.elim
end
mutual
theorem D.eqv_iff : ∀ d e : D, d.nb = true → e.nb = true → (PyData.eqv d.py e.py = true ↔ d = e)
  | .non, e, _, he => by cases e <;> simp_all [D.py, PyData.eqv, D.nb]
  | .bl _, _, h, _ => by cases h
  | .int i, e, _, he => by cases e <;> simp_all [D.py, PyData.eqv, D.nb]
  | .str i, e, _, he => by cases e <;> simp_all [D.py, PyData.eqv, D.nb]
  | .obj _, _, h, _ => by cases h
  | .tup ds, e, hd, he => by
    cases e with
    | tup es => 
      have q := D.eqvs_iff ds es hd he
      simp only [D.py, PyData.eqv, D.tup.injEq]
      exact q
    | _ => simp_all [D.py, PyData.eqv, D.nb]
  | .lst ds, e, hd, he => by
    cases e with
    | lst es => 
      have q := D.eqvs_iff ds es hd he
      simp only [D.py, PyData.eqv, D.lst.injEq]
      exact q
    | _ => simp_all [D.py, PyData.eqv, D.nb]
theorem D.eqvs_iff : ∀ ds es : List D, D.nbs ds = true → D.nbs es = true → (PyData.eqvAll (D.pys ds) (D.pys es) = true ↔ ds = es)
  | [], [], _, _ => by simp [D.pys, PyData.eqvAll]
  | [], _ :: _, _, _ => by simp [D.pys, PyData.eqvAll]
  | _ :: _, [], _, _ => by simp [D.pys, PyData.eqvAll]
  | d :: ds, e :: es, hd, he => by
    have hd' : (d.nb && D.nbs ds) = true := hd
    have he' : (e.nb && D.nbs es) = true := he
    rw [Bool.and_eq_true] at hd' he'
    have q1 := D.eqv_iff d e hd'.1 he'.1
    have q2 := D.eqvs_iff ds es hd'.2 he'.2
    simp only [D.pys, PyData.eqvAll, Bool.and_eq_true, q1, q2, List.cons.injEq]
end
mutual
/-- the depth is at most n, the texts are fit for == -/
def D.shp : Nat → D → Bool
  | _, .non => true
  | _, .bl _ => true
  | _, .int _ => true
  | _, .str x => PyData.canLay0 (.str x)
  | _, .obj _ => true
  | 0, .tup _ => false
  | 0, .lst _ => false
  | n + 1, .tup ds => D.shps n ds
  | n + 1, .lst ds => D.shps n ds
def D.shps : Nat → List D → Bool
  | _, [] => true
  | n, d :: ds => D.shp n d && D.shps n ds
end
mutual
theorem D.shp_ok : ∀ (n : Nat) (d : D), d.shp n = true → d.py.canLay0 = true ∧ d.py.depth ≤ n
  | _, .non, _ => ⟨rfl, by simp [D.py, PyData.depth]⟩
  | _, .bl _, _ => ⟨rfl, by simp [D.py, PyData.depth]⟩
  | _, .int _, _ => ⟨rfl, by simp [D.py, PyData.depth]⟩
  | _, .str x, h => ⟨h, by simp [D.py, PyData.depth]⟩
  | _, .obj _, _ => ⟨rfl, by simp [D.py, PyData.depth]⟩
  | 0, .tup _, h => by cases h
  | 0, .lst _, h => by cases h
  | n + 1, .tup ds, h => by
    obtain ⟨h1, h2⟩ := D.shps_ok n ds h
    exact ⟨by simpa [D.py, PyData.canLay0] using h1, by simp [D.py, PyData.depth]; omega⟩
  | n + 1, .lst ds, h => by
    obtain ⟨h1, h2⟩ := D.shps_ok n ds h
    exact ⟨by simpa [D.py, PyData.canLay0] using h1, by simp [D.py, PyData.depth]; omega⟩
theorem D.shps_ok : ∀ (n : Nat) (ds : List D), D.shps n ds = true → PyData.canLayAll0 (D.pys ds) = true ∧ PyData.depthAll (D.pys ds) ≤ n
  | _, [], _ => ⟨by simp [D.pys, PyData.canLayAll0], by simp [D.pys, PyData.depthAll]⟩
  | n, d :: ds, h => by
    have h' : (D.shp n d && D.shps n ds) = true := by cases n <;> exact h
    rw [Bool.and_eq_true] at h'
    obtain ⟨h1, h2⟩ := D.shp_ok n d h'.1
    obtain ⟨h3, h4⟩ := D.shps_ok n ds h'.2
    exact ⟨by simp [D.pys, PyData.canLayAll0, h1, h3], by simp [D.pys, PyData.depthAll]; omega⟩
end
theorem D.shaped {n : Nat} {d : D} (h : d.shp n = true) (hn : n ≤ 64) : SeqAt.shaped d.py = true := by
  obtain ⟨h1, h2⟩ := D.shp_ok n d h
  unfold SeqAt.shaped
  rw [h1, Bool.true_and]
  exact decide_eq_true (by omega)
/-- == of data: (d = e) as a truth value -/
noncomputable def D.eq (d e : D) : Bool := @decide (d = e) (Classical.propDecidable _)
theorem D.eq_true {d e : D} (h : d = e) : D.eq d e = true := by unfold D.eq; exact @decide_eq_true _ (Classical.propDecidable _) h
theorem D.eq_false {d e : D} (h : ¬ d = e) : D.eq d e = false := by unfold D.eq; exact @decide_eq_false _ (Classical.propDecidable _) h
theorem D.eq_iff {d e : D} : D.eq d e = true ↔ d = e := by unfold D.eq; exact @decide_eq_true_iff _ (Classical.propDecidable _)
/-- fit to be compared -/
structure D.Fit (d : D) : Prop where
  nb : d.nb = true
  sh : ∃ n, n ≤ 64 ∧ d.shp n = true
theorem D.eqv_eq {d e : D} (hd : d.Fit) (he : e.Fit) : PyData.eqv d.py e.py = D.eq d e := by
  have q := D.eqv_iff d e hd.nb he.nb
  by_cases h : d = e
  · rw [D.eq_true h, q.mpr h]
  · rw [D.eq_false h]
    cases z : PyData.eqv d.py e.py with
    | false => rfl
    | true => exact absurd (q.mp z) h
theorem ro_eqD {K : PySem.W.Frag} {d e : D} (hd : d.Fit) (he : e.Fit) : RO K (rEqD K) (.d d) (.d e) (.d (.bl (D.eq d e))) := fun H0 x y H F Q ft hx hy k => by
  obtain ⟨n, h1, h2⟩ := hd.sh
  obtain ⟨m, h3, h4⟩ := he.sh
  exact ⟨d.py, e.py, Dn.dp d x (D.nb_pure d hd.nb) hx, Dn.dp e y (D.nb_pure e he.nb) hy, D.shaped h2 h1, D.shaped h4 h3, k _ H F (Grow.refl ft) (by rw [D.eqv_eq hd he]; rfl)⟩
theorem ro_neD {K : PySem.W.Frag} {d e : D} (hd : d.Fit) (he : e.Fit) : RO K (rNeD K) (.d d) (.d e) (.d (.bl (!D.eq d e))) := fun H0 x y H F Q ft hx hy k => by
  obtain ⟨n, h1, h2⟩ := hd.sh
  obtain ⟨m, h3, h4⟩ := he.sh
  exact ⟨d.py, e.py, Dn.dp d x (D.nb_pure d hd.nb) hx, Dn.dp e y (D.nb_pure e he.nb) hy, D.shaped h2 h1, D.shaped h4 h3, k _ H F (Grow.refl ft) (by rw [D.eqv_eq hd he]; rfl)⟩
variable {d e : D} {r : Nat}
theorem tv_eqD (hu : Room r X.A) (hd : d.Fit) (he : e.Fit) (ha : Ev X a G R (.d d)) (hb : Ev X b G R (.d e)) : Tv X (.Compare a [.Eq] [b] pos) G R (D.eq d e) := tv_cmpR (op_eqD hu.units) (ro_eqD hd he) ha hb (nomark _)
theorem tv_neD (hu : Room r X.A) (hd : d.Fit) (he : e.Fit) (ha : Ev X a G R (.d d)) (hb : Ev X b G R (.d e)) : Tv X (.Compare a [.NotEq] [b] pos) G R (!D.eq d e) := tv_cmpR (op_neD hu.units) (ro_neD hd he) ha hb (nomark _)
theorem tv_eqD_t (hu : Room r X.A) (hd : d.Fit) (he : e.Fit) (h : d = e) (ha : Ev X a G R (.d d)) (hb : Ev X b G R (.d e)) : Tv X (.Compare a [.Eq] [b] pos) G R true := D.eq_true h ▸ tv_eqD hu hd he ha hb
theorem tv_eqD_f (hu : Room r X.A) (hd : d.Fit) (he : e.Fit) (h : ¬ d = e) (ha : Ev X a G R (.d d)) (hb : Ev X b G R (.d e)) : Tv X (.Compare a [.Eq] [b] pos) G R false := D.eq_false h ▸ tv_eqD hu hd he ha hb
theorem tv_neD_f (hu : Room r X.A) (hd : d.Fit) (he : e.Fit) (h : d = e) (ha : Ev X a G R (.d d)) (hb : Ev X b G R (.d e)) : Tv X (.Compare a [.NotEq] [b] pos) G R false := tv_eq (tv_neD hu hd he ha hb) (by rw [D.eq_true h]; rfl)
theorem tv_neD_t (hu : Room r X.A) (hd : d.Fit) (he : e.Fit) (h : ¬ d = e) (ha : Ev X a G R (.d d)) (hb : Ev X b G R (.d e)) : Tv X (.Compare a [.NotEq] [b] pos) G R true := tv_eq (tv_neD hu hd he ha hb) (by rw [D.eq_false h]; rfl)
theorem ev_eqD (hu : Room r X.A) (hd : d.Fit) (he : e.Fit) (ha : Ev X a G R (.d d)) (hb : Ev X b G R (.d e)) : Ev X (.Compare a [.Eq] [b] pos) G R (.d (.bl (D.eq d e))) := ev_cmpR (op_eqD hu.units) (ro_eqD hd he) ha hb (nomark _)
theorem ev_neD (hu : Room r X.A) (hd : d.Fit) (he : e.Fit) (ha : Ev X a G R (.d d)) (hb : Ev X b G R (.d e)) : Ev X (.Compare a [.NotEq] [b] pos) G R (.d (.bl (!D.eq d e))) := ev_cmpR (op_neD hu.units) (ro_neD hd he) ha hb (nomark _)
end
end DL

namespace DL
open PySem PySem.Spec L2

abbrev ratD (r : Rat) : D := .tup [.int r.num, .int r.den]
theorem ratD_inj {a b : Rat} (h : ratD a = ratD b) : a = b := by
  injection h with h
  injection h with h1 h2
  injection h2 with h2 _
  injection h1 with h1
  injection h2 with h2
  exact Rat.ext h1 (by omega)
theorem ratD_iff {a b : Rat} : ratD a = ratD b ↔ a = b := ⟨ratD_inj, fun h => by rw [h]⟩
theorem ratD_fit (r : Rat) : (ratD r).Fit := ⟨rfl, 1, by decide, rfl⟩

/-- above and below less than 2 ^ n -/
class Bd (n : outParam Nat) (r : Rat) : Prop where
  num : r.num.natAbs < 2 ^ n
  den : r.den < 2 ^ n
theorem pow_mono {n m : Nat} (h : n ≤ m) : 2 ^ n ≤ 2 ^ m := Nat.pow_le_pow_right (by decide) h
theorem Bd.mono {n m : Nat} {r : Rat} (b : Bd n r) (h : n ≤ m) : Bd m r := ⟨Nat.lt_of_lt_of_le b.num (pow_mono h), Nat.lt_of_lt_of_le b.den (pow_mono h)⟩
theorem natAbs_ediv_le (t : Int) (g : Nat) : (t / (g : Int)).natAbs ≤ t.natAbs := by
  rcases Nat.eq_zero_or_pos g with h | h
  · subst h; simp
  · rcases Int.lt_or_le t 0 with ht | ht
    · have h1 : t ≤ t / (g : Int) := by
        rw [Int.le_ediv_iff_mul_le (by omega)]
        have : t * (g : Int) ≤ t * 1 := Int.mul_le_mul_of_nonpos_left (by omega) (by omega)
        omega
      have h2 : t / (g : Int) < 0 := Int.ediv_neg_of_neg_of_pos ht (by omega)
      omega
    · have h1 : t / (g : Int) ≤ t := Int.ediv_le_self _ ht
      have h2 : 0 ≤ t / (g : Int) := Int.ediv_nonneg ht (by omega)
      omega
theorem bd_divInt {t b : Int} {n : Nat} (ht : t.natAbs < 2 ^ n) (hb : b.natAbs < 2 ^ n) (h0 : 0 < n) : Bd n (Rat.divInt t b) := by
  refine ⟨?_, ?_⟩
  · rw [Rat.num_divInt]
    refine Nat.lt_of_le_of_lt (natAbs_ediv_le _ _) ?_
    rw [Int.natAbs_mul]
    have h2 : b.sign.natAbs ≤ 1 := by
      rcases Int.lt_trichotomy b 0 with h | h | h
      · rw [Int.sign_eq_neg_one_of_neg h]; decide
      · rw [h]; decide
      · rw [Int.sign_eq_one_of_pos h]; decide
    have := Nat.mul_le_mul_right t.natAbs h2
    omega
  · rw [Rat.den_divInt]
    have h1 : 1 < 2 ^ n := Nat.one_lt_two_pow (by omega)
    split
    · exact h1
    · exact Nat.lt_of_le_of_lt (Nat.div_le_self _ _) hb
theorem divInt_pos {t b : Int} (hb : 0 < b) : ratD (Rat.divInt t b) = .tup [.int (t / (Nat.gcd t.natAbs b.natAbs : Nat)), .int (b / (Nat.gcd t.natAbs b.natAbs : Nat))] := by
  have e : b.gcd t = Nat.gcd t.natAbs b.natAbs := by rw [Int.gcd, Nat.gcd_comm]
  unfold ratD
  rw [Rat.num_divInt, Rat.den_divInt, if_neg (by omega), e, Int.sign_eq_one_of_pos hb, Int.one_mul]
  have : (((b.natAbs / Nat.gcd t.natAbs b.natAbs : Nat)) : Int) = b / (Nat.gcd t.natAbs b.natAbs : Nat) := by
    rw [Int.natCast_ediv]
    congr 1
    omega
  rw [this]
theorem rat_add (a b : Rat) : Rat.divInt (a.num * b.den + b.num * a.den) (a.den * b.den) = a + b := by
  rw [Rat.add_def', ← Rat.divInt_ofNat]
  rfl
theorem rat_sub (a b : Rat) : Rat.divInt (a.num * b.den - b.num * a.den) (a.den * b.den) = a - b := by
  rw [Rat.sub_def', ← Rat.divInt_ofNat]
  rfl
theorem rat_mul (a b : Rat) : Rat.divInt (a.num * b.num) (a.den * b.den) = a * b := by
  rw [Rat.mul_def', ← Rat.divInt_ofNat]
  rfl
theorem rat_div (a b : Rat) : Rat.divInt (a.num * b.den) (a.den * b.num) = a / b := by
  rw [Rat.div_def, Rat.inv_def]
  conv => rhs; rw [← Rat.num_divInt_den a]
  rw [Rat.divInt_mul_divInt]
theorem den_pos (a : Rat) : 0 < (a.den : Int) := by have := a.den_nz; omega
theorem mul_lt_pow {i j : Int} {n m : Nat} (hi : i.natAbs < 2 ^ n) (hj : j.natAbs < 2 ^ m) : (i * j).natAbs < 2 ^ (n + m) := by
  rw [Int.natAbs_mul, Nat.pow_add]
  exact Nat.mul_lt_mul'' hi hj
section
variable {a b : Rat} {n m : Nat}
theorem Bd.den' (h : Bd n a) : (a.den : Int).natAbs < 2 ^ n := by rw [Int.natAbs_natCast]; exact h.den
theorem Bd.pos (h : Bd n a) : 0 < n := by
  rcases Nat.eq_zero_or_pos n with e | e
  · have h1 := h.den
    rw [e] at h1
    have := a.den_nz
    omega
  · exact e
theorem addn_lt {n m : Nat} {i j : Int} (hi : i.natAbs < 2 ^ n) (hj : j.natAbs < 2 ^ n) : (i + j).natAbs < 2 ^ (n + 1) := by
  rw [Nat.pow_succ]; omega
theorem subn_lt {n m : Nat} {i j : Int} (hi : i.natAbs < 2 ^ n) (hj : j.natAbs < 2 ^ n) : (i - j).natAbs < 2 ^ (n + 1) := by
  rw [Nat.pow_succ]; omega
instance (priority := low) Bd.add [ha : Bd n a] [hb : Bd m b] : Bd (n + m + 1) (a + b) := by
  rw [← rat_add]
  refine bd_divInt ?_ ?_ (by omega)
  · exact addn_lt (m := 0) (mul_lt_pow ha.num hb.den') (by rw [Nat.add_comm n m]; exact mul_lt_pow hb.num ha.den')
  · exact Nat.lt_of_lt_of_le (mul_lt_pow ha.den' hb.den') (pow_mono (by omega))
instance (priority := low) Bd.sub [ha : Bd n a] [hb : Bd m b] : Bd (n + m + 1) (a - b) := by
  rw [← rat_sub]
  refine bd_divInt ?_ ?_ (by omega)
  · exact subn_lt (m := 0) (mul_lt_pow ha.num hb.den') (by rw [Nat.add_comm n m]; exact mul_lt_pow hb.num ha.den')
  · exact Nat.lt_of_lt_of_le (mul_lt_pow ha.den' hb.den') (pow_mono (by omega))
instance (priority := low) Bd.mul [ha : Bd n a] [hb : Bd m b] : Bd (n + m) (a * b) := by
  rw [← rat_mul]
  have := ha.pos
  exact bd_divInt (mul_lt_pow ha.num hb.num) (mul_lt_pow ha.den' hb.den') (by omega)
instance (priority := low) Bd.div [ha : Bd n a] [hb : Bd m b] : Bd (n + m) (a / b) := by
  rw [← rat_div]
  have := ha.pos
  exact bd_divInt (mul_lt_pow ha.num hb.den') (mul_lt_pow ha.den' hb.num) (by omega)
instance Bd.zero : Bd 1 (0 : Rat) := ⟨by decide, by decide⟩
instance Bd.one : Bd 1 (1 : Rat) := ⟨by decide, by decide⟩
instance Bd.two : Bd 2 (2 : Rat) := ⟨by decide, by decide⟩
end
/-- the order, as compare tells it -/
def cmpR (a b : Rat) : Int := if a < b then -1 else if b < a then 1 else 0
theorem cmpR_lt {a b : Rat} : cmpR a b < 0 ↔ a < b := by
  unfold cmpR; split
  · simp [*]
  · split <;> simp [*]
theorem cmpR_gt {a b : Rat} : 0 < cmpR a b ↔ b < a := by
  unfold cmpR; split
  · have : ¬ b < a := by grind
    simp [*]
  · split <;> simp [*]
theorem cmpR_eq {a b : Rat} : cmpR a b = 0 ↔ a = b := by
  unfold cmpR; split
  · have : ¬ a = b := by grind
    simp [*]
  · split
    · have : ¬ a = b := by grind
      simp [*]
    · have : a = b := by grind
      simp [*]
end DL

namespace DL
open PySem PySem.Spec L2
/-- the law's contract -/
def C_law : Ct := fun ss oc => ∃ ns : List Int, ns.length ≤ 63 ∧ ss = [.scr ns] ∧ oc = .ret (.d (.bl true))
theorem law_sp {K : PySem.W.Frag} {H : Hp} {a : Addr} {ns : List Int} (hl : ns.length ≤ 63) (hS : SqL K H a (ns.map V.int)) : spD K C_law [.ref a] H (fun v _ => v = .bl true) fun _ _ _ => False :=
  ⟨fun _ => False, [.scr ns], .ret (.d (.bl true)), ⟨ns, hl, rfl, rfl⟩, fun _ h => h.elim, ⟨⟨a, rfl, hS⟩, trivial⟩, fun v H' F' _ r => r⟩
theorem cx0_law {P : Program} {w : World} {K : PySem.W.Frag} {mg : Str → Option Value} {base : Heap} {k : Nat} {f : Addr} {fd : FuncData} {ps : List Str} (F : FnOk P w K mg base (L2.CX P w) k f fd ps (spD K C_law)) : FnOk P w K mg base CX0 k f fd ps (spD K C_law) := by
  refine ⟨fun vs H Q E h => F.len vs H Q E h, fun A outer s H args us vs Q E hr he hb hv hs => ?_⟩
  obtain ⟨F', ss, oc, ⟨ns, h1, h2, rfl⟩, h3, h4, h5⟩ := hs
  have hs' : spD K C_law vs H Q (fun _ _ _ => False) := ⟨F', ss, _, ⟨ns, h1, h2, rfl⟩, h3, h4, h5⟩
  refine codeAny_mono (F.run A outer s H args us vs Q (fun _ _ _ => False) hr he hb hv hs') fun r s' q => ?_
  cases r with
  | error e =>
    obtain ⟨_, _, _, _, _, _, _, _, _, _, _, _, z⟩ := q
    exact z.elim
  | ok fl => cases fl <;> exact q
theorem cst_int {K : PySem.W.Frag} {mg : Str → Option Value} {x : Str} {i : Int} (h : ∃ t, mg x = some (.int i t)) : Cst K mg x (.int i) := by
  obtain ⟨t, h⟩ := h
  exact ⟨.int i, _, h, ⟨t, rfl⟩, fun _ _ => rfl⟩
theorem cst_str {K : PySem.W.Frag} {mg : Str → Option Value} {x z : Str} (h : ∃ t, mg x = some (.str z t)) : Cst K mg x (.str z) := by
  obtain ⟨t, h⟩ := h
  exact ⟨.str z, _, h, ⟨t, rfl⟩, fun _ _ => rfl⟩
/-- flat values as data -/
def dvD : He.Dv → Option D
  | .non => some .non
  | .bl b => some (.bl b)
  | .int i => some (.int i)
  | .str x => some (.str x)
  | _ => none
theorem dvs_ok {K : PySem.W.Frag} {F : Fz} {H : Hp} : ∀ {vs : List He.Dv} {ds : List D}, vs.map dvD = ds.map some → DnA K F H ds (vs.map (He.Dv.v K))
  | [], [], _ => trivial
  | [], _ :: _, h => by cases h
  | _ :: _, [], h => by cases h
  | v :: vs, d :: ds, h => by
    rw [List.map_cons, List.map_cons, List.cons.injEq] at h
    refine ⟨?_, dvs_ok h.2⟩
    have h1 := h.1
    cases v <;> simp only [dvD, Option.some.injEq, reduceCtorEq] at h1 <;> subst h1 <;> rfl
theorem cst_tup {K : PySem.W.Frag} {mg : Str → Option Value} {x : Str} {vs : List He.Dv} {ds : List D} (hg : mg x = some (.ref (He.ga K x))) (h : He.tupB K x vs = true) (e : vs.map dvD = ds.map some) : Cst K mg x (.tup ds) :=
  ⟨.ref (He.ga K x), _, hg, rfl, fun F H => ⟨_, _, rfl, He.tupB_ok h H, dvs_ok e⟩⟩
end DL

namespace DL
open PySem PySem.Spec L2

theorem fresh_nf {H : Hp} {F : Fz} {p : Addr} (ft : ∀ a, F a → H a ≠ none) (hp : H p = none) : ¬ F p := fun z => ft p z hp
theorem sr_new {K : PySem.W.Frag} {H : Hp} {F : Fz} {p : Addr} {vs : List V} {ds : List D} (ft : ∀ a, F a → H a ≠ none) (hp : H p = none) (h : DnA K F H ds vs) : Grow H F (upd H p (.lst vs)) F ∧ SR K (.own ds) H (.ref p) (upd H p (.lst vs)) F := by
  have g : Grow H F (upd H p (.lst vs)) F := Grow.new hp ft
  exact ⟨g, p, vs, rfl, hp, fresh_nf ft hp, upd_same, DnA.mon g.mon _ _ h⟩
theorem sr_newT {K : PySem.W.Frag} {H : Hp} {F : Fz} {p : Addr} {vs : List V} {ds : List D} (ft : ∀ a, F a → H a ≠ none) (hp : H p = none) (h : DnA K F H ds vs) : Grow H F (upd H p (.tup vs)) F ∧ SR K (.d (.tup ds)) H (.ref p) (upd H p (.tup vs)) F := by
  have g : Grow H F (upd H p (.tup vs)) F := Grow.tup hp ft
  exact ⟨g, p, vs, rfl, SqT.of upd_same, DnA.mon g.mon _ _ h⟩
theorem DnA.rep {K : PySem.W.Frag} {F : Fz} {H : Hp} {ds : List D} {vs : List V} (h : DnA K F H ds vs) : ∀ k : Nat, DnA K F H (List.replicate k ds).flatten (List.replicate k vs).flatten
  | 0 => trivial
  | k + 1 => by
    rw [List.replicate_succ, List.replicate_succ, List.flatten_cons, List.flatten_cons]
    exact DnA.append h (DnA.rep h k)
def cutD (ds : List D) (lo hi : Option Int) : List D := (ds.drop (HT.sIx ds.length 0 lo)).take (HT.sIx ds.length ds.length hi - HT.sIx ds.length 0 lo)
theorem DnA.cut {K : PySem.W.Frag} {F : Fz} {H : Hp} {ds : List D} {vs : List V} {lo hi : Option Int} (h : DnA K F H ds vs) : DnA K F H (cutD ds lo hi) (cutV vs lo hi) := by
  unfold cutD cutV
  rw [h.length]
  exact DnA.take _ (DnA.drop _ h)
theorem cutD_nat (ds : List D) (i j : Nat) : cutD ds (some (i : Int)) (some (j : Int)) = (ds.drop i).take (j - i) := by
  unfold cutD
  rw [HT.sIx_nat, HT.sIx_nat]
  rcases Nat.lt_or_ge i ds.length with h | h
  · rw [Nat.min_eq_left (Nat.le_of_lt h)]
    rcases Nat.lt_or_ge j ds.length with h2 | h2
    · rw [Nat.min_eq_left (Nat.le_of_lt h2)]
    · rw [Nat.min_eq_right h2, List.take_of_length_le (by rw [List.length_drop]; omega), List.take_of_length_le (by rw [List.length_drop]; omega)]
  · rw [Nat.min_eq_right h, List.drop_of_length_le (Nat.le_refl _), List.drop_of_length_le h, List.take_nil, List.take_nil]
theorem cutD_to (ds : List D) (j : Nat) : cutD ds none (some (j : Int)) = ds.take j := by
  unfold cutD
  rw [HT.sIx_nat, HT.sIx_none, List.drop_zero, Nat.sub_zero]
  rcases Nat.lt_or_ge j ds.length with h2 | h2
  · rw [Nat.min_eq_left (Nat.le_of_lt h2)]
  · rw [Nat.min_eq_right h2, List.take_of_length_le (Nat.le_refl _), List.take_of_length_le h2]
theorem cutD_from (ds : List D) (i : Nat) : cutD ds (some (i : Int)) none = ds.drop i := by
  unfold cutD
  rw [HT.sIx_nat, HT.sIx_none]
  rcases Nat.lt_or_ge i ds.length with h | h
  · rw [Nat.min_eq_left (Nat.le_of_lt h), List.take_of_length_le (by rw [List.length_drop]; omega)]
  · rw [Nat.min_eq_right h, List.drop_of_length_le (Nat.le_refl _), List.drop_of_length_le h, List.take_nil]

section
variable {X : Cx} {W : Exw} {G : List S} {R : Res} {O : Out} {a b e : Expr} {es : List Expr} {rest : List Stmt} {pos p : Pos} {xs ys ds : List D} {i j : Int} {d : D} {r : Nat} {lo hi : Option Expr} {ol oh : Option Int}
theorem ro_cat {K : PySem.W.Frag} (hl : xs.length + ys.length ≤ sizeLine) : RO K rCat (.bor xs) (.bor ys) (.own (xs ++ ys)) := fun H0 x y H F Q ft hx hy k => by
  obtain ⟨l, vs, rfl, h1, h2⟩ := hx
  obtain ⟨m, ws, rfl, h3, h4⟩ := hy
  refine ⟨l, m, vs, ws, rfl, rfl, h1, h3, by rw [h2.length, h4.length]; exact hl, fun p hp => ?_⟩
  obtain ⟨g, s⟩ := sr_new ft hp (DnA.append h2 h4)
  exact k _ _ F g s
theorem ev_cat (hl : xs.length + ys.length ≤ sizeLine) (ha : Ev X a G R (.bor xs)) (hb : Ev X b G R (.bor ys)) : Ev X (.BinOp a .Add b pos) G R (.own (xs ++ ys)) := ev_op op_cat (ro_cat hl) ha hb
theorem ro_rep {K : PySem.W.Frag} {k : Nat} (hk : k < 2 ^ 62) (hl : xs.length * k ≤ sizeLine) : RO K rRep (.bor xs) (.d (.int k)) (.own (List.replicate k xs).flatten) := fun H0 x y H F Q ft hx hy q => by
  obtain ⟨l, vs, rfl, h1, h2⟩ := hx
  have hy' : y = .int k := hy
  subst hy'
  refine ⟨l, k, vs, rfl, rfl, h1, by omega, by omega, by rw [h2.length, Int.toNat_natCast]; exact hl, fun p hp => ?_⟩
  obtain ⟨g, s⟩ := sr_new ft hp (DnA.rep h2 k)
  rw [Int.toNat_natCast]
  exact q _ _ F g s
theorem ev_rep {k : Nat} (hk : k < 2 ^ 62) (hl : xs.length * k ≤ sizeLine) (ha : Ev X a G R (.bor xs)) (hb : Ev X b G R (.d (.int k))) : Ev X (.BinOp a .Mult b pos) G R (.own (List.replicate k xs).flatten) := ev_op op_rep (ro_rep hk hl) ha hb
theorem evo_none : EvO X none G R none := fun en A σ H F Q st k => ⟨_, po_none, k H F (Grow.refl st.ft)⟩
theorem evo_some (h : Ev X e G R (.d (.int i))) : EvO X (some e) G R (some i) := fun en A σ H F Q st k => by
  refine ⟨_, po_some pe_t, ?_⟩
  exact h en A σ H F _ st fun v H1 F1 g r => ⟨i, r, k H1 F1 g⟩
theorem ev_slB {p2 : Pos} (ha : Ev X e G R (.bor ds)) (hl : EvO X lo G R ol) (hu : EvO X hi G R oh) : Ev X (.Subscript e (.Slice lo hi none p2) pos) G R (.own (cutD ds ol oh)) := by
  intro en A σ H F Q st k
  refine ⟨_, pe_slice sl_list pe_t po_t po_t, ?_⟩
  refine ha en A σ H F _ st fun x H1 F1 g1 r1 => ?_
  refine hl en A σ H1 F1 _ (st.grow g1) fun H2 F2 g2 => ?_
  refine hu en A σ H2 F2 _ ((st.grow g1).grow g2) fun H3 F3 g3 => ?_
  obtain ⟨l, vs, rfl, h1, h2⟩ := SR.grow (SR.grow r1 g2) g3
  refine ⟨l, vs, rfl, SqL.of h1, fun p hp => ?_⟩
  obtain ⟨g, s⟩ := sr_new g3.t hp h2.cut
  exact k _ _ F3 (((g1.trans g2).trans g3).trans g) (SR.pre ((g1.trans g2).trans g3).nn s)
theorem ev_slT {p2 : Pos} (ha : Ev X e G R (.d (.tup ds))) (hl : EvO X lo G R ol) (hu : EvO X hi G R oh) (hw : ¬ (HT.sIx ds.length 0 ol = 0 ∧ HT.sIx ds.length ds.length oh = ds.length)) : Ev X (.Subscript e (.Slice lo hi none p2) pos) G R (.d (.tup (cutD ds ol oh))) := by
  intro en A σ H F Q st k
  refine ⟨_, pe_slice sl_tup pe_t po_t po_t, ?_⟩
  refine ha en A σ H F _ st fun x H1 F1 g1 r1 => ?_
  refine hl en A σ H1 F1 _ (st.grow g1) fun H2 F2 g2 => ?_
  refine hu en A σ H2 F2 _ ((st.grow g1).grow g2) fun H3 F3 g3 => ?_
  obtain ⟨l, vs, rfl, h1, h2⟩ := SR.grow (SR.grow r1 g2) g3
  refine ⟨l, vs, rfl, h1, by rw [h2.length]; exact hw, fun p hp => ?_⟩
  obtain ⟨g, s⟩ := sr_newT g3.t hp h2.cut
  exact k _ _ F3 (((g1.trans g2).trans g3).trans g) s
theorem ev_rev {k : Nat} {p1 p2 p3 : Pos} (ha : Ev X e G R (.bor ds)) : Ev X (.Subscript e (.Slice none none (some (.UnaryOp .USub (.Constant (.int 1) k p1) p2)) p3) pos) G R (.own ds.reverse) := by
  intro en A σ H F Q st k
  refine ⟨_, pe_revL pe_t, ?_⟩
  refine ha en A σ H F _ st fun x H1 F1 g1 r1 => ?_
  obtain ⟨l, vs, rfl, h1, h2⟩ := r1
  refine ⟨l, vs, rfl, SqL.of h1, fun p hp => ?_⟩
  obtain ⟨g, s⟩ := sr_new g1.t hp h2.rev
  exact k _ _ F1 (g1.trans g) (SR.pre g1.nn s)
theorem ev_tupleB (hm : X.mg "tuple" = none) (ha : Ev X e G R (.bor ds)) (hg : Gl X "tuple" := by rfl) (he : starEach [e] X.env = [(false, eval e X.env)] := by rfl) : Ev X (.Call (.Name "tuple" p) [e] [] pos) G R (.d (.tup ds)) := by
  refine ev_callTy call_tuple_of hm (by decide +kernel) ?_ (eva_cons ha eva_nil he) hg (by decide) (by decide) he (by rfl)
  intro H0 xs H F Q ft h k
  obtain ⟨v, e, h'⟩ := srs1 h
  subst e
  obtain ⟨l, vs, rfl, h1, h2⟩ := h'
  refine ⟨l, vs, rfl, .inl ⟨SqL.of h1, fun p hp => ?_⟩⟩
  obtain ⟨g, s⟩ := sr_newT ft hp h2
  exact k _ _ F g s
theorem ev_listB (hm : X.mg "list" = none) (ha : Ev X e G R (.bor ds)) (hg : Gl X "list" := by rfl) (he : starEach [e] X.env = [(false, eval e X.env)] := by rfl) : Ev X (.Call (.Name "list" p) [e] [] pos) G R (.own ds) := by
  refine ev_callTy call_list_of hm (by decide +kernel) ?_ (eva_cons ha eva_nil he) hg (by decide) (by decide) he (by rfl)
  intro H0 xs H F Q ft h k
  obtain ⟨v, e, h'⟩ := srs1 h
  subst e
  obtain ⟨l, vs, rfl, h1, h2⟩ := h'
  refine ⟨l, vs, rfl, .inl (SqL.of h1), fun p hp => ?_⟩
  obtain ⟨g, s⟩ := sr_new ft hp h2
  exact k _ _ F g s
theorem ev_listT (hm : X.mg "list" = none) (ha : Ev X e G R (.d (.tup ds))) (hg : Gl X "list" := by rfl) (he : starEach [e] X.env = [(false, eval e X.env)] := by rfl) : Ev X (.Call (.Name "list" p) [e] [] pos) G R (.own ds) := by
  refine ev_callTy call_list_of hm (by decide +kernel) ?_ (eva_cons ha eva_nil he) hg (by decide) (by decide) he (by rfl)
  intro H0 xs H F Q ft h k
  obtain ⟨v, e, h'⟩ := srs1 h
  subst e
  obtain ⟨l, vs, rfl, h1, h2⟩ := h'
  refine ⟨l, vs, rfl, .inr h1, fun p hp => ?_⟩
  obtain ⟨g, s⟩ := sr_new ft hp h2
  exact k _ _ F g s
/-! ### in -/
noncomputable def D.mem (d : D) (ds : List D) : Bool := @decide (d ∈ ds) (Classical.propDecidable _)
theorem D.mem_iff {d : D} {ds : List D} : D.mem d ds = true ↔ d ∈ ds := by unfold D.mem; exact @decide_eq_true_iff _ (Classical.propDecidable _)
theorem D.mem_false {d : D} {ds : List D} : D.mem d ds = false ↔ ¬ d ∈ ds := by unfold D.mem; exact @decide_eq_false_iff_not _ (Classical.propDecidable _)
theorem D.any_eqv {d : D} (hd : d.Fit) : ∀ {ds : List D}, (∀ x ∈ ds, x.Fit) → ((D.pys ds).any fun z => PyData.eqv z d.py) = D.mem d ds
  | [], _ => by
    rw [D.mem_false.mpr (by simp)]
    rfl
  | x :: ds, h => by
    have ih := D.any_eqv hd (ds := ds) fun y hy => h y (List.mem_cons_of_mem _ hy)
    show (PyData.eqv x.py d.py || (D.pys ds).any fun z => PyData.eqv z d.py) = _
    rw [ih, D.eqv_eq (h x List.mem_cons_self) hd]
    by_cases e : x = d
    · rw [D.eq_true e, Bool.true_or]
      exact (D.mem_iff.mpr (by rw [e]; exact List.mem_cons_self)).symm
    · rw [D.eq_false e, Bool.false_or]
      by_cases m : d ∈ ds
      · rw [D.mem_iff.mpr m, D.mem_iff.mpr (List.mem_cons_of_mem _ m)]
      · rw [D.mem_false.mpr m, D.mem_false.mpr (fun z => by rcases List.mem_cons.mp z with z | z; exact e z.symm; exact m z)]
/-- a list fit to be asked -/
structure FitL (ds : List D) : Prop where
  nb : D.nbs ds = true
  sh : ∃ n, n ≤ 63 ∧ D.shps n ds = true
theorem FitL.all {ds : List D} (h : FitL ds) : ∀ x ∈ ds, x.Fit := by
  obtain ⟨h1, n, hn, h2⟩ := h
  induction ds with
  | nil => intro x hx; cases hx
  | cons y ds ih =>
    have h1' : (y.nb && D.nbs ds) = true := h1
    have h2' : (D.shp n y && D.shps n ds) = true := by cases n <;> exact h2
    rw [Bool.and_eq_true] at h1' h2'
    intro x hx
    rcases List.mem_cons.mp hx with e | hx
    · rw [e]; exact ⟨h1'.1, n, by omega, h2'.1⟩
    · exact ih h1'.2 h2'.2 x hx
theorem FitL.of_all : ∀ {ds : List D} {n : Nat}, n ≤ 63 → (∀ x ∈ ds, x.nb = true ∧ D.shp n x = true) → FitL ds
  | [], n, hn, _ => ⟨rfl, n, hn, by cases n <;> rfl⟩
  | x :: ds, n, hn, h => by
    obtain ⟨h1, m, h2, h3⟩ := FitL.of_all (ds := ds) hn fun y hy => h y (List.mem_cons_of_mem _ hy)
    have hall : ∀ (l : List D), (∀ y ∈ l, D.shp n y = true) → D.shps n l = true := by
      intro l
      induction l with
      | nil => intro _; cases n <;> rfl
      | cons y l ih =>
        intro hl
        have q : (D.shp n y && D.shps n l) = true := by rw [hl y List.mem_cons_self, ih fun z hz => hl z (List.mem_cons_of_mem _ hz)]; rfl
        cases n <;> exact q
    refine ⟨?_, n, hn, hall _ fun y hy => (h y hy).2⟩
    show (x.nb && D.nbs ds) = true
    rw [(h x List.mem_cons_self).1, h1]
    rfl
theorem fitL_shaped {ds : List D} (h : FitL ds) : SeqAt.shaped (.list (D.pys ds)) = true := by
  obtain ⟨h1, n, hn, h2⟩ := h
  have q : (D.lst ds).shp (n + 1) = true := h2
  exact D.shaped q (by omega)
theorem bor_dp {K : PySem.W.Frag} {H0 H : Hp} {F : Fz} {v : V} (hp : D.pures ds = true) (h : SR K (.bor ds) H0 v H F) : Dp K H v (.list (D.pys ds)) := by
  obtain ⟨l, vs, rfl, h1, h2⟩ := h
  exact .lst (SqL.of h1) (DnA.dp ds vs hp h2)
theorem ro_inD {K : PySem.W.Frag} (hd : d.Fit) (hs : FitL ds) : RO K (rInD K) (.d d) (.bor ds) (.d (.bl (D.mem d ds))) := fun H0 x y H F Q ft hx hy k => by
  obtain ⟨n, h1, h2⟩ := hd.sh
  refine ⟨d.py, D.pys ds, Dn.dp d x (D.nb_pure d hd.nb) hx, bor_dp (D.nbs_pures ds hs.nb) hy, D.shaped h2 h1, fitL_shaped hs, k _ H F (Grow.refl ft) ?_⟩
  show V.bl _ = V.bl _
  rw [D.any_eqv hd hs.all]
theorem ro_notInD {K : PySem.W.Frag} (hd : d.Fit) (hs : FitL ds) : RO K (rNotInD K) (.d d) (.bor ds) (.d (.bl (!D.mem d ds))) := fun H0 x y H F Q ft hx hy k => by
  obtain ⟨n, h1, h2⟩ := hd.sh
  refine ⟨d.py, D.pys ds, Dn.dp d x (D.nb_pure d hd.nb) hx, bor_dp (D.nbs_pures ds hs.nb) hy, D.shaped h2 h1, fitL_shaped hs, k _ H F (Grow.refl ft) ?_⟩
  show V.bl _ = V.bl _
  rw [D.any_eqv hd hs.all]
theorem tv_in (hu : Room r X.A) (hr : 0 < r) (hd : d.Fit) (hs : FitL ds) (ha : Ev X a G R (.d d)) (hb : Ev X b G R (.bor ds)) (hm : behindInMarks .In b = false := by rfl) : Tv X (.Compare a [.In] [b] pos) G R (D.mem d ds) := tv_cmpR (op_inD (by have := hu.un; omega)) (ro_inD hd hs) ha hb hm
theorem tv_notin (hu : Room r X.A) (hr : 0 < r) (hd : d.Fit) (hs : FitL ds) (ha : Ev X a G R (.d d)) (hb : Ev X b G R (.bor ds)) (hm : behindInMarks .NotIn b = false := by rfl) : Tv X (.Compare a [.NotIn] [b] pos) G R (!D.mem d ds) := tv_cmpR (op_notInD (by have := hu.un; omega)) (ro_notInD hd hs) ha hb hm
end
end DL

namespace DL
open PySem PySem.Spec L2

/-- a target of a comprehension: the slots that it writes -/
def TgW (X : Cx) (tg : Expr) (d : D) (ix : List Nat) (G G' : List S) : Prop :=
  ∀ (en : En) (R : Res) (A : Addr → Prop) (σ : L2.St) (H : Hp) (F : Fz) (v : V) (Q : L2.St → Hp → Prop), Sta X.K en G R A σ H F → Dn X.K F H d v →
    (∀ σ', Sta X.K en G' R A σ' H F → (∀ j, j ∉ ix → σ'[j]? = σ[j]?) → σ'.length = σ.length → Q σ' H) → tG X tg v σ H Q
def TgsW (X : Cx) (tgs : List Expr) (ds : List D) (ix : List Nat) (G G' : List S) : Prop :=
  ∀ (en : En) (R : Res) (A : Addr → Prop) (σ : L2.St) (H : Hp) (F : Fz) (vs : List V) (Q : L2.St → Hp → Prop), Sta X.K en G R A σ H F → DnA X.K F H ds vs →
    (∀ σ', Sta X.K en G' R A σ' H F → (∀ j, j ∉ ix → σ'[j]? = σ[j]?) → σ'.length = σ.length → Q σ' H) → tGs X tgs vs σ H Q
def tP (X : Cx) (ifs : List Expr) : TT := fun σ H Q => ∃ t, PTs X ifs t ∧ t σ H Q
def Pv (X : Cx) (ifs : List Expr) (G : List S) (R : Res) (q : Bool) : Prop :=
  ∀ (en : En) (A : Addr → Prop) (σ : L2.St) (H : Hp) (F : Fz) (Q : Bool → Hp → Prop), Sta X.K en G R A σ H F → (∀ H' F', Grow H F H' F' → Q q H') → tP X ifs σ H Q
section
variable {X : Cx} {G G1 G' : List S} {R : Res} {tg c : Expr} {tgs : List Expr} {d : D} {ds : List D} {pos : Pos} {ix ix' : List Nat} {q : Bool}
theorem tgw_name (i : Nat) {x : Str} (hN : X.N.Nodup) (hi : X.N[i]? = some x := by rfl) (hx : Loc X.env.scope x := by first | exact Or.inl rfl | exact Or.inr rfl) (hf : X.fn x = true ∨ X.env.scope.names.lookup x = some .local := by first | exact .inl rfl | exact .inr rfl) : TgW X (.Name x pos) d [i] G (G.set i (.d d)) := by
  intro en R A σ H F v Q st r k
  refine ⟨_, pg_name hN hi hx hf, k _ (st.put (Grow.refl st.ft) rfl r) (fun j hj => ?_) (by rw [List.length_set])⟩
  rw [List.getElem?_set_ne]
  intro e
  exact hj (by rw [e]; exact List.mem_singleton.mpr rfl)
theorem tgsw_nil : TgsW X [] [] [] G G := by
  intro en R A σ H F vs Q st r k
  exact ⟨_, pgs_nil, r.nil_of, k σ st (fun _ _ => rfl) rfl⟩
theorem tgsw_cons (h1 : TgW X tg d ix G G1) (h2 : TgsW X tgs ds ix' G1 G') (hs : (assignEach (tg :: tgs) X.env).map (·.2) = assign tg X.env :: (assignEach tgs X.env).map (·.2) := by rfl) : TgsW X (tg :: tgs) (d :: ds) (ix ++ ix') G G' := by
  intro en R A σ H F vs Q st r k
  obtain ⟨v, vr, rfl, r1, r2⟩ := r.cons_of
  refine ⟨_, pgs_cons pg_t pgs_t hs, v, vr, rfl, ?_⟩
  refine h1 en R A σ H F v _ st r1 fun σ' st' e1 l1 => h2 en R A σ' H F vr _ st' r2 fun σ2 st2 e2 l2 => k σ2 st2 (fun j hj => ?_) (l2.trans l1)
  rw [e2 j (fun z => hj (List.mem_append_right _ z)), e1 j fun z => hj (List.mem_append_left _ z)]
theorem tgw_tup {k : Nat} (hc : X.calm = true) (h : TgsW X tgs ds ix G G') (hn : (assignEach tgs X.env).length = ds.length := by rfl) (hst : (assignEach tgs X.env).findIdx? (·.1) = none := by rfl) : TgW X (.Tuple tgs k pos) (.tup ds) ix G G' := by
  intro en R A σ H F v Q st r q
  obtain ⟨a, vs, rfl, h1, h2⟩ := r
  exact ⟨_, pg_tup hc pgs_t hn hst, a, vs, rfl, h1, h2.length, h en R A σ H F vs _ st h2 q⟩
theorem pv_nil : Pv X [] G R true := fun en A σ H F Q st k => ⟨_, pts_nil, k H F (Grow.refl st.ft)⟩
theorem pv_one (h : Tv X c G R q) : Pv X [c] G R q := fun en A σ H F Q st k => ⟨_, pts_one pt_t, h en A σ H F Q st k⟩
end
/-- the block's own slots are empty -/
def wipeS (G : List S) : List Nat → List S
  | [] => G
  | v :: vs => (wipeS G vs).set v .any
theorem wipeS_len (G : List S) : ∀ vs : List Nat, (wipeS G vs).length = G.length
  | [] => rfl
  | v :: vs => by unfold wipeS; rw [List.length_set, wipeS_len G vs]
theorem Sta.wipe {K : PySem.W.Frag} {en : En} {G : List S} {R : Res} {A : Addr → Prop} {σ : L2.St} {H : Hp} {F : Fz} (st : Sta K en G R A σ H F) : ∀ vs : List Nat, Sta K en (wipeS G vs) R A (wipe σ vs) H F
  | [] => st
  | v :: vs => by
    have ih := st.wipe vs
    refine ⟨ih.fr, ih.th, ih.f0, ih.f1, ih.ft, ih.at_, ih.rs, ?_, ?_⟩
    · unfold wipeS L2.wipe
      rw [List.length_set, List.length_set]
      exact ih.len
    · obtain ⟨ow, q⟩ := ih.sl
      refine ⟨ow, fun i t ht => ?_⟩
      unfold wipeS at ht
      unfold L2.wipe
      by_cases e : v = i
      · subst e
        have hl : v < (wipeS G vs).length := by
          rcases Nat.lt_or_ge v (wipeS G vs).length with z | z
          · exact z
          · rw [List.getElem?_eq_none (by rw [List.length_set]; exact z)] at ht; cases ht
        rw [List.getElem?_set_self hl] at ht
        cases ht
        exact ⟨none, by rw [List.getElem?_set_self (by rw [← ih.len]; exact hl)], trivial⟩
      · rw [List.getElem?_set_ne e] at ht
        obtain ⟨o, h1, h2⟩ := q i t ht
        exact ⟨o, by rw [List.getElem?_set_ne e]; exact h1, h2⟩
theorem wipe_at (σ : L2.St) (j : Nat) : ∀ vs : List Nat, (wipe σ vs)[j]? = if j ∈ vs then (if j < σ.length then some none else none) else σ[j]?
  | [] => rfl
  | v :: vs => by
    unfold wipe
    by_cases e : v = j
    · subst e
      rw [if_pos List.mem_cons_self]
      rcases Nat.lt_or_ge v (wipe σ vs).length with z | z
      · rw [List.getElem?_set_self z, if_pos (by rw [wipe_length] at z; exact z)]
      · rw [List.getElem?_eq_none (by rw [List.length_set]; exact z), if_neg (by rw [wipe_length] at z; omega)]
    · rw [List.getElem?_set_ne e, wipe_at σ j vs]
      by_cases m : j ∈ vs
      · rw [if_pos m, if_pos (List.mem_cons_of_mem _ m)]
      · rw [if_neg m, if_neg (fun z => by rcases List.mem_cons.mp z with z | z; exact e z.symm; exact m z)]
theorem wipe_back {σ σ' : L2.St} {vs ix : List Nat} (hl : σ'.length = (wipe σ vs).length) (h : ∀ j, j ∉ ix → σ'[j]? = (wipe σ vs)[j]?) (hs : ∀ j ∈ ix, j ∈ vs) : wipe σ' vs = wipe σ vs := by
  refine List.ext_getElem? fun j => ?_
  rw [wipe_length] at hl
  rw [wipe_at, wipe_at, hl]
  by_cases m : j ∈ vs
  · rw [if_pos m, if_pos m]
  · rw [if_neg m, if_neg m, h j (fun z => m (hs j z)), wipe_at, if_neg m]

/-- .. gives ds as long as nothing is written -/
def FeedG (K : PySem.W.Frag) (J : It) (ds : List D) (en : En) (H1 : Hp) (F1 : Fz) : Prop :=
  ∀ (i : Nat) (H : Hp) (F : Fz), Grow H1 F1 H F → (∀ a o, en.H a = some o → ¬ en.A a → H a = some o) →
    (ds.length ≤ i → J.stop i H) ∧ ∀ d, ds[i]? = some d → J.go i H ∧ ∀ x H', J.yld i H x H' → H' = H ∧ Dn K F H d x
def EvIG (X : Cx) (tg iter : Expr) (G : List S) (R : Res) (ds : List D) : Prop :=
  ∀ (en : En) (A : Addr → Prop) (σ : L2.St) (H : Hp) (F : Fz) (Q : It → Hp → Prop), Sta X.K en G R A σ H F → (∀ J H' F', Grow H F H' F' → FeedG X.K J ds en H' F' → Q J H') → tI X tg iter σ H Q
section
variable {X : Cx} {G : List S} {R : Res} {tg iter : Expr} {ds : List D} {pos : Pos}
theorem EvI.toG (h : EvI X tg iter G R ds) : EvIG X tg iter G R ds := fun en A σ H F Q st k =>
  h en A σ H F Q st fun J H' F' g feed => k J H' F' g fun i H2 F2 g2 fr => feed i H2 F2 g2.mon fr
/-- over a list at a name that is one's own -/
theorem evg_own (i : Nat) {x : Str} (hs : G[i]? = some (.own ds)) (hN : X.N[i]? = some x := by rfl) (hv : Vis X.env.scope x := by first | exact Or.inl rfl | exact Or.inr (Or.inl rfl) | exact Or.inr (Or.inr rfl)) (hd : (x == ("__debug__" : Str)) = false := by decide)
    (hcd : (x == ("__classdict__" : Str)) = false := by decide) : EvIG X tg (.Name x pos) G R ds := by
  intro en A σ H F Q st k
  refine ⟨_, pi_list (pe_var hN hv hd hcd), ?_⟩
  obtain ⟨ow, o, h1, p, vs, rfl, h2, h3, h4, h5, h6, h7⟩ := slot_at st hs
  refine ⟨_, h1, p, rfl, ⟨vs, SqL.of h5⟩, k _ H F (Grow.refl st.ft) fun i H2 F2 g fr => ?_⟩
  have h1' := SqL.of (K := X.K) (g.h _ _ h5)
  refine ⟨fun hi => ⟨vs, h1', by rw [h6.length]; exact hi⟩, fun d hd => ?_⟩
  obtain ⟨v, e1, e2⟩ := h6.get hd
  refine ⟨⟨vs, v, h1', e1⟩, fun x H' y => ⟨y.1, ?_⟩⟩
  have e3 := y.2 vs h1'
  rw [e1] at e3
  cases e3
  exact Dn.mon g.mon _ _ e2
end
section
variable {X : Cx} {W : Exw} {G : List S} {R : Res} {O : Out} {elt tg iter : Expr} {ifs : List Expr} {scope : Scope} {own : List (Str × Nat)} {ds : List D} {pos : Pos} {rest : List Stmt}
/-- a block of the comprehension -/
abbrev blkX (X : Cx) (scope : Scope) (s : Shared) (H : Hp) (C : Addr) (cl : List (Str × Addr)) (fp : List Addr) : Cx := X.blk s H scope (compEnvC scope cl C X.env) fp
def LcBody (X : Cx) (scope : Scope) (own : List (Str × Nat)) (tg elt : Expr) (ifs : List Expr) (G : List S) (R : Res) (ds : List D) (h : D → Option D) : Prop :=
  ∀ (k : Nat) (d : D), ds[k]? = some d → ∃ (G' : List S) (ix : List Nat) (q : Bool), (∀ j ∈ ix, j ∈ own.map (·.2)) ∧ ∀ (s : Shared) (H : Hp) (C : Addr) (cl : List (Str × Addr)) (fp : List Addr), TgW (blkX X scope s H C cl fp) tg d ix (wipeS G (own.map (·.2))) G' ∧
    Pv (blkX X scope s H C cl fp) ifs G' R q ∧ (q = true → ∃ y, h d = some y ∧ Ev (blkX X scope s H C cl fp) elt G' R (.d y)) ∧ (q = false → h d = none)
def gB (X : Cx) (scope : Scope) (tg : Expr) : TG := fun v σ H Q => ∀ (s : Shared) (H0 : Hp) (C : Addr) (cl : List (Str × Addr)) (fp : List Addr), tG (blkX X scope s H0 C cl fp) tg v σ H Q
def pB (X : Cx) (scope : Scope) (ifs : List Expr) : TT := fun σ H Q => ∀ (s : Shared) (H0 : Hp) (C : Addr) (cl : List (Str × Addr)) (fp : List Addr), tP (blkX X scope s H0 C cl fp) ifs σ H Q
def eB (X : Cx) (scope : Scope) (elt : Expr) : TE := fun σ H Q => ∀ (s : Shared) (H0 : Hp) (C : Addr) (cl : List (Str × Addr)) (fp : List Addr), tE (blkX X scope s H0 C cl fp) elt σ H Q
theorem pg_B (s : Shared) (H : Hp) (C : Addr) (cl : List (Str × Addr)) (fp : List Addr) : PG (blkX X scope s H C cl fp) tg (gB X scope tg) := ⟨fun pins s' σ H' v u Q I r h => pg_t.run pins s' σ H' v u Q I r (h s H C cl fp)⟩
theorem pts_B (s : Shared) (H : Hp) (C : Addr) (cl : List (Str × Addr)) (fp : List Addr) : PTs (blkX X scope s H C cl fp) ifs (pB X scope ifs) := ⟨fun pins s' σ H' Q I h => by
  obtain ⟨t, h1, h2⟩ := h s H C cl fp
  exact h1.run pins s' σ H' Q I h2⟩
theorem pe_B (s : Shared) (H : Hp) (C : Addr) (cl : List (Str × Addr)) (fp : List Addr) : PE (blkX X scope s H C cl fp) elt (eB X scope elt) := ⟨fun pins s' σ H' Q I h => pe_t.run pins s' σ H' Q I (h s H C cl fp)⟩
theorem filterMap_snoc {h : D → Option D} {k : Nat} {d : D} (e : ds[k]? = some d) : (ds.take (k + 1)).filterMap h = (ds.take k).filterMap h ++ (match h d with | some y => [y] | none => []) := by
  rw [List.take_add_one, e, Option.toList, List.filterMap_append]
  congr 1
  cases q : h d with
  | none => rw [List.filterMap_cons_none q]; rfl
  | some y => rw [List.filterMap_cons_some q]; rfl
/-- what a comprehension makes -/
theorem lc_read (h : D → Option D) (hi : EvIG X tg iter G R ds) (hl : ds.length ≤ sizeLine) (hb : LcBody X scope own tg elt ifs G R ds h) {en : En} {A : Addr → Prop} {σ : L2.St} {H : Hp} {F : Fz} {Q : VK} (st : Sta X.K en G R A σ H F)
    (k : ∀ v H' F', Grow H F H' F' → SR X.K (.own (ds.filterMap h)) H v H' F' → Q v H') : tLc (tI X tg iter) (gB X scope tg) (pB X scope ifs) (eB X scope elt) (own.map (·.2)) σ H Q := by
  refine hi en A σ H F _ st fun J H1 F1 g1 feed D hD => ?_
  have st1 := st.grow g1
  have gD : Grow H1 F1 (upd H1 D (.lst [])) F1 := Grow.new hD g1.t
  have gone : ∀ {H2 : Hp} {F2 : Fz} {u : HO}, Grow H1 F1 H2 F2 → Grow H1 F1 (upd H2 D u) F2 := fun {H2 F2 u} g => ⟨fun a o ha => by rw [upd_ne (ne_of_none ha hD)]; exact g.h a o ha, g.f, g.n, fun a ha => by
    by_cases e : a = D
    · rw [e, upd_same]; exact fun z => nomatch z
    · rw [upd_ne e]; exact g.t a ha⟩
  refine ⟨fun i m H2 => m = ds.length - i ∧ i ≤ ds.length ∧ ∃ F2 vs, Grow H1 F1 H2 F2 ∧ H2 D = some (.lst vs) ∧ DnA X.K F2 H2 ((ds.take i).filterMap h) vs ∧ ¬ F2 D, ⟨ds.length, by simp, Nat.zero_le _, F1, [], gD, upd_same, trivial, fresh_nf g1.t hD⟩, ?_⟩
  rintro i m H2 ⟨rfl, hle, F2, vs, g2, h2, h3, h4⟩
  have st2 := st1.grow g2
  obtain ⟨f1, f2⟩ := feed i H2 F2 g2 st2.fr
  rcases Nat.lt_or_ge i ds.length with hlt | hge
  · have hd : ds[i]? = some ds[i] := List.getElem?_eq_getElem hlt
    obtain ⟨f3, f4⟩ := f2 _ hd
    obtain ⟨G', ix, q, hix, hbb⟩ := hb i _ hd
    refine .inr ⟨f3, fun H' => ∃ F2 vs, Grow H1 F1 H' F2 ∧ H' D = some (.lst vs) ∧ DnA X.K F2 H' ((ds.take (i + 1)).filterMap h) vs ∧ ¬ F2 D, fun H' z => ⟨ds.length - (i + 1), by omega, rfl, hlt, z⟩, fun x H' y => ?_⟩
    obtain ⟨rfl, hx⟩ := f4 x H' y
    intro s0 H0 C0 cl0 fp0
    refine (hbb s0 H0 C0 cl0 fp0).1 en R A (wipe σ (own.map (·.2))) H' F2 x _ (st2.wipe _) hx fun σ' st' hs' hlen => ?_
    refine ⟨wipe_back hlen hs' hix, ?_⟩
    intro s1 H1' C1 cl1 fp1
    refine (hbb s1 H1' C1 cl1 fp1).2.1 en A σ' H' F2 _ st' fun H3 F3 g3 => ?_
    have g13 := g2.trans g3
    have h2' := g3.h _ _ h2
    have h4' : ¬ F3 D := fun z => (g3.n D z).elim h4 fun q => ne_none_of h2 q
    have h3' := DnA.mon g3.mon _ _ h3
    cases q with
    | false =>
      refine iteF ⟨F3, vs, g13, h2', ?_, h4'⟩
      rw [filterMap_snoc hd, (hbb s1 H1' C1 cl1 fp1).2.2.2 rfl, List.append_nil]
      exact h3'
    | true =>
      refine iteT ?_
      intro s2 H2' C2 cl2 fp2
      obtain ⟨y, hy, hev⟩ := (hbb s2 H2' C2 cl2 fp2).2.2.1 rfl
      refine hev en A σ' H3 F3 _ (st'.grow g3) fun v H4 F4 g4 r4 => ?_
      have h2'' := g4.h _ _ h2'
      have h4'' : ¬ F4 D := fun z => (g4.n D z).elim h4' fun q => ne_none_of h2' q
      have h3'' := DnA.mon g4.mon _ _ h3'
      refine ⟨vs, h2'', ?_, ?_⟩
      · have e1 := h3''.length
        have e2 := List.length_filterMap_le h (ds.take i)
        rw [List.length_take] at e2
        omega
      · have m : Mon H4 F4 (upd H4 D (.lst (vs ++ [v]))) F4 := mon_upd h2'' (fun _ z => nomatch z) (fun _ _ z => nomatch z) h4''
        refine ⟨F4, vs ++ [v], gone (g13.trans g4), upd_same, ?_, h4''⟩
        rw [filterMap_snoc hd, hy]
        exact DnA.append (DnA.mon m _ _ h3'') ⟨Dn.mon m _ _ r4, trivial⟩
  · have e : i = ds.length := by omega
    subst e
    refine .inl ⟨f1 hge, k _ H2 F2 (g1.trans g2) ⟨D, vs, rfl, none_pre g1.h hD, h4, h2, ?_⟩⟩
    rw [List.take_length] at h3
    exact h3
theorem ev_lcG (own : List (Str × Nat)) (h : D → Option D) (hN : X.N.Nodup) (ok : BlkOk X.N X.env.scope scope own) (hi : EvIG X tg iter G R ds) (hl : ds.length ≤ sizeLine) (hb : LcBody X scope own tg elt ifs G R ds h) (hc : X.calm = true := by rfl) (hs : ∀ x, foldedSetIterable iter X.env x = pure x := by intro _; rfl) :
    Ev X (.ListComp elt [⟨tg, iter, ifs, 0⟩] scope pos) G R (.own (ds.filterMap h)) := by
  intro en A σ H F Q st k
  exact ⟨_, pe_lc hc hN pi_t ok pg_B pts_B pe_B hs, lc_read h hi hl hb st k⟩
/-- a comprehension as a value -/
theorem ev_lc (own : List (Str × Nat)) (h : D → Option D) (hN : X.N.Nodup) (ok : BlkOk X.N X.env.scope scope own) (hi : EvI X tg iter G R ds) (hl : ds.length ≤ sizeLine) (hb : LcBody X scope own tg elt ifs G R ds h) (hc : X.calm = true := by rfl) (hs : ∀ x, foldedSetIterable iter X.env x = pure x := by intro _; rfl) :
    Ev X (.ListComp elt [⟨tg, iter, ifs, 0⟩] scope pos) G R (.own (ds.filterMap h)) := by
  intro en A σ H F Q st k
  exact ⟨_, pe_lc hc hN pi_t ok pg_B pts_B pe_B hs, lc_read h hi.toG hl hb st k⟩
/-- name = [.. for ..] on one line -/
theorem ex_setLc (i : Nat) (own : List (Str × Nat)) (h : D → Option D) {y : Str} {py spos : Pos} (hN : X.N.Nodup) (ok : BlkOk X.N X.env.scope scope own) (hi : EvI X tg iter G R ds) (hl : ds.length ≤ sizeLine) (hb : LcBody X scope own tg elt ifs G R ds h) (k : Ex X W rest (G.set i (.own (ds.filterMap h))) R O)
    (ha : (scope.names.any fun (n, k) => n == y && (k == .local || k == .cell)) = false) (hkk : X.env.scope.kind = .function := by rfl) (hll : (py.line == pos.line) = true := by rfl)
    (hc : X.calm = true := by rfl) (hs : ∀ x, foldedSetIterable iter X.env x = pure x := by intro _; rfl) (hy : X.N[i]? = some y := by rfl) (hyl : X.env.scope.names.lookup y = some .local := by rfl) :
    Ex X W (.Assign [.Name y py] (.ListComp elt [⟨tg, iter, ifs, 0⟩] scope pos) spos :: rest) G R O := fun en A σ H F D st p => by
  refine ⟨_, pss_cons (ps_setLc hc hN hy hyl (sw_true hkk hyl hll ha) pi_t ok pg_B pts_B pe_B hs) pss_t, ?_⟩
  show tLc (tI X tg iter) (gB X scope tg) (pB X scope ifs) (eB X scope elt) (own.map (·.2)) σ H fun x H1 => tSs X rest D (σ.set i (some x)) H1
  refine lc_read h hi.toG hl hb st fun v H' F' g r => ?_
  exact k en A _ H' F' D (st.put g rfl r) (p.from g.mon)
end
end DL

namespace DL
open PySem PySem.Spec L2

/-! ### texts in order -/
def strLt (x y : Str) : Bool := decide (x.cps.toList < y.cps.toList)
theorem str_ext {x y : Str} (h : x.cps.toList = y.cps.toList) : x = y := by
  cases x; cases y
  congr 1
  exact Array.toList_inj.mp h
theorem strLt_asym {x y : Str} (h : strLt x y = true) : strLt y x = false := decide_eq_false (List.lt_asymm (of_decide_eq_true h))
theorem strLt_le {x y : Str} (h : strLt y x = false) : x.cps.toList ≤ y.cps.toList := List.not_lt.mp (of_decide_eq_false h)
theorem strLt_no {x y : Str} (h : x.cps.toList ≤ y.cps.toList) : strLt y x = false := decide_eq_false (List.not_lt.mpr h)
theorem strLt_tr {x y z : Str} (h1 : strLt y x = false) (h2 : strLt z y = false) : strLt z x = false := strLt_no (List.le_trans (strLt_le h1) (strLt_le h2))
theorem strLt_eq {x y : Str} (h1 : strLt y x = false) (h2 : strLt x y = false) : x = y := str_ext (List.le_antisymm (strLt_le h1) (strLt_le h2))
def sortS (xs : List Str) : List Str := xs.mergeSort fun x y => !strLt y x
theorem not_b {b : Bool} : (!b) = true ↔ b = false := by cases b <;> simp
theorem sortS_perm (xs : List Str) : (sortS xs).Perm xs := List.mergeSort_perm _ _
theorem sortS_srt (xs : List Str) : (sortS xs).Pairwise fun x y => strLt y x = false := by
  have h := List.pairwise_mergeSort (le := fun x y : Str => !strLt y x) (fun a b c h1 h2 => not_b.mpr (strLt_tr (not_b.mp h1) (not_b.mp h2))) (fun a b => by
    cases h : strLt b a with
    | false => rfl
    | true => rw [strLt_asym h] <;> rfl) xs
  exact List.Pairwise.imp (fun h => not_b.mp h) h
theorem sortS_uniq {xs ys : List Str} (h : ys.Perm xs) (s : ys.Pairwise fun x y => strLt y x = false) : ys = sortS xs :=
  List.Perm.eq_of_pairwise (le := fun x y : Str => strLt y x = false) (fun a b _ _ h1 h2 => strLt_eq h1 h2) s (sortS_srt xs) (h.trans (sortS_perm xs).symm)
theorem srt_of_sortedS : ∀ {ys : List Str}, PyProof.Rows.sortedS ys = true → ys.Pairwise fun x y => strLt y x = false := by
  have key : ∀ {ys : List Str} {p : Str}, PyProof.Rows.risingS p ys = true → (p :: ys).Pairwise fun x y => strLt y x = false := by
    intro ys
    induction ys with
    | nil => intro p _; exact List.pairwise_singleton _ _
    | cons x r ih =>
      intro p h
      unfold PyProof.Rows.risingS at h
      rw [Bool.and_eq_true] at h
      have h2 := ih h.2
      have h1 : strLt x p = false := by
        have z := not_b.mp h.1
        unfold strLt
        rw [← z]
        exact PyProof.Rows.lt_meets x p
      refine List.pairwise_cons.mpr ⟨fun y hy => ?_, h2⟩
      rcases List.mem_cons.mp hy with e | hy
      · rw [e]; exact h1
      · exact strLt_tr h1 ((List.pairwise_cons.mp h2).1 y hy)
  intro ys h
  cases ys with
  | nil => exact List.Pairwise.nil
  | cons x r => exact key h

/-! ### markers: a pair of ints and a text -/
abbrev MK := (Int × Int) × Str
def ltM (x y : MK) : Bool := if x.1 = y.1 then strLt x.2 y.2 else SrtO.lexB x.1 y.1
theorem lexB_tri {p q : Int × Int} (h1 : SrtO.lexB p q = false) (h2 : SrtO.lexB q p = false) : p = q := by
  have a := SrtO.lexB_no.mp h1
  have b := SrtO.lexB_no.mp h2
  obtain ⟨p1, p2⟩ := p
  obtain ⟨q1, q2⟩ := q
  simp only at a b
  have e1 : p1 = q1 := by omega
  have e2 : p2 = q2 := by omega
  rw [e1, e2]
theorem lexB_irr {p : Int × Int} : SrtO.lexB p p = false := SrtO.lexB_no.mpr (by omega)
theorem lexB_asym {p q : Int × Int} (h : SrtO.lexB p q = true) : SrtO.lexB q p = false := by
  have a := SrtO.lexB_iff.mp h
  exact SrtO.lexB_no.mpr (by omega)
theorem lexB_tr {x y z : Int × Int} (h1 : SrtO.lexB y x = false) (h2 : SrtO.lexB z y = false) : SrtO.lexB z x = false := by
  have a := SrtO.lexB_no.mp h1
  have b := SrtO.lexB_no.mp h2
  exact SrtO.lexB_no.mpr (by omega)
theorem ltM_no {x y : MK} : ltM y x = false ↔ SrtO.lexB y.1 x.1 = false ∧ (x.1 = y.1 → strLt y.2 x.2 = false) := by
  unfold ltM
  by_cases e : y.1 = x.1
  · rw [if_pos e]
    constructor
    · intro h
      exact ⟨by rw [e]; exact lexB_irr, fun _ => h⟩
    · intro h
      exact h.2 e.symm
  · rw [if_neg e]
    exact ⟨fun h => ⟨h, fun z => absurd z.symm e⟩, fun h => h.1⟩
theorem ltM_asym {x y : MK} (h : ltM x y = true) : ltM y x = false := by
  rw [ltM_no]
  unfold ltM at h
  by_cases e : x.1 = y.1
  · rw [if_pos e] at h
    exact ⟨by rw [e]; exact lexB_irr, fun _ => strLt_asym h⟩
  · rw [if_neg e] at h
    exact ⟨lexB_asym h, fun z => absurd z e⟩
theorem ltM_tr {x y z : MK} (h1 : ltM y x = false) (h2 : ltM z y = false) : ltM z x = false := by
  rw [ltM_no] at *
  refine ⟨lexB_tr h1.1 h2.1, fun e => ?_⟩
  have e1 : x.1 = y.1 := lexB_tri (by rw [e]; exact h2.1) h1.1
  exact strLt_tr (h1.2 e1) (h2.2 (e1.symm.trans e))
theorem ltM_eq {x y : MK} (h1 : ltM y x = false) (h2 : ltM x y = false) : x = y := by
  rw [ltM_no] at *
  have e : x.1 = y.1 := lexB_tri h2.1 h1.1
  exact Prod.ext e (strLt_eq (h1.2 e) (h2.2 e.symm))
def sortM (xs : List MK) : List MK := xs.mergeSort fun x y => !ltM y x
theorem sortM_perm (xs : List MK) : (sortM xs).Perm xs := List.mergeSort_perm _ _
theorem sortM_srt (xs : List MK) : (sortM xs).Pairwise fun x y => ltM y x = false := by
  have h := List.pairwise_mergeSort (le := fun x y : MK => !ltM y x) (fun a b c h1 h2 => not_b.mpr (ltM_tr (not_b.mp h1) (not_b.mp h2))) (fun a b => by
    cases h : ltM b a with
    | false => rfl
    | true => rw [ltM_asym h] <;> rfl) xs
  exact List.Pairwise.imp (fun h => not_b.mp h) h
theorem sortM_uniq {xs ys : List MK} (h : ys.Perm xs) (s : ys.Pairwise fun x y => ltM y x = false) : ys = sortM xs :=
  List.Perm.eq_of_pairwise (le := fun x y : MK => ltM y x = false) (fun a b _ _ h1 h2 => ltM_eq h1 h2) s (sortM_srt xs) (h.trans (sortM_perm xs).symm)
def markD (m : MK) : D := .tup [.tup [.int m.1.1, .int m.1.2], .str m.2]

/-! ### as values of the machine -/
def IsMk (h : Heap) (v : Value) (m : MK) : Prop := ∃ t o q u n t1 t2, v = .ref t ∧ h.get? t = some o ∧ o.cls = .type "tuple" ∧ o.data = .seq #[.ref q, .str m.2 u] n ∧ ∃ o2 n2, h.get? q = some o2 ∧ o2.cls = .type "tuple" ∧ o2.data = .seq #[.int m.1.1 t1, .int m.1.2 t2] n2
theorem IsMk.keeps {h h' : Heap} {v : Value} {m : MK} (p : IsMk h v m) (k : ∀ b o, h.get? b = some o → o.cls = .type "tuple" → h'.get? b = some o) : IsMk h' v m := by
  obtain ⟨t, o, q, u, n, t1, t2, e, ho, hc, hd, o2, n2, h2, c2, d2⟩ := p
  exact ⟨t, o, q, u, n, t1, t2, e, k _ _ ho hc, hc, hd, o2, n2, k _ _ h2 c2, c2, d2⟩
theorem IsMk.uniq {h : Heap} {v : Value} {m m' : MK} (p : IsMk h v m) (p' : IsMk h v m') : m = m' := by
  obtain ⟨⟨m1, m2⟩, m3⟩ := m
  obtain ⟨⟨m1', m2'⟩, m3'⟩ := m'
  obtain ⟨t, o, q, u, n, t1, t2, e, ho, hc, hd, o2, n2, h2, c2, d2⟩ := p
  obtain ⟨t', o', q', u', n', t1', t2', e', ho', hc', hd', o2', n2', h2', c2', d2'⟩ := p'
  rw [e] at e'
  cases e'
  rw [ho] at ho'
  cases ho'
  rw [hd] at hd'
  injection hd' with z1 z2
  simp only [Array.mk.injEq, List.cons.injEq, Value.ref.injEq, Value.str.injEq] at z1
  obtain ⟨z3, ⟨z4, _⟩, _⟩ := z1
  subst z3
  rw [h2] at h2'
  cases h2'
  rw [d2] at d2'
  injection d2' with y1 y2
  simp only [Array.mk.injEq, List.cons.injEq, Value.int.injEq] at y1
  obtain ⟨⟨y3, _⟩, ⟨y4, _⟩, _⟩ := y1
  rw [y3, y4, z4]
section
variable {prog : Program} {w : World} {A : Around} {E : Value → Shared → Prop} {s : Shared}
theorem mk_cmp {vs : List Value} {k : Value → MK} (hu : A.units + 1 < cLine) (hp : ∀ v ∈ vs, IsMk s.heap v (k v)) : SrtO.Cmp prog w A s (PyProof.Rows.tuples' false) (fun p => p.1 ∈ vs) (SrtO.lt2 fun v u => ltM (k v) (k u)) := by
  intro p q hm hm'
  have h1 := hp _ hm
  have h2 := hp _ hm'
  show wpAny (model prog w) A (PyProof.Rows.keyLt' (PyProof.Rows.tuples' false) p.1 q.1) (fun r s' => s' = s ∧ r = ltM (k p.1) (k q.1)) (fun _ _ => False) s
  generalize k p.1 = m at h1 ⊢
  generalize k q.1 = m' at h2 ⊢
  obtain ⟨⟨m1, m2⟩, m3⟩ := m
  obtain ⟨⟨m1', m2'⟩, m3'⟩ := m'
  obtain ⟨t, o, a, u, n, t1, t2, e, ho, hc, hd, o2, n2, h2a, c2, d2⟩ := h1
  obtain ⟨t', o', a', u', n', t1', t2', e', ho', hc', hd', o2', n2', h2a', c2', d2'⟩ := h2
  rw [e, e']
  refine PySem.W.kat_lt ho hd ho' hd' ?_
  show PySem.W.KatLex prog w A false (decide (2 < 2)) _ [(.ref a, .ref a'), (.str m3 u, .str m3' u')] 0 s
  have q1 : SeqAt.EqAt A s (.ref a) (.ref a') (PyData.eqv (.tuple [.int m1, .int m2]) (.tuple [.int m1', .int m2'])) := by
    refine SeqAt.eqAt_reads _ _ A s _ _ [] [] (.tuple h2a c2 d2 (.cons (.int _ _) (.cons (.int _ _) .nil))) (.tuple h2a' c2' d2' (.cons (.int _ _) (.cons (.int _ _) .nil))) (by rfl) (by rfl) ?_
    show A.units + min 1 1 < cLine
    exact hu
  have q2 : PyData.eqv (.tuple [.int m1, .int m2]) (.tuple [.int m1', .int m2']) = decide ((m1, m2) = (m1', m2')) := by
    have z : PyData.eqv (.tuple [.int m1, .int m2]) (.tuple [.int m1', .int m2']) = ((m1 == m1') && ((m2 == m2') && true)) := by rfl
    rw [z, Bool.and_true]
    apply Bool.eq_iff_iff.mpr
    rw [decide_eq_true_eq, Bool.and_eq_true, beq_iff_eq, beq_iff_eq, Prod.mk.injEq]
  rw [q2] at q1
  refine PySem.W.kat_cons (q1 prog w _ _ ?_)
  refine PySem.W.kat_go (fun e1 => ?_) (fun e1 => ?_)
  · have ex := of_decide_eq_true e1
    refine PySem.W.kat_yes (PySem.W.kat_cons (SeqAt.EqAt.str_str m3 u m3' u' prog w _ _ ?_))
    refine PySem.W.kat_go (fun e2 => ?_) (fun e2 => ?_)
    · have ey : m3 = m3' := by simpa using e2
      refine PySem.W.kat_yes (PySem.W.kat_nil ⟨rfl, ?_⟩)
      unfold ltM
      rw [if_pos ex, ey]
      exact (decide_eq_false (List.lt_irrefl _)).symm
    · refine PySem.W.kat_no (PySem.W.kat_one _ _ (PyProof.Rows.lt_str ?_))
      refine (show s = s ∧ decide (m3.cps.toList < m3'.cps.toList) = ltM ((m1, m2), m3) ((m1', m2'), m3') from ⟨rfl, ?_⟩)
      unfold ltM
      rw [if_pos ex]
      rfl
  · have ex := of_decide_eq_false e1
    refine PySem.W.kat_no (PySem.W.kat_one _ _ ?_)
    refine HT.lt_tupInts (ns := [m1, m2]) (ms := [m1', m2']) ⟨o2, h2a, c2, n2, d2⟩ ⟨o2', h2a', c2', n2', d2'⟩ ?_ ?_ (by omega) ?_
    · exact .cons _ _ (.cons _ _ .nil)
    · exact .cons _ _ (.cons _ _ .nil)
    · refine (show s = s ∧ HT.lexLt [m1, m2] [m1', m2'] = ltM ((m1, m2), m3) ((m1', m2'), m3') from ⟨rfl, ?_⟩)
      unfold ltM
      rw [if_neg ex, HT.lexLt_cons, HT.lexLt_cons, HT.lexLt_nil_nil]
      unfold SrtO.lexB
      by_cases z1 : m1 = m1'
      · rw [if_pos z1, if_pos z1]
        by_cases z2 : m2 = m2'
        · exact absurd (by rw [z1, z2]) ex
        · rw [if_neg z2]
      · rw [if_neg z1, if_neg z1]
theorem mk_firsts {h : Heap} : ∀ {vs : List Value}, (∀ v ∈ vs, ∃ m, IsMk h v m) → ∃ fs : List Value, PySem.W.KatTups h vs fs ∧ fs.length = vs.length ∧ ∀ f ∈ fs, ∃ q o2, f = Value.ref q ∧ h.get? q = some o2 ∧ o2.cls = .type "tuple"
  | [], _ => ⟨[], PySem.W.KatTups.nil, rfl, fun _ hm => by simp at hm⟩
  | v :: vs, hp => by
    obtain ⟨fs, h1, h2, h3⟩ := mk_firsts (vs := vs) fun v' hm => hp v' (List.mem_cons_of_mem _ hm)
    obtain ⟨m, t, o, q, u, n, t1, t2, e, ho, hc, hd, o2, n2, g2, c2, d2⟩ := hp v List.mem_cons_self
    subst e
    refine ⟨.ref q :: fs, PySem.W.KatTups.cons ho hc hd rfl h1, by rw [List.length_cons, List.length_cons, h2], fun f hm => ?_⟩
    rcases List.mem_cons.mp hm with rfl | hm
    · exact ⟨q, o2, rfl, g2, c2⟩
    · exact h3 f hm
theorem mk_sortable {a : Addr} {vs : List Value} {k : Value → MK} (hu : A.units + 1 < cLine) (h0 : 0 < vs.length) (hp : ∀ v ∈ vs, IsMk s.heap v (k v)) (ha : ∀ o, s.heap.get? a = some o → o.cls ≠ .type "tuple") : SrtO.SortableO prog w A s a vs fun v u => ltM (k v) (k u) := by
  intro h' keep
  have hp' : ∀ v ∈ vs, IsMk h' v (k v) := fun v hm => (hp v hm).keeps fun b o e c => keep b o (fun z => by subst z; exact ha o e c) e
  obtain ⟨fs, h1, h2, h3⟩ := mk_firsts fun v hm => ⟨_, hp' v hm⟩
  refine ⟨PyProof.Rows.tuples' false, fun Q E hq => ?_, mk_cmp (s := { s with heap := h' }) hu hp'⟩
  refine PySem.W.kat_kind (T := .type "tuple") h1 (by omega) (fun f hm => ?_) (by rfl) ?_
  · obtain ⟨q, o2, rfl, g2, c2⟩ := h3 f hm
    show PySem.W.Looks _ h' (typeOf (Value.ref q)) (Value.type "tuple")
    exact c2 ▸ (PySem.W.Looks.ld g2).andThen .now
  · have e : (Value.type "tuple" != Value.type "tuple") = false := by first | decide +kernel | rfl | decide
    rw [e]
    exact hq
end

/-! ### as rules of the layer -/
def rSortedM (K : PySem.W.Frag) : List V → Hp → VK → Prop := fun vs H Q => ∃ (F : Fz) (a : Addr) (xs : List V) (ms : List MK), vs = [V.ref a] ∧ SqL K H a xs ∧ DnA K F H (ms.map markD) xs ∧
  ∀ ys p, DnA K F H ((sortM ms).map markD) ys → H p = none → Q (.ref p) (upd H p (.lst ys))
section
variable {X : Cx} {K : PySem.W.Frag} {F : Fz} {H : Hp}
theorem mk_of_dn {pins : List (Addr × Obj)} {σ : L2.St} {s : Shared} (I : Inv X pins σ H s) {m : MK} {x : V} {u : Value} (h : Dn X.K F H (markD m) x) (r : RelV x u) : IsMk s.heap u m := by
  obtain ⟨a, vs, rfl, h1, h2⟩ := h
  obtain rfl : u = Value.ref a := r
  obtain ⟨v1, r1, rfl, d1, h3⟩ := h2.cons_of
  obtain ⟨v2, r2, rfl, d2, h4⟩ := h3.cons_of
  have e2 := h4.nil_of
  subst e2
  replace d2 : v2 = .str m.2 := d2
  subst d2
  obtain ⟨b, ws, rfl, k1, k2⟩ := d1
  obtain ⟨w1, s1, rfl, e1, k3⟩ := k2.cons_of
  obtain ⟨w2, s2, rfl, e2, k4⟩ := k3.cons_of
  have e3 := k4.nil_of
  subst e3
  replace e1 : w1 = .int m.1.1 := e1
  replace e2 : w2 = .int m.1.2 := e2
  subst e1 e2
  obtain ⟨its, rv, ⟨o, ho, hc, n, hd⟩, _⟩ := I.tuple h1
  obtain ⟨its2, rv2, ⟨o2, ho2, hc2, n2, hd2⟩, _⟩ := I.tuple k1
  obtain ⟨y1, y2, rfl, g1, g2⟩ := vals2 rv
  obtain ⟨z1, z2, rfl, g3, g4⟩ := vals2 rv2
  obtain rfl : y1 = Value.ref b := g1
  obtain ⟨t, rfl⟩ := g2
  obtain ⟨t1, rfl⟩ := g3
  obtain ⟨t2, rfl⟩ := g4
  exact ⟨a, o, b, t, n, t1, t2, rfl, ho, hc, hd, o2, n2, ho2, hc2, hd2⟩
theorem mks_of {pins : List (Addr × Obj)} {σ : L2.St} {s : Shared} (I : Inv X pins σ H s) {xs : List V} {us : List Value} (r : Vals xs us) : ∀ {ms : List MK}, DnA X.K F H (ms.map markD) xs →
    (∀ u ∈ us, ∃ m, IsMk s.heap u m ∧ Dn X.K F H (markD m) (backV u)) ∧ (∀ k : Value → MK, (∀ u ∈ us, IsMk s.heap u (k u)) → us.map k = ms) ∧ (∀ x ∈ xs, ∃ a, x = V.ref a) := by
  induction r with
  | nil =>
    intro ms h
    cases ms with
    | nil => exact ⟨fun _ h => by simp at h, fun _ _ => rfl, fun _ h => by simp at h⟩
    | cons _ _ => exact h.elim
  | @cons x u xs us r t ih =>
    intro ms h
    cases ms with
    | nil => exact h.elim
    | cons m ms =>
      have hd : Dn X.K F H (markD m) x := h.1
      have ht : DnA X.K F H (ms.map markD) xs := h.2
      obtain ⟨h1, h2, h3⟩ := ih ht
      have i1 := mk_of_dn I hd r
      obtain ⟨a, e⟩ : ∃ a, x = V.ref a := by
        obtain ⟨a, vs, e, _⟩ := hd
        exact ⟨a, e⟩
      have eu : u = Value.ref a := by rw [e] at r; exact r
      refine ⟨fun v hv => ?_, fun k hk => ?_, fun y hy => ?_⟩
      · rcases List.mem_cons.mp hv with z | hv
        · refine ⟨m, by rw [z]; exact i1, ?_⟩
          have e3 : backV v = x := by rw [z, eu, e] <;> rfl
          rw [e3]
          exact hd
        · exact h1 v hv
      · rw [List.map_cons, h2 k fun v hv => hk v (List.mem_cons_of_mem _ hv), (hk u List.mem_cons_self).uniq i1]
      · rcases List.mem_cons.mp hy with z | hy
        · exact ⟨a, by rw [z, e]⟩
        · exact h3 y hy
theorem dna_map {k : Value → MK} {out : List Value} (h : ∀ u ∈ out, Dn K F H (markD (k u)) (backV u)) : DnA K F H ((out.map k).map markD) (out.map backV) := by
  induction out with
  | nil => trivial
  | cons u r ih => exact ⟨h u List.mem_cons_self, ih fun v hv => h v (List.mem_cons_of_mem _ hv)⟩
open Classical in
theorem cr_sortedM (hu : X.A.units + 5 < cLine) : CallR X (.builtin "sorted") (rSortedM X.K) := by
  intro pins s σ H vs us Q I r h
  obtain ⟨F, a, xs, ms, rfl, hs, hx, q⟩ := h
  obtain ⟨its, rv, hl, hz⟩ := I.list hs
  obtain ⟨u, rfl, ru⟩ := vals1 r
  obtain rfl : u = Value.ref a := ru
  obtain ⟨h1, h2, h3⟩ := mks_of I rv hx
  obtain ⟨e1, e2⟩ := refs_back rv h3
  obtain ⟨k, hk⟩ : ∃ k : Value → MK, ∀ u ∈ its, IsMk s.heap u (k u) := ⟨fun u => if h : ∃ m, IsMk s.heap u m then choose h else ((0, 0), ""), fun u hu => by
    obtain ⟨m, hm, _⟩ := h1 u hu
    have z : ∃ m, IsMk s.heap u m := ⟨m, hm⟩
    show IsMk s.heap u (if h : ∃ m, IsMk s.heap u m then choose h else ((0, 0), ""))
    rw [dif_pos z]
    exact choose_spec z⟩
  have hzl : its.length ≤ sizeLine := by rw [← rv.length]; exact hz
  refine SrtO.sorted_ord (ltv := fun v u => ltM (k v) (k u)) ⟨fun x y => ltM_asym, fun x y z => ltM_tr⟩ hl.isList hzl (fun h2' h₁ b hb kk => ?_) fun out hs hb => ?_
  · refine mk_sortable (s := { s with heap := h₁ }) (show X.A.units + 1 + 1 + 1 < cLine by omega) (by omega) (fun v hv => (hk v hv).keeps fun c o e _ => (kk c o e).2) fun o e => ?_
    have e' : some o = some (PyProof.Rows.seqObj "list" its.toArray 0) := e.symm.trans hb
    cases e'
    intro c
    exact absurd (Value.type.inj c) (by decide)
  · have hp := hb.perm
    have eo : out.map k = sortM ms := by
      refine sortM_uniq ?_ (List.pairwise_map.mpr hs)
      rw [← h2 k hk]
      exact hp.map k
    have hd : DnA X.K F H ((sortM ms).map markD) (out.map backV) := by
      rw [← eo]
      refine dna_map fun u hu => ?_
      have hu' := hp.mem_iff.mp hu
      obtain ⟨m, i1, i2⟩ := h1 u hu'
      rw [(hk u hu').uniq i1]
      exact i2
    have h3' : ∀ u ∈ out, ∃ a, u = Value.ref a := fun u hu => e2 u (hp.mem_iff.mp hu)
    obtain ⟨n, hn⟩ := PyProof.Rows.sortedAll_at s.heap its out.toArray
    have hn' : (PyProof.Rows.sortedAll s.heap its out.toArray).get? (s.heap.objs.size + 1) = some (PyProof.Rows.seqObj "list" out.toArray n) := hn
    refine ⟨.ref (s.heap.objs.size + 1), upd H (s.heap.objs.size + 1) (.lst (out.map backV)), I.laid (t' := s.toks) (fun _ _ => PyProof.Rows.sortedAll_old) (Nat.le_succ _) ⟨?_, out, n, vals_back h3', hn'⟩, rfl, q _ _ hd (I.hok.fresh (Nat.le_succ _))⟩
    rw [List.length_map, hp.length_eq]
    exact hzl
end
section
variable {X : Cx} {G : List S} {R : Res} {e : Expr} {pos p : Pos} {r : Nat}
theorem strs_of {K : PySem.W.Frag} {F : Fz} {H : Hp} : ∀ {xs : List Str} {vs : List V}, DnA K F H (xs.map D.str) vs → vs = xs.map V.str
  | [], [], _ => rfl
  | [], _ :: _, h => h.elim
  | _ :: _, [], h => h.elim
  | x :: xs, v :: vs, h => by
    have e : v = .str x := h.1
    rw [List.map_cons, e, strs_of h.2]
theorem of_strs {K : PySem.W.Frag} {F : Fz} {H : Hp} : ∀ {xs : List Str}, DnA K F H (xs.map D.str) (xs.map V.str)
  | [] => trivial
  | x :: xs => ⟨rfl, of_strs⟩
/-- sorted(xs), texts -/
theorem ev_sortedS {xs : List Str} (hm : X.mg "sorted" = none) (hl : xs.length < 64) (ha : Ev X e G R (.bor (xs.map D.str))) (hg : Gl X "sorted" := by rfl) (he : starEach [e] X.env = [(false, eval e X.env)] := by rfl) : Ev X (.Call (.Name "sorted" p) [e] [] pos) G R (.own ((sortS xs).map D.str)) := by
  refine ev_callB cr_sortedS hm (by decide +kernel) ?_ (eva_cons ha eva_nil he) hg (by decide) (by decide) he (by rfl)
  intro H0 vs H F Q ft h k
  obtain ⟨v, e, h'⟩ := srs1 h
  subst e
  obtain ⟨l, ws, rfl, h1, h2⟩ := h'
  have ew := strs_of h2
  subst ew
  refine ⟨l, xs, rfl, SqL.of h1, hl, fun ys p hp hs hn => ?_⟩
  have e : ys = sortS xs := sortS_uniq hp (srt_of_sortedS hs)
  subst e
  obtain ⟨g, s⟩ := sr_new (K := X.K) ft hn (of_strs (K := X.K) (F := F) (H := H) (xs := sortS xs))
  exact k _ _ F g s
/-- sorted(xs), markers -/
theorem ev_sortedM {ms : List MK} (hu : Room r X.A) (hm : X.mg "sorted" = none) (ha : Ev X e G R (.bor (ms.map markD))) (hg : Gl X "sorted" := by rfl) (he : starEach [e] X.env = [(false, eval e X.env)] := by rfl) : Ev X (.Call (.Name "sorted" p) [e] [] pos) G R (.own ((sortM ms).map markD)) := by
  intro en A σ H F Q st k
  refine ⟨_, pe_callB (cr_sortedM (by have := hu.un; omega)) hg hm (by decide +kernel) pa_t (by decide) (by decide) he (by rfl), ?_⟩
  refine eva_cons ha eva_nil he en A σ H F _ st fun vs H1 F1 g1 r1 => ?_
  obtain ⟨v, e, h'⟩ := srs1 r1
  subst e
  obtain ⟨l, ws, rfl, h1, h2⟩ := h'
  refine ⟨F1, l, ws, ms, rfl, SqL.of h1, h2, fun ys p hd hn => ?_⟩
  obtain ⟨g, s⟩ := sr_new g1.t hn hd
  exact k _ _ F1 (g1.trans g) (SR.pre g1.nn s)
end
end DL

namespace DL
open PySem PySem.Spec L2

structure Pc where
  l : Rat
  a : Rat
  b : Rat
  c : Rat
@[ext] theorem Pc.ext' {p q : Pc} (h1 : p.l = q.l) (h2 : p.a = q.a) (h3 : p.b = q.b) (h4 : p.c = q.c) : p = q := by
  cases p; cases q; simp_all
abbrev fmD (a b c : Rat) : D := .tup [ratD a, ratD b, ratD c]
abbrev pcD (p : Pc) : D := .tup [ratD p.l, fmD p.a p.b p.c]
abbrev trD (t : List Pc) : D := .tup (t.map pcD)
abbrev mkD (m : Rat × Str) : D := .tup [ratD m.1, .str m.2]
abbrev ntD (x : Str × List Pc) : D := .tup [.str x.1, trD x.2]
structure Clip where
  len : Rat
  tr : List (Str × List Pc)
  ms : List (Rat × Str)
abbrev clipD (c : Clip) : D := .tup [ratD c.len, .tup (c.tr.map ntD), .tup (c.ms.map mkD)]
def valIn (p : Pc) (t : Rat) : Rat := p.a + t * (p.b + p.c * t)
def slIn (p : Pc) (t : Rat) : Rat := p.b + 2 * (p.c * t)
/-- bounds of a piece: of its length, of its numbers -/
structure PcB (nl na : Nat) (p : Pc) : Prop where
  l : Bd nl p.l
  a : Bd na p.a
  b : Bd na p.b
  c : Bd na p.c
theorem PcB.mono {nl na ml ma : Nat} {p : Pc} (h : PcB nl na p) (h1 : nl ≤ ml) (h2 : na ≤ ma) : PcB ml ma p := ⟨h.l.mono h1, h.a.mono h2, h.b.mono h2, h.c.mono h2⟩
abbrev TrB (nl na : Nat) (t : List Pc) : Prop := ∀ p ∈ t, PcB nl na p
theorem bd_valIn {p : Pc} {na np : Nat} {t : Rat} (h : PcB nl na p) (ht : Bd np t) : Bd (3 * na + 2 * np + 2) (valIn p t) := by
  have h1 := h.a
  have h2 := h.b
  have h3 := h.c
  have : Bd (na + (np + (na + (na + np) + 1)) + 1) (valIn p t) := Bd.add
  exact this.mono (by omega)
theorem bd_slIn {p : Pc} {na np : Nat} {t : Rat} (h : PcB nl na p) (ht : Bd np t) : Bd (2 * na + np + 3) (slIn p t) := by
  have h2 := h.b
  have h3 := h.c
  have : Bd (na + (2 + (na + np)) + 1) (slIn p t) := Bd.add
  exact this.mono (by omega)
/-- where the k-th piece begins -/
def off : List Pc → Nat → Rat
  | _, 0 => 0
  | [], _ + 1 => 0
  | p :: t, k + 1 => p.l + off t k
theorem off_zero (t : List Pc) : off t 0 = 0 := by cases t <;> rfl
theorem off_succ : ∀ {t : List Pc} {k : Nat} {p : Pc}, t[k]? = some p → off t (k + 1) = off t k + p.l
  | q :: t, 0, p, h => by
    have e : q = p := Option.some.inj h
    subst e
    show q.l + off t 0 = 0 + q.l
    rw [off_zero]
    grind
  | q :: t, k + 1, p, h => by
    have ih := off_succ (t := t) (k := k) (p := p) (by simpa using h)
    show q.l + off t (k + 1) = q.l + off t k + p.l
    rw [ih]
    grind
  | [], _, _, h => by simp at h
theorem bd_off {nl : Nat} : ∀ {t : List Pc} (k : Nat), (∀ p ∈ t, Bd nl p.l) → Bd ((nl + 1) * k + 1) (off t k)
  | t, 0, _ => by rw [off_zero]; exact Bd.zero.mono (by omega)
  | [], k + 1, _ => (show Bd _ (0 : Rat) from Bd.zero.mono (by omega))
  | p :: t, k + 1, h => by
    have h1 := h p List.mem_cons_self
    have h2 := bd_off (t := t) k fun q hq => h q (List.mem_cons_of_mem _ hq)
    have : Bd (nl + ((nl + 1) * k + 1) + 1) (p.l + off t k) := Bd.add
    exact this.mono (by rw [Nat.mul_succ]; omega)
/-- the piece at a position, and the place in it; back: the earlier one where two meet -/
def pieceAt (back : Bool) : Rat → Rat → List Pc → Option (Pc × Rat)
  | _, _, [] => none
  | s, x, [p] => some (p, x - s)
  | s, x, p :: q :: t => if x < s + p.l ∨ (back = true ∧ x = s + p.l) then some (p, x - s) else pieceAt back (s + p.l) x (q :: t)
theorem drop_cons {α : Type} {t : List α} {k : Nat} {p : α} (h : t[k]? = some p) : t.drop k = p :: t.drop (k + 1) := by
  obtain ⟨h1, h2⟩ := List.getElem?_eq_some_iff.mp h
  rw [List.drop_eq_getElem_cons h1, h2]
theorem pieceAt_step {back : Bool} {t : List Pc} {k : Nat} {p : Pc} {x : Rat} (h : t[k]? = some p) (h2 : k + 1 < t.length) (hn : ¬ (x < off t k + p.l ∨ (back = true ∧ x = off t k + p.l))) : pieceAt back (off t k) x (t.drop k) = pieceAt back (off t (k + 1)) x (t.drop (k + 1)) := by
  have e : t[k + 1]? = some t[k + 1] := List.getElem?_eq_getElem h2
  rw [drop_cons h, drop_cons e, off_succ h]
  show (if _ then _ else _) = _
  rw [if_neg hn]
theorem pieceAt_hit {back : Bool} {t : List Pc} {k : Nat} {p : Pc} {x : Rat} (h : t[k]? = some p) (hn : (x < off t k + p.l ∨ (back = true ∧ x = off t k + p.l)) ∨ k + 1 = t.length) : pieceAt back (off t k) x (t.drop k) = some (p, x - off t k) := by
  rw [drop_cons h]
  obtain ⟨h1, _⟩ := List.getElem?_eq_some_iff.mp h
  cases e : t.drop (k + 1) with
  | nil => rfl
  | cons q r =>
    have h3 : ¬ k + 1 = t.length := fun z => by rw [List.drop_of_length_le (by omega)] at e; cases e
    rcases hn with hn | hn
    · show (if _ then _ else _) = _
      rw [if_pos hn]
    · exact absurd hn h3
theorem off_len {t : List Pc} {k : Nat} (h : k < t.length) : ∃ p, t[k]? = some p := ⟨_, List.getElem?_eq_getElem h⟩
/-- the value at a position -/
def valAt (back : Bool) (t : List Pc) (x : Rat) : Rat := match pieceAt back 0 x t with | some (p, u) => valIn p u | none => 0
/-- one piece goes on where the one before it ends -/
def Cont : List Pc → Prop
  | p :: q :: t => q.a = valIn p p.l ∧ Cont (q :: t)
  | _ => True
theorem valIn_zero (p : Pc) : valIn p 0 = p.a := by unfold valIn; grind
theorem at_back : ∀ {t : List Pc} {s x : Rat}, Cont t → (∀ p ∈ t, 0 < p.l) → ∀ {p u}, pieceAt true s x t = some (p, u) → ∃ q v, pieceAt false s x t = some (q, v) ∧ valIn q v = valIn p u
  | [], _, _, _, _, _, _, h => by cases h
  | [p], s, x, _, _, _, _, h => ⟨_, _, h, rfl⟩
  | p :: q :: t, s, x, hc, hl, p', u, h => by
    have h : (if x < s + p.l ∨ (true = true ∧ x = s + p.l) then some (p, x - s) else pieceAt true (s + p.l) x (q :: t)) = some (p', u) := h
    have g : pieceAt false s x (p :: q :: t) = (if x < s + p.l ∨ (false = true ∧ x = s + p.l) then some (p, x - s) else pieceAt false (s + p.l) x (q :: t)) := rfl
    rw [g]
    by_cases c1 : x < s + p.l
    · rw [if_pos (.inl c1)] at h ⊢
      exact ⟨_, _, h, rfl⟩
    · by_cases c2 : x = s + p.l
      · rw [if_pos (.inr ⟨rfl, c2⟩)] at h
        rw [if_neg (fun z => by rcases z with z | z; exact c1 z; exact absurd z.1 (by decide))]
        cases h
        have hq := hl q (List.mem_cons_of_mem _ List.mem_cons_self)
        have z : ∀ r, pieceAt false (s + p.l) x (q :: r) = some (q, x - (s + p.l)) := by
          intro r
          cases r with
          | nil => rfl
          | cons _ _ =>
            show (if _ then _ else _) = _
            rw [if_pos (.inl (by grind))]
        refine ⟨_, _, z t, ?_⟩
        have e1 : x - (s + p.l) = 0 := by grind
        have e2 : x - s = p.l := by grind
        rw [e1, e2, valIn_zero, hc.1]
      · rw [if_neg (fun z => by rcases z with z | z; exact c1 z; exact c2 z.2)] at h
        rw [if_neg (fun z => by rcases z with z | z; exact c1 z; exact absurd z.1 (by decide))]
        exact at_back hc.2 (fun r hr => hl r (List.mem_cons_of_mem _ hr)) h
theorem pieceAt_some {back : Bool} : ∀ {t : List Pc} {s x : Rat}, t ≠ [] → ∃ p u, pieceAt back s x t = some (p, u)
  | [], _, _, h => absurd rfl h
  | [p], s, x, _ => ⟨_, _, rfl⟩
  | p :: q :: t, s, x, _ => by
    have g : pieceAt back s x (p :: q :: t) = (if x < s + p.l ∨ (back = true ∧ x = s + p.l) then some (p, x - s) else pieceAt back (s + p.l) x (q :: t)) := rfl
    rw [g]
    by_cases c : x < s + p.l ∨ (back = true ∧ x = s + p.l)
    · rw [if_pos c]
      exact ⟨_, _, rfl⟩
    · rw [if_neg c]
      exact pieceAt_some (by simp)
/-- where two pieces meet both tell the value -/
theorem valAt_back {t : List Pc} {x : Rat} (hc : Cont t) (hl : ∀ p ∈ t, 0 < p.l) (h0 : t ≠ []) : valAt false t x = valAt true t x := by
  obtain ⟨p, u, h⟩ := pieceAt_some (back := true) (s := 0) (x := x) h0
  obtain ⟨q, v, h1, h2⟩ := at_back hc hl h
  unfold valAt
  rw [h, h1]
  exact h2

/-! ### markers -/
def kM (m : Rat × Str) : MK := ((m.1.num, m.1.den), m.2)
theorem kM_inj {x y : Rat × Str} (h : kM x = kM y) : x = y := by
  unfold kM at h
  simp only [Prod.mk.injEq] at h
  exact Prod.ext (Rat.ext h.1.1 (by omega)) h.2
noncomputable def sortR (l : List (Rat × Str)) : List (Rat × Str) := l.mergeSort fun x y => !ltM (kM y) (kM x)
theorem sortR_perm (l : List (Rat × Str)) : (sortR l).Perm l := List.mergeSort_perm _ _
theorem sortR_map (l : List (Rat × Str)) : (sortR l).map kM = sortM (l.map kM) := by
  refine sortM_uniq ((sortR_perm l).map kM) ?_
  rw [List.pairwise_map]
  have h := List.pairwise_mergeSort (le := fun x y : Rat × Str => !ltM (kM y) (kM x)) (fun a b c h1 h2 => not_b.mpr (ltM_tr (not_b.mp h1) (not_b.mp h2))) (fun a b => by
    cases h : ltM (kM b) (kM a) with
    | false => rfl
    | true => rw [ltM_asym h] <;> rfl) l
  exact List.Pairwise.imp (fun h => not_b.mp h) h
section
variable {X : Cx} {G : List S} {R : Res} {e : Expr} {pos p : Pos} {r : Nat}
theorem ev_sortedR {ms : List (Rat × Str)} (hu : Room r X.A) (hm : X.mg "sorted" = none) (ha : Ev X e G R (.bor (ms.map mkD))) (hg : Gl X "sorted" := by rfl) (he : starEach [e] X.env = [(false, eval e X.env)] := by rfl) : Ev X (.Call (.Name "sorted" p) [e] [] pos) G R (.own ((sortR ms).map mkD)) := by
  have e1 : ∀ l : List (Rat × Str), l.map mkD = (l.map kM).map markD := fun l => by rw [List.map_map]; rfl
  rw [e1, sortR_map]
  rw [e1] at ha
  exact ev_sortedM hu hm ha hg he
end
/-- the digits as a list -/
def digD (d : Nat → Nat) (n : Nat) : List D := (List.range n).map fun i => D.int (d i : Nat)
theorem digD_len (d : Nat → Nat) (n : Nat) : (digD d n).length = n := by unfold digD; rw [List.length_map, List.length_range]
theorem digD_at {d : Nat → Nat} {n i : Nat} (h : i < n) : atI (digD d n) (i : Int) = some (.int (d i : Nat)) := by
  refine atI_nat ?_
  unfold digD
  rw [List.getElem?_map, List.getElem?_range h]
  rfl
theorem map_at {α : Type} {f : α → D} {t : List α} {k : Nat} {p : α} (h : t[k]? = some p) : atI (t.map f) (k : Int) = some (f p) := atI_nat (by rw [List.getElem?_map, h]; rfl)
end DL
namespace DL
open PySem PySem.Spec L2
/-- the bounds of a track and a position -/
structure TB (nl na np : Nat) (t : List Pc) (x : Rat) : Prop where
  tr : TrB nl na t
  x : Bd np x
  len : t.length ≤ 100
  le : 3 * na + 2 * (np + (nl + 1) * t.length + 2) + 2 ≤ 4000
theorem pieceAt_bd {back : Bool} {nl na np : Nat} {x : Rat} (hx : Bd np x) : ∀ {t : List Pc} {s : Rat} {ns : Nat} {p : Pc} {u : Rat}, TrB nl na t → Bd ns s → pieceAt back s x t = some (p, u) → p ∈ t ∧ Bd (np + (ns + (nl + 1) * t.length) + 1) u
  | [], _, _, _, _, _, _, h => by cases h
  | [q], s, ns, p, u, ht, hs, h => by
    have h : some (q, x - s) = some (p, u) := h
    cases h
    exact ⟨List.mem_cons_self, (Bd.sub : Bd (np + ns + 1) (x - s)).mono (by omega)⟩
  | q :: r :: t, s, ns, p, u, ht, hs, h => by
    have h : (if x < s + q.l ∨ (back = true ∧ x = s + q.l) then some (q, x - s) else pieceAt back (s + q.l) x (r :: t)) = some (p, u) := h
    by_cases c : x < s + q.l ∨ (back = true ∧ x = s + q.l)
    · rw [if_pos c] at h
      cases h
      exact ⟨List.mem_cons_self, (Bd.sub : Bd (np + ns + 1) (x - s)).mono (by omega)⟩
    · rw [if_neg c] at h
      have hq := (ht q List.mem_cons_self).l
      have hs' : Bd (ns + nl + 1) (s + q.l) := Bd.add
      obtain ⟨h1, h2⟩ := pieceAt_bd hx (t := r :: t) (fun y hy => ht y (List.mem_cons_of_mem _ hy)) hs' h
      refine ⟨List.mem_cons_of_mem _ h1, h2.mono ?_⟩
      rw [List.length_cons (a := q), Nat.mul_succ]
      omega
theorem off_bd {nl na np : Nat} {t : List Pc} {x : Rat} (h : TB nl na np t x) {k : Nat} (hk : k ≤ t.length) : Bd ((nl + 1) * t.length + 1) (off t k) :=
  (bd_off k fun p hp => (h.tr p hp).l).mono (by have := Nat.mul_le_mul_left (nl + 1) hk; omega)
def trkOf (tr : List (Str × List Pc)) (s : Str) : List Pc := tr.foldl (fun f x => if x.1 = s then x.2 else f) []
def joints (t : List Pc) : List Rat := (List.range (t.length + 1)).map (off t)
def samples (a b : Rat) (n : Nat) : List Rat := (List.range (n + 1)).map fun j => a + (b - a) * Rat.divInt (j : Nat) (n : Nat)
theorem samples_bd {a b : Rat} {n m c : Nat} (ha : Bd n a) (hb : Bd m b) (hc : c < 128) {x : Rat} (h : x ∈ samples a b c) : Bd (2 * n + m + 9) x := by
  obtain ⟨j, hj, rfl⟩ := List.mem_map.mp h
  have hj := List.mem_range.mp hj
  have h1 : Bd 7 (Rat.divInt (j : Nat) (c : Nat)) := bd_divInt (by omega) (by omega) (by decide)
  exact (Bd.add : Bd (n + (m + n + 1 + 7) + 1) (a + (b - a) * Rat.divInt (j : Nat) (c : Nat))).mono (by omega)
theorem joints_bd {t : List Pc} {nl : Nat} (h : ∀ p ∈ t, Bd nl p.l) {x : Rat} (hx : x ∈ joints t) : Bd ((nl + 1) * t.length + 1) x := by
  obtain ⟨j, hj, rfl⟩ := List.mem_map.mp hx
  have hj := List.mem_range.mp hj
  exact (bd_off j h).mono (by have := Nat.mul_le_mul_left (nl + 1) (show j ≤ t.length by omega); omega)
theorem map_inv {α : Type} {f : α → D} {t : List α} {k : Nat} {d : D} (h : (t.map f)[k]? = some d) : ∃ p, t[k]? = some p ∧ d = f p := by
  rw [List.getElem?_map] at h
  cases e : t[k]? with
  | none => rw [e] at h; cases h
  | some p => rw [e] at h; exact ⟨p, rfl, (Option.some.inj h).symm⟩
theorem take_snoc' {α : Type} {l : List α} {i : Nat} {x : α} (h : l[i]? = some x) : l.take (i + 1) = l.take i ++ [x] := by
  rw [List.take_add_one, h]
  rfl
end DL

namespace DL
open PySem PySem.Spec L2
section
variable {X : Cx} {W : Exw} {G G1 : List S} {R : Res} {O : Out} {e e2 ix : Expr} {rest : List Stmt} {pos spos : Pos} {ds : List D} {d : D} {j : Int} {n : Nat}
/-- xs[j] = e, xs an own list -/
theorem ex_setIx (i : Nat) {x : Str} {p1 tpos : Pos} (he : Ev X e G R (.d d)) (h : G[i]? = some (.own ds)) (hj : Ev X ix G R (.d (.int j))) (hn : ixN ds.length j = some n) (k : Ex X W rest (G.set i (.own (ds.set n d))) R O)
    (hN : X.N[i]? = some x := by rfl) (hv : Vis X.env.scope x := by first | exact Or.inl rfl | exact Or.inr (Or.inl rfl) | exact Or.inr (Or.inr rfl)) (hd : (x == ("__debug__" : Str)) = false := by decide) (hcd : (x == ("__classdict__" : Str)) = false := by decide)
    (ha : ∀ v, assign (.Subscript (.Name x p1) ix tpos) X.env v = (do
      let ov ← holding [v] (eval (.Name x p1) X.env)
      let iv ← holding [v, ov] (eval ix X.env)
      standAt tpos
      holding [v, ov, iv] (setItem ov iv v)
      release [v, ov, iv] []) := by intro _; rfl)
    (hs : swapsWithSole [.Subscript (.Name x p1) ix tpos] e spos.line X.env = pure false := by rfl) (hw : swappedStores [.Subscript (.Name x p1) ix tpos] e X.env = pure none := by rfl)
    (h1 : (assignEach [.Subscript (.Name x p1) ix tpos] X.env).map (·.2) = [assign (.Subscript (.Name x p1) ix tpos) X.env] := by rfl) : Ex X W (.Assign [.Subscript (.Name x p1) ix tpos] e spos :: rest) G R O := fun en A σ H F D st p => by
  refine ⟨_, pss_cons (ps_asg pe_t (pg_sub (pe_var hN hv hd hcd) pe_t set_list ha) hs hw h1) pss_t, ?_⟩
  show tE X e σ H fun v H1 => gSub _ (tE X ix) rSetL v σ H1 fun σ' H' => tSs X rest D σ' H'
  refine he en A σ H F _ st fun v H1 F1 g1 r1 => ?_
  have st1 := st.grow g1
  obtain ⟨ow, o, s1, a, vs, rfl, s2, s3, s4, s5, s6, s7⟩ := slot_at st1 h
  refine ⟨_, s1, ?_⟩
  refine hj en A σ H1 F1 _ st1 fun w H2 F2 g2 r2 => ?_
  have r2' : w = .int j := r2
  subst r2'
  have st2 := st1.grow g2
  obtain ⟨a', vs', k1, k2, k3, k4⟩ := st2.mut (es := ds.set n d) h
  rw [s1] at k1
  cases k1
  obtain ⟨st3, m3⟩ := k4 (vs'.set n v) (DnA.set (Dn.mon g2.mon d v r1) n k3)
  exact ⟨a, vs', j, n, rfl, rfl, k2, by rw [k3.length]; exact hn, k en A σ _ F2 D st3 (p.from ((g1.mon.trans g2.mon).trans m3))⟩
/-- xs.insert(j, e) -/
theorem ex_insert (i : Nat) {x : Str} {p1 apos cpos : Pos} (hj : Ev X e G R (.d (.int n))) (he : Ev X e2 G R (.d d)) (h : G[i]? = some (.own ds)) (hl : ds.length < sizeLine) (hn : n < 2 ^ 62) (k : Ex X W rest (G.set i (.own (ds.take n ++ [d] ++ ds.drop n))) R O)
    (hN : X.N[i]? = some x := by rfl) (hv : Vis X.env.scope x := by first | exact Or.inl rfl | exact Or.inr (Or.inl rfl) | exact Or.inr (Or.inr rfl)) (hd : (x == ("__debug__" : Str)) = false := by decide) (hcd : (x == ("__classdict__" : Str)) = false := by decide)
    (hbase : attributeBase (.Name x p1) "insert" X.env (eval (.Name x p1) X.env) = eval (.Name x p1) X.env := by rfl)
    (hfew : ((backTo cpos (starEach [e, e2] X.env)).all (fun x => !x.1) && (backToKw cpos (keywordEach [] X.env)).all (fun x => x.1.isSome)
      && decide ([e, e2].length + ([] : List Keyword).length + (if ([] : List Keyword).isEmpty then 0 else 1) < 30)) = true := by rfl)
    (hline : (apos.endLine == cpos.line) = true := by rfl) (hse : starEach [e, e2] X.env = (false, eval e X.env) :: starEach [e2] X.env := by rfl) (hpl : (backTo cpos (starEach [e2] X.env)).any (·.1) = false := by rfl) (hse2 : starEach [e2] X.env = [(false, eval e2 X.env)] := by rfl) (hs : swapsWith (.Call (.Attribute (.Name x p1) "insert" apos) [e, e2] [] cpos) none pos.line X.env = pure false := by rfl) :
    Ex X W (.Expr (.Call (.Attribute (.Name x p1) "insert" apos) [e, e2] [] cpos) pos :: rest) G R O := fun en A σ H F D st p => by
  refine ⟨_, pss_cons (ps_expr (pe_bm PySem.F.plainAttrs_list PySem.F.slot_list_insert PySem.F.type_list_insert mt_insert (pe_var hN hv hd hcd) pa_t hbase hfew hline hse hpl) hs) pss_t, ?_⟩
  obtain ⟨ow, o, h1, a, vs, rfl, h2, h3, h4, h5, h6, h7⟩ := slot_at st h
  refine ⟨_, h1, .inl ⟨rfl, _, SqL.of h5⟩, ?_⟩
  refine eva_cons hj (eva_cons he eva_nil hse2) hse en A σ H F _ st fun ws H' F' g r => ?_
  obtain ⟨v, w, e1, r1, r2⟩ := srs2 r
  subst e1
  have r1' : v = .int n := r1
  subst r1'
  have st' := st.grow g
  obtain ⟨a', vs', k1, k2, k3, k4⟩ := st'.mut (es := ds.take n ++ [d] ++ ds.drop n) h
  rw [h1] at k1
  cases k1
  have h5' := g.h _ _ h5
  rw [k2] at h5'
  cases h5'
  refine ⟨a, vs, n, w, rfl, rfl, k2, by rw [h6.length]; exact hl, by omega, by omega, ?_⟩
  have hd' : DnA X.K F' H' (ds.take n ++ [d] ++ ds.drop n) (vs.take n ++ [w] ++ vs.drop n) := DnA.append (DnA.append (DnA.take n k3) ⟨r2, trivial⟩) (DnA.drop n k3)
  obtain ⟨st2, m2⟩ := k4 _ hd'
  rw [Int.toNat_natCast]
  exact k en A σ _ F' D st2 (p.from (g.mon.trans m2))
end

/-! ### fit to be compared -/
theorem nbs_all : ∀ {l : List D}, (∀ x ∈ l, x.nb = true) → D.nbs l = true
  | [], _ => rfl
  | x :: l, h => by
    show (x.nb && D.nbs l) = true
    rw [h x List.mem_cons_self, nbs_all fun y hy => h y (List.mem_cons_of_mem _ hy)]
    rfl
theorem shps_all {n : Nat} : ∀ {l : List D}, (∀ x ∈ l, D.shp n x = true) → D.shps n l = true
  | [], _ => by cases n <;> rfl
  | x :: l, h => by
    have e : D.shps n (x :: l) = (D.shp n x && D.shps n l) := by cases n <;> rfl
    rw [e, h x List.mem_cons_self, shps_all fun y hy => h y (List.mem_cons_of_mem _ hy)]
    rfl
theorem tup_nb {l : List D} (h : ∀ x ∈ l, x.nb = true) : (D.tup l).nb = true := nbs_all h
theorem tup_shp {n : Nat} {l : List D} (h : ∀ x ∈ l, D.shp n x = true) : D.shp (n + 1) (.tup l) = true := shps_all h
abbrev okS (x : Str) : Prop := PyData.canLay0 (.str x) = true
theorem str_shp {x : Str} (h : okS x) (n : Nat) : D.shp n (.str x) = true := by cases n <;> exact h
theorem forall2 {p : D → Prop} {a b : D} (h1 : p a) (h2 : p b) : ∀ x ∈ [a, b], p x := fun x hx => by
  rcases List.mem_cons.mp hx with e | hx
  · rw [e]; exact h1
  · rw [List.mem_singleton.mp hx]; exact h2
theorem forall3 {p : D → Prop} {a b c : D} (h1 : p a) (h2 : p b) (h3 : p c) : ∀ x ∈ [a, b, c], p x := fun x hx => by
  rcases List.mem_cons.mp hx with e | hx
  · rw [e]; exact h1
  · exact forall2 h2 h3 x hx
theorem ratD_shp (r : Rat) (n : Nat) : D.shp (n + 1) (ratD r) = true := tup_shp (forall2 (by cases n <;> rfl) (by cases n <;> rfl))
theorem fmD_shp (a b c : Rat) (n : Nat) : D.shp (n + 2) (fmD a b c) = true := tup_shp (forall3 (ratD_shp _ _) (ratD_shp _ _) (ratD_shp _ _))
theorem fmD_fit (a b c : Rat) : (fmD a b c).Fit := ⟨rfl, 2, by decide, fmD_shp a b c 0⟩
theorem pcD_shp (p : Pc) (n : Nat) : D.shp (n + 3) (pcD p) = true := tup_shp (forall2 (ratD_shp _ _) (fmD_shp _ _ _ _))
theorem trD_shp (t : List Pc) (n : Nat) : D.shp (n + 4) (trD t) = true := tup_shp fun x hx => by
  obtain ⟨p, _, rfl⟩ := List.mem_map.mp hx
  exact pcD_shp p n
theorem trD_nb (t : List Pc) : (trD t).nb = true := tup_nb fun x hx => by
  obtain ⟨p, _, rfl⟩ := List.mem_map.mp hx
  rfl
theorem trD_fit (t : List Pc) : (trD t).Fit := ⟨trD_nb t, 4, by decide, trD_shp t 0⟩
theorem mkD_shp' {m : Rat × Str} (h : okS m.2) (n : Nat) : D.shp (n + 2) (mkD m) = true := tup_shp (forall2 (ratD_shp _ _) (str_shp h _))
theorem clipD_fit {c : Clip} (h1 : ∀ x ∈ c.tr, okS x.1) (h2 : ∀ m ∈ c.ms, okS m.2) : (clipD c).Fit := by
  have n1 : (D.tup (c.tr.map ntD)).nb = true := tup_nb fun x hx => by
    obtain ⟨y, _, rfl⟩ := List.mem_map.mp hx
    exact tup_nb (forall2 rfl (trD_nb _))
  have n2 : (D.tup (c.ms.map mkD)).nb = true := tup_nb fun x hx => by
    obtain ⟨y, _, rfl⟩ := List.mem_map.mp hx
    rfl
  have s1 : D.shp 6 (D.tup (c.tr.map ntD)) = true := tup_shp fun x hx => by
    obtain ⟨y, hy, rfl⟩ := List.mem_map.mp hx
    exact tup_shp (forall2 (str_shp (h1 y hy) _) (trD_shp _ 0))
  have s2 : D.shp 6 (D.tup (c.ms.map mkD)) = true := tup_shp fun x hx => by
    obtain ⟨y, hy, rfl⟩ := List.mem_map.mp hx
    exact mkD_shp' (h2 y hy) 3
  exact ⟨tup_nb (forall3 rfl n1 n2), 7, by decide, tup_shp (forall3 (ratD_shp _ _) s1 s2)⟩
theorem pcD_inj {p q : Pc} (h : pcD p = pcD q) : p = q := by
  simp only [pcD, fmD, D.tup.injEq, List.cons.injEq, and_true] at h
  obtain ⟨h1, h2, h3, h4⟩ := h
  exact Pc.ext' (ratD_iff.mp (by simpa using h1)) (ratD_iff.mp (by simpa using h2)) (ratD_iff.mp (by simpa using h3)) (ratD_iff.mp (by simpa using h4))
theorem fmD_iff {a b c a' b' c' : Rat} : fmD a b c = fmD a' b' c' ↔ a = a' ∧ b = b' ∧ c = c' := by
  constructor
  · intro h
    simp only [fmD, D.tup.injEq, List.cons.injEq, and_true] at h
    obtain ⟨h1, h2, h3⟩ := h
    exact ⟨ratD_iff.mp (by simpa using h1), ratD_iff.mp (by simpa using h2), ratD_iff.mp (by simpa using h3)⟩
  · rintro ⟨rfl, rfl, rfl⟩
    rfl
theorem map_inj {α : Type} {f : α → D} (hf : ∀ x y, f x = f y → x = y) : ∀ {l m : List α}, l.map f = m.map f → l = m
  | [], [], _ => rfl
  | [], _ :: _, h => by cases h
  | _ :: _, [], h => by cases h
  | x :: l, y :: m, h => by
    rw [List.map_cons, List.map_cons, List.cons.injEq] at h
    rw [hf x y h.1, map_inj hf h.2]
theorem trD_inj {t u : List Pc} (h : trD t = trD u) : t = u := map_inj (fun _ _ => pcD_inj) (D.tup.inj h)
end DL

namespace DL
open PySem PySem.Spec L2
open Classical in
noncomputable def liftD {α : Type} (enc : α → D) (f : α → Option D) : D → Option D := fun x => if h : ∃ a, enc a = x then f (choose h) else none
theorem liftD_at {α : Type} {enc : α → D} (inj : ∀ a b, enc a = enc b → a = b) (f : α → Option D) (a : α) : liftD enc f (enc a) = f a := by
  have h : ∃ b, enc b = enc a := ⟨a, rfl⟩
  unfold liftD
  rw [dif_pos h, inj _ _ (Classical.choose_spec h)]
theorem liftD_map {α : Type} {enc : α → D} (inj : ∀ a b, enc a = enc b → a = b) (f : α → Option D) (l : List α) : (l.map enc).filterMap (liftD enc f) = l.filterMap f := by
  rw [List.filterMap_map]
  congr 1
  funext a
  exact liftD_at inj f a
theorem ratD_inj' (a b : Rat) (h : ratD a = ratD b) : a = b := ratD_inj h
theorem intD_inj' (a b : Int) (h : D.int a = D.int b) : a = b := D.int.inj h
theorem natD_inj' (a b : Nat) (h : D.int (a : Int) = D.int (b : Int)) : a = b := by have := D.int.inj h; omega
theorem strD_inj' (a b : Str) (h : D.str a = D.str b) : a = b := D.str.inj h
theorem pcD_inj' (a b : Pc) (h : pcD a = pcD b) : a = b := pcD_inj h
theorem ntD_inj (a b : Str × List Pc) (h : ntD a = ntD b) : a = b := by
  simp only [ntD, D.tup.injEq, List.cons.injEq, and_true, D.str.injEq] at h
  exact Prod.ext h.1 (map_inj pcD_inj' h.2)
theorem mkD_inj' (m m' : Rat × Str) (h : mkD m = mkD m') : m = m' := by
  injection h with h
  injection h with h1 h2
  injection h2 with h2 _
  injection h2 with h2
  exact Prod.ext (ratD_inj h1) h2
section
variable {X : Cx} {W : Exw} {G : List S} {R : Res} {O : Out} {elt tg iter : Expr} {ifs : List Expr} {scope : Scope} {ds ds' : List D} {pos : Pos} {rest : List Stmt} {α : Type} {enc : α → D} {l : List α}
theorem evi_eq (h : EvI X tg iter G R ds) (q : ds = ds') : EvI X tg iter G R ds' := q ▸ h
theorem cutD_tail : cutD ds (some (1 : Int)) none = ds.drop 1 := cutD_from ds 1
/-- the body, item by item -/
def LcE (X : Cx) (scope : Scope) (own : List (Str × Nat)) (tg elt : Expr) (ifs : List Expr) (G : List S) (R : Res) (enc : α → D) (l : List α) (f : α → Option D) : Prop :=
  ∀ a ∈ l, ∃ (G' : List S) (ix : List Nat) (q : Bool), (∀ j ∈ ix, j ∈ own.map (·.2)) ∧ (∀ (s : Shared) (H : Hp) (C : Addr) (cl : List (Str × Addr)) (fp : List Addr), TgW (blkX X scope s H C cl fp) tg (enc a) ix (wipeS G (own.map (·.2))) G' ∧
    Pv (blkX X scope s H C cl fp) ifs G' R q ∧ (q = true → ∃ y, f a = some y ∧ Ev (blkX X scope s H C cl fp) elt G' R (.d y))) ∧ (q = false → f a = none)
theorem LcE.body {own : List (Str × Nat)} {f : α → Option D} (inj : ∀ a b, enc a = enc b → a = b) (h : LcE X scope own tg elt ifs G R enc l f) : LcBody X scope own tg elt ifs G R (l.map enc) (liftD enc f) := by
  intro k d hd
  obtain ⟨a, ha, rfl⟩ := map_inv hd
  obtain ⟨G', ix, q, h1, h2, h3⟩ := h a (List.mem_of_getElem? ha)
  refine ⟨G', ix, q, h1, fun s H C cl fp => ⟨(h2 s H C cl fp).1, (h2 s H C cl fp).2.1, fun z => ?_, fun z => ?_⟩⟩
  · obtain ⟨y, k1, k2⟩ := (h2 s H C cl fp).2.2 z
    exact ⟨y, by rw [liftD_at inj, k1], k2⟩
  · rw [liftD_at inj, h3 z]
theorem ev_lcE (own : List (Str × Nat)) (f : α → Option D) (inj : ∀ a b, enc a = enc b → a = b) (hN : X.N.Nodup) (ok : BlkOk X.N X.env.scope scope own) (hi : EvI X tg iter G R (l.map enc)) (hl : l.length ≤ sizeLine) (hb : LcE X scope own tg elt ifs G R enc l f) (hc : X.calm = true := by rfl) (hs : ∀ x, foldedSetIterable iter X.env x = pure x := by intro _; rfl) :
    Ev X (.ListComp elt [⟨tg, iter, ifs, 0⟩] scope pos) G R (.own (l.filterMap f)) := by
  rw [← liftD_map inj f l]
  exact ev_lc own (liftD enc f) hN ok hi (by rw [List.length_map]; exact hl) (hb.body inj) hc hs
theorem ev_lcEG (own : List (Str × Nat)) (f : α → Option D) (inj : ∀ a b, enc a = enc b → a = b) (hN : X.N.Nodup) (ok : BlkOk X.N X.env.scope scope own) (hi : EvIG X tg iter G R (l.map enc)) (hl : l.length ≤ sizeLine) (hb : LcE X scope own tg elt ifs G R enc l f) (hc : X.calm = true := by rfl) (hs : ∀ x, foldedSetIterable iter X.env x = pure x := by intro _; rfl) :
    Ev X (.ListComp elt [⟨tg, iter, ifs, 0⟩] scope pos) G R (.own (l.filterMap f)) := by
  rw [← liftD_map inj f l]
  exact ev_lcG own (liftD enc f) hN ok hi (by rw [List.length_map]; exact hl) (hb.body inj) hc hs
theorem ex_setLcE (i : Nat) (own : List (Str × Nat)) (f : α → Option D) {y : Str} {py spos : Pos} (inj : ∀ a b, enc a = enc b → a = b) (hN : X.N.Nodup) (ok : BlkOk X.N X.env.scope scope own) (hi : EvI X tg iter G R (l.map enc)) (hl : l.length ≤ sizeLine) (hb : LcE X scope own tg elt ifs G R enc l f) (k : Ex X W rest (G.set i (.own (l.filterMap f))) R O)
    (ha : (scope.names.any fun (n, k) => n == y && (k == .local || k == .cell)) = false) (hkk : X.env.scope.kind = .function := by rfl) (hll : (py.line == pos.line) = true := by rfl)
    (hc : X.calm = true := by rfl) (hs : ∀ x, foldedSetIterable iter X.env x = pure x := by intro _; rfl) (hy : X.N[i]? = some y := by rfl) (hyl : X.env.scope.names.lookup y = some .local := by rfl) :
    Ex X W (.Assign [.Name y py] (.ListComp elt [⟨tg, iter, ifs, 0⟩] scope pos) spos :: rest) G R O := by
  rw [← liftD_map inj f l] at k
  exact ex_setLc i own (liftD enc f) hN ok hi (by rw [List.length_map]; exact hl) (hb.body inj) k ha hkk hll hc hs hy hyl
end

/-! ### normal forms -/
/-- the one goes on as the other -/
def Mg (p q : Pc) : Prop := valIn p p.l = q.a ∧ slIn p p.l = q.b ∧ p.c = q.c
instance (p q : Pc) : Decidable (Mg p q) := inferInstanceAs (Decidable (_ ∧ _ ∧ _))
def joinP (p q : Pc) : Pc := ⟨p.l + q.l, p.a, p.b, p.c⟩
def nrm : Pc → List Pc → List Pc
  | p, [] => [p]
  | p, q :: t => if Mg p q then nrm (joinP p q) t else p :: nrm q t
def nrmT : List Pc → List Pc
  | [] => []
  | p :: t => nrm p t
theorem nrm_ne : ∀ (t : List Pc) (p : Pc), nrm p t ≠ []
  | [], p => by simp [nrm]
  | q :: t, p => by
    unfold nrm
    split
    · exact nrm_ne t _
    · simp
theorem nrmT_ne {t : List Pc} (h : t ≠ []) : nrmT t ≠ [] := by
  cases t with
  | nil => exact absurd rfl h
  | cons p t => exact nrm_ne t p
theorem nrm_len : ∀ (t : List Pc) (p : Pc), (nrm p t).length ≤ t.length + 1
  | [], p => Nat.le_refl _
  | q :: t, p => by
    unfold nrm
    split
    · have := nrm_len t (joinP p q)
      rw [List.length_cons]
      omega
    · have := nrm_len t q
      rw [List.length_cons, List.length_cons]
      omega
theorem nrmT_len (t : List Pc) : (nrmT t).length ≤ t.length := by
  cases t with
  | nil => exact Nat.le_refl _
  | cons p t => exact nrm_len t p
/-- no two neighbors are one -/
def NoMg : List Pc → Prop
  | p :: q :: t => ¬ Mg p q ∧ NoMg (q :: t)
  | _ => True
theorem mg_form {p p' q : Pc} (h1 : p.a = p'.a) (h2 : p.b = p'.b) (h3 : p.c = p'.c) (h4 : p.l = p'.l) : Mg p q ↔ Mg p' q := by
  unfold Mg valIn slIn
  rw [h1, h2, h3, h4]
theorem nrm_head : ∀ (t : List Pc) (p : Pc), ∃ l r, nrm p t = ⟨l, p.a, p.b, p.c⟩ :: r
  | [], p => ⟨p.l, [], rfl⟩
  | q :: t, p => by
    unfold nrm
    split
    · obtain ⟨l, r, e⟩ := nrm_head t (joinP p q)
      exact ⟨l, r, e⟩
    · exact ⟨p.l, _, rfl⟩
theorem mg_r {p q q' : Pc} (h1 : q.a = q'.a) (h2 : q.b = q'.b) (h3 : q.c = q'.c) : Mg p q ↔ Mg p q' := by
  unfold Mg
  rw [h1, h2, h3]
theorem nrm_noMg : ∀ (t : List Pc) (p : Pc), NoMg (nrm p t)
  | [], p => trivial
  | q :: t, p => by
    unfold nrm
    split
    · exact nrm_noMg t _
    · next h =>
      obtain ⟨l, r, e⟩ := nrm_head t q
      have ih := nrm_noMg t q
      rw [e] at ih ⊢
      exact ⟨fun z => h ((mg_r rfl rfl rfl).mp z), ih⟩
theorem nrm_id : ∀ (t : List Pc) (p : Pc), NoMg (p :: t) → nrm p t = p :: t
  | [], p, _ => rfl
  | q :: t, p, h => by
    unfold nrm
    rw [if_neg h.1, nrm_id t q h.2]
theorem nrmT_idem (t : List Pc) : nrmT (nrmT t) = nrmT t := by
  cases t with
  | nil => rfl
  | cons p t =>
    show nrmT (nrm p t) = nrm p t
    have h := nrm_noMg t p
    cases e : nrm p t with
    | nil => rfl
    | cons q r =>
      rw [e] at h
      exact nrm_id r q h
/-- the value, as the pieces tell it from s on -/
def valF (s x : Rat) (t : List Pc) : Rat := match pieceAt true s x t with | some (p, u) => valIn p u | none => 0
theorem valF_cons (s x : Rat) (p q : Pc) (t : List Pc) : valF s x (p :: q :: t) = if x ≤ s + p.l then valIn p (x - s) else valF (s + p.l) x (q :: t) := by
  unfold valF
  show (match (if x < s + p.l ∨ (true = true ∧ x = s + p.l) then some (p, x - s) else pieceAt true (s + p.l) x (q :: t)) with | some (p, u) => valIn p u | none => 0) = _
  by_cases c : x ≤ s + p.l
  · rw [if_pos (by grind), if_pos c]
  · rw [if_neg (by grind), if_neg c]
theorem valF_one (s x : Rat) (p : Pc) : valF s x [p] = valIn p (x - s) := rfl
theorem mg_val {p q : Pc} (h : Mg p q) (u : Rat) : valIn q u = valIn p (p.l + u) := by
  obtain ⟨h1, h2, h3⟩ := h
  unfold valIn slIn at *
  rw [← h1, ← h2, ← h3]
  grind
theorem mg_sl {p q : Pc} (h : Mg p q) (u : Rat) : slIn q u = slIn p (p.l + u) := by
  obtain ⟨h1, h2, h3⟩ := h
  unfold valIn slIn at *
  rw [← h2, ← h3]
  grind
theorem nrm_val (x : Rat) : ∀ (t : List Pc) (p : Pc) (s : Rat), 0 ≤ p.l → (∀ q ∈ t, 0 ≤ q.l) → valF s x (nrm p t) = valF s x (p :: t)
  | [], p, s, _, _ => rfl
  | q :: t, p, s, hp, ht => by
    have hq := ht q List.mem_cons_self
    have ht' : ∀ q ∈ t, 0 ≤ q.l := fun y hy => ht y (List.mem_cons_of_mem _ hy)
    unfold nrm
    split
    · next h =>
      have hj : 0 ≤ (joinP p q).l := by show 0 ≤ p.l + q.l; grind
      rw [nrm_val x t (joinP p q) s hj ht', valF_cons]
      have e1 : (joinP p q).l = p.l + q.l := rfl
      have e2 : ∀ u, valIn (joinP p q) u = valIn p u := fun _ => rfl
      have e3 : valIn q (x - (s + p.l)) = valIn p (x - s) := by
        rw [mg_val h]
        congr 1
        grind
      cases t with
      | nil =>
        rw [valF_one, valF_one, e2, e3]
        split <;> rfl
      | cons r t =>
        rw [valF_cons, valF_cons, e1, e2, e3]
        have e4 : s + (p.l + q.l) = s + p.l + q.l := by grind
        rw [e4]
        by_cases c : x ≤ s + p.l
        · rw [if_pos c, if_pos (by grind)]
        · rw [if_neg c]
    · obtain ⟨l, r, e⟩ := nrm_head t q
      have ih := nrm_val x t q (s + p.l) hq ht'
      rw [e] at ih ⊢
      rw [valF_cons, valF_cons, ih]
theorem nrmT_val {t : List Pc} (h : ∀ p ∈ t, 0 ≤ p.l) (x : Rat) : valAt true (nrmT t) x = valAt true t x := by
  cases t with
  | nil => rfl
  | cons p t => exact nrm_val x t p 0 (h p List.mem_cons_self) fun q hq => h q (List.mem_cons_of_mem _ hq)
/-- the bounds -/
theorem nrm_bd {nl na ml : Nat} : ∀ (t : List Pc) (p : Pc), PcB ml na p → TrB nl na t → TrB (ml + (nl + 1) * t.length) na (nrm p t)
  | [], p, hp, _ => fun q hq => by
    rw [List.mem_singleton.mp hq]
    exact hp.mono (by omega) (Nat.le_refl _)
  | q :: t, p, hp, ht => by
    have hq := ht q List.mem_cons_self
    have ht' : TrB nl na t := fun y hy => ht y (List.mem_cons_of_mem _ hy)
    have hm : nl + 1 + (nl + 1) * t.length = (nl + 1) * (t.length + 1) := by rw [Nat.mul_succ]; omega
    unfold nrm
    split
    · have h1 := hp.l
      have h2 := hq.l
      have hj : PcB (ml + nl + 1) na (joinP p q) := ⟨(Bd.add : Bd (ml + nl + 1) (p.l + q.l)), hp.a, hp.b, hp.c⟩
      intro y hy
      exact (nrm_bd t _ hj ht' y hy).mono (by rw [List.length_cons, ← hm]; omega) (Nat.le_refl _)
    · intro y hy
      rcases List.mem_cons.mp hy with e | hy
      · rw [e]
        exact hp.mono (by omega) (Nat.le_refl _)
      · exact (nrm_bd t q hq ht' y hy).mono (by rw [List.length_cons, ← hm]; omega) (Nat.le_refl _)
theorem nrmT_bd {nl na : Nat} {t : List Pc} (h : TrB nl na t) : TrB ((nl + 1) * t.length) na (nrmT t) := by
  cases t with
  | nil => intro p hp; cases hp
  | cons p t =>
    intro q hq
    exact (nrm_bd t p (h p List.mem_cons_self) (fun y hy => h y (List.mem_cons_of_mem _ hy)) q hq).mono (by rw [List.length_cons, Nat.mul_succ]; omega) (Nat.le_refl _)
theorem nrm_pos : ∀ (t : List Pc) (p : Pc), 0 < p.l → (∀ q ∈ t, 0 < q.l) → ∀ q ∈ nrm p t, 0 < q.l
  | [], p, hp, _ => fun q hq => by rw [List.mem_singleton.mp hq]; exact hp
  | r :: t, p, hp, ht => by
    have hr := ht r List.mem_cons_self
    have ht' : ∀ q ∈ t, 0 < q.l := fun y hy => ht y (List.mem_cons_of_mem _ hy)
    unfold nrm
    split
    · exact nrm_pos t _ (by show 0 < p.l + r.l; grind) ht'
    · intro q hq
      rcases List.mem_cons.mp hq with e | hq
      · rw [e]; exact hp
      · exact nrm_pos t r hr ht' q hq
theorem nrmT_pos {t : List Pc} (h : ∀ p ∈ t, 0 < p.l) : ∀ q ∈ nrmT t, 0 < q.l := by
  cases t with
  | nil => intro p hp; cases hp
  | cons p t => exact nrm_pos t p (h p List.mem_cons_self) fun q hq => h q (List.mem_cons_of_mem _ hq)
/-- the whole length -/
def tlen (t : List Pc) : Rat := off t t.length
theorem tlen_cons (p : Pc) (t : List Pc) : tlen (p :: t) = p.l + tlen t := rfl
theorem nrm_tlen : ∀ (t : List Pc) (p : Pc), tlen (nrm p t) = p.l + tlen t
  | [], p => rfl
  | q :: t, p => by
    unfold nrm
    split
    · rw [nrm_tlen t, tlen_cons]
      show p.l + q.l + tlen t = _
      grind
    · rw [tlen_cons, nrm_tlen t q, tlen_cons]
theorem nrmT_tlen (t : List Pc) : tlen (nrmT t) = tlen t := by
  cases t with
  | nil => rfl
  | cons p t => exact nrm_tlen t p
end DL

namespace DL
open PySem PySem.Spec L2
/-- a piece from a place on -/
def shP (p : Pc) (h s : Rat) : Pc := ⟨h, valIn p s, slIn p s, p.c⟩
theorem sh_val (p : Pc) (h s u : Rat) : valIn (shP p h s) u = valIn p (s + u) := by
  unfold shP valIn slIn
  grind
theorem sh_sl (p : Pc) (h s u : Rat) : slIn (shP p h s) u = slIn p (s + u) := by
  unfold shP slIn
  grind
def partL (p : Pc) (n : Nat) : Rat := p.l * Rat.divInt 1 (n : Nat)
def partP (p : Pc) (n i : Nat) : Pc := shP p (partL p n) (partL p n * ((i : Int) : Rat))
def splitP (p : Pc) (n : Nat) : List Pc := (List.range n).map (partP p n)
def splitT (g : Nat → Nat) (m : Nat) : Nat → List Pc → List Pc
  | _, [] => []
  | j, p :: t => splitP p (1 + g (j % m) % 3) ++ splitT g m (j + 1) t
theorem part_sum (p : Pc) {n : Nat} (h : 0 < n) : partL p n * ((n : Int) : Rat) = p.l := by
  unfold partL
  have h1 : Rat.divInt 1 (n : Nat) * ((n : Int) : Rat) = 1 := by
    rw [Rat.divInt_eq_div]
    have : ((n : Int) : Rat) ≠ 0 := by
      intro z
      have := congrArg Rat.num z
      simp at this
      omega
    have e1 : ((1 : Int) : Rat) = 1 := rfl
    rw [e1]
    grind
  rw [Rat.mul_assoc, h1, Rat.mul_one]
theorem cast_succ (i : Nat) : (((i + 1 : Nat) : Int) : Rat) = ((i : Int) : Rat) + 1 := by
  rw [Int.natCast_add]
  exact Rat.intCast_add _ _
/-- the parts of a piece are one again -/
theorem nrm_parts (p : Pc) (n : Nat) (T : List Pc) : ∀ (k i : Nat) (last : Pc), valIn last last.l = valIn p (partL p n * ((i : Int) : Rat)) → slIn last last.l = slIn p (partL p n * ((i : Int) : Rat)) → last.c = p.c →
    nrm last ((List.range' i k).map (partP p n) ++ T) = nrm ⟨last.l + partL p n * ((k : Int) : Rat), last.a, last.b, last.c⟩ T
  | 0, i, last, _, _, _ => by
    have e : last.l + partL p n * (((0 : Nat) : Int) : Rat) = last.l := by
      have : (((0 : Nat) : Int) : Rat) = 0 := rfl
      rw [this]
      grind
    rw [e]
    rfl
  | k + 1, i, last, h1, h2, h3 => by
    rw [List.range'_succ, List.map_cons, List.cons_append]
    have hm : Mg last (partP p n i) := ⟨h1, h2, h3⟩
    have ev : ∀ u, valIn last (last.l + u) = valIn p (partL p n * ((i : Int) : Rat) + u) := fun u => by rw [← mg_val hm]; exact sh_val _ _ _ _
    have es : ∀ u, slIn last (last.l + u) = slIn p (partL p n * ((i : Int) : Rat) + u) := fun u => by rw [← mg_sl hm]; exact sh_sl _ _ _ _
    have ei : partL p n * (((i + 1 : Nat) : Int) : Rat) = partL p n * ((i : Int) : Rat) + partL p n := by
      rw [cast_succ]
      grind
    conv => lhs; unfold nrm
    rw [if_pos hm, nrm_parts p n T k (i + 1) (joinP last (partP p n i)) ?_ ?_ h3]
    · congr 1
      have e : last.l + partL p n + partL p n * ((k : Int) : Rat) = last.l + partL p n * (((k + 1 : Nat) : Int) : Rat) := by
        rw [cast_succ]
        grind
      show (⟨last.l + partL p n + partL p n * ((k : Int) : Rat), last.a, last.b, last.c⟩ : Pc) = _
      rw [e]
    · rw [ei]
      exact ev (partL p n)
    · rw [ei]
      exact es (partL p n)
theorem slIn_zero (p : Pc) : slIn p 0 = p.b := by unfold slIn; grind
theorem part_zero (p : Pc) (n : Nat) : partP p n 0 = ⟨partL p n, p.a, p.b, p.c⟩ := by
  have e : partL p n * (((0 : Nat) : Int) : Rat) = 0 := by
    have : (((0 : Nat) : Int) : Rat) = 0 := rfl
    rw [this]
    grind
  unfold partP shP
  rw [e, valIn_zero, slIn_zero]
theorem split_first (p : Pc) {n : Nat} (hn : 0 < n) (T : List Pc) : nrmT (splitP p n ++ T) = nrm p T := by
  obtain ⟨k, rfl⟩ : ∃ k, n = k + 1 := ⟨n - 1, by omega⟩
  unfold splitP
  rw [List.range_eq_range', List.range'_succ, List.map_cons, List.cons_append]
  show nrm (partP p (k + 1) 0) _ = _
  have hl : (partP p (k + 1) 0).l = partL p (k + 1) := rfl
  have e1 : partL p (k + 1) * (((1 : Nat) : Int) : Rat) = partL p (k + 1) := by
    have : (((1 : Nat) : Int) : Rat) = 1 := rfl
    rw [this, Rat.mul_one]
  have e0 : partL p (k + 1) * (((0 : Nat) : Int) : Rat) = 0 := by
    have : (((0 : Nat) : Int) : Rat) = 0 := rfl
    rw [this]
    grind
  rw [nrm_parts p (k + 1) T k (0 + 1) (partP p (k + 1) 0) ?_ ?_ rfl]
  · rw [part_zero]
    congr 1
    have e := part_sum p hn
    rw [cast_succ] at e
    refine Pc.ext' ?_ rfl rfl rfl
    show partL p (k + 1) + partL p (k + 1) * ((k : Int) : Rat) = p.l
    rw [← e]
    grind
  · rw [show (0 + 1 : Nat) = 1 from rfl, e1, hl]
    refine (sh_val p _ _ _).trans ?_
    rw [e0]
    congr 1
    grind
  · rw [show (0 + 1 : Nat) = 1 from rfl, e1, hl]
    refine (sh_sl p _ _ _).trans ?_
    rw [e0]
    congr 1
    grind
theorem nrm_split_one (last p : Pc) {n : Nat} (hn : 0 < n) (T : List Pc) : nrm last (splitP p n ++ T) = nrm last (p :: T) := by
  by_cases hm : Mg last p
  · have e0 : partL p n * (((0 : Nat) : Int) : Rat) = 0 := by
      have : (((0 : Nat) : Int) : Rat) = 0 := rfl
      rw [this]
      grind
    have e1 : nrm last (p :: T) = nrm (joinP last p) T := by
      conv => lhs; unfold nrm
      rw [if_pos hm]
    rw [e1]
    unfold splitP
    rw [List.range_eq_range', nrm_parts p n T n 0 last (by rw [e0, valIn_zero]; exact hm.1) (by rw [e0, slIn_zero]; exact hm.2.1) hm.2.2, part_sum p hn]
    rfl
  · have e1 : nrm last (p :: T) = last :: nrm p T := by
      conv => lhs; unfold nrm
      rw [if_neg hm]
    rw [e1, ← split_first p hn T]
    obtain ⟨k, rfl⟩ : ∃ k, n = k + 1 := ⟨n - 1, by omega⟩
    unfold splitP
    rw [List.range_eq_range', List.range'_succ, List.map_cons, List.cons_append]
    conv => lhs; unfold nrm
    rw [if_neg (fun z => hm (by rw [part_zero] at z; exact (mg_r rfl rfl rfl).mp z))]
    rfl
theorem nrm_congr {T U : List Pc} (h : ∀ last, nrm last T = nrm last U) (last p : Pc) : nrm last (p :: T) = nrm last (p :: U) := by
  conv => lhs; unfold nrm
  conv => rhs; unfold nrm
  rw [h, h]
theorem nrm_split (g : Nat → Nat) (m : Nat) : ∀ (t : List Pc) (j : Nat) (last : Pc), nrm last (splitT g m j t) = nrm last t
  | [], _, _ => rfl
  | p :: t, j, last => by
    show nrm last (splitP p (1 + g (j % m) % 3) ++ splitT g m (j + 1) t) = _
    rw [nrm_split_one last p (by omega)]
    exact nrm_congr (fun l => nrm_split g m t (j + 1) l) last p
theorem nrmT_split (g : Nat → Nat) (m : Nat) (t : List Pc) (j : Nat) : nrmT (splitT g m j t) = nrmT t := by
  cases t with
  | nil => rfl
  | cons p t =>
    show nrmT (splitP p (1 + g (j % m) % 3) ++ splitT g m (j + 1) t) = nrm p t
    rw [split_first p (by omega), nrm_split]
theorem part_bd {p : Pc} {nl na n i : Nat} (h : PcB nl na p) (hn : n < 4) (hi : i < 4) : PcB (nl + 2) (3 * na + 2 * (nl + 4) + 2) (partP p n i) := by
  have h1 := h.l
  have h2 : Bd 2 (Rat.divInt 1 (n : Nat)) := bd_divInt (by decide) (by omega) (by decide)
  have h3 : Bd 2 ((i : Int) : Rat) := ⟨show ((i : Int)).natAbs < 2 ^ 2 by omega, show 1 < 2 ^ 2 by decide⟩
  have h4 : Bd (nl + 2) (partL p n) := Bd.mul
  have h5 : Bd (nl + 2 + 2) (partL p n * ((i : Int) : Rat)) := Bd.mul
  exact ⟨h4, (bd_valIn h h5).mono (by omega), (bd_slIn h h5).mono (by omega), h.c.mono (by omega)⟩
theorem split_bd {g : Nat → Nat} {m nl na : Nat} : ∀ {t : List Pc} {j : Nat}, TrB nl na t → TrB (nl + 2) (3 * na + 2 * (nl + 4) + 2) (splitT g m j t)
  | [], _, _ => fun p hp => by cases hp
  | p :: t, j, h => fun q hq => by
    rcases List.mem_append.mp hq with hq | hq
    · obtain ⟨i, hi, rfl⟩ := List.mem_map.mp hq
      have hi := List.mem_range.mp hi
      exact part_bd (h p List.mem_cons_self) (by omega) (by omega)
    · exact split_bd (t := t) (fun y hy => h y (List.mem_cons_of_mem _ hy)) q hq
theorem split_len {g : Nat → Nat} {m : Nat} : ∀ {t : List Pc} {j : Nat}, (splitT g m j t).length ≤ 3 * t.length
  | [], _ => Nat.le_refl _
  | p :: t, j => by
    show (splitP p (1 + g (j % m) % 3) ++ splitT g m (j + 1) t).length ≤ _
    have := split_len (g := g) (m := m) (t := t) (j := j + 1)
    rw [List.length_append, List.length_cons]
    unfold splitP
    rw [List.length_map, List.length_range]
    omega
theorem split_ne {g : Nat → Nat} {m : Nat} {t : List Pc} {j : Nat} (h : t ≠ []) : splitT g m j t ≠ [] := by
  cases t with
  | nil => exact absurd rfl h
  | cons p t =>
    intro z
    have := congrArg List.length z
    rw [show splitT g m j (p :: t) = splitP p (1 + g (j % m) % 3) ++ splitT g m (j + 1) t from rfl, List.length_append] at this
    unfold splitP at this
    rw [List.length_map, List.length_range] at this
    simp at this
/-- what law_same asks -/
def sameL (t u : List Pc) (places : List Rat) : Prop := tlen t = tlen u ∧ ∀ (j : Nat) (a b : Rat), places[j]? = some a → places[j + 1]? = some b → ∀ x ∈ samples a b 2, valAt true t x = valAt true u x
end DL

namespace DL
open PySem PySem.Spec L2
section
variable {X : Cx} {G : List S} {R : Res} {a b : Expr} {pos : Pos} {p q : Bool} {d : D} {xs ys : List D}
theorem ro_eqB {K : PySem.W.Frag} : RO K rEq (.d (.bl p)) (.d (.bl q)) (.d (.bl (p == q))) := fun H0 x y H F Q ft hx hy k => by
  have hx' : x = .bl p := hx
  have hy' : y = .bl q := hy
  subst hx' hy'
  refine ⟨rfl, k _ H F (Grow.refl ft) ?_⟩
  show V.bl _ = V.bl _
  congr 1
  cases p <;> cases q <;> decide
theorem ro_neB {K : PySem.W.Frag} : RO K rNe (.d (.bl p)) (.d (.bl q)) (.d (.bl (p != q))) := fun H0 x y H F Q ft hx hy k => by
  have hx' : x = .bl p := hx
  have hy' : y = .bl q := hy
  subst hx' hy'
  refine ⟨rfl, k _ H F (Grow.refl ft) ?_⟩
  show V.bl _ = V.bl _
  congr 1
  cases p <;> cases q <;> decide
theorem tv_eqB (ha : Ev X a G R (.d (.bl p))) (hb : Ev X b G R (.d (.bl q))) : Tv X (.Compare a [.Eq] [b] pos) G R (p == q) := tv_cmpR op_eq ro_eqB ha hb (nomark _)
theorem tv_neB (ha : Ev X a G R (.d (.bl p))) (hb : Ev X b G R (.d (.bl q))) : Tv X (.Compare a [.NotEq] [b] pos) G R (p != q) := tv_cmpR op_ne ro_neB ha hb (nomark _)
def D.isN : D → Bool
  | .non => true
  | _ => false
theorem isN_V {K : PySem.W.Frag} {F : Fz} {H : Hp} {x : V} (h : Dn K F H d x) : decide (x = V.non) = d.isN := by
  cases d with
  | non =>
    have e : x = .non := h
    rw [e]
    rfl
  | bl _ => have e : x = _ := h; rw [e]; rfl
  | int _ => have e : x = _ := h; rw [e]; rfl
  | str _ => have e : x = _ := h; rw [e]; rfl
  | obj _ => have e : x = _ := h; rw [e]; rfl
  | tup _ => obtain ⟨l, vs, e, _⟩ := h; rw [e]; rfl
  | lst _ => obtain ⟨l, vs, e, _⟩ := h; rw [e]; rfl
theorem tv_isN (ha : Ev X a G R (.d d)) (hb : Ev X b G R (.d .non)) (hm : behindInMarks .Is b = false := by rfl) : Tv X (.Compare a [.Is] [b] pos) G R d.isN := tv_cmpR op_isN (s1 := .d d) (s2 := .d .non) (fun H0 x y H F Q ft hx hy k => ⟨hy, k _ H F (Grow.refl ft) (by rw [isN_V hx]; exact rfl)⟩) ha hb hm
theorem tv_notN (ha : Ev X a G R (.d d)) (hb : Ev X b G R (.d .non)) (hm : behindInMarks .IsNot b = false := by rfl) : Tv X (.Compare a [.IsNot] [b] pos) G R (!d.isN) := tv_cmpR op_notN (s1 := .d d) (s2 := .d .non) (fun H0 x y H F Q ft hx hy k => ⟨hy, k _ H F (Grow.refl ft) (by rw [isN_V hx]; exact rfl)⟩) ha hb hm
theorem ev_catT (h0 : xs ≠ []) (hl : xs.length + ys.length ≤ sizeLine) (ha : Ev X a G R (.d (.tup xs))) (hb : Ev X b G R (.d (.tup ys))) : Ev X (.BinOp a .Add b pos) G R (.d (.tup (xs ++ ys))) := by
  refine ev_op op_catT (fun H0 x y H F Q ft hx hy k => ?_) ha hb
  obtain ⟨l, vs, rfl, h1, h2⟩ := hx
  obtain ⟨m, ws, rfl, h3, h4⟩ := hy
  refine ⟨l, m, vs, ws, rfl, rfl, h1, h3, fun z => ?_, by rw [h2.length, h4.length]; exact hl, fun z => ?_, fun _ p hp => ?_⟩
  · have e := h2.length
    rw [z] at e
    exact h0 (List.eq_nil_of_length_eq_zero e.symm)
  · have e := h4.length
    rw [z] at e
    have e2 : ys = [] := List.eq_nil_of_length_eq_zero e.symm
    refine k _ H F (Grow.refl ft) ⟨l, vs, rfl, h1, ?_⟩
    rw [e2, List.append_nil]
    exact h2
  · obtain ⟨g, s⟩ := sr_newT ft hp (DnA.append h2 h4)
    exact k _ _ F g s
end
end DL

namespace DL
open PySem PySem.Spec L2
/-- put in, if it is not there -/
def insU (a : Rat) : List Rat → List Rat
  | [] => [a]
  | b :: l => if b < a then b :: insU a l else if b = a then b :: l else a :: b :: l
def sortU (l : List Rat) : List Rat := l.foldl (fun m a => insU a m) []
theorem insU_len (a : Rat) : ∀ m : List Rat, (insU a m).length ≤ m.length + 1
  | [] => Nat.le_refl _
  | b :: m => by
    unfold insU
    split
    · rw [List.length_cons, List.length_cons]; exact Nat.succ_le_succ (insU_len a m)
    · split
      · rw [List.length_cons]; omega
      · rw [List.length_cons, List.length_cons]; omega
theorem insU_mem {a x : Rat} : ∀ {m : List Rat}, x ∈ insU a m ↔ x = a ∨ x ∈ m
  | [] => by unfold insU; simp
  | b :: m => by
    unfold insU
    split
    · rw [List.mem_cons, insU_mem (m := m), List.mem_cons]; grind
    · split
      · next h => rw [List.mem_cons, h]; grind
      · rw [List.mem_cons]
theorem insU_at {a : Rat} : ∀ {m : List Rat} {n : Nat}, (∀ x ∈ m.take n, x < a) → (∀ b, m[n]? = some b → ¬ b < a) → insU a m = if m[n]? = some a then m else m.take n ++ a :: m.drop n
  | [], n, _, _ => by
    rw [if_neg (by simp)]
    simp [insU]
  | b :: m, 0, _, h2 => by
    have h3 := h2 b rfl
    unfold insU
    rw [if_neg h3]
    by_cases e : b = a
    · rw [if_pos e, if_pos (by rw [e]; rfl)]
    · rw [if_neg e, if_neg (fun z : (b :: m)[0]? = some a => e (Option.some.inj z))]
      rfl
  | b :: m, n + 1, h1, h2 => by
    have h3 : b < a := h1 b List.mem_cons_self
    unfold insU
    rw [if_pos h3, insU_at (m := m) (n := n) (fun x hx => h1 x (List.mem_cons_of_mem _ hx)) (fun b hb => h2 b (by simpa using hb))]
    have e : (b :: m)[n + 1]? = m[n]? := by simp
    rw [e]
    split
    · rfl
    · rfl
theorem sortU_snoc (l : List Rat) (a : Rat) : sortU (l ++ [a]) = insU a (sortU l) := by
  unfold sortU
  rw [List.foldl_append]
  rfl
theorem foldU_mem {x : Rat} : ∀ {l m : List Rat}, x ∈ l.foldl (fun m a => insU a m) m ↔ x ∈ m ∨ x ∈ l
  | [], m => by simp
  | a :: l, m => by
    rw [List.foldl_cons, foldU_mem (l := l), insU_mem, List.mem_cons]
    grind
theorem sortU_mem {x : Rat} {l : List Rat} : x ∈ sortU l ↔ x ∈ l := by
  unfold sortU
  rw [foldU_mem]
  simp
theorem sortU_len : ∀ l : List Rat, (sortU l).length ≤ l.length := by
  have go : ∀ l m : List Rat, (l.foldl (fun m a => insU a m) m).length ≤ m.length + l.length := by
    intro l
    induction l with
    | nil => intro m; exact Nat.le_refl _
    | cons a l ih =>
      intro m
      have h1 := ih (insU a m)
      have h2 := insU_len a m
      rw [List.foldl_cons, List.length_cons]
      omega
  intro l
  have := go l []
  simpa [sortU] using this
/-- going up strictly -/
abbrev Up (l : List Rat) : Prop := l.Pairwise (· < ·)
theorem rat_lt_trans {a b c : Rat} (h1 : a < b) (h2 : b < c) : a < c := by grind
theorem insU_up {a : Rat} : ∀ {m : List Rat}, Up m → Up (insU a m)
  | [], _ => List.pairwise_singleton _ _
  | b :: m, h => by
    obtain ⟨h1, h2⟩ := List.pairwise_cons.mp h
    unfold insU
    split
    · next hb =>
      refine List.pairwise_cons.mpr ⟨fun x hx => ?_, insU_up h2⟩
      rcases insU_mem.mp hx with e | hx
      · rw [e]; exact hb
      · exact h1 x hx
    · next hb =>
      split
      · exact h
      · next he =>
        have hab : a < b := by grind
        refine List.pairwise_cons.mpr ⟨fun x hx => ?_, h⟩
        rcases List.mem_cons.mp hx with e | hx
        · rw [e]; exact hab
        · exact rat_lt_trans hab (h1 x hx)
theorem sortU_up (l : List Rat) : Up (sortU l) := by
  have go : ∀ (l m : List Rat), Up m → Up (l.foldl (fun m a => insU a m) m) := by
    intro l
    induction l with
    | nil => intro m h; exact h
    | cons a l ih => intro m h; exact ih _ (insU_up h)
  exact go l [] List.Pairwise.nil
theorem insU_in {a : Rat} : ∀ {m : List Rat}, Up m → a ∈ m → insU a m = m
  | [], _, h => by cases h
  | b :: m, h, ha => by
    obtain ⟨h1, h2⟩ := List.pairwise_cons.mp h
    unfold insU
    rcases List.mem_cons.mp ha with e | ha
    · rw [e, if_neg (by grind), if_pos rfl]
    · rw [if_pos (h1 a ha), insU_in h2 ha]
theorem ins_at {a : Rat} : ∀ {m : List Rat}, Up m → ¬ a ∈ m → m.take (m.filter fun x => decide (x < a)).length ++ [a] ++ m.drop (m.filter fun x => decide (x < a)).length = insU a m
  | [], _, _ => rfl
  | b :: m, h, ha => by
    obtain ⟨h1, h2⟩ := List.pairwise_cons.mp h
    have ha2 : ¬ a ∈ m := fun z => ha (List.mem_cons_of_mem _ z)
    have hne : ¬ a = b := fun z => ha (by rw [z]; exact List.mem_cons_self)
    unfold insU
    by_cases hb : b < a
    · rw [if_pos hb, List.filter_cons_of_pos (p := fun x => decide (x < a)) (by show decide (b < a) = true; exact decide_eq_true hb), List.length_cons, List.take_succ_cons, List.drop_succ_cons, ← ins_at h2 ha2]
      rfl
    · have hab : a < b := by grind
      have e : ((b :: m).filter fun x => decide (x < a)) = [] := List.filter_eq_nil_iff.mpr fun x hx => by
        rw [decide_eq_true_eq]
        rcases List.mem_cons.mp hx with e | hx
        · rw [e]; exact hb
        · have := h1 x hx
          grind
      rw [if_neg hb, if_neg (fun z => hne z.symm), e]
      rfl
/-- two lists that go up and have the same items are one -/
theorem up_uniq {l m : List Rat} (hl : Up l) (hm : Up m) (h : ∀ x, x ∈ l ↔ x ∈ m) : l = m := by
  have nd : ∀ {k : List Rat}, Up k → k.Nodup := fun hk => List.Pairwise.imp (fun h e => by rw [e] at h; grind) hk
  exact List.Perm.eq_of_pairwise (le := fun a b : Rat => a < b) (fun a b _ _ h1 h2 => by grind) hl hm ((List.perm_ext_iff_of_nodup (nd hl) (nd hm)).mpr h)

/-! ### markers in order -/
/-- one marker ahead of another -/
def MLt (x y : Rat × Str) : Prop := x.1 < y.1 ∨ (x.1 = y.1 ∧ strLt x.2 y.2 = true)
abbrev UpM (l : List (Rat × Str)) : Prop := l.Pairwise MLt
theorem strLt_irr (x : Str) : strLt x x = false := decide_eq_false (List.lt_irrefl _)
theorem MLt.irr {x : Rat × Str} : ¬ MLt x x := by
  rintro (h | h)
  · grind
  · rw [strLt_irr] at h; exact absurd h.2 (by decide)
theorem upM_uniq {l m : List (Rat × Str)} (hl : UpM l) (hm : UpM m) (h : ∀ x, x ∈ l ↔ x ∈ m) : l = m := by
  have nd : ∀ {k : List (Rat × Str)}, UpM k → k.Nodup := fun hk => List.Pairwise.imp (fun h e => by rw [e] at h; exact MLt.irr h) hk
  refine List.Perm.eq_of_pairwise (le := MLt) (fun a b _ _ h1 h2 => ?_) hl hm ((List.perm_ext_iff_of_nodup (nd hl) (nd hm)).mpr h)
  exfalso
  rcases h1 with h1 | h1 <;> rcases h2 with h2 | h2
  · grind
  · have := h2.1; grind
  · have := h1.1; grind
  · rw [strLt_asym h1.2] at h2
    exact absurd h2.2 (by decide)
/-- of neighbors that are the same one is kept -/
def dedS : List Str → List Str
  | [] => []
  | [x] => [x]
  | x :: y :: l => if x = y then dedS (y :: l) else x :: dedS (y :: l)
theorem dedS_mem {z : Str} : ∀ {l : List Str}, z ∈ dedS l ↔ z ∈ l
  | [] => Iff.rfl
  | [x] => Iff.rfl
  | x :: y :: l => by
    unfold dedS
    split
    · next e =>
      rw [dedS_mem (l := y :: l), e]
      simp
    · rw [List.mem_cons, dedS_mem (l := y :: l), List.mem_cons (l := y :: l)]
theorem strLt_of {x y : Str} (h : strLt y x = false) (hne : x ≠ y) : strLt x y = true := by
  cases q : strLt x y with
  | true => rfl
  | false => exact absurd (strLt_eq h q) hne
theorem strLt_lt_le {x y z : Str} (h1 : strLt x y = true) (h2 : strLt z y = false) : strLt x z = true := by
  cases q : strLt x z with
  | true => rfl
  | false =>
    have := strLt_tr h2 q
    rw [h1] at this
    cases this
theorem dedS_up : ∀ {l : List Str}, (l.Pairwise fun x y => strLt y x = false) → (dedS l).Pairwise fun x y => strLt x y = true
  | [], _ => List.Pairwise.nil
  | [x], _ => List.pairwise_singleton _ _
  | x :: y :: l, h => by
    obtain ⟨h1, h2⟩ := List.pairwise_cons.mp h
    unfold dedS
    split
    · exact dedS_up h2
    · next hne =>
      refine List.pairwise_cons.mpr ⟨fun z hz => ?_, dedS_up h2⟩
      have hxy := strLt_of (h1 y List.mem_cons_self) hne
      rcases List.mem_cons.mp (dedS_mem.mp hz) with e | hz
      · rw [e]; exact hxy
      · exact strLt_lt_le hxy ((List.pairwise_cons.mp h2).1 z hz)
/-- the markers in order, those that are the same once -/
noncomputable def ordP (l : List (Rat × Str)) : List (Rat × Str) := (sortU (l.map (·.1))).flatMap fun p => (dedS (sortS ((l.filter fun m => decide (m.1 = p)).map (·.2)))).map fun n => (p, n)
theorem ordP_mem {l : List (Rat × Str)} {m : Rat × Str} : m ∈ ordP l ↔ m ∈ l := by
  unfold ordP
  rw [List.mem_flatMap]
  constructor
  · rintro ⟨p, _, h⟩
    obtain ⟨n, hn, rfl⟩ := List.mem_map.mp h
    have h2 := (sortS_perm _).mem_iff.mp (dedS_mem.mp hn)
    obtain ⟨m, hm, rfl⟩ := List.mem_map.mp h2
    obtain ⟨h3, h4⟩ := List.mem_filter.mp hm
    have h4 := of_decide_eq_true h4
    rw [← h4]
    exact h3
  · intro h
    refine ⟨m.1, sortU_mem.mpr (List.mem_map.mpr ⟨m, h, rfl⟩), List.mem_map.mpr ⟨m.2, dedS_mem.mpr ((sortS_perm _).mem_iff.mpr (List.mem_map.mpr ⟨m, List.mem_filter.mpr ⟨h, decide_eq_true rfl⟩, rfl⟩)), rfl⟩⟩
theorem flat_up {f : Rat → List (Rat × Str)} (hf : ∀ p, UpM (f p)) (h1 : ∀ p, ∀ m ∈ f p, m.1 = p) : ∀ {ps : List Rat}, Up ps → UpM (ps.flatMap f)
  | [], _ => List.Pairwise.nil
  | p :: ps, h => by
    obtain ⟨h2, h3⟩ := List.pairwise_cons.mp h
    rw [List.flatMap_cons]
    refine List.pairwise_append.mpr ⟨hf p, flat_up hf h1 h3, fun a ha b hb => ?_⟩
    obtain ⟨q, hq, hb⟩ := List.mem_flatMap.mp hb
    left
    rw [h1 p a ha, h1 q b hb]
    exact h2 q hq
theorem ordP_up (l : List (Rat × Str)) : UpM (ordP l) := by
  refine flat_up (fun p => ?_) (fun p m hm => ?_) (sortU_up _)
  · refine List.pairwise_map.mpr ?_
    exact List.Pairwise.imp (fun h => .inr ⟨rfl, h⟩) (dedS_up (sortS_srt _))
  · obtain ⟨n, _, rfl⟩ := List.mem_map.mp hm
    rfl
theorem ordP_id {l : List (Rat × Str)} (h : UpM l) : ordP l = l := upM_uniq (ordP_up l) h fun _ => ordP_mem
theorem ordP_congr {l m : List (Rat × Str)} (h : ∀ x, x ∈ l ↔ x ∈ m) : ordP l = ordP m := upM_uniq (ordP_up l) (ordP_up m) fun x => by rw [ordP_mem, ordP_mem, h]
/-- as the laws do it -/
noncomputable def ordM (l : List (Rat × Str)) : List (Rat × Str) := (sortU (l.map (·.1))).flatMap fun p => sortR (l.filter fun m => decide (m.1 = p))
theorem ordM_mem {l : List (Rat × Str)} {m : Rat × Str} : m ∈ ordM l ↔ m ∈ l := by
  unfold ordM
  rw [List.mem_flatMap]
  constructor
  · rintro ⟨p, _, h⟩
    exact (List.mem_filter.mp ((sortR_perm _).mem_iff.mp h)).1
  · intro h
    refine ⟨m.1, sortU_mem.mpr (List.mem_map.mpr ⟨m, h, rfl⟩), (sortR_perm _).mem_iff.mpr (List.mem_filter.mpr ⟨h, decide_eq_true rfl⟩)⟩
theorem sortR_srt (l : List (Rat × Str)) : (sortR l).Pairwise fun x y => ltM (kM y) (kM x) = false := by
  have h := List.pairwise_mergeSort (le := fun x y : Rat × Str => !ltM (kM y) (kM x)) (fun a b c h1 h2 => not_b.mpr (ltM_tr (not_b.mp h1) (not_b.mp h2))) (fun a b => by
    cases h : ltM (kM b) (kM a) with
    | false => rfl
    | true => rw [ltM_asym h] <;> rfl) l
  exact List.Pairwise.imp (fun h => not_b.mp h) h
theorem ordM_up {l : List (Rat × Str)} (hn : l.Nodup) : UpM (ordM l) := by
  refine flat_up (fun p => ?_) (fun p m hm => ?_) (sortU_up _)
  · have hnd : (sortR (l.filter fun m => decide (m.1 = p))).Nodup := (sortR_perm _).nodup_iff.mpr (hn.filter _)
    have hs := sortR_srt (l.filter fun m => decide (m.1 = p))
    have hall : ∀ m ∈ sortR (l.filter fun m => decide (m.1 = p)), m.1 = p := fun m hm => of_decide_eq_true (List.mem_filter.mp ((sortR_perm _).mem_iff.mp hm)).2
    have both := List.Pairwise.and hs hnd
    refine List.Pairwise.imp_of_mem (fun {a b} ha hb h => ?_) both
    have ea := hall a ha
    have eb := hall b hb
    refine .inr ⟨ea.trans eb.symm, ?_⟩
    have h1 := (ltM_no.mp h.1).2 (by unfold kM; rw [ea, eb])
    exact strLt_of h1 fun z => h.2 (Prod.ext (ea.trans eb.symm) z)
  · exact of_decide_eq_true (List.mem_filter.mp ((sortR_perm _).mem_iff.mp hm)).2
theorem ordM_P {l : List (Rat × Str)} (hn : l.Nodup) : ordM l = ordP l := upM_uniq (ordM_up hn) (ordP_up l) fun x => by rw [ordM_mem, ordP_mem]
end DL

namespace DL
open PySem PySem.Spec L2
open PyProof.Rows
section
variable {prog : Program} {w : World} {A : Around} {E : Value → Shared → Prop} {s : Shared}
theorem rev_places (n : Nat) : Builtin.Slice.slicePlaces ((n : Int) - 1) (-1) (-1) = n := by
  unfold Builtin.Slice.slicePlaces
  have h1 : ¬ ((-1 : Int) > 0) := by omega
  have h2 : (-(-1 : Int)) = 1 := by omega
  simp only [h1, if_false, h2, Int.ediv_one]
  split <;> omega
theorem rev_pick (xs : Array Value) : ((List.range xs.size).filterMap fun (k : Nat) => xs[(((xs.size : Int) - 1) + (k : Int) * (-1)).toNat]?).toArray = xs.toList.reverse.toArray := by
  congr 1
  have e : (List.range xs.size).filterMap (fun (k : Nat) => xs[(((xs.size : Int) - 1) + (k : Int) * (-1)).toNat]?) = (List.range xs.size).filterMap (fun k => xs.toList.reverse[k]?) := by
    have cg : ∀ (l : List Nat) (f g : Nat → Option Value), (∀ k ∈ l, f k = g k) → l.filterMap f = l.filterMap g := by
      intro l f g h
      induction l with
      | nil => rfl
      | cons x l ih => rw [List.filterMap_cons, List.filterMap_cons, h x List.mem_cons_self, ih fun k hk => h k (List.mem_cons_of_mem _ hk)]
    refine cg _ _ _ fun k hk => ?_
    have hk := List.mem_range.mp hk
    rw [List.getElem?_reverse (by rw [Array.length_toList]; exact hk), Array.length_toList, Array.getElem?_toList]
    congr 1
    omega
  rw [e]
  have g : ∀ (l : List Value), (List.range l.length).filterMap (fun k => l[k]?) = l := by
    intro l
    induction l with
    | nil => rfl
    | cons x l ih =>
      rw [List.length_cons, List.range_succ_eq_map, List.filterMap_cons, List.filterMap_map]
      show x :: (List.range l.length).filterMap (fun k => l[k]?) = x :: l
      rw [ih]
  have := g xs.toList.reverse
  rw [List.length_reverse, Array.length_toList] at this
  exact this
theorem getItem_tuple_rev {t sl : Addr} {items : Array Value} {vl vu vs : Value} {Q : Value → Shared → Prop} (ht : PyProof.Rows.IsTup s.heap t items) (hs : s.heap.IsSliceOf sl vl vu vs) (pl : IsPart vl none) (pu : IsPart vu none) (ps : IsPart vs (some (-1)))
    (h : Q (.ref s.heap.objs.size) { s with heap := s.heap.push { cls := .type "tuple", data := .seq items.toList.reverse.toArray } }) (hsz : items.size ≤ sizeLine) : wpAny (model prog w) A (getItem (.ref t) (.ref sl)) Q E s := by
  have htake : sizeOk (.seq items.toList.reverse.toArray) := by
    show items.toList.reverse.toArray.size ≤ sizeLine
    rw [List.size_toArray, List.length_reverse, Array.length_toList]
    exact hsz
  obtain ⟨os, hos, hcs, hds⟩ := id hs
  have hTs : s.TypeIs (.ref sl) "slice" := ⟨os, hos, hcs⟩
  unfold getItem
  try with_reducible refine wpAny_holding ?_
  first | refine wpAny_bind (wpAny_pure ?_) | skip
  refine wpAny_bind (wpAny_sequenceKey ht.typeIs (by decide) ?_)
  refine wpAny_bind (wpAny_callSpecial?_slot (name := Str.ofString "__getitem__") ht.typeIs PyProof.Rows.slot_tuple_getitem
    (wpAny_call_entry PyProof.Rows.slot_tuple_getitem ht.typeIs entry_tuple_getitem ?_ (args_tuple_getitem _ _)))
  show wpAny _ _ (Builtin.Tuple.tupleItemsOf (.ref t) >>= _) _ _ s
  refine wpAny_bind (PyProof.Rows.tupleItemsOf_ ht ?_)
  refine wpAny_bind (wpAny_typeOf hTs ?_)
  rw [if_pos (by decide)]
  refine wpAny_bind ?_
  · unfold Builtin.Slice.sliceApplied Builtin.Slice.sliceFields
    refine wpAny_bind (wpAny_bind (wpAny_field hos hds (x := vl) rfl (wpAny_bind (wpAny_field hos hds (x := vu) rfl (wpAny_bind (wpAny_field hos hds (x := vs) rfl (wpAny_pure ?_)))))))
    refine wpAny_bind (HT.slicePart_ ps ?_)
    show wpAny _ _ (if ((-1 : Int) == 0) = true then _ else _) _ _ s
    rw [if_neg (by decide)]
    refine wpAny_bind (HT.slicePart_ pl (wpAny_bind (HT.slicePart_ pu (wpAny_bind (wpAny_pure ?_)))))
    show wpAny _ _ (pure (((items.size : Int) - 1), (-1 : Int), Builtin.Slice.slicePlaces ((items.size : Int) - 1) (-1) (-1))) _ _ s
    rw [rev_places]
    refine wpAny_pure ?_
    have hno : ¬ ((((items.size : Int) - 1 == 0) && ((-1 : Int) == 1) && (items.size == items.size)) = true) := by
      have : ((-1 : Int) == 1) = false := by decide
      rw [this, Bool.and_false, Bool.false_and]
      exact Bool.false_ne_true
    show wpAny _ _ (if (((items.size : Int) - 1 == 0) && ((-1 : Int) == 1) && (items.size == items.size)) = true then _ else _) _ _ s
    rw [if_neg hno, rev_pick]
    first
      | exact wpAny_bind (m := Builtin.Tuple.tupleExact _) (wpAny_newObj_type (wpAny_pure ⟨_, rfl, wpAny_pure h⟩) htake)
      | exact wpAny_bind (m := Builtin.Tuple.tupleExact _) (wpAny_newObj_type (wpAny_bind (wpAny_pure (wpAny_pure ⟨_, rfl, wpAny_pure h⟩))) htake)
      | exact wpAny_bind (wpAny_bind (m := Builtin.Tuple.tupleExact _) (wpAny_newObj_type (wpAny_pure (wpAny_pure ⟨_, rfl, wpAny_pure h⟩)) htake))
      | exact wpAny_bind (wpAny_bind (m := Builtin.Tuple.tupleExact _) (wpAny_newObj_type (wpAny_pure ⟨_, rfl, wpAny_pure h⟩) htake))
end
def tRevT (K : PySem.W.Frag) (te : TE) : TE := fun σ H Q => te σ H fun x H1 => ∃ a xs, x = .ref a ∧ SqT K H1 a xs ∧ ∀ p, H1 p = none → Q (.ref p) (upd H1 p (.tup xs.reverse))
section
variable {X : Cx} {G : List S} {R : Res}
theorem pe_revT {e : Expr} {te : TE} {k : Nat} {p1 p2 p3 pos : Pos} (he : PE X e te) : PE X (.Subscript e (.Slice none none (some (.UnaryOp .USub (.Constant (.int 1) k p1) p2)) p3) pos) (tRevT X.K te) := by
  refine ⟨fun pins s σ H Q I h => ?_⟩
  refine Subscript_ (thn (he.run pins s σ H _ I h) fun v s1 ⟨x, H1, I1, r1, q1⟩ => ?_)
  obtain ⟨a, xs, ex, hx, q⟩ := q1
  subst ex
  cases r1
  have hst : PO X (some (.UnaryOp .USub (.Constant (.int 1) k p1) p2)) (tPart (tUn (rU fun i => .int (-i)) (tC (.int 1)))) := po_some (pe_un un_neg pe_int)
  refine wpAny_Slice (thn (po_none.run pins s1 σ H1 (fun o H2 => o = none ∧ H2 = H1) I1 ⟨rfl, rfl⟩) fun vl s2 ⟨l, H2, I2, pl, el, e2⟩ => ?_)
  subst el e2
  refine thn (po_none.run pins s2 σ H2 (fun o H3 => o = none ∧ H3 = H2) I2 ⟨rfl, rfl⟩) fun vu s3 ⟨u, H3, I3, pu, eu, e3⟩ => ?_
  subst eu e3
  refine thn (hst.run pins s3 σ H3 (fun o H4 => o = some (-1) ∧ H4 = H3) I3 ⟨1, rfl, -1, rfl, rfl, rfl⟩) fun vs s4 ⟨o, H4, I4, ps, eo, e4⟩ => ?_
  subst eo e4
  have I5 : Inv X pins σ H4 { s4 with heap := s4.heap.push { cls := .type "slice", data := .fields #[vl, vu, vs] } } := I4.kept (t' := s4.toks) fun b ob q => Heap.get?_push_of_some _ q
  obtain ⟨its, r, ht, hz⟩ := I5.tuple hx
  have hlen := r.length
  show wpAny (model X.prog X.w) X.A (subscriptTail e (.Slice none none (some (.UnaryOp .USub (.Constant (.int 1) k p1) p2)) p3) (.ref a) (.ref s4.heap.objs.size)) (EP X pins σ Q) X.xe { s4 with heap := s4.heap.push { cls := .type "slice", data := .fields #[vl, vu, vs] } }
  refine tail_any (ops := [.ref a, .ref s4.heap.objs.size]) ht.typeIs (PyProof.Rows.slot_tuple_getitem.lookup) ?_ (by with_unfolding_all rfl)
  refine getItem_tuple_rev ht (Heap.IsSliceOf.new _ vl vu vs) pl pu ps ?_ (by rw [List.size_toArray]; omega)
  refine ⟨.ref _, _, I5.laid (t' := s4.toks) (o := .tup xs.reverse) (fun b ob q => Heap.get?_push_of_some _ q) (Nat.le_refl _) ?_, rfl, q _ (I5.hok.fresh (Nat.le_refl _))⟩
  exact ⟨by rw [List.length_reverse]; exact hz, _, r.reverse, PyProof.Rows.IsTup.new _ _⟩
theorem ev_revT {e : Expr} {k : Nat} {p1 p2 p3 pos : Pos} {ds : List D} (ha : Ev X e G R (.d (.tup ds))) : Ev X (.Subscript e (.Slice none none (some (.UnaryOp .USub (.Constant (.int 1) k p1) p2)) p3) pos) G R (.d (.tup ds.reverse)) := by
  intro en A σ H F Q st k
  refine ⟨_, pe_revT pe_t, ?_⟩
  refine ha en A σ H F _ st fun x H1 F1 g1 r1 => ?_
  obtain ⟨l, vs, rfl, h1, h2⟩ := r1
  refine ⟨l, vs, rfl, h1, fun p hp => ?_⟩
  obtain ⟨g, s⟩ := sr_newT g1.t hp h2.rev
  exact k _ _ F1 (g1.trans g) s
end
/-- no more items than there are to choose from -/
theorem nodup_le {α : Type} [DecidableEq α] : ∀ {l m : List α}, l.Nodup → (∀ x ∈ l, x ∈ m) → l.length ≤ m.length
  | [], _, _, _ => Nat.zero_le _
  | x :: l, m, hn, h => by
    obtain ⟨h1, h2⟩ := List.nodup_cons.mp hn
    have hx := h x List.mem_cons_self
    have ih := nodup_le (l := l) (m := m.erase x) h2 fun y hy => (List.mem_erase_of_ne (fun e => h1 (by rw [← e]; exact hy))).mpr (h y (List.mem_cons_of_mem _ hy))
    rw [List.length_erase_of_mem hx] at ih
    have : 0 < m.length := List.length_pos_of_mem hx
    rw [List.length_cons]
    omega
theorem ordP_len (l : List (Rat × Str)) : (ordP l).length ≤ l.length :=
  nodup_le (List.Pairwise.imp (fun h e => by rw [e] at h; exact MLt.irr h) (ordP_up l)) fun x hx => ordP_mem.mp hx
end DL

namespace DL
theorem valF_in {s x : Rat} {p : Pc} {t : List Pc} (h : x ≤ s + p.l) : valF s x (p :: t) = valIn p (x - s) := by
  cases t with
  | nil => exact valF_one s x p
  | cons q t => rw [valF_cons, if_pos h]
theorem valF_past {s x : Rat} {p : Pc} {t : List Pc} (h0 : t ≠ []) (h : s + p.l < x) : valF s x (p :: t) = valF (s + p.l) x t := by
  cases t with
  | nil => exact absurd rfl h0
  | cons q t => rw [valF_cons, if_neg (by grind)]
theorem valF_shift (d : Rat) : ∀ (t : List Pc) (s x : Rat), valF (s + d) (x + d) t = valF s x t
  | [], _, _ => rfl
  | [p], s, x => by
    rw [valF_one, valF_one]
    congr 1
    grind
  | p :: q :: t, s, x => by
    rw [valF_cons, valF_cons]
    by_cases h : x ≤ s + p.l
    · rw [if_pos h, if_pos (by grind)]
      congr 1
      grind
    · rw [if_neg h, if_neg (by grind), ← valF_shift d (q :: t) (s + p.l) x]
      congr 1
      grind
theorem valF_off (t : List Pc) (s x : Rat) : valF s x t = valF 0 (x - s) t := by
  have := valF_shift s t 0 (x - s)
  rw [show (0 : Rat) + s = s by grind, show x - s + s = x by grind] at this
  exact this
theorem tlen_nil : tlen [] = 0 := rfl
theorem tlen_pos : ∀ {t : List Pc}, (∀ p ∈ t, 0 < p.l) → t ≠ [] → 0 < tlen t
  | [], _, h => absurd rfl h
  | [p], h, _ => by
    have := h p List.mem_cons_self
    rw [tlen_cons, tlen_nil]
    grind
  | p :: q :: t, h, _ => by
    have h1 := h p List.mem_cons_self
    have h2 := tlen_pos (t := q :: t) (fun y hy => h y (List.mem_cons_of_mem _ hy)) (by simp)
    rw [tlen_cons]
    grind
theorem tlen_nn {t : List Pc} (h : ∀ p ∈ t, 0 < p.l) : 0 ≤ tlen t := by
  by_cases e : t = []
  · rw [e, tlen_nil]; grind
  · have := tlen_pos h e
    grind
theorem tlen_zero {t : List Pc} (h : ∀ p ∈ t, 0 < p.l) (e : tlen t = 0) : t = [] := by
  refine Decidable.byContradiction fun q => ?_
  have := tlen_pos h q
  grind
theorem tlen_app : ∀ (t u : List Pc), tlen (t ++ u) = tlen t + tlen u
  | [], u => by rw [List.nil_append, tlen_nil]; grind
  | p :: t, u => by rw [List.cons_append, tlen_cons, tlen_cons, tlen_app t u]; grind
theorem quad_eq {p q : Pc} {h : Rat} (h0 : h ≠ 0) (h1 : valIn p h = valIn q h) (h2 : valIn p (2 * h) = valIn q (2 * h)) (h3 : valIn p (3 * h) = valIn q (3 * h)) : p.a = q.a ∧ p.b = q.b ∧ p.c = q.c := by
  unfold valIn at h1 h2 h3
  have e1 : h * (h * (p.c - q.c)) = 0 := by grind
  have e2 : p.c - q.c = 0 := by
    rcases Rat.mul_eq_zero.mp e1 with z | z
    · exact absurd z h0
    · rcases Rat.mul_eq_zero.mp z with z | z
      · exact absurd z h0
      · exact z
  have e3 : p.c = q.c := by grind
  rw [e3] at h1 h2
  have e4 : h * (p.b - q.b) = 0 := by grind
  have e5 : p.b = q.b := by
    rcases Rat.mul_eq_zero.mp e4 with z | z
    · exact absurd z h0
    · grind
  rw [e5] at h1
  exact ⟨by grind, e5, e3⟩
/-- one piece that goes on behind the other one's end -/
theorem uniq_lt {p q : Pc} {t u : List Pc} (hp : ∀ y ∈ p :: t, 0 < y.l) (hq : ∀ y ∈ q :: u, 0 < y.l) (n1 : NoMg (p :: t)) (e : p.l + tlen t = q.l + tlen u)
    (h : ∀ x, 0 < x → x ≤ p.l + tlen t → valF 0 x (p :: t) = valF 0 x (q :: u)) (lt : p.l < q.l) : False := by
  have hpl := hp p List.mem_cons_self
  have hu := tlen_nn (t := u) fun y hy => hq y (List.mem_cons_of_mem _ hy)
  cases t with
  | nil => rw [tlen_nil] at e; grind
  | cons r t =>
    have hr := hp r (List.mem_cons_of_mem _ List.mem_cons_self)
    have ht := tlen_nn (t := t) fun y hy => hp y (List.mem_cons_of_mem _ (List.mem_cons_of_mem _ hy))
    rw [tlen_cons] at e h
    have v1 : ∀ x, 0 < x → x ≤ p.l → valIn p x = valIn q x := fun x h0 h1 => by
      have := h x h0 (by grind)
      rw [valF_in (by grind), valF_in (by grind), show x - 0 = x by grind] at this
      exact this
    obtain ⟨a1, a2, a3⟩ := quad_eq (p := p) (q := q) (h := p.l / 3) (by grind) (v1 _ (by grind) (by grind)) (v1 _ (by grind) (by grind)) (v1 _ (by grind) (by grind))
    have pq : ∀ x, valIn p x = valIn q x := fun x => by unfold valIn; rw [a1, a2, a3]
    have v2 : ∀ x, p.l < x → x ≤ p.l + r.l → x ≤ q.l → valIn r (x - p.l) = valIn p x := fun x h0 h1 h2 => by
      have := h x (by grind) (by grind)
      rw [valF_past (by simp) (by grind), valF_in (by grind), valF_in (by grind), show x - 0 = x by grind, show x - (0 + p.l) = x - p.l by grind] at this
      rw [pq]
      exact this
    obtain ⟨m, hm0, hm1, hm2⟩ : ∃ m : Rat, 0 < m ∧ m ≤ r.l ∧ m ≤ q.l - p.l := by
      by_cases c : r.l ≤ q.l - p.l
      · exact ⟨r.l, hr, by grind, c⟩
      · exact ⟨q.l - p.l, by grind, by grind, by grind⟩
    have v3 : ∀ y, 0 < y → y ≤ m → valIn r y = valIn (shP p r.l p.l) y := fun y h0 h1 => by
      have := v2 (p.l + y) (by grind) (by grind) (by grind)
      rw [show p.l + y - p.l = y by grind] at this
      rw [this, sh_val]
    obtain ⟨b1, b2, b3⟩ := quad_eq (p := r) (q := shP p r.l p.l) (h := m / 3) (by grind) (v3 _ (by grind) (by grind)) (v3 _ (by grind) (by grind)) (v3 _ (by grind) (by grind))
    exact n1.1 ⟨b1.symm, b2.symm, b3.symm⟩
theorem uniq_no : ∀ (t u : List Pc) (p q : Pc), (∀ y ∈ p :: t, 0 < y.l) → (∀ y ∈ q :: u, 0 < y.l) → NoMg (p :: t) → NoMg (q :: u) → p.l + tlen t = q.l + tlen u →
    (∀ x, 0 < x → x ≤ p.l + tlen t → valF 0 x (p :: t) = valF 0 x (q :: u)) → p :: t = q :: u := by
  intro t
  induction t with
  | nil =>
    intro u p q hp hq n1 n2 e h
    have hpl := hp p List.mem_cons_self
    have hql := hq q List.mem_cons_self
    have hu := tlen_nn (t := u) fun y hy => hq y (List.mem_cons_of_mem _ hy)
    rw [tlen_nil] at e h
    by_cases c : q.l < p.l
    · exact (uniq_lt hq hp n2 (by rw [tlen_nil]; exact e.symm) (fun x h0 h1 => (h x h0 (by grind)).symm) c).elim
    · have z : u = [] := tlen_zero (fun y hy => hq y (List.mem_cons_of_mem _ hy)) (by grind)
      subst z
      rw [tlen_nil] at e
      have el : p.l = q.l := by grind
      have v1 : ∀ x, 0 < x → x ≤ p.l → valIn p x = valIn q x := fun x h0 h1 => by
        have := h x h0 (by grind)
        rw [valF_in (by grind), valF_in (by grind), show x - 0 = x by grind] at this
        exact this
      obtain ⟨a1, a2, a3⟩ := quad_eq (p := p) (q := q) (h := p.l / 3) (by grind) (v1 _ (by grind) (by grind)) (v1 _ (by grind) (by grind)) (v1 _ (by grind) (by grind))
      rw [Pc.ext' el a1 a2 a3]
  | cons r t ih =>
    intro u p q hp hq n1 n2 e h
    have hpl := hp p List.mem_cons_self
    have hql := hq q List.mem_cons_self
    have hrt := tlen_pos (t := r :: t) (fun y hy => hp y (List.mem_cons_of_mem _ hy)) (by simp)
    by_cases c1 : p.l < q.l
    · exact (uniq_lt hp hq n1 e h c1).elim
    by_cases c2 : q.l < p.l
    · exact (uniq_lt hq hp n2 e.symm (fun x h0 h1 => (h x h0 (by grind)).symm) c2).elim
    have el : p.l = q.l := by grind
    have v1 : ∀ x, 0 < x → x ≤ p.l → valIn p x = valIn q x := fun x h0 h1 => by
      have := h x h0 (by grind)
      rw [valF_in (by grind), valF_in (by grind), show x - 0 = x by grind] at this
      exact this
    obtain ⟨a1, a2, a3⟩ := quad_eq (p := p) (q := q) (h := p.l / 3) (by grind) (v1 _ (by grind) (by grind)) (v1 _ (by grind) (by grind)) (v1 _ (by grind) (by grind))
    have epq : p = q := Pc.ext' el a1 a2 a3
    subst epq
    cases u with
    | nil => rw [tlen_nil] at e; grind
    | cons z u =>
      rw [ih u r z (fun y hy => hp y (List.mem_cons_of_mem _ hy)) (fun y hy => hq y (List.mem_cons_of_mem _ hy)) n1.2 n2.2 (by rw [tlen_cons, tlen_cons] at e; grind) fun x h0 h1 => ?_]
      have := h (x + p.l) (by grind) (by rw [tlen_cons]; grind)
      rw [valF_past (p := p) (t := r :: t) (by simp) (by grind), valF_past (p := p) (t := z :: u) (by simp) (by grind), valF_shift, valF_shift] at this
      exact this
/-- tracks with the same values have the same normal form -/
theorem nrm_uniq {t u : List Pc} (ht : ∀ p ∈ t, 0 < p.l) (hu : ∀ p ∈ u, 0 < p.l) (t0 : t ≠ []) (u0 : u ≠ []) (e : tlen t = tlen u) (h : ∀ x, 0 < x → x ≤ tlen t → valF 0 x t = valF 0 x u) : nrmT t = nrmT u := by
  have h' : ∀ x, 0 < x → x ≤ tlen (nrmT t) → valF 0 x (nrmT t) = valF 0 x (nrmT u) := fun x h0 h1 => by
    have g1 := nrmT_val (t := t) (fun p hp => Rat.le_of_lt (ht p hp)) x
    have g2 := nrmT_val (t := u) (fun p hp => Rat.le_of_lt (hu p hp)) x
    rw [show valF 0 x (nrmT t) = valAt true (nrmT t) x from rfl, show valF 0 x (nrmT u) = valAt true (nrmT u) x from rfl, g1, g2]
    rw [nrmT_tlen] at h1
    exact h x h0 h1
  have p1 := nrmT_pos ht
  have p2 := nrmT_pos hu
  have n1 : NoMg (nrmT t) := by
    cases t with
    | nil => exact absurd rfl t0
    | cons p t => exact nrm_noMg t p
  have n2 : NoMg (nrmT u) := by
    cases u with
    | nil => exact absurd rfl u0
    | cons p t => exact nrm_noMg t p
  have e1 := nrmT_tlen t
  have e2 := nrmT_tlen u
  have z1 := nrmT_ne t0
  have z2 := nrmT_ne u0
  revert h' p1 p2 n1 n2 e1 e2 z1 z2
  generalize nrmT t = a
  generalize nrmT u = b
  intro h' p1 p2 n1 n2 e1 e2 z1 z2
  cases a with
  | nil => exact absurd rfl z1
  | cons p a =>
    cases b with
    | nil => exact absurd rfl z2
    | cons q b =>
      rw [tlen_cons] at e1 e2 h'
      exact uniq_no a b p q p1 p2 n1 n2 (by grind) h'
theorem valF_app : ∀ (t u : List Pc) (s x : Rat), t ≠ [] → u ≠ [] → (∀ p ∈ t, 0 < p.l) → valF s x (t ++ u) = if x ≤ s + tlen t then valF s x t else valF (s + tlen t) x u
  | [], _, _, _, h, _, _ => absurd rfl h
  | [p], u, s, x, _, h, hp => by
    have hpl := hp p List.mem_cons_self
    have e : tlen [p] = p.l := by rw [tlen_cons, tlen_nil]; grind
    rw [e]
    by_cases c : x ≤ s + p.l
    · rw [if_pos c, List.singleton_append, valF_in c, valF_one]
    · rw [if_neg c, List.singleton_append, valF_past h (by grind)]
  | p :: q :: t, u, s, x, _, h, hp => by
    have hpl := hp p List.mem_cons_self
    have ht := tlen_nn (t := q :: t) fun y hy => hp y (List.mem_cons_of_mem _ hy)
    have ih := valF_app (q :: t) u (s + p.l) x (by simp) h fun y hy => hp y (List.mem_cons_of_mem _ hy)
    rw [tlen_cons (t := q :: t), List.cons_append]
    by_cases c : x ≤ s + p.l
    · rw [valF_in c, if_pos (by grind), valF_in c]
    · rw [valF_past (p := p) (t := q :: t ++ u) (by simp) (by grind), ih, valF_past (p := p) (t := q :: t) (by simp) (by grind)]
      rw [show s + (p.l + tlen (q :: t)) = s + p.l + tlen (q :: t) by grind]
/-! ### tracks that go on from a value -/
def Cn : Rat → List Pc → Prop
  | _, [] => True
  | v, p :: t => p.a = v ∧ Cn (valIn p p.l) t
def enV : Rat → List Pc → Rat
  | v, [] => v
  | _, p :: t => enV (valIn p p.l) t
theorem cn_cont : ∀ {t : List Pc} {v : Rat}, Cn v t → Cont t
  | [], _, _ => trivial
  | [_], _, _ => trivial
  | p :: q :: t, v, h => ⟨h.2.1, cn_cont (t := q :: t) h.2⟩
theorem cont_cn : ∀ {t : List Pc} {p : Pc}, Cont (p :: t) → Cn p.a (p :: t)
  | [], p, _ => ⟨rfl, trivial⟩
  | q :: t, p, h => ⟨rfl, by have := cont_cn h.2; rw [h.1] at this; exact this⟩
theorem cn_app : ∀ {t u : List Pc} {v : Rat}, Cn v (t ++ u) ↔ Cn v t ∧ Cn (enV v t) u
  | [], u, v => ⟨fun h => ⟨trivial, h⟩, fun h => h.2⟩
  | p :: t, u, v => by
    have ih := cn_app (t := t) (u := u) (v := valIn p p.l)
    exact ⟨fun h => ⟨⟨h.1, (ih.mp h.2).1⟩, (ih.mp h.2).2⟩, fun h => ⟨h.1.1, ih.mpr ⟨h.1.2, h.2⟩⟩⟩
theorem enV_app : ∀ (t u : List Pc) (v : Rat), enV v (t ++ u) = enV (enV v t) u
  | [], _, _ => rfl
  | p :: t, u, v => enV_app t u (valIn p p.l)
theorem cn_nrm : ∀ (t : List Pc) (p : Pc) (v : Rat), Cn v (p :: t) → Cn v (nrm p t) ∧ enV v (nrm p t) = enV v (p :: t)
  | [], p, v, h => ⟨h, rfl⟩
  | q :: t, p, v, h => by
    unfold nrm
    split
    · next m =>
      have e : valIn (joinP p q) (joinP p q).l = valIn q q.l := by
        rw [mg_val m]
        rfl
      obtain ⟨h1, h2⟩ := cn_nrm t (joinP p q) v ⟨h.1, by rw [e]; exact h.2.2⟩
      refine ⟨h1, h2.trans ?_⟩
      show enV (valIn (joinP p q) (joinP p q).l) t = enV (valIn q q.l) t
      rw [e]
    · obtain ⟨h1, h2⟩ := cn_nrm t q (valIn p p.l) h.2
      exact ⟨⟨h.1, h1⟩, h2⟩
theorem cont_nrm {t : List Pc} (h : Cont t) : Cont (nrmT t) := by
  cases t with
  | nil => trivial
  | cons p t => exact cn_cont (cn_nrm t p p.a (cont_cn h)).1
/-- the value where a track begins and ends -/
theorem valF_zero {v : Rat} {t : List Pc} (h : Cn v t) (hp : ∀ p ∈ t, 0 < p.l) (h0 : t ≠ []) (s : Rat) : valF s s t = v := by
  cases t with
  | nil => exact absurd rfl h0
  | cons p t =>
    have := hp p List.mem_cons_self
    rw [valF_in (by grind), show s - s = 0 by grind, valIn_zero]
    exact h.1
theorem valF_end : ∀ {t : List Pc} (v s : Rat), (∀ p ∈ t, 0 < p.l) → t ≠ [] → valF s (s + tlen t) t = enV v t
  | [], _, _, _, h => absurd rfl h
  | [p], v, s, hp, _ => by
    rw [valF_one, tlen_cons, tlen_nil]
    show valIn p _ = valIn p p.l
    congr 1
    grind
  | p :: q :: t, v, s, hp, _ => by
    have h1 := hp p List.mem_cons_self
    have ht := tlen_pos (t := q :: t) (fun y hy => hp y (List.mem_cons_of_mem _ hy)) (by simp)
    rw [tlen_cons (t := q :: t), valF_past (by simp) (by grind), show s + (p.l + tlen (q :: t)) = s + p.l + tlen (q :: t) by grind, valF_end (valIn p p.l) (s + p.l) (fun y hy => hp y (List.mem_cons_of_mem _ hy)) (by simp)]
    rfl
theorem valF_nrm {t : List Pc} (h : ∀ p ∈ t, 0 < p.l) (s x : Rat) : valF s x (nrmT t) = valF s x t := by
  rw [valF_off, valF_off t]
  exact nrmT_val (fun p hp => Rat.le_of_lt (h p hp)) (x - s)
end DL

namespace DL
def revP (p : Pc) : Pc := ⟨p.l, valIn p p.l, 0 - slIn p p.l, p.c⟩
def revT (t : List Pc) : List Pc := t.reverse.map revP
def revM (len : Rat) (ms : List (Rat × Str)) : List (Rat × Str) := ms.map fun m => (len - m.1, m.2)
noncomputable def revC (c : Clip) : Clip := ⟨c.len, c.tr.map fun x => (x.1, nrmT (revT x.2)), ordP (revM c.len c.ms)⟩
theorem rev_cons (p : Pc) (t : List Pc) : revT (p :: t) = revT t ++ [revP p] := by unfold revT; rw [List.reverse_cons, List.map_append]; rfl
theorem rev_len (t : List Pc) : (revT t).length = t.length := by unfold revT; rw [List.length_map, List.length_reverse]
theorem rev_ne {t : List Pc} (h : t ≠ []) : revT t ≠ [] := fun z => h (List.eq_nil_of_length_eq_zero (by rw [← rev_len, z]; rfl))
theorem rev_mem {t : List Pc} {q : Pc} (h : q ∈ revT t) : ∃ p ∈ t, q = revP p := by
  unfold revT at h
  obtain ⟨p, hp, rfl⟩ := List.mem_map.mp h
  exact ⟨p, List.mem_reverse.mp hp, rfl⟩
theorem rev_pos {t : List Pc} (h : ∀ p ∈ t, 0 < p.l) : ∀ p ∈ revT t, 0 < p.l := fun q hq => by
  obtain ⟨p, hp, rfl⟩ := rev_mem hq
  exact h p hp
theorem rev_tlen : ∀ t : List Pc, tlen (revT t) = tlen t
  | [] => rfl
  | p :: t => by
    rw [rev_cons, tlen_app, rev_tlen t, tlen_cons, tlen_cons, tlen_nil]
    show tlen t + (p.l + 0) = p.l + tlen t
    grind
theorem revP_val (p : Pc) (x : Rat) : valIn (revP p) (p.l - x) = valIn p x := by
  unfold valIn revP valIn slIn
  grind
theorem rev_val : ∀ {t : List Pc} {x : Rat}, Cont t → (∀ p ∈ t, 0 < p.l) → t ≠ [] → 0 ≤ x → x ≤ tlen t → valF 0 (tlen t - x) (revT t) = valF 0 x t
  | [], _, _, _, h, _, _ => absurd rfl h
  | [p], x, _, _, _, h0, h1 => by
    rw [tlen_cons, tlen_nil] at h1 ⊢
    rw [show revT [p] = [revP p] from rfl, valF_one, valF_one, ← revP_val p]
    congr 1
    grind
  | p :: q :: t, x, hc, hp, _, h0, h1 => by
    have hp' : ∀ y ∈ q :: t, 0 < y.l := fun y hy => hp y (List.mem_cons_of_mem _ hy)
    have hpl := hp p List.mem_cons_self
    have ht := tlen_pos hp' (by simp)
    rw [tlen_cons] at h1 ⊢
    rw [rev_cons, valF_app _ _ _ _ (rev_ne (by simp)) (by simp) (rev_pos hp'), rev_tlen]
    by_cases c : p.l + tlen (q :: t) - x ≤ 0 + tlen (q :: t)
    · rw [if_pos c]
      have ih := rev_val (t := q :: t) (x := x - p.l) hc.2 hp' (by simp) (by grind) (by grind)
      rw [show p.l + tlen (q :: t) - x = tlen (q :: t) - (x - p.l) by grind, ih]
      by_cases c2 : x ≤ 0 + p.l
      · have e : x = p.l := by grind
        rw [valF_in c2, e, show p.l - p.l = 0 by grind, valF_in (by have := hp' q List.mem_cons_self; grind), show p.l - 0 = p.l by grind, show (0 : Rat) - 0 = 0 by grind, valIn_zero]
        exact hc.1
      · rw [valF_past (p := p) (t := q :: t) (by simp) (by grind), valF_off (q :: t) (0 + p.l)]
        congr 1
        grind
    · rw [if_neg c, valF_one, valF_in (by grind), ← revP_val p]
      congr 1
      grind
theorem rev_cn : ∀ {t : List Pc} {v : Rat}, Cn v t → Cn (enV v t) (revT t) ∧ enV (enV v t) (revT t) = v
  | [], _, _ => ⟨trivial, rfl⟩
  | p :: t, v, h => by
    obtain ⟨h1, h2⟩ := rev_cn h.2
    rw [rev_cons]
    have e : enV v (p :: t) = enV (valIn p p.l) t := rfl
    rw [e, cn_app, enV_app, h2]
    refine ⟨⟨h1, rfl, trivial⟩, ?_⟩
    show valIn (revP p) p.l = v
    have := revP_val p 0
    rw [show p.l - 0 = p.l by grind, valIn_zero] at this
    rw [this]
    exact h.1
theorem rev_cont {t : List Pc} (h : Cont t) : Cont (revT t) := by
  cases t with
  | nil => trivial
  | cons p t => exact cn_cont (rev_cn (cont_cn h)).1
/-- run back twice -/
theorem rev_rev {t : List Pc} (hc : Cont t) (hp : ∀ p ∈ t, 0 < p.l) (h0 : t ≠ []) : nrmT (revT (nrmT (revT t))) = nrmT t := by
  have r0 := rev_ne h0
  have rp := rev_pos hp
  have n0 := nrmT_ne r0
  have np := nrmT_pos rp
  have hl : tlen (nrmT (revT t)) = tlen t := by rw [nrmT_tlen, rev_tlen]
  refine nrm_uniq (rev_pos np) hp (rev_ne n0) h0 (by rw [rev_tlen, hl]) fun x h1 h2 => ?_
  rw [rev_tlen, hl] at h2
  have e := rev_val (t := nrmT (revT t)) (x := tlen t - x) (cont_nrm (rev_cont hc)) np n0 (by grind) (by rw [hl]; grind)
  rw [hl, show tlen t - (tlen t - x) = x by grind, valF_nrm rp, rev_val hc hp h0 (by grind) h2] at e
  exact e
theorem revM_revM (len : Rat) (ms : List (Rat × Str)) : revM len (revM len ms) = ms := by
  unfold revM
  rw [List.map_map]
  refine (List.map_congr_left fun m _ => ?_).trans (List.map_id ms)
  show (len - (len - m.1), m.2) = m
  rw [show len - (len - m.1) = m.1 by grind]
theorem revM_mem {len : Rat} {ms : List (Rat × Str)} {m : Rat × Str} : m ∈ revM len ms ↔ (len - m.1, m.2) ∈ ms := by
  constructor
  · intro h
    obtain ⟨y, hy, e⟩ := List.mem_map.mp h
    subst e
    rw [show (len - (len - y.1), y.2) = y from Prod.ext (by show len - (len - y.1) = y.1; grind) rfl]
    exact hy
  · intro h
    refine List.mem_map.mpr ⟨_, h, Prod.ext ?_ rfl⟩
    show len - (len - m.1) = m.1
    grind
def nrmC (c : Clip) : Clip := ⟨c.len, c.tr.map fun x => (x.1, nrmT x.2), c.ms⟩
/-! ### stretched -/
def strP (f : Rat) (p : Pc) : Pc := ⟨p.l * f, p.a, p.b / f, p.c / (f * f)⟩
def strT (f : Rat) (t : List Pc) : List Pc := t.map (strP f)
theorem strP_val {f : Rat} (h : f ≠ 0) (p : Pc) (x : Rat) : valIn (strP f p) (x * f) = valIn p x := by
  unfold valIn strP
  show p.a + x * f * (p.b / f + p.c / (f * f) * (x * f)) = p.a + x * (p.b + p.c * x)
  grind
theorem strT_pos {f : Rat} (h : 0 < f) {t : List Pc} (hp : ∀ p ∈ t, 0 < p.l) : ∀ p ∈ strT f t, 0 < p.l := fun q hq => by
  obtain ⟨p, hp', rfl⟩ := List.mem_map.mp hq
  exact Rat.mul_pos (hp p hp') h
theorem strT_tlen (f : Rat) : ∀ t : List Pc, tlen (strT f t) = tlen t * f
  | [] => by rw [show strT f [] = [] from rfl, tlen_nil]; grind
  | p :: t => by
    rw [show strT f (p :: t) = strP f p :: strT f t from rfl, tlen_cons, strT_tlen f t, tlen_cons]
    show p.l * f + _ = _
    grind
theorem mul_le {a b f : Rat} (h : 0 < f) : a * f ≤ b * f ↔ a ≤ b := by
  constructor
  · intro q
    refine Decidable.byContradiction fun z => ?_
    have h2 : 0 < (a - b) * f := Rat.mul_pos (by grind) h
    grind
  · intro q
    by_cases e : a = b
    · rw [e]; grind
    · have h2 : 0 < (b - a) * f := Rat.mul_pos (by grind) h
      grind
theorem strT_val {f : Rat} (h : 0 < f) : ∀ (t : List Pc) (s x : Rat), valF (s * f) (x * f) (strT f t) = valF s x t
  | [], _, _ => rfl
  | [p], s, x => by
    rw [show strT f [p] = [strP f p] from rfl, valF_one, valF_one, ← strP_val (f := f) (by grind) p]
    congr 1
    grind
  | p :: q :: t, s, x => by
    have e : s * f + (strP f p).l = (s + p.l) * f := by show s * f + p.l * f = _; grind
    rw [show strT f (p :: q :: t) = strP f p :: strP f q :: strT f t from rfl, valF_cons, valF_cons, e]
    rw [show strP f q :: strT f t = strT f (q :: t) from rfl, strT_val h (q :: t)]
    by_cases c : x ≤ s + p.l
    · rw [if_pos c, if_pos ((mul_le h).mpr c), ← strP_val (f := f) (by grind) p]
      congr 1
      grind
    · rw [if_neg c, if_neg fun z => c ((mul_le h).mp z)]
theorem strT_ne {f : Rat} {t : List Pc} (h : t ≠ []) : strT f t ≠ [] := fun z => h (by simpa [strT] using z)
theorem strT_val0 {f : Rat} (h : 0 < f) (t : List Pc) (x : Rat) : valF 0 (x * f) (strT f t) = valF 0 x t := by
  have := strT_val h t 0 x
  rw [show (0 : Rat) * f = 0 by grind] at this
  exact this
theorem strT_cn {f : Rat} (h : f ≠ 0) : ∀ {t : List Pc} {v : Rat}, Cn v t → Cn v (strT f t)
  | [], _, _ => trivial
  | p :: t, v, hc => ⟨hc.1, by
    show Cn (valIn (strP f p) (p.l * f)) _
    rw [strP_val h]
    exact strT_cn h hc.2⟩
/-- two factors -/
theorem str_str {f g : Rat} (hf : 0 < f) (hg : 0 < g) {t : List Pc} (hp : ∀ p ∈ t, 0 < p.l) (h0 : t ≠ []) : nrmT (strT g (nrmT (strT f t))) = nrmT (strT (f * g) t) := by
  have p1 := strT_pos hf hp
  have p2 := nrmT_pos p1
  refine nrm_uniq (strT_pos hg p2) (strT_pos (Rat.mul_pos hf hg) hp) (strT_ne (nrmT_ne (strT_ne h0))) (strT_ne h0) (by rw [strT_tlen, strT_tlen, nrmT_tlen, strT_tlen]; grind) fun x _ _ => ?_
  have e1 := strT_val0 hg (nrmT (strT f t)) (x / g)
  have e2 := strT_val0 hf t (x / g / f)
  have e3 := strT_val0 (Rat.mul_pos hf hg) t (x / g / f)
  rw [show x / g * g = x by grind] at e1
  rw [show x / g / f * f = x / g by grind] at e2
  rw [show x / g / f * (f * g) = x by grind] at e3
  rw [e1, e3, valF_nrm p1, e2]
end DL

namespace DL
open PySem PySem.Spec L2 Classical PyProof.Rows
section
variable {prog : Program} {w : World} {A : Around} {E : Value → Shared → Prop} {s : Shared}
theorem collect_tup {l : Addr} {vs : List Value} {Q : List Value → Shared → Prop} (hl : IsTup s.heap l vs.toArray)
    (h : Q vs { s with heap := (s.heap.push (seqObj "list" #[] 0)).update s.heap.objs.size (Obj.mapSeq (· ++ vs.toArray)) }) (hsz : vs.length ≤ sizeLine) :
    wpAny (model prog w) A (collect (.ref l)) Q E s := by
  obtain ⟨o, n, ho, hc, hd⟩ : ∃ o n, s.heap.get? l = some o ∧ o.cls = .type "tuple" ∧ o.data = .seq vs.toArray n := by
    obtain ⟨o, n, h1, h2, h3⟩ := id hl
    first | exact ⟨o, n, h1, h2, h3⟩ | exact ⟨o, h2, n, h1, h3⟩ | exact ⟨o, _, n, h1, h2⟩
  unfold collect
  refine wpAny_bind (wpAny_runValue (codeAny_builtin entry_proto_collect' ?_))
  show wpAny _ _ (do again (.builtin "list.__iadd__" ⟨[← newList [], .ref l], []⟩)) _ _ s
  refine wpAny_bind (wpAny_newList (wpAny_pure ⟨Code.quiet_builtin _ (by decide +kernel), codeAny_builtin entry_list_iadd' ?_⟩))
  show wpAny _ _ (Builtin.List.listExtendWith (.ref s.heap.objs.size) (.ref l) (.ref s.heap.objs.size)) _ _ { s with heap := s.heap.push (seqObj "list" #[] 0) }
  unfold Builtin.List.listExtendWith
  have ho' : (s.heap.push (seqObj "list" #[] 0)).get? l = some o := Heap.get?_push_of_some _ ho
  refine wpAny_bind (wpAny_typeOf (T := "tuple") ⟨o, ho', hc⟩ ?_)
  have ht : (Value.type "tuple" == Value.type "tuple") = true := by rfl
  rw [if_pos (by rw [ht]; simp)]
  refine wpAny_bind (listItems_at ho' hd ?_)
  refine wpAny_bind (listItems_at (xs := #[]) (n := 0) (Heap.get?_push_size _ rfl) rfl ?_)
  rw [if_neg (by simp)]
  refine wpAny_bind (listUpdate_at (xs := #[]) (n := 0) (Heap.get?_push_size _ rfl) rfl ?_ (Nat.zero_le _) (by show (#[] ++ vs.toArray).size ≤ sizeLine + 1; simp only [Array.size_append, List.size_toArray, List.length_nil]; omega))
  refine wpAny_pure ?_
  show wpAny (model prog w) A (do
      let o ← load s.heap.objs.size
      match o.data with
      | .seq xs _ => pure xs.toList
      | _ => unsupported "internal:collect") Q E { s with heap := (s.heap.push (seqObj "list" #[] 0)).update s.heap.objs.size (Obj.mapSeq (· ++ vs.toArray)) }
  refine wpAny_bind (wpAny_load (get?_update_seq (Heap.get?_push_size _ rfl) _) ?_)
  show wpAny _ _ (pure ((#[] : Array Value) ++ vs.toArray).toList) Q E _
  rw [show ((#[] : Array Value) ++ vs.toArray).toList = vs by simp]
  exact wpAny_pure h
theorem sorted_ordT {l : Addr} {vs : List Value} {ltv : Value → Value → Bool} {Q : Value → Shared → Prop} (O : SrtO.Swo ltv) (hl : IsTup s.heap l vs.toArray) (hz : vs.length ≤ sizeLine)
    (hS : 2 ≤ vs.length → ∀ (h₁ : Heap) (a : Addr), h₁.get? a = some (seqObj "list" vs.toArray 0) → (∀ b o, s.heap.get? b = some o → b ≠ a ∧ h₁.get? b = some o) → SrtO.SortableO prog w A.in1.in1 { s with heap := h₁ } a vs ltv)
    (h : ∀ out : List Value, SrtO.Srtd ltv out → SrtO.Stb ltv out vs → Q (.ref (s.heap.objs.size + 1)) { s with heap := sortedAll s.heap vs out.toArray }) :
    wpAny (model prog w) A (call (.builtin "sorted") [.ref l]) Q E s := by
  refine Calls.call_function_entry kind_sorted plain_sorted entry_sorted (args_sorted1 _) ?_
  unfold Builtin.«sorted»
  refine wpAny_bind (m := checkCount "sorted" 1 1 _) (wpAny_pure ?_)
  refine wpAny_bind (collect_tup hl ?_ hz)
  refine wpAny_bind (wpAny_newList ?_ hz)
  have hsz : ((s.heap.push (seqObj "list" #[] 0)).update s.heap.objs.size (Obj.mapSeq (· ++ vs.toArray))).objs.size = s.heap.objs.size + 1 := by
    rw [Heap.size_update, size_push']
  have hoL : (((s.heap.push (seqObj "list" #[] 0)).update s.heap.objs.size (Obj.mapSeq (· ++ vs.toArray))).push (seqObj "list" vs.toArray 0)).get? (s.heap.objs.size + 1) = some (seqObj "list" vs.toArray 0) := by
    rw [← hsz]; exact Heap.get?_push_size _ rfl
  have keep : ∀ b o, s.heap.get? b = some o → b ≠ s.heap.objs.size + 1 ∧ (((s.heap.push (seqObj "list" #[] 0)).update s.heap.objs.size (Obj.mapSeq (· ++ vs.toArray))).push (seqObj "list" vs.toArray 0)).get? b = some o := fun b o q => by
    have hlt : b < s.heap.objs.size := Heap.lt_size q
    refine ⟨Nat.ne_of_lt (Nat.lt_succ_of_lt hlt), Heap.get?_push_of_some _ ?_⟩
    rw [Heap.get?_update_ne _ _ _ _ (Nat.ne_of_lt hlt)]
    exact Heap.get?_push_of_some _ q
  show wpAny _ _ _ _ _ { s with heap := ((s.heap.push (seqObj "list" #[] 0)).update s.heap.objs.size (Obj.mapSeq (· ++ vs.toArray))).push (seqObj "list" vs.toArray 0) }
  rw [hsz]
  refine wpAny_bind (wpAny_holding (wpAny_call_entry slot_list_sort ⟨_, hoL, rfl⟩ PyProof.Rows.entry_list_sort (SrtO.list_sort_ord O hoL hz (fun h2 => hS h2 _ _ hoL keep) fun out hs hb => ⟨_, rfl, ?_⟩) (args_list_sort _)))
  exact wpAny_pure ⟨_, rfl, h out hs hb⟩
end
def rSortedMT (K : PySem.W.Frag) : List V → Hp → VK → Prop := fun vs H Q => ∃ (F : Fz) (a : Addr) (xs : List V) (ms : List MK), vs = [V.ref a] ∧ SqT K H a xs ∧ DnA K F H (ms.map markD) xs ∧
  ∀ ys p, DnA K F H ((sortM ms).map markD) ys → H p = none → Q (.ref p) (upd H p (.lst ys))
section
variable {X : Cx} {K : PySem.W.Frag} {F : Fz} {H : Hp}
theorem cr_sortedMT (hu : X.A.units + 5 < cLine) : CallR X (.builtin "sorted") (rSortedMT X.K) := by
  intro pins s σ H vs us Q I r h
  obtain ⟨F, a, xs, ms, rfl, hs, hx, q⟩ := h
  obtain ⟨its, rv, hl, hz⟩ := I.tuple hs
  obtain ⟨u, rfl, ru⟩ := vals1 r
  obtain rfl : u = Value.ref a := ru
  obtain ⟨h1, h2, h3⟩ := mks_of I rv hx
  obtain ⟨e1, e2⟩ := refs_back rv h3
  obtain ⟨k, hk⟩ : ∃ k : Value → MK, ∀ u ∈ its, IsMk s.heap u (k u) := ⟨fun u => if h : ∃ m, IsMk s.heap u m then choose h else ((0, 0), ""), fun u hu => by
    obtain ⟨m, hm, _⟩ := h1 u hu
    have z : ∃ m, IsMk s.heap u m := ⟨m, hm⟩
    show IsMk s.heap u (if h : ∃ m, IsMk s.heap u m then choose h else ((0, 0), ""))
    rw [dif_pos z]
    exact choose_spec z⟩
  have hzl : its.length ≤ sizeLine := by rw [← rv.length]; exact hz
  refine sorted_ordT (ltv := fun v u => ltM (k v) (k u)) ⟨fun x y => ltM_asym, fun x y z => ltM_tr⟩ hl hzl (fun h2' h₁ b hb kk => ?_) fun out hs hb => ?_
  · refine mk_sortable (s := { s with heap := h₁ }) (show X.A.units + 1 + 1 + 1 < cLine by omega) (by omega) (fun v hv => (hk v hv).keeps fun c o e _ => (kk c o e).2) fun o e => ?_
    have e' : some o = some (PyProof.Rows.seqObj "list" its.toArray 0) := e.symm.trans hb
    cases e'
    intro c
    exact absurd (Value.type.inj c) (by decide)
  · have hp := hb.perm
    have eo : out.map k = sortM ms := by
      refine sortM_uniq ?_ (List.pairwise_map.mpr hs)
      rw [← h2 k hk]
      exact hp.map k
    have hd : DnA X.K F H ((sortM ms).map markD) (out.map backV) := by
      rw [← eo]
      refine dna_map fun u hu => ?_
      have hu' := hp.mem_iff.mp hu
      obtain ⟨m, i1, i2⟩ := h1 u hu'
      rw [(hk u hu').uniq i1]
      exact i2
    have h3' : ∀ u ∈ out, ∃ a, u = Value.ref a := fun u hu => e2 u (hp.mem_iff.mp hu)
    obtain ⟨n, hn⟩ := PyProof.Rows.sortedAll_at s.heap its out.toArray
    have hn' : (PyProof.Rows.sortedAll s.heap its out.toArray).get? (s.heap.objs.size + 1) = some (PyProof.Rows.seqObj "list" out.toArray n) := hn
    refine ⟨.ref (s.heap.objs.size + 1), upd H (s.heap.objs.size + 1) (.lst (out.map backV)), I.laid (t' := s.toks) (fun _ _ => PyProof.Rows.sortedAll_old) (Nat.le_succ _) ⟨?_, out, n, vals_back h3', hn'⟩, rfl, q _ _ hd (I.hok.fresh (Nat.le_succ _))⟩
    rw [List.length_map, hp.length_eq]
    exact hzl
end
section
variable {X : Cx} {G : List S} {R : Res} {a b e : Expr} {pos p : Pos} {r : Nat} {x y : Str}
theorem ev_sortedMT {ms : List MK} (hu : Room r X.A) (hm : X.mg "sorted" = none) (ha : Ev X e G R (.d (.tup (ms.map markD)))) (hg : Gl X "sorted" := by rfl) (he : starEach [e] X.env = [(false, eval e X.env)] := by rfl) : Ev X (.Call (.Name "sorted" p) [e] [] pos) G R (.own ((sortM ms).map markD)) := by
  intro en A σ H F Q st k
  refine ⟨_, pe_callB (cr_sortedMT (by have := hu.un; omega)) hg hm (by decide +kernel) pa_t (by decide) (by decide) he (by rfl), ?_⟩
  refine eva_cons ha eva_nil he en A σ H F _ st fun vs H1 F1 g1 r1 => ?_
  obtain ⟨v, e, h'⟩ := srs1 r1
  subst e
  obtain ⟨l, ws, rfl, h1, h2⟩ := h'
  refine ⟨F1, l, ws, ms, rfl, h1, h2, fun ys p hd hn => ?_⟩
  obtain ⟨g, s⟩ := sr_new g1.t hn hd
  exact k _ _ F1 (g1.trans g) (SR.pre g1.nn s)
theorem ev_sortedRT {ms : List (Rat × Str)} (hu : Room r X.A) (hm : X.mg "sorted" = none) (ha : Ev X e G R (.d (.tup (ms.map mkD)))) (hg : Gl X "sorted" := by rfl) (he : starEach [e] X.env = [(false, eval e X.env)] := by rfl) : Ev X (.Call (.Name "sorted" p) [e] [] pos) G R (.own ((sortR ms).map mkD)) := by
  have e1 : ∀ l : List (Rat × Str), l.map mkD = (l.map kM).map markD := fun l => by rw [List.map_map]; rfl
  rw [e1, sortR_map]
  rw [e1] at ha
  exact ev_sortedMT hu hm ha hg he
theorem ro_leS {K : PySem.W.Frag} : RO K (fun x y H Q => ∃ i j, x = .str i ∧ y = .str j ∧ Q (.bl (!decide (j.cps.toList < i.cps.toList))) H) (.d (.str x)) (.d (.str y)) (.d (.bl (!strLt y x))) := by
  intro H0 u v H F Q ft h1 h2 k
  exact ⟨x, y, h1, h2, k _ H F (Grow.refl ft) rfl⟩
theorem tv_leS (ha : Ev X a G R (.d (.str x))) (hb : Ev X b G R (.d (.str y))) : Tv X (.Compare a [.LtE] [b] pos) G R (!strLt y x) := tv_cmpR op_le_str ro_leS ha hb (nomark _)
end
theorem sortR_perm_eq {l m : List (Rat × Str)} (h : l.Perm m) : sortR l = sortR m := by
  have e := sortM_uniq (xs := m.map kM) (ys := (sortR l).map kM) (((sortR_perm l).trans h).map kM) (by rw [sortR_map]; exact sortM_srt _)
  rw [← sortR_map] at e
  have inj : ∀ {a b : List (Rat × Str)}, a.map kM = b.map kM → a = b := by
    intro a
    induction a with
    | nil => intro b hb; cases b with
      | nil => rfl
      | cons _ _ => cases hb
    | cons x a ih => intro b hb; cases b with
      | nil => cases hb
      | cons y b =>
        rw [List.map_cons, List.map_cons, List.cons.injEq] at hb
        rw [kM_inj hb.1, ih hb.2]
  exact inj e
theorem upM_nd {l : List (Rat × Str)} (h : UpM l) : l.Nodup := List.Pairwise.imp (fun h e => by rw [e] at h; exact MLt.irr h) h
theorem nd_perm {α : Type} [DecidableEq α] {l m : List α} (h1 : l.Nodup) (h2 : m.Nodup) (h : ∀ x, x ∈ l ↔ x ∈ m) : l.Perm m := by
  rw [List.perm_iff_count]
  intro x
  by_cases c : x ∈ l
  · have := (h x).mp c
    rw [h1.count, h2.count, if_pos c, if_pos this]
  · rw [List.count_eq_zero_of_not_mem c, List.count_eq_zero_of_not_mem fun z => c ((h x).mpr z)]
end DL

namespace DL
open PySem PySem.Spec L2
section
variable {X : Cx} {W : Exw} {G : List S} {R : Res} {O : Out} {elt tg iter : Expr} {ifs : List Expr} {scope : Scope} {ds : List D} {pos : Pos} {rest body : List Stmt} {α : Type} {enc : α → D} {l : List α}
theorem filt_map (p : α → Bool) (g : α → D) : ∀ l : List α, l.filterMap (fun a => if p a = true then some (g a) else none) = (l.filter p).map g
  | [] => rfl
  | a :: l => by
    rw [List.filterMap_cons, List.filter_cons, filt_map p g l]
    cases p a <;> rfl
/-- a turn of a comprehension with tests -/
abbrev LcFB (X : Cx) (scope : Scope) (own : List (Str × Nat)) (tg elt : Expr) (ifs : List Expr) (G : List S) (R : Res) (enc : α → D) (l : List α) (p : α → Bool) (g : α → D) : Prop :=
  ∀ a ∈ l, ∃ (G' : List S) (ix : List Nat), (∀ j ∈ ix, j ∈ own.map (·.2)) ∧ ∀ (s : Shared) (H : Hp) (C : Addr) (cl : List (Str × Addr)) (fp : List Addr), TgW (blkX X scope s H C cl fp) tg (enc a) ix (wipeS G (own.map (·.2))) G' ∧
    (True → Pv (blkX X scope s H C cl fp) ifs G' R (p a)) ∧ (p a = true → Ev (blkX X scope s H C cl fp) elt G' R (.d (g a)))
/-- .. without -/
abbrev LcMB (X : Cx) (scope : Scope) (own : List (Str × Nat)) (tg elt : Expr) (G : List S) (R : Res) (enc : α → D) (l : List α) (g : α → D) : Prop :=
  ∀ a ∈ l, ∃ (G' : List S) (ix : List Nat), (∀ j ∈ ix, j ∈ own.map (·.2)) ∧ ∀ (s : Shared) (H : Hp) (C : Addr) (cl : List (Str × Addr)) (fp : List Addr), TgW (blkX X scope s H C cl fp) tg (enc a) ix (wipeS G (own.map (·.2))) G' ∧
    (True → Ev (blkX X scope s H C cl fp) elt G' R (.d (g a)))
theorem LcFB.e {own : List (Str × Nat)} {p : α → Bool} {g : α → D} (h : LcFB X scope own tg elt ifs G R enc l p g) : LcE X scope own tg elt ifs G R enc l (fun a => if p a = true then some (g a) else none) := fun a ha => by
  obtain ⟨G', ix, h1, h2⟩ := h a ha
  refine ⟨G', ix, p a, h1, fun s H C cl fp => ?_, fun z => by show (if p a = true then some (g a) else none) = none; rw [z]; rfl⟩
  obtain ⟨h3, h4, h5⟩ := h2 s H C cl fp
  exact ⟨h3, h4 trivial, fun z => ⟨g a, by show (if p a = true then some (g a) else none) = _; rw [z]; rfl, h5 z⟩⟩
theorem LcMB.e {own : List (Str × Nat)} {g : α → D} (h : LcMB X scope own tg elt G R enc l g) : LcE X scope own tg elt [] G R enc l (fun a => some (g a)) := fun a ha => by
  obtain ⟨G', ix, h1, h2⟩ := h a ha
  refine ⟨G', ix, true, h1, fun s H C cl fp => ?_, fun z => nomatch z⟩
  obtain ⟨h3, h5⟩ := h2 s H C cl fp
  exact ⟨h3, pv_nil, fun z => ⟨g a, rfl, h5 trivial⟩⟩
theorem ev_lcF (own : List (Str × Nat)) (p : α → Bool) (g : α → D) (inj : ∀ a b, enc a = enc b → a = b) (hN : X.N.Nodup) (ok : BlkOk X.N X.env.scope scope own) (hi : EvIG X tg iter G R (l.map enc)) (hl : l.length ≤ sizeLine) (hb : LcFB X scope own tg elt ifs G R enc l p g)
    (hc : X.calm = true := by rfl) (hs : ∀ x, foldedSetIterable iter X.env x = pure x := by intro _; rfl) : Ev X (.ListComp elt [⟨tg, iter, ifs, 0⟩] scope pos) G R (.own ((l.filter p).map g)) := by
  rw [← filt_map]
  exact ev_lcEG own _ inj hN ok hi hl hb.e hc hs
theorem ev_lcM (own : List (Str × Nat)) (g : α → D) (inj : ∀ a b, enc a = enc b → a = b) (hN : X.N.Nodup) (ok : BlkOk X.N X.env.scope scope own) (hi : EvIG X tg iter G R (l.map enc)) (hl : l.length ≤ sizeLine) (hb : LcMB X scope own tg elt G R enc l g)
    (hc : X.calm = true := by rfl) (hs : ∀ x, foldedSetIterable iter X.env x = pure x := by intro _; rfl) : Ev X (.ListComp elt [⟨tg, iter, [], 0⟩] scope pos) G R (.own (l.map g)) := by
  rw [← List.filterMap_eq_map]
  exact ev_lcEG own _ inj hN ok hi hl hb.e hc hs
theorem ex_setLcF (i : Nat) (own : List (Str × Nat)) (p : α → Bool) (g : α → D) {y : Str} {py spos : Pos} (inj : ∀ a b, enc a = enc b → a = b) (hN : X.N.Nodup) (ok : BlkOk X.N X.env.scope scope own) (hi : EvI X tg iter G R (l.map enc)) (hl : l.length ≤ sizeLine) (hb : LcFB X scope own tg elt ifs G R enc l p g) (k : Ex X W rest (G.set i (.own ((l.filter p).map g))) R O)
    (ha : (scope.names.any fun (n, k) => n == y && (k == .local || k == .cell)) = false := by decide +kernel) (hkk : X.env.scope.kind = .function := by rfl) (hll : (py.line == pos.line) = true := by rfl)
    (hc : X.calm = true := by rfl) (hs : ∀ x, foldedSetIterable iter X.env x = pure x := by intro _; rfl) (hy : X.N[i]? = some y := by rfl) (hyl : X.env.scope.names.lookup y = some .local := by rfl) :
    Ex X W (.Assign [.Name y py] (.ListComp elt [⟨tg, iter, ifs, 0⟩] scope pos) spos :: rest) G R O := by
  rw [← filt_map] at k
  exact ex_setLcE i own _ inj hN ok hi hl hb.e k ha hkk hll hc hs hy hyl
theorem ex_setLcM (i : Nat) (own : List (Str × Nat)) (g : α → D) {y : Str} {py spos : Pos} (inj : ∀ a b, enc a = enc b → a = b) (hN : X.N.Nodup) (ok : BlkOk X.N X.env.scope scope own) (hi : EvI X tg iter G R (l.map enc)) (hl : l.length ≤ sizeLine) (hb : LcMB X scope own tg elt G R enc l g) (k : Ex X W rest (G.set i (.own (l.map g))) R O)
    (ha : (scope.names.any fun (n, k) => n == y && (k == .local || k == .cell)) = false := by decide +kernel) (hkk : X.env.scope.kind = .function := by rfl) (hll : (py.line == pos.line) = true := by rfl)
    (hc : X.calm = true := by rfl) (hs : ∀ x, foldedSetIterable iter X.env x = pure x := by intro _; rfl) (hy : X.N[i]? = some y := by rfl) (hyl : X.env.scope.names.lookup y = some .local := by rfl) :
    Ex X W (.Assign [.Name y py] (.ListComp elt [⟨tg, iter, [], 0⟩] scope pos) spos :: rest) G R O := by
  rw [← List.filterMap_eq_map] at k
  exact ex_setLcE i own _ inj hN ok hi hl hb.e k ha hkk hll hc hs hy hyl
theorem wipe_le : ∀ (vs : List Nat) (G : List S), Le G (wipeS G vs)
  | [], G => Le.refl G
  | v :: vs, G => by
    have ih := wipe_le vs G
    show Le G ((wipeS G vs).set v .any)
    revert ih
    generalize wipeS G vs = K
    intro ih
    induction G generalizing K v with
    | nil => cases K with
      | nil => exact trivial
      | cons _ _ => exact ih.elim
    | cons s G ihG => cases K with
      | nil => exact ih.elim
      | cons t K => cases v with
        | zero => exact ⟨.inr rfl, ih.2⟩
        | succ v => exact ⟨ih.1, ihG v K ih.2⟩
/-- a loop whose turns leave nothing but in the slots vs -/
theorem ex_forW (vs : List Nat) (hp : PassesOwn (model X.prog X.w) X.A X.env X.xe) (hi : EvI X tg iter G R ds)
    (ht : ∀ (k : Nat) (d : D), ds[k]? = some d → ∃ G', Tg X tg d (wipeS G vs) G' ∧ Ex X W body G' R { O with nx := fun G' R' => R' = R ∧ wipeS G' vs = wipeS G vs, ct := fun G' R' => R' = R ∧ wipeS G' vs = wipeS G vs, bk := fun G' R' => Ex X W rest G' R' O })
    (hn : Ex X W rest (wipeS G vs) R O) (hc : X.calm = true := by rfl) (hs : ∀ x, foldedSetIterable iter X.env x = pure x := by intro _; rfl) :
    Ex X W (.For tg iter body [] pos :: rest) G R O := by
  refine ex_for (fun _ G' => wipeS G' vs = wipeS G vs) hp hi rfl (fun k d G2 hd h => ?_) (fun G2 h => ?_) hc hs
  · obtain ⟨G', h1, h2⟩ := ht k d hd
    refine ⟨G', fun en R A σ H F v Q st hv q => h1 en R A σ H F v Q (h ▸ st.le (wipe_le vs G2)) hv q, h2⟩
  · exact ex_le (h ▸ wipe_le vs G2) hn
/-- the names of a clip's tracks -/
def strDs (l : List Str) : List D := l.map D.str
theorem lstS_fit {l : List Str} (h : ∀ x ∈ l, okS x) : (D.lst (strDs l)).Fit := by
  refine ⟨?_, 1, by decide, ?_⟩
  · show D.nbs (strDs l) = true
    exact nbs_all fun d hd => by
      obtain ⟨x, _, rfl⟩ := List.mem_map.mp hd
      rfl
  · show D.shps 0 (strDs l) = true
    exact shps_all fun d hd => by
      obtain ⟨x, hx, rfl⟩ := List.mem_map.mp hd
      exact str_shp (h x hx) 0
theorem mksT_fit {l : List (Rat × Str)} (h : ∀ m ∈ l, okS m.2) : (D.tup (l.map mkD)).Fit := ⟨tup_nb fun d hd => by
    obtain ⟨x, _, rfl⟩ := List.mem_map.mp hd
    rfl, 3, by decide, tup_shp fun d hd => by
    obtain ⟨x, hx, rfl⟩ := List.mem_map.mp hd
    exact mkD_shp' (h x hx) 0⟩
theorem mksL_fit {l : List (Rat × Str)} (h : ∀ m ∈ l, okS m.2) : (D.lst (l.map mkD)).Fit := ⟨(mksT_fit h).nb, 3, by decide, by
  show D.shps 2 (l.map mkD) = true
  exact shps_all fun d hd => by
    obtain ⟨x, hx, rfl⟩ := List.mem_map.mp hd
    exact mkD_shp' (h x hx) 0⟩
end
/-! ### places of a clip -/
theorem frac_le {j n : Nat} (h : j ≤ n) (h0 : 0 < n) : 0 ≤ Rat.divInt (j : Nat) (n : Nat) ∧ Rat.divInt (j : Nat) (n : Nat) ≤ 1 := by
  rw [Rat.divInt_eq_div]
  have hn : (0 : Rat) < ((n : Int) : Rat) := by
    have := Rat.intCast_lt_intCast (a := 0) (b := (n : Int)) |>.mpr (by omega)
    exact this
  have hj : (0 : Rat) ≤ ((j : Int) : Rat) := Rat.intCast_le_intCast (a := 0) (b := (j : Int)) |>.mpr (by omega)
  have hjn : ((j : Int) : Rat) ≤ ((n : Int) : Rat) := Rat.intCast_le_intCast |>.mpr (by omega)
  revert hn hj hjn
  generalize ((n : Int) : Rat) = a
  generalize ((j : Int) : Rat) = b
  intro hn hj hjn
  have e : b / a * a = b := by grind
  constructor
  · refine Decidable.byContradiction fun z => ?_
    have : 0 < (0 - b / a) * a := Rat.mul_pos (by grind) hn
    grind
  · refine Decidable.byContradiction fun z => ?_
    have : 0 < (b / a - 1) * a := Rat.mul_pos (by grind) hn
    grind
theorem samples_rng {L x : Rat} {n : Nat} (h0 : 0 < n) (hL : 0 ≤ L) (h : x ∈ samples 0 L n) : 0 ≤ x ∧ x ≤ L := by
  obtain ⟨j, hj, rfl⟩ := List.mem_map.mp h
  obtain ⟨h1, h2⟩ := frac_le (j := j) (n := n) (by have := List.mem_range.mp hj; omega) h0
  revert h1 h2
  generalize Rat.divInt (j : Nat) (n : Nat) = q
  intro h1 h2
  have a1 := Rat.mul_nonneg hL h1
  have a2 := Rat.mul_nonneg (a := L) (b := 1 - q) hL (by grind)
  exact ⟨by grind, by grind⟩
theorem off_rng : ∀ {t : List Pc} {k : Nat}, (∀ p ∈ t, 0 < p.l) → k ≤ t.length → 0 ≤ off t k ∧ off t k ≤ tlen t
  | t, 0, h, _ => by rw [off_zero]; exact ⟨by decide, tlen_nn h⟩
  | [], _ + 1, _, h => by simp at h
  | p :: t, k + 1, h, hk => by
    have hp := h p List.mem_cons_self
    obtain ⟨h1, h2⟩ := off_rng (t := t) (k := k) (fun y hy => h y (List.mem_cons_of_mem _ hy)) (by rw [List.length_cons] at hk; omega)
    rw [tlen_cons]
    show 0 ≤ p.l + off t k ∧ p.l + off t k ≤ p.l + tlen t
    exact ⟨by grind, by grind⟩
theorem joints_rng {t : List Pc} {x : Rat} (h : ∀ p ∈ t, 0 < p.l) (hx : x ∈ joints t) : 0 ≤ x ∧ x ≤ tlen t := by
  obtain ⟨j, hj, rfl⟩ := List.mem_map.mp hx
  exact off_rng h (by have := List.mem_range.mp hj; omega)
end DL
namespace DL
open PySem PySem.Spec L2
def strM (f : Rat) (ms : List (Rat × Str)) : List (Rat × Str) := ms.map fun m => (m.1 * f, m.2)
noncomputable def strC (f : Rat) (c : Clip) : Clip := ⟨c.len * f, c.tr.map fun x => (x.1, nrmT (strT f x.2)), ordP (strM f c.ms)⟩
theorem mul_lt {a b f : Rat} (h : 0 < f) : a * f < b * f ↔ a < b := by
  have h1 := mul_le (a := b) (b := a) h
  constructor
  · intro q
    refine Decidable.byContradiction fun z => ?_
    have := h1.mpr (by grind)
    grind
  · intro q
    refine Decidable.byContradiction fun z => ?_
    have := h1.mp (by grind)
    grind
theorem strM_up {f : Rat} (h : 0 < f) {ms : List (Rat × Str)} (hu : UpM ms) : UpM (strM f ms) := by
  refine List.pairwise_map.mpr (List.Pairwise.imp (fun {a b} q => ?_) hu)
  rcases q with q | q
  · exact .inl ((mul_lt h).mpr q)
  · exact .inr ⟨by show a.1 * f = b.1 * f; rw [q.1], q.2⟩
theorem strM_mem {f : Rat} (h : f ≠ 0) {ms : List (Rat × Str)} {m : Rat × Str} : m ∈ strM f ms ↔ (m.1 / f, m.2) ∈ ms := by
  constructor
  · intro q
    obtain ⟨y, hy, rfl⟩ := List.mem_map.mp q
    rw [show (y.1 * f / f, y.2) = y from Prod.ext (by show y.1 * f / f = y.1; grind) rfl]
    exact hy
  · intro q
    refine List.mem_map.mpr ⟨_, q, Prod.ext ?_ rfl⟩
    show m.1 / f * f = m.1
    grind
theorem str_strC {f g : Rat} (hf : 0 < f) (hg : 0 < g) {c : Clip} (hp : ∀ x ∈ c.tr, (∀ p ∈ x.2, 0 < p.l) ∧ x.2 ≠ []) : strC g (strC f c) = strC (f * g) c := by
  have h1 : (strC g (strC f c)).tr = (strC (f * g) c).tr := by
    show ((strC f c).tr.map fun x => (x.1, nrmT (strT g x.2))) = _
    rw [show (strC f c).tr = c.tr.map fun x => (x.1, nrmT (strT f x.2)) from rfl, List.map_map]
    refine List.map_congr_left fun x hx => ?_
    show (x.1, nrmT (strT g (nrmT (strT f x.2)))) = _
    rw [str_str hf hg (hp x hx).1 (hp x hx).2]
  have h2 : (strC g (strC f c)).ms = (strC (f * g) c).ms := by
    show ordP (strM g (ordP (strM f c.ms))) = ordP (strM (f * g) c.ms)
    refine ordP_congr fun x => ?_
    rw [strM_mem (by grind), ordP_mem, strM_mem (by grind), strM_mem (by have := Rat.mul_pos hf hg; grind)]
    rw [show x.1 / g / f = x.1 / (f * g) by grind]
  have h3 : (strC g (strC f c)).len = (strC (f * g) c).len := by
    show c.len * f * g = c.len * (f * g)
    grind
  show Clip.mk _ _ _ = Clip.mk _ _ _
  rw [Clip.mk.injEq]
  exact ⟨h3, h1, h2⟩
theorem str_bd {t : List Pc} {nl na nf : Nat} {f : Rat} (h : TrB nl na t) (hf : Bd nf f) : TrB (nl + nf) (na + 2 * nf) (strT f t) := fun q hq => by
  obtain ⟨p, hp, rfl⟩ := List.mem_map.mp hq
  have b := h p hp
  have b1 := b.l
  have b2 := b.b
  have b3 := b.c
  have b4 : Bd (nf + nf) (f * f) := Bd.mul
  exact ⟨Bd.mul, b.a.mono (by omega), (Bd.div : Bd (na + nf) (p.b / f)).mono (by omega), (Bd.div : Bd (na + (nf + nf)) (p.c / (f * f))).mono (by omega)⟩
theorem noMg_nrm {t : List Pc} (h : t ≠ []) : NoMg (nrmT t) := by
  cases t with
  | nil => exact absurd rfl h
  | cons p t => exact nrm_noMg t p
end DL

namespace DL
open PySem PySem.Spec L2 PyProof.Rows
/-- the context of a def that has its class's cell -/
def cxI (P : Program) (w : World) (K : PySem.W.Frag) (mg : Str → Option Value) (base : Heap) (N : List Str) (qual : Str) (scope : Scope) (f : Addr) (cd : Value) (A : Around) (outer : List Env) (s : Shared) (H : Hp) (cc : Addr) : Cx where
  prog := P
  w := w
  K := K
  mg := mg
  base := base
  A := A.deeper (PySem.W.ksEnv qual scope s.heap.objs.size f cd cc)
  N := N
  s_0 := s
  H_0 := H
  env := PySem.W.ksEnv qual scope s.heap.objs.size f cd cc
  outer := outer
  stack := PySem.W.ksEnv qual scope s.heap.objs.size f cd cc :: outer
  ex := []
  calm := true
  fn := fun x => decide (x ≠ "__class__")
  pn := []
  xe := fun _ _ => False
structure ScI (ps : List Str) (scope : Scope) : Prop where
  kind : scope.kind = .function
  co : scope.isCoroutine = false
  gen : scope.isGenerator = false
  nd : ps.Nodup
  par : ∀ x ∈ ps, scope.names.lookup x = some .local
  noc : ∀ x ∈ scope.names, x.2 ≠ .cell
  fr : ∀ y ∈ scope.names, y.2 = .free → y.1 = "__class__"
  sup : scope.names.lookup ("super" : Str) = some .globalImplicit
  cls : scope.names.lookup ("__class__" : Str) = some .free
theorem lookup_zip : ∀ {ps : List Str} {us : List Value} {i : Nat} {x : Str} {u : Value}, ps.Nodup → ps[i]? = some x → us[i]? = some u → (ps.zip us).reverse.lookup x = some u := by
  intro ps
  induction ps with
  | nil => intro us i x u _ h _; simp at h
  | cons p ps ih =>
    intro us i x u nd h1 h2
    cases us with
    | nil => simp at h2
    | cons v us =>
      rw [List.nodup_cons] at nd
      rw [List.zip_cons_cons, List.reverse_cons, List.lookup_append]
      cases i with
      | zero =>
        have e1 : p = x := by simpa using h1
        have e2 : v = u := by simpa using h2
        subst e1 e2
        have q : (ps.zip us).reverse.lookup p = none := by
          rw [List.lookup_eq_none_iff]
          intro y hy
          have := (List.of_mem_zip (a := y.1) (b := y.2) (List.mem_reverse.mp hy)).1
          rw [bne_iff_ne]
          rintro rfl
          exact nd.1 this
        rw [q]
        simp
      | succ i =>
        rw [ih nd.2 (by simpa using h1) (by simpa using h2)]
        rfl
section
variable {P : Program} {w : World} {K : PySem.W.Frag} {mg : Str → Option Value} {base : Heap} {ps : List Str} {qual : Str} {scope : Scope} {f cc a C : Addr} {cd : Value} {A : Around} {outer : List Env} {s : Shared} {H : Hp} {us : List Value} {vs : List V} {h3 : Heap} {t3 tk : Nat}
theorem inv_startI (S : ScI ps scope) (hd : A.handled = none) (e0 : Env0 P w K mg base A outer s H) (hl : vs.length = ps.length) (r : Vals vs us) (hcc : ∃ o, base.get? cc = some o ∧ ∃ v, o.data = .cell v)
    (ha : H a = some (exo a C none)) (hns : h3.Ns s.heap.objs.size (fun x => (ps.zip us).reverse.lookup x)) (k : ∀ b o, b ≠ a → s.heap.get? b = some o → h3.get? b = some o) (hx : h3.get? a = some (PySem.HandSPX.excO C t3)) :
    Inv (cxI P w K mg base ps qual scope f cd A outer s H cc) [] (vs.map some) H { s with heap := h3, toks := tk } := by
  have noA : ∀ b : Addr, b ∉ (cxI P w K mg base ps qual scope f cd A outer s H cc).ex := fun b z => absurd (show b ∈ ([] : List Addr) from z) (by simp)
  have look1 : ∀ y c, (cxI P w K mg base ps qual scope f cd A outer s H cc).env.cells.lookup y = some c → y = "__class__" ∧ c = cc := fun y c h => by
    have h' : ([("__class__", cc)] : List (Str × Addr)).lookup y = some c := h
    rw [List.lookup_cons] at h'
    split at h'
    · next e => exact ⟨by simpa using e, (Option.some.inj h').symm⟩
    · cases h'
  obtain ⟨oc, hoc, vc, hvc⟩ := hcc
  have hcb := e0.bs _ _ hoc
  have hca : cc ≠ a := fun z => by rw [z, ha] at hcb; cases hcb.2
  have mu : Mut (H a) := by rw [ha]; exact True.intro
  obtain ⟨u0, hu0⟩ : ∃ u, h3.get? a = some u := ⟨_, hx⟩
  have eu : upd H a (exo a C none) = H := by
    funext b
    by_cases hb : b = a
    · rw [hb, upd_same, ha]
    · rw [upd_ne hb]
  have hok : HOk P w H h3 := by
    have := e0.hok.write (o' := exo a C none) mu (.inl rfl) (fun b u hb q => k b u hb q) ⟨_, hx⟩ (exo_ok hx)
    rw [eu] at this
    exact this
  have un : Un (frs outer) [] H H s.heap h3 := by
    have := Un.write (fs := frs outer) (ex := []) (o := exo a C none) mu (.inl rfl) (fun b u hb q => k b u hb q) ⟨_, hx⟩
    rw [eu] at this
    exact this
  refine ⟨⟨e0.mod, S.kind, rfl, rfl, Nat.le_refl _, fun y z c h1 h2 => ?_, fun y hy => ?_, fun y c hf h => ?_, fun _ => hd, Around.frames_deeper e0.frames, .inr ⟨rfl, rfl⟩, fun b z => absurd z (noA b), e0.bs, e0.bsz, fun b _ _ => noA b, fun b z => absurd z (noA b), e0.funs, e0.frf⟩,
    rfl, e0.bare, un, ⟨_, hns, fun i y v h1 h2 h3 => ?_⟩, fun y c h => ?_, e0.hok.fresh (Nat.le_refl _), fun y c h => ?_, fun p hp => absurd (show p ∈ ([] : List (Addr × Obj)) from hp) (by simp), hok, by rw [List.length_map]; exact hl⟩
  · rw [(look1 _ _ h1).1, (look1 _ _ h2).1]
  · have hy : scope.names.lookup y = some .cell ∨ scope.names.lookup y = some .free := hy
    have e : y = "__class__" := by
      rcases hy with hy | hy
      · exact absurd rfl (S.noc _ (PySem.mem_of_lookup hy))
      · exact S.fr _ (PySem.mem_of_lookup hy) rfl
    subst e
    exact ⟨cc, rfl⟩
  · rw [(look1 _ _ h).1] at hf
    exact absurd rfl (of_decide_eq_true (show decide (("__class__" : Str) ≠ "__class__") = true from hf))
  · rw [List.getElem?_map] at h2
    cases e : vs[i]? with
    | none => rw [e] at h2; cases h2
    | some v' =>
      rw [e] at h2
      have e' : v' = v := Option.some.inj (Option.some.inj h2)
      subst e'
      obtain ⟨u, hu, rv⟩ := r.get e
      refine ⟨u, rv, .inl ⟨S.par y (List.mem_of_getElem? h1), ?_⟩⟩
      exact lookup_zip S.nd h1 hu
  · rw [(look1 _ _ h).2]
    have := k cc _ hca hcb.1
    exact ⟨vc, _, this, hvc⟩
  · rw [(look1 _ _ h).2]
    exact hcb.2
end
/-- what is known of an own error's class and of its __init__ -/
structure XcI (P : Program) (K : PySem.W.Frag) (mg : Str → Option Value) (C fI cc cda : Addr) (qual : Str) (params : Arguments) (body : List Stmt) (scope : Scope) (fd : FuncData) : Prop where
  oex : OexC K C
  exi : PySem.W.excInitIn K C [.type "ValueError", .type "Exception", .type "BaseException", .type "object"] "ValueError.__new__" = true
  sup : PySem.W.ks_superIn K C C "__init__" = some (some (.builtin "ValueError.__init__"))
  ve : PySem.W.subIn K (.ref C) (.type "ValueError") = some true
  own : PySem.W.mroIn K C (.ref C) = some true
  cl : ∃ cdC, PySem.W.clsIn K C = some cdC
  sg : mg ("super" : Str) = none
  tp : PySem.W.nsIn K cStatics "thirdparty.any" = some none
  lk : ∃ oc od dV kV doc pm an ct osl, fd = PySem.W.ksFn "__init__" qual params body scope dV kV doc pm an (.ref cda) ct cc ∧ K.lookup fI = some ⟨oc, od, .func fd, osl⟩
  code : PySem.W.codeIn K (.ref cda) qual = true
  cell : ∃ cl od sl, K.lookup cc = some ⟨cl, od, .cell (some (.ref C)), sl⟩
  file : ∃ cl od vs sl file tf, K.lookup cda = some ⟨cl, od, .fields vs, sl⟩ ∧ vs[2]? = some (.str file tf) ∧ ((P.main.file : Str) == file) = true
  top : (P.main.scope.names.lookup ("super" : Str)).isSome = false
section
variable {P : Program} {w : World} {K : PySem.W.Frag} {mg : Str → Option Value} {base : Heap} {ps : List Str} {qual : Str} {params : Arguments} {rest : List Stmt} {scope : Scope} {fI cc cda C : Addr} {fd : FuncData} {k : Nat} {sp : Sp}
theorem init_of {x self : Str} {p0 p1 p2 p3 pos px : Pos} {ix : Nat} (S : ScI (self :: ps) scope) (T : XcI P K mg C fI cc cda qual params (.Expr (.Call (.Attribute (.Call (.Name "super" p0) [] [] p1) "__init__" p2) [.Name x px] [] p3) pos :: rest) scope fd)
    (hix : (self :: ps)[ix + 1]? = some x) (hxs : scope.names.lookup x = some .local) (hda : (x == ("__debug__" : Str)) = false) (hself : scope.names.lookup self = some .local) (hpar : ∃ ar, (params.posonlyargs ++ params.args).head? = some ar ∧ ar.arg = self)
    (he : ∀ L, ∃ pl, eval (.Call (.Attribute (.Call (.Name "super" p0) [] [] p1) "__init__" p2) [.Name x px] [] p3) (PySem.W.ksEnv qual scope L fI (.ref cda) cc) = (do
      let ov ← attributeBase (.Call (.Name "super" p0) [] [] p1) "__init__" (PySem.W.ksEnv qual scope L fI (.ref cda) cc) (eval (.Call (.Name "super" p0) [] [] p1) (PySem.W.ksEnv qual scope L fI (.ref cda) cc))
      standAt p2.atName
      let (f, first) ← holding [ov] (getMethod ov "__init__" pl)
      callWith p3 f first (backTo p3 (starEach [.Name x px] (PySem.W.ksEnv qual scope L fI (.ref cda) cc))) []))
    (hi : ∀ L, interactive (PySem.W.ksEnv qual scope L fI (.ref cda) cc) = false)
    (len : ∀ vs H Q E, sp vs H Q E → vs.length = (self :: ps).length)
    (hbody : ∀ (A : Around) (outer : List Env) (s : Shared) (H : Hp) (vs : List V) (Q : VK) (E : XK), Room k (A.deeper (PySem.W.ksEnv qual scope s.heap.objs.size fI (.ref cda) cc)) → sp vs H Q E →
      (∃ a ws, vs = V.ref a :: ws ∧ H a = some (exo a C none)) ∧ ∃ t, PSs (cxI P w K mg base (self :: ps) qual scope fI (.ref cda) A outer s H cc) rest t ∧ t { nx := fun _ H' => Q .non H', rt := Q } (vs.map some) H) :
    FnOk P w K mg base (L2.CX P w) (k + 1) fI fd (self :: ps) sp := by
  refine ⟨len, fun A outer s H args us vs Q E hr e0 hb r hsp => ?_⟩
  have hl := len _ _ _ _ hsp
  obtain ⟨⟨a, ws, hvs, ha⟩, t, ht, hq⟩ := hbody A outer s H vs Q E (hr.deeper _) hsp
  subst hvs
  obtain ⟨oc, od, dV, kV, doc, pm, an, ct, osl, rfl, lk⟩ := T.lk
  have KX : K.In s.heap := e0.mod.kin.keeps fun b o e => (e0.bs b o e).1
  have lim : s.heap.NoLimit := e0.mod.nolimit.keeps fun b o e => (e0.bs b o e).1
  obtain ⟨t1, hobj⟩ := exo_at e0.hok ha
  obtain ⟨u0, ur, rfl, r0⟩ : ∃ u0 ur, us = u0 :: ur ∧ u0 = Value.ref a := by
    cases r with
    | cons r1 r2 => exact ⟨_, _, rfl, r1⟩
  subst r0
  have kNa : ∀ b o, K.lookup b = some o → b ≠ a := fun b o e z => by
    have := (e0.bs b o (e0.mod.kin b o e)).2
    rw [z, ha] at this
    cases this
  have X0 : K.In (s.heap.hide a) := fun b o e => by rw [Heap.hide_ne _ (kNa b o e)]; exact KX b o e
  have hks : (PySem.W.ksEnv qual scope s.heap.objs.size fI (.ref cda) cc).kindOf "super" = some .globalImplicit := S.sup
  have hkc : (PySem.W.ksEnv qual scope s.heap.objs.size fI (.ref cda) cc).kindOf "__class__" = some .free := S.cls
  obtain ⟨ar, har, hsa⟩ := hpar
  obtain ⟨cdC, hcl⟩ := T.cl
  obtain ⟨ccl, ccd, ccs, hcell⟩ := T.cell
  obtain ⟨fcl, fod, fvs, fsl, file, tf, hcode, hvs2, hfile⟩ := T.file
  refine PySem.ks_codeAny_call_defAt (fd := PySem.W.ksFn "__init__" qual params _ scope dV kV doc pm an (.ref cda) ct cc) (binds := (self :: ps).zip (.ref a :: ur)) hr.depth (KX _ _ lk) rfl lim (PySem.W.codeRec_of KX T.code) rfl hb S.noc (fun ⟨n, v⟩ hy => S.par n (List.of_mem_zip hy).1) (fun h1 hns hk1 => ?_) S.co S.gen S.kind
  have F : Fr (s.heap.hide a) s.heap.objs.size h1 (fun y => ((self :: ps).zip (.ref a :: ur)).reverse.lookup y) := ⟨hns, fun b o e => by
    by_cases z : b = a
    · rw [z, Heap.hide_self] at e; cases e
    · rw [Heap.hide_ne _ z] at e; exact hk1 b o e, Nat.le_of_eq (Heap.hide_size _ _)⟩
  have N : News (s.heap.hide a) s.heap.objs.size h1 [(a, PySem.W.excObj C t1 none .none)] := fun p hp => by
    rw [List.mem_singleton.mp hp]
    exact ⟨hk1 _ _ hobj, Nat.ne_of_lt (Heap.lt_size hobj), Heap.hide_self _ _⟩
  have IA : PySem.W.InstAt h1 a (PySem.W.excObj C t1 none .none) C none := PySem.W.InstAt.of_exc0 N (List.mem_singleton.mpr rfl)
  have X1 : K.In h1 := X0.keeps F.keep
  obtain ⟨oD, hD1, hD2⟩ : ∃ oD, h1.get? C = some oD ∧ oD.data = .cls cdC := by
    have := hcl
    unfold PySem.W.clsIn at this
    split at this
    · rename_i c d cd' sl ho
      cases this
      exact ⟨_, X1 _ _ ho, rfl⟩
    · cases this
  have hself2 : ((self :: ps).zip (Value.ref a :: ur)).reverse.lookup self = some (Value.ref a) := lookup_zip S.nd (i := 0) rfl rfl
  obtain ⟨mb, hb1, hb2⟩ := e0.mod.blt
  have bk1 : ∀ b o, base.get? b = some o → h1.get? b = some o := fun b o e => hk1 b o (e0.bs b o e).1
  refine PySem.ks_wpAt_execs_cons ?_
  refine PySem.ks_wpAt_Expr_any ?_ (hi _)
  obtain ⟨pl, hpl⟩ := he s.heap.objs.size
  refine PySem.ks_wpAt_MethodCall ?_ hpl
  refine PySem.ks_wpAt_super_base (env := PySem.W.ksEnv qual scope s.heap.objs.size fI (.ref cda) cc) hks hkc (by decide) rfl (X1 _ _ lk) rfl har rfl (X1 _ _ hcode) rfl hvs2 hfile T.top ?_
  refine PySem.W.ks_loadName_global S.kind hks (Calls.loadGlobal_builtin (e0.mod.glob.keeps bk1) T.sg (hb1.keeps bk1) ((hb2 _ (by decide)).trans (by decide +kernel : bootBuiltins "super" = some (.type "super"))) ⟨rfl, ?_⟩)
  refine wpAny_loadName_free S.kind hkc rfl ⟨_, X1 _ _ hcell, rfl⟩ ?_
  refine wpAny_loadName_local S.kind (by rw [hsa]; exact hself) hns (by rw [hsa]; exact hself2) ?_
  refine PySem.ks_wpAny_isType_cls hD1 hD2 ⟨rfl, ?_⟩
  obtain ⟨sh, sg, sd, st, sos⟩ := s
  refine PySem.ks_wpAny_call_super hD1 hD2 IA.at_ IA.cls (fun c e => ?_) (PySem.W.looks_mroIn X1 T.own) (fun h2 e2 k2 => ?_)
  · cases e
  obtain ⟨F2, N2, _⟩ := PySem.W.ks_newsPush (s := ⟨h1, sg, sd, st, sos⟩) F N rfl e2 k2
  refine PySem.W.kxs_method PySem.W.kxs_ValueError F2 X0 N2 (List.mem_cons_self ..) (PySem.W.InstAt.of_exc0 N2 (List.mem_cons_of_mem _ (List.mem_singleton.mpr rfl))) T.tp T.sup T.ve (by decide) (fun q h4 F4 N4 l4 => ?_)
  refine PySem.W.kxs_callWith1 N4 (List.mem_cons_self ..) ?_
  obtain ⟨u, hu⟩ : ∃ u, (Value.ref a :: ur)[ix + 1]? = some u := by
    have h1 : (Value.ref a :: ur).length = (self :: ps).length := by rw [← hl]; exact r.length.symm
    have h2 := (List.getElem?_eq_some_iff.mp hix).1
    exact ⟨_, List.getElem?_eq_getElem (by rw [h1]; exact h2)⟩
  have hxv := lookup_zip S.nd hix hu
  refine spliced_more (wpAny_Name (wpAny_loadName_local S.kind hxs F4.ns hxv (spliced_none ⟨PySem.W.kxs_at N4 (List.mem_cons_self ..), ?_⟩)) hda)
  have l1 := l4 (a, _) (List.mem_cons_of_mem _ (List.mem_singleton.mpr rfl))
  have l0 : a ≠ h1.objs.size := Nat.ne_of_lt (Heap.lt_size (N _ (List.mem_singleton.mpr rfl)).1)
  refine PySem.W.kxs_call F4 X0 N4 PySem.F.excBase_ValueError T.exi (List.mem_cons_self ..) (.tail (Nat.ne_of_gt l1) (.tail l0.symm (.head fun _ h => nomatch h))) (by show 1 ≤ sizeLine; decide) (fun t' h5 F5 N5 l5 => ?_)
  have ho5 := (N5 (a, PySem.W.excObj C t' none .none) (by simp)).1
  have I := inv_startI (t3 := t') (tk := st + ((self :: ps).zip (Value.ref a :: ur)).length + 1) (cd := .ref cda) (f := fI) (qual := qual) S hr.hd e0 hl r ⟨_, e0.mod.kin _ _ hcell, _, rfl⟩ ha F5.ns (fun b o hb e => F5.keep b o (by rw [Heap.hide_ne _ hb]; exact e)) ho5
  refine wpAt_of_wpAny (wpAny_mono (ht.run [] _ _ _ _ I hq) (fun fl s' hs => ?_) fun _ _ z => z.elim)
  have fin : ∀ {σ' : L2.St} {H' : Hp} {v : V} {u : Value}, Inv (cxI P w K mg base (self :: ps) qual scope fI (.ref cda) A outer ⟨sh, sg, sd, st, sos⟩ H cc) [] σ' H' s' → RelV v u → Q v H' → CE outer P w H ⟨sh, sg, sd, st, sos⟩ Q u s' :=
    fun {σ' H' v u} J rv q => ⟨v, H', J.os, J.bare, J.base, J.hok, rv, q⟩
  cases fl with
  | ret u =>
    obtain ⟨v, σ', H', J, rv, q⟩ := hs
    exact fin J rv q
  | next =>
    obtain ⟨σ', H', J, q⟩ := hs
    exact fin (v := V.non) (u := Value.none) J rfl q
  | brk =>
    obtain ⟨_, _, _, q⟩ := hs
    exact False.elim q
  | cont =>
    obtain ⟨_, _, _, q⟩ := hs
    exact False.elim q
end
end DL

namespace DL
open PySem PySem.Spec L2
/-- what __init__ of an own error promises: the fields, the last one first -/
def spI (C : Addr) (n : Nat) (fsOf : List V → List (Str × V)) : Sp := fun vs H Q _ => ∃ a ws, vs = V.ref a :: ws ∧ ws.length = n ∧ H a = some (exo a C none) ∧
  ∀ (d : Addr) (H' : Hp), H d = none → d ≠ a → H' a = some (exo a C (some d)) → H' d = some (exd d (fsOf ws)) → (∀ b, b ≠ a → b ≠ d → H' b = H b) → Q .non H'
/-- an own error with fields, as a callee -/
structure ErrC (P : Program) (w : World) (K : PySem.W.Frag) (mg : Str → Option Value) (base : Heap) (x : Str) (C : Addr) (n : Nat) (fsOf : List V → List (Str × V)) : Prop where
  g : mg x = some (.ref C)
  oex : OexC K C
  xf : XfC K C
  no : ∀ ws f v, (fsOf ws).lookup f = some v → PySem.W.findIn K (.ref C) f = some none
  init : ∃ (fI : Addr) (fd : FuncData) (ps : List Str), PySem.W.findIn K (.ref C) "__init__" = some (some (.ref fI)) ∧ PySem.W.typeIn K (.ref fI) = some (.type "function") ∧ Binds K fd ps [] ∧ FnOk P w K mg base (L2.CX P w) 2 fI fd ps (spI C n fsOf)
section
variable {X : Cx} {W : Exw} {G G' : List S} {R : Res} {O : Out} {e : Expr} {es : List Expr} {rest body : List Stmt} {pos pos' p pos2 : Pos} {s : S} {ss : List S} {x : Str} {k j : Nat} {xn : Exn}
theorem upd_del {H1 H2 : Hp} {a d : Addr} {o : HO} (ha : H1 a = none) (h : ∀ b, b ≠ a → b ≠ d → H2 b = H1 b) (hd : d ≠ a) : upd (del H2 a) d o = upd H1 d o := by
  funext b
  by_cases e : b = d
  · rw [e, upd_same, upd_same]
  · rw [upd_ne e, upd_ne e]
    by_cases e2 : b = a
    · rw [e2, del_same, ha]
    · rw [del_ne e2, h b e2 e]
/-- raise C(e, ..) -/
theorem ex_raiseF {C : Addr} {n : Nat} {fsOf : List V → List (Str × V)} {ds : List D} (T : ErrC X.prog X.w X.K X.mg X.base x C n fsOf) (fl : List (Str × D)) (hr : Room j X.A) (hj : 3 ≤ j) (ha : EvDs X (e :: es) G R ds) (hn : ds.length = n) (hn2 : n ≤ 1000)
    (hf : ∀ (F : Fz) (H : Hp) (vs : List V), DnA X.K F H ds vs → DnF X.K F H fl (fsOf vs)) (h : W ⟨C, some fl⟩ G R) (hc : X.calm = true := by rfl) (hg : Gl X x := by rfl) (hdb : (x == ("__debug__" : Str)) = false := by decide)
    (he : starEach (e :: es) X.env = (false, eval e X.env) :: starEach es X.env := by rfl) (hpl : (backTo pos2 (starEach es X.env)).any (·.1) = false := by rfl) :
    Ex X W (.Raise (some (.Call (.Name x p) (e :: es) [] pos2)) none pos :: rest) G R O := fun en A σ H F D st po => by
  obtain ⟨fI, fd, ps, i1, i2, i3, i4⟩ := T.init
  refine ⟨_, pss_cons (ps_raise hc po.tk (pmk_oex T.oex i1 i2 i4 (hr.mono hj) i3 .nil passL hg T.g pa_t hdb he hpl)) pss_t, ?_⟩
  refine ha en A σ H F _ st fun vs H1 F1 g1 r1 => ?_
  have hl : vs.length = n := by rw [r1.length, List.length_map, hn]
  refine ⟨by omega, fun a han => ?_⟩
  rw [List.append_nil]
  refine ⟨a, vs, rfl, hl, upd_same, fun d H' hd hda h1 h2 h3 => ?_⟩
  rw [upd_ne hda] at hd
  refine ⟨rfl, d, fsOf vs, h1, h2, hd, ?_⟩
  rw [upd_del han (fun b hb hb2 => by rw [h3 b hb hb2, upd_ne hb]) hda]
  have g2 : Grow H1 F1 (upd H1 d (.xd (fsOf vs))) F1 := Grow.new hd g1.t
  refine ⟨⟨C, some fl⟩, G, R, A, F1, h, (st.grow g1).grow g2, ⟨rfl, d, _, rfl, upd_same, ?_⟩, (g1.trans g2).mon⟩
  exact hf _ _ _ (DnA.mon g2.mon _ _ r1.ds)
theorem Sta.putE {K : PySem.W.Frag} {en : En} {A : Addr → Prop} {σ : L2.St} {H : Hp} {F : Fz} {i : Nat} {a dd : Addr} {fs : List (Str × D)} {vs : List (Str × V)} (st : Sta K en G R A σ H F) (hd : H dd = some (.xd vs)) (hf : DnF K F H fs vs) :
    Sta K en (G.set i (.exn a dd fs)) R A (σ.set i (some (.ref a))) H F := by
  refine ⟨st.fr, st.th, st.f0, st.f1, st.ft, st.at_, st.rs, by rw [List.length_set, List.length_set]; exact st.len, ?_⟩
  obtain ⟨ow, q⟩ := st.sl
  refine ⟨ow, fun m t ht => ?_⟩
  by_cases e : i = m
  · subst e
    have hl : i < G.length := by
      rcases Nat.lt_or_ge i G.length with z | z
      · exact z
      · rw [List.getElem?_eq_none (by rw [List.length_set]; exact z)] at ht; cases ht
    rw [List.getElem?_set_self hl] at ht
    cases ht
    exact ⟨_, by rw [List.getElem?_set_self (by rw [← st.len]; exact hl)], rfl, fun z => R.nx st.rs dd vs z hd, vs, hd, hf⟩
  · rw [List.getElem?_set_ne e] at ht
    obtain ⟨o, h1, h2⟩ := q m t ht
    exact ⟨o, by rw [List.getElem?_set_ne e]; exact h1, h2⟩
/-- try: body except C as n: suite -/
theorem ex_tryA (i : Nat) (Z : Exn → List S → Res → Prop) (M : List S → Res → Prop) {n : Str} {c : Addr} {b0 : Stmt} {suite : List Stmt} {np : Pos} (hn : Names X x (.ref c)) (hN : X.N.Nodup)
    (hb : ∀ (pn : List (Addr × Obj)) (xe : Value → Shared → Prop), PassesOwn (model X.prog X.w) X.A X.env xe → Ex (X.tr pn xe) Z body G R { O with nx := M })
    (hh : ∀ xn G' R', Z xn G' R' → ∃ b, PySem.W.exmOne X.K (.ref xn.cls) (.ref c) = some b ∧
        (b = true → ∃ fs, xn.fl = some fs ∧ ∀ (a dd : Addr) (oe : Obj) (pn : List (Addr × Obj)), Zc (.ref xn.cls) (some dd) oe → (∃ vs, oe.data = .fields vs) →
          Ex (X.suite a ((a, oe) :: pn)) (fun _ _ _ => False) (b0 :: suite) (G'.set i (.exn a dd fs)) R' { nx := fun G2 R2 => M (G2.set i .any) R2, rt := O.rt, bk := fun G2 R2 => O.bk (G2.set i .any) R2, ct := fun G2 R2 => O.ct (G2.set i .any) R2 }) ∧ (b = false → W xn G' R'))
    (hr : ∀ G' R', M G' R' → Ex X W rest G' R' O)
    (hi : X.N[i]? = some n := by rfl) (hln : X.env.kindOf n = some .local := by rfl) (hs : X.stack = X.env :: X.outer := by rfl) (hf : X.env.frame = some X.env.locals := by rfl) :
    Ex X W (.Try body [.ExceptHandler (some (.Name x np)) (some n) (b0 :: suite) pos'] [] [] pos :: rest) G R O := fun en A σ H F D st po => by
  refine ⟨_, pss_cons (ps_try_as (i := i) (tb := fun W' D σ H => ∀ (pn : List (Addr × Obj)) (xe : Value → Shared → Prop), Takes (X.tr pn xe) W' → PassesOwn (model X.prog X.w) X.A X.env xe → tSs (X.tr pn xe) body D σ H)
    (ts := fun a cls d D σ H => ∀ (oe : Obj) (pn : List (Addr × Obj)), Zc cls d oe → (∃ vs, oe.data = .fields vs) → tSs (X.suite a ((a, oe) :: pn)) (b0 :: suite) D σ H)
    hs hf hN hi hln hn po.tk (fun W' pn xe tk hp => ⟨fun pins s σ H D I h => pss_t.run pins s σ H D I (h pn xe tk hp)⟩)
    (fun a oe cls d pn z1 z2 => ⟨fun pins s σ H D I h => pss_t.run pins s σ H D I (h oe pn z1 z2)⟩)) pss_t, ?_⟩
  intro pn xe tk hp
  have drop : ∀ {G2 : List S} {R2 : Res} {A2 : Addr → Prop} {σ2 : L2.St} {H2 : Hp} {F2 : Fz}, Sta X.K en G2 R2 A2 σ2 H2 F2 → Sta X.K en (G2.set i .any) R2 A2 (σ2.set i none) H2 F2 := fun s2 => s2.wipe [i]
  refine hb pn xe hp en A σ H F _ st ⟨tk.imp fun cls d σ' H' hw => ?_, fun G' R' A' σ' H' F' m s' n' => ?_, po.rt, po.bk, po.ct⟩
  · obtain ⟨xn, G', R', A', F', hz, st', ⟨hx1, hx2⟩, m⟩ := hw
    obtain ⟨b, hb1, hb2, hb3⟩ := hh xn G' R' hz
    refine ⟨b, by rw [hx1]; exact hb1, fun e2 a han oe pn' z1 z2 => ?_, fun e2 => ?_⟩
    · obtain ⟨fs, hfs, q⟩ := hb2 e2
      rw [hfs] at hx2
      obtain ⟨dd, vs, rfl, hd, hv⟩ := hx2
      subst hx1
      refine q a dd oe pn' z1 z2 en A' _ H' F' _ (st'.putE hd hv) ⟨takes_no, fun G2 R2 A2 σ2 H2 F2 m2 s2 n2 => ?_, po.rt, fun G2 R2 A2 σ2 H2 F2 m2 s2 n2 => ?_, fun G2 R2 A2 σ2 H2 F2 m2 s2 n2 => ?_⟩
      · exact hr _ _ m2 en A2 _ H2 F2 D (drop s2) ((po.from m).from n2)
      · exact po.bk _ _ _ _ _ _ m2 (drop s2) (m.trans n2)
      · exact po.ct _ _ _ _ _ _ m2 (drop s2) (m.trans n2)
    · exact ⟨xn, G', R', A', F', hb3 e2, st', ⟨hx1, hx2⟩, m⟩
  · exact hr _ _ m en A' σ' H' F' D s' (po.from n')
theorem DnF.look {K : PySem.W.Frag} {F : Fz} {H : Hp} {f : Str} {d : D} : ∀ {fs : List (Str × D)} {vs : List (Str × V)}, DnF K F H fs vs → fs.lookup f = some d → ∃ v, vs.lookup f = some v ∧ Dn K F H d v
  | [], [], _, h => by cases h
  | [], _ :: _, h, _ => h.elim
  | _ :: _, [], h, _ => h.elim
  | (g, d') :: fs, (g', v') :: vs, h, e => by
    have h1 : g = g' := h.1
    subst h1
    rw [List.lookup_cons] at e ⊢
    split at e
    · next q =>
      have e' := Option.some.inj e
      subst e'
      exact ⟨v', rfl, h.2.1⟩
    · next q => exact DnF.look h.2.2 e
/-- n.f in the suite of 'except C as n' -/
theorem ev_xf {a dd C : Addr} {oe : Obj} {pn : List (Addr × Obj)} {nm f : Str} {d : D} {np : Pos} {fs : List (Str × D)} (i : Nat) (T : XfC X.K C) (hno : PySem.W.findIn X.K (.ref C) f = some none) (hz : Zc (.ref C) (some dd) oe) (hf : ∃ vs, oe.data = .fields vs)
    (hG : G[i]? = some (.exn a dd fs)) (hl : fs.lookup f = some d) (hi : X.N[i]? = some nm := by rfl) (hv : Vis X.env.scope nm := by first | exact Or.inl rfl | exact Or.inr (Or.inl rfl) | exact Or.inr (Or.inr rfl)) (hd : (nm == ("__debug__" : Str)) = false := by decide)
    (hcd : (nm == ("__classdict__" : Str)) = false := by decide) : Ev (X.suite a ((a, oe) :: pn)) (.Attribute (.Name nm np) f pos) G R (.d d) := by
  intro en A σ H F Q st q
  obtain ⟨ow, o, h1, h2, h3, vs, h4, h5⟩ := slot_at st hG
  subst h2
  obtain ⟨v, l1, l2⟩ := DnF.look h5 hl
  refine ⟨_, pe_xf T hno hz hf (pe_var (X := X.suite a ((a, oe) :: pn)) (i := i) hi hv hd hcd), ?_⟩
  exact ⟨_, h1, rfl, rfl, dd, vs, v, rfl, h4, l1, q v H F (Grow.refl st.ft) l2⟩
end
end DL

namespace DL
open PySem PySem.Spec L2 PyProof.Rows
section
variable {P : Program} {w : World} {K : PySem.W.Frag} {mg : Str → Option Value} {base : Heap} {qual : Str} {params : Arguments} {scope : Scope} {fI cc cda C : Addr} {fd : FuncData}
abbrev superS (x : Str) (p0 p1 p2 p3 pos px : Pos) : Stmt := .Expr (.Call (.Attribute (.Call (.Name "super" p0) [] [] p1) "__init__" p2) [.Name x px] [] p3) pos
abbrev EvalI (x : Str) (p0 p1 p2 p3 px : Pos) (qual : Str) (scope : Scope) (fI cda cc : Addr) : Prop := ∀ L, ∃ pl, eval (.Call (.Attribute (.Call (.Name "super" p0) [] [] p1) "__init__" p2) [.Name x px] [] p3) (PySem.W.ksEnv qual scope L fI (.ref cda) cc) = (do
      let ov ← attributeBase (.Call (.Name "super" p0) [] [] p1) "__init__" (PySem.W.ksEnv qual scope L fI (.ref cda) cc) (eval (.Call (.Name "super" p0) [] [] p1) (PySem.W.ksEnv qual scope L fI (.ref cda) cc))
      standAt p2.atName
      let (f, first) ← holding [ov] (getMethod ov "__init__" pl)
      callWith p3 f first (backTo p3 (starEach [.Name x px] (PySem.W.ksEnv qual scope L fI (.ref cda) cc))) [])
theorem init1 {x : Str} {p0 p1 p2 p3 pos px q1 q2 q3 q4 : Pos} (S : ScI ["self", x] scope) (T : XcI P K mg C fI cc cda qual params [superS x p0 p1 p2 p3 pos px, .Assign [.Attribute (.Name "self" q1) x q2] (.Name x q3) q4] scope fd)
    (no : PySem.W.findIn K (.ref C) x = some none) (hx : (x == ("__debug__" : Str)) = false) (hx2 : (x == ("__classdict__" : Str)) = false) (hpar : ∃ ar, (params.posonlyargs ++ params.args).head? = some ar ∧ ar.arg = "self")
    (he : EvalI x p0 p1 p2 p3 px qual scope fI cda cc) (hi : ∀ L, interactive (PySem.W.ksEnv qual scope L fI (.ref cda) cc) = false)
    (hs : ∀ L, swapsWith (.Name x q3) (some (.Attribute (.Name "self" q1) x q2)) q4.line (PySem.W.ksEnv qual scope L fI (.ref cda) cc) = pure false) :
    FnOk P w K mg base (L2.CX P w) 2 fI fd ["self", x] (spI C 1 fun ws => [(x, ws.getD 0 .non)]) := by
  refine init_of (k := 1) (ix := 0) S T rfl (S.par x (by simp)) hx (S.par "self" (by simp)) hpar he hi (fun vs H Q E h => by obtain ⟨a, ws, rfl, h1, _⟩ := h; rw [List.length_cons, h1]; rfl) fun A outer s H vs Q E hr h => ?_
  obtain ⟨a, ws, rfl, h1, ha, q⟩ := h
  obtain ⟨v, rfl⟩ : ∃ v, ws = [v] := by
    match ws, h1 with
    | [v], _ => exact ⟨v, rfl⟩
  refine ⟨⟨a, [v], rfl, ha⟩, _, pss_cons (ps_ost (pe_var (i := 0) rfl (.inl (S.par "self" (by simp))) (by decide) (by decide)) (pe_var (i := 1) rfl (.inl (S.par x (by simp))) hx hx2) (hs _)) pss_t, ?_⟩
  refine ⟨v, rfl, .ref a, rfl, a, C, rfl, T.oex, no, .inl ⟨ha, fun d hd hda => ?_⟩⟩
  refine ⟨_, pss_nil, ?_⟩
  refine q d _ hd hda upd_same ?_ fun b hb hb2 => ?_
  · rw [upd_ne hda, upd_same]
    rfl
  · rw [upd_ne hb, upd_ne hb2]
theorem init2 {x y z : Str} {ix : Nat} {p0 p1 p2 p3 pos px q1 q2 q3 q4 r1 r2 r3 r4 : Pos} (S : ScI ["self", x, y] scope) (T : XcI P K mg C fI cc cda qual params [superS z p0 p1 p2 p3 pos px, .Assign [.Attribute (.Name "self" q1) x q2] (.Name x q3) q4, .Assign [.Attribute (.Name "self" r1) y r2] (.Name y r3) r4] scope fd)
    (hz : (["self", x, y] : List Str)[ix + 1]? = some z) (no1 : PySem.W.findIn K (.ref C) x = some none) (no2 : PySem.W.findIn K (.ref C) y = some none) (hdb : ∀ u ∈ [x, y, z], (u == ("__debug__" : Str)) = false ∧ (u == ("__classdict__" : Str)) = false)
    (hpar : ∃ ar, (params.posonlyargs ++ params.args).head? = some ar ∧ ar.arg = "self")
    (he : EvalI z p0 p1 p2 p3 px qual scope fI cda cc) (hi : ∀ L, interactive (PySem.W.ksEnv qual scope L fI (.ref cda) cc) = false)
    (hs1 : ∀ L, swapsWith (.Name x q3) (some (.Attribute (.Name "self" q1) x q2)) q4.line (PySem.W.ksEnv qual scope L fI (.ref cda) cc) = pure false)
    (hs2 : ∀ L, swapsWith (.Name y r3) (some (.Attribute (.Name "self" r1) y r2)) r4.line (PySem.W.ksEnv qual scope L fI (.ref cda) cc) = pure false) :
    FnOk P w K mg base (L2.CX P w) 2 fI fd ["self", x, y] (spI C 2 fun ws => [(y, ws.getD 1 .non), (x, ws.getD 0 .non)]) := by
  refine init_of (k := 1) (ix := ix) S T hz (S.par z (List.mem_of_getElem? hz)) (hdb z (by simp)).1 (S.par "self" (by simp)) hpar he hi (fun vs H Q E h => by obtain ⟨a, ws, rfl, h1, _⟩ := h; rw [List.length_cons, h1]; rfl) fun A outer s H vs Q E hr h => ?_
  obtain ⟨a, ws, rfl, h1, ha, q⟩ := h
  obtain ⟨v, u, rfl⟩ : ∃ v u, ws = [v, u] := by
    match ws, h1 with
    | [v, u], _ => exact ⟨v, u, rfl⟩
  refine ⟨⟨a, [v, u], rfl, ha⟩, _, pss_cons (ps_ost (pe_var (i := 0) rfl (.inl (S.par "self" (by simp))) (by decide) (by decide)) (pe_var (i := 1) rfl (.inl (S.par x (by simp))) (hdb x (by simp)).1 (hdb x (by simp)).2) (hs1 _))
    (pss_cons (ps_ost (pe_var (i := 0) rfl (.inl (S.par "self" (by simp))) (by decide) (by decide)) (pe_var (i := 2) rfl (.inl (S.par y (by simp))) (hdb y (by simp)).1 (hdb y (by simp)).2) (hs2 _)) pss_t), ?_⟩
  refine ⟨v, rfl, .ref a, rfl, a, C, rfl, T.oex, no1, .inl ⟨ha, fun d hd hda => ?_⟩⟩
  refine ⟨u, rfl, .ref a, rfl, a, C, rfl, T.oex, no2, .inr ⟨d, [(x, v)], upd_same, by rw [upd_ne hda, upd_same], by simp, ?_⟩⟩
  refine ⟨_, pss_nil, ?_⟩
  refine q d _ hd hda ?_ upd_same fun b hb hb2 => ?_
  · rw [upd_ne hda.symm, upd_same]
  · rw [upd_ne hb2, upd_ne hb, upd_ne hb2]
end
end DL

namespace DL
open PySem PySem.Spec L2 PyProof.Rows
abbrev veB : List Value := [.type "ValueError", .type "Exception", .type "BaseException", .type "object"]
abbrev iAd (K : PySem.W.Frag) (x : Str) : Addr := He.ma K (He.ga K x) "__init__"
def clsXB (K : PySem.W.Frag) (C : Addr) : Bool := match K.lookup C with
  | some ⟨.type "type", _, .cls cd, sl⟩ => (match cd.mro, sl.toList with
    | .ref C' :: bm, [_, _, _, _, some (.builtin n), _] => decide (C' = C) && (decide (n = "ValueError.__new__") && (!cd.hasDel && (PySem.HandSPX.refsVE bm && cd.hasDict)))
    | _, _ => false)
  | _ => false
def initXB (K : PySem.W.Frag) (C f : Addr) (file : Str) : Bool := match K.lookup f with
  | some ⟨_, _, .func fd, _⟩ => (match fd.closure, fd.code with
    | [(nm, cc)], .ref cda => decide (nm = "__class__") && (decide (fd.defaults = .none) && (PySem.W.codeIn K (.ref cda) fd.qualname && ((match K.lookup cc with
        | some ⟨_, _, .cell (some (.ref D)), _⟩ => decide (D = C)
        | _ => false) && (match K.lookup cda with
        | some ⟨_, _, .fields vs, _⟩ => (match (vs[2]? : Option Value) with
          | some (.str fl _) => decide (fl = file)
          | _ => false)
        | _ => false))))
    | _, _ => false)
  | _ => false
abbrev FnI : Type := Option (Str × Str × Arguments × FuncBody × Scope × Addr × Addr)
def fnI (K : PySem.W.Frag) (x : Str) : FnI := match K.lookup (iAd K x) with
  | some ⟨_, _, .func fd, _⟩ => some (fd.name, fd.qualname, fd.params, fd.body, fd.scope, fd.globals, fd.builtins)
  | _ => none
def xciB (K : PySem.W.Frag) (x : Str) (flds : List Str) (file : Str) : Bool :=
  He.eqO (PySem.W.nsIn K mainGlobals x) (some (some (.ref (He.ga K x)))) && (clsXB K (He.ga K x) && (initXB K (He.ga K x) (iAd K x) file && (PySem.W.keepIn K (.ref (He.ga K x)) &&
  (decide (PySem.W.subIn K (.ref (He.ga K x)) (.type "BaseException") = some true) && (decide (PySem.W.typeIn K (.ref (He.ga K x)) = some (.type "type")) &&
  (He.eqO (PySem.W.findIn K (.ref (He.ga K x)) "__setattr__") (some (some (.builtin "object.__setattr__"))) && (PySem.W.excInitIn K (He.ga K x) veB "ValueError.__new__" &&
  (decide (PySem.W.ks_superIn K (He.ga K x) (He.ga K x) "__init__" = some (some (.builtin "ValueError.__init__"))) && (decide (PySem.W.subIn K (.ref (He.ga K x)) (.type "ValueError") = some true) &&
  (decide (PySem.W.mroIn K (He.ga K x) (.ref (He.ga K x)) = some true) && (He.eqO (PySem.W.nsIn K mainGlobals "super") (some none) && (He.eqO (PySem.W.nsIn K cStatics "thirdparty.any") (some none) &&
  (He.eqO (PySem.W.findIn K (.ref (He.ga K x)) "__init__") (some (some (.ref (iAd K x)))) && (decide (PySem.W.typeIn K (.ref (iAd K x)) = some (.type "function")) && (xfB K (He.ga K x) &&
  flds.all fun f => He.eqO (PySem.W.findIn K (.ref (He.ga K x)) f) (some none))))))))))))))))
section
variable {K : PySem.W.Frag} {h : Heap} {mg : Str → Option Value} {x : Str}
theorem clsXB_ok {C : Addr} (q : clsXB K C = true) : ∃ nm qn N bs bm sn sub ab col dd k0 k1 k2 k3 k5, K.lookup C = some (excClassObj nm qn C N bs bm true sn sub ab col dd k0 k1 k2 k3 k5 "ValueError.__new__") ∧ PySem.HandSPX.refsVE bm = true := by
  unfold clsXB at q
  split at q
  · rename_i dd cd sl ho
    split at q
    · rename_i C' bm k0 k1 k2 k3 n k5 hm hs
      simp only [Bool.and_eq_true, decide_eq_true_eq, Bool.not_eq_true'] at q
      obtain ⟨rfl, rfl, hdel, hv, hdc⟩ := q
      obtain ⟨nm, bs, mro, ns, qn, hd, sn, sub, ab, col, del⟩ := cd
      dsimp only at hm hdel hdc
      subst hm hdel hdc
      have hsl : sl = #[k0, k1, k2, k3, some (.builtin "ValueError.__new__"), k5] := by
        have := congrArg List.toArray hs
        simpa using this
      subst hsl
      exact ⟨nm, qn, ns, bs, bm, sn, sub, ab, col, dd, k0, k1, k2, k3, k5, ho, hv⟩
    · cases q
  · cases q
theorem xci_of {P : Program} {flds : List Str} {file qual : Str} {params : Arguments} {body : List Stmt} {scope : Scope} (X : K.In h) (G : h.Ns mainGlobals mg) (q : xciB K x flds file = true) (e : fnI K x = (some (("__init__" : Str), qual, params, FuncBody.stmts body, scope, mainGlobals, builtinsNs) : FnI))
    (hf : P.main.file = file) (ht : (P.main.scope.names.lookup ("super" : Str)).isSome = false) :
    mg x = some (.ref (He.ga K x)) ∧ OexC K (He.ga K x) ∧ XfC K (He.ga K x) ∧ (∀ f ∈ flds, PySem.W.findIn K (.ref (He.ga K x)) f = some none) ∧ PySem.W.findIn K (.ref (He.ga K x)) "__init__" = some (some (.ref (iAd K x))) ∧ PySem.W.typeIn K (.ref (iAd K x)) = some (.type "function") ∧
    ∃ (cc cda : Addr) (fd : FuncData), XcI P K mg (He.ga K x) (iAd K x) cc cda qual params body scope fd ∧ fd.defaults = .none := by
  unfold xciB at q
  obtain ⟨q1, q⟩ := He.ba q
  obtain ⟨q2, q⟩ := He.ba q
  obtain ⟨q3, q⟩ := He.ba q
  obtain ⟨q4, q⟩ := He.ba q
  obtain ⟨q5, q⟩ := He.ba q
  obtain ⟨q6, q⟩ := He.ba q
  obtain ⟨q7, q⟩ := He.ba q
  obtain ⟨q8, q⟩ := He.ba q
  obtain ⟨q9, q⟩ := He.ba q
  obtain ⟨q10, q⟩ := He.ba q
  obtain ⟨q11, q⟩ := He.ba q
  obtain ⟨q12, q⟩ := He.ba q
  obtain ⟨q13, q⟩ := He.ba q
  obtain ⟨q14, q⟩ := He.ba q
  obtain ⟨q15, q⟩ := He.ba q
  obtain ⟨q16, q⟩ := He.ba q
  have hcls := clsXB_ok q2
  have oex : OexC K (He.ga K x) := ⟨hcls, He.eqO_ok q7, of_decide_eq_true q5, of_decide_eq_true q6, q4⟩
  refine ⟨PySem.W.mg_of X G (He.eqO_ok q1), oex, xfB_ok q16, fun f hf => He.eqO_ok (List.all_eq_true.mp q f hf), He.eqO_ok q14, of_decide_eq_true q15, ?_⟩
  unfold initXB at q3
  unfold fnI at e
  split at q3
  · rename_i oc od fd osl ho
    rw [ho] at e
    dsimp only at e
    simp only [Option.some.injEq, Prod.mk.injEq] at e
    split at q3
    · rename_i nm cc cda hcl hcd
      obtain ⟨p1, q3⟩ := He.ba q3
      obtain ⟨p2, q3⟩ := He.ba q3
      obtain ⟨p3, q3⟩ := He.ba q3
      obtain ⟨p4, p5⟩ := He.ba q3
      have p1 := of_decide_eq_true p1
      have p2 := of_decide_eq_true p2
      subst p1
      obtain ⟨e1, e2, e3, e4, e5, e6, e7⟩ := e
      refine ⟨cc, cda, fd, ⟨oex, q8, of_decide_eq_true q9, of_decide_eq_true q10, of_decide_eq_true q11, ?_, PySem.W.mg_none_of X G (He.eqO_ok q12), He.eqO_ok q13, ?_, by rw [← e2]; exact p3, ?_, ?_, ht⟩, p2⟩
      · obtain ⟨nm, qn, N, bs, bm, sn, sub, ab, col, dd, k0, k1, k2, k3, k5, z, _⟩ := hcls
        unfold PySem.W.clsIn
        rw [z]
        exact ⟨_, rfl⟩
      · refine ⟨oc, od, fd.defaults, fd.kwdefaults, fd.doc, fd.pyModule, fd.annotations, fd.closureTuple, osl, ?_, ho⟩
        obtain ⟨a1, a2, a3, a4, a5, a6, a7, a8, a9, a10, a11, a12, a13, a14, a15⟩ := fd
        dsimp only at e1 e2 e3 e4 e5 e6 e7 hcl hcd
        subst e1 e2 e3 e4 e5 e6 e7 hcl hcd
        rfl
      · split at p4
        · rename_i cl cod D csl hc
          have := of_decide_eq_true p4
          subst this
          exact ⟨cl, cod, csl, hc⟩
        · cases p4
      · split at p5
        · rename_i cl cod vs csl hc
          split at p5
          · rename_i fl tf hv
            have := of_decide_eq_true p5
            subst this
            exact ⟨cl, cod, vs, csl, fl, tf, hc, hv, by rw [hf]; exact beq_self_eq_true _⟩
          · cases p5
        · cases p5
    · cases q3
  · cases q3
theorem xci_binds {P : Program} {C fI cc cda : Addr} {qual : Str} {params : Arguments} {body : List Stmt} {scope : Scope} {fd : FuncData} {ps : List Str} (T : XcI P K mg C fI cc cda qual params body scope fd) (hd : fd.defaults = .none)
    (h : ∀ (kV doc pm : Value) (an : Option Addr) (cdv ct : Value) (us : List Value), us.length = ps.length → bindArgs (PySem.W.ksFn "__init__" qual params body scope .none kV doc pm an cdv ct cc) ⟨us, []⟩ = pure (ps.zip us)) : Binds K fd ps [] := by
  obtain ⟨oc, od, dV, kV, doc, pm, an, ct, osl, rfl, lk⟩ := T.lk
  have e : dV = .none := hd
  subst e
  exact .all (h kV doc pm an (.ref cda) ct)
end
end DL
namespace DL
open PySem PySem.Spec L2
abbrev Err1 (P : Program) (w : World) (K : PySem.W.Frag) (mg : Str → Option Value) (base : Heap) (x : Str) (C : Addr) (f : Str) : Prop := ErrC P w K mg base x C 1 fun ws => [(f, ws.getD 0 .non)]
abbrev Err2 (P : Program) (w : World) (K : PySem.W.Frag) (mg : Str → Option Value) (base : Heap) (x : Str) (C : Addr) (f g : Str) : Prop := ErrC P w K mg base x C 2 fun ws => [(g, ws.getD 1 .non), (f, ws.getD 0 .non)]
def clsB (s : Stmt) : List Stmt := match s with
  | .ClassDef (body := b) .. => b
  | _ => []
section
variable {X : Cx} {W : Exw} {G : List S} {R : Res} {O : Out} {e e2 : Expr} {rest : List Stmt} {pos p pos2 : Pos} {x f g : Str} {j : Nat} {C : Addr} {d d2 : D}
theorem ex_raise1 (T : Err1 X.prog X.w X.K X.mg X.base x C f) (hr : Room j X.A) (hj : 3 ≤ j) (ha : Ev X e G R (.d d)) (h : W ⟨C, some [(f, d)]⟩ G R) (hc : X.calm = true := by rfl) (hg : Gl X x := by rfl) (hdb : (x == ("__debug__" : Str)) = false := by decide)
    (he : starEach [e] X.env = [(false, eval e X.env)] := by rfl) : Ex X W (.Raise (some (.Call (.Name x p) [e] [] pos2)) none pos :: rest) G R O :=
  ex_raiseF T [(f, d)] hr hj (ds := [d]) (evd_cons ha evd_nil he) rfl (by decide) (fun F H vs hv => by
    obtain ⟨v, r, rfl, h1, h2⟩ := hv.cons_of
    exact ⟨rfl, h1, trivial⟩) h hc hg hdb he (by rfl)
theorem ex_raise2 (T : Err2 X.prog X.w X.K X.mg X.base x C f g) (hr : Room j X.A) (hj : 3 ≤ j) (ha : Ev X e G R (.d d)) (hb : Ev X e2 G R (.d d2)) (h : W ⟨C, some [(g, d2), (f, d)]⟩ G R) (hc : X.calm = true := by rfl) (hg : Gl X x := by rfl) (hdb : (x == ("__debug__" : Str)) = false := by decide)
    (he : starEach [e, e2] X.env = (false, eval e X.env) :: starEach [e2] X.env := by rfl) (he2 : starEach [e2] X.env = [(false, eval e2 X.env)] := by rfl) (hpl : (backTo pos2 (starEach [e2] X.env)).any (·.1) = false := by rfl) : Ex X W (.Raise (some (.Call (.Name x p) [e, e2] [] pos2)) none pos :: rest) G R O :=
  ex_raiseF T [(g, d2), (f, d)] hr hj (ds := [d, d2]) (evd_cons ha (evd_cons hb evd_nil he2) he) rfl (by decide) (fun F H vs hv => by
    obtain ⟨v, r, rfl, h1, h2⟩ := hv.cons_of
    obtain ⟨v2, r2, rfl, h3, h4⟩ := h2.cons_of
    exact ⟨rfl, h3, rfl, h1, trivial⟩) h hc hg hdb he hpl
end
end DL

namespace DL
open PySem PySem.Spec L2
def mx (s a : Rat) : Rat := if s < a then a else s
def mn (e b : Rat) : Rat := if b < e then b else e
theorem mx_ge (s a : Rat) : s ≤ mx s a ∧ a ≤ mx s a := by unfold mx; split <;> grind
theorem mn_le (e b : Rat) : mn e b ≤ e ∧ mn e b ≤ b := by unfold mn; split <;> grind
theorem mx_eq (s a : Rat) : mx s a = s ∨ mx s a = a := by unfold mx; split <;> simp
theorem mn_eq (e b : Rat) : mn e b = e ∨ mn e b = b := by unfold mn; split <;> simp
def cutT (s a b : Rat) : List Pc → List Pc
  | [] => []
  | p :: t => (if mx s a < mn (s + p.l) b then [shP p (mn (s + p.l) b - mx s a) (mx s a - s)] else []) ++ cutT (s + p.l) a b t
theorem cut_pos : ∀ {t : List Pc} {s a b : Rat}, ∀ q ∈ cutT s a b t, 0 < q.l
  | [], _, _, _ => fun q h => by cases h
  | p :: t, s, a, b => fun q h => by
    rcases List.mem_append.mp h with h | h
    · split at h
      · next c =>
        rw [List.mem_singleton.mp h]
        show 0 < mn (s + p.l) b - mx s a
        grind
      · cases h
    · exact cut_pos q h
theorem cut_len : ∀ (t : List Pc) (s a b : Rat), (∀ p ∈ t, 0 < p.l) → tlen (cutT s a b t) = if mx s a < mn (s + tlen t) b then mn (s + tlen t) b - mx s a else 0
  | [], s, a, b, _ => by
    rw [show cutT s a b [] = [] from rfl, tlen_nil]
    have h1 := mx_ge s a
    have h2 := mn_le (s + 0) b
    rw [if_neg (by grind)]
  | p :: t, s, a, b, h => by
    have hp := h p List.mem_cons_self
    have ht' : ∀ y ∈ t, 0 < y.l := fun y hy => h y (List.mem_cons_of_mem _ hy)
    have ht := tlen_nn ht'
    rw [show cutT s a b (p :: t) = (if mx s a < mn (s + p.l) b then [shP p (mn (s + p.l) b - mx s a) (mx s a - s)] else []) ++ cutT (s + p.l) a b t from rfl, tlen_app, cut_len t (s + p.l) a b ht', tlen_cons]
    have e1 : ∀ x y : Rat, tlen [shP p x y] = x := fun x y => by rw [tlen_cons, tlen_nil]; show x + 0 = x; grind
    have e2 : tlen (if mx s a < mn (s + p.l) b then [shP p (mn (s + p.l) b - mx s a) (mx s a - s)] else []) = if mx s a < mn (s + p.l) b then mn (s + p.l) b - mx s a else 0 := by
      split
      · exact e1 _ _
      · rfl
    rw [e2, show s + (p.l + tlen t) = s + p.l + tlen t by grind]
    revert ht
    generalize tlen t = u
    intro ht
    clear e1 e2 ht'
    by_cases c1 : s < a
    · by_cases c2 : s + p.l < a
      · rw [show mx s a = a from if_pos c1, show mx (s + p.l) a = a from if_pos c2]
        have := mn_le (s + p.l) b
        rw [if_neg (by grind)]
        split <;> grind
      · rw [show mx s a = a from if_pos c1, show mx (s + p.l) a = s + p.l from if_neg c2]
        by_cases c3 : b < s + p.l
        · rw [show mn (s + p.l) b = b from if_pos c3, show mn (s + p.l + u) b = b from if_pos (by grind)]
          rw [if_neg (show ¬ s + p.l < b by grind)]
          split <;> grind
        · rw [show mn (s + p.l) b = s + p.l from if_neg c3]
          have := mn_le (s + p.l + u) b
          have h3 : s + p.l ≤ mn (s + p.l + u) b := by unfold mn; split <;> grind
          revert this h3
          generalize mn (s + p.l + u) b = v
          intro this h3
          split <;> split <;> split <;> grind
    · rw [show mx s a = s from if_neg c1, show mx (s + p.l) a = s + p.l from if_neg (by grind)]
      by_cases c3 : b < s + p.l
      · rw [show mn (s + p.l) b = b from if_pos c3, show mn (s + p.l + u) b = b from if_pos (by grind)]
        rw [if_neg (show ¬ s + p.l < b by grind)]
        split <;> grind
      · rw [show mn (s + p.l) b = s + p.l from if_neg c3]
        have h3 : s + p.l ≤ mn (s + p.l + u) b := by unfold mn; split <;> grind
        revert h3
        generalize mn (s + p.l + u) b = v
        intro h3
        split <;> split <;> split <;> grind
theorem cut_ne {t : List Pc} {s a b : Rat} (h : ∀ p ∈ t, 0 < p.l) (c : mx s a < mn (s + tlen t) b) : cutT s a b t ≠ [] := fun z => by
  have := cut_len t s a b h
  rw [z, tlen_nil, if_pos c] at this
  grind
theorem cut_val : ∀ (t : List Pc) (s a b x : Rat), (∀ p ∈ t, 0 < p.l) → mx s a < x → x ≤ mn (s + tlen t) b → valF (mx s a) x (cutT s a b t) = valF s x t
  | [], s, a, b, x, _, h1, h2 => by
    rw [tlen_nil] at h2
    have h3 := mx_ge s a
    have h4 := mn_le (s + 0) b
    grind
  | p :: t, s, a, b, x, h, h1, h2 => by
    have hp := h p List.mem_cons_self
    have ht' : ∀ y ∈ t, 0 < y.l := fun y hy => h y (List.mem_cons_of_mem _ hy)
    have ht := tlen_nn ht'
    rw [tlen_cons, show s + (p.l + tlen t) = s + p.l + tlen t by grind] at h2
    have g1 := mx_ge s a
    have g2 := mn_le (s + p.l + tlen t) b
    have g3 := mn_le (s + p.l) b
    rw [show cutT s a b (p :: t) = (if mx s a < mn (s + p.l) b then [shP p (mn (s + p.l) b - mx s a) (mx s a - s)] else []) ++ cutT (s + p.l) a b t from rfl]
    by_cases c : mx s a < mn (s + p.l) b
    · rw [if_pos c, List.singleton_append]
      by_cases c2 : x ≤ mn (s + p.l) b
      · rw [valF_in (by show x ≤ mx s a + (mn (s + p.l) b - mx s a); grind), sh_val, valF_in (by grind)]
        congr 1
        grind
      · have e1 : mn (s + p.l) b = s + p.l := by
          rcases mn_eq (s + p.l) b with z | z
          · exact z
          · grind
        have e2 : mx (s + p.l) a = s + p.l := by
          unfold mx
          rw [if_neg (by grind)]
        have c3 : mx (s + p.l) a < mn (s + p.l + tlen t) b := by rw [e2]; grind
        have ne := cut_ne (s := s + p.l) (a := a) (b := b) ht' c3
        have t0 : t ≠ [] := fun z => by rw [z, tlen_nil] at c3; rw [e2] at c3; have := mn_le (s + p.l + 0) b; grind
        rw [valF_past ne (by show mx s a + (mn (s + p.l) b - mx s a) < x; grind), valF_past (p := p) t0 (by grind)]
        have ih := cut_val t (s + p.l) a b x ht' (by rw [e2]; grind) h2
        rw [e2] at ih
        rw [← ih]
        congr 1
        show mx s a + (mn (s + p.l) b - mx s a) = s + p.l
        grind
    · rw [if_neg c, List.nil_append]
      have e2 : s + p.l ≤ a := by
        refine Decidable.byContradiction fun z => ?_
        rcases mn_eq (s + p.l) b with y | y
        · rw [y] at c
          rcases mx_eq s a with y2 | y2 <;> rw [y2] at c <;> grind
        · rw [y] at c
          grind
      have e3 : mx s a = a := by unfold mx; rw [if_pos (by grind)]
      have e4 : mx (s + p.l) a = a := by
        unfold mx
        by_cases z : s + p.l < a
        · rw [if_pos z]
        · rw [if_neg z]; grind
      have t0 : t ≠ [] := fun z => by rw [z, tlen_nil] at h2 g2; grind
      rw [e3, valF_past (p := p) t0 (by grind)]
      have ih := cut_val t (s + p.l) a b x ht' (by rw [e4, ← e3]; exact h1) h2
      rw [e4] at ih
      exact ih
/-- .. at its begin -/
theorem cut_val0 : ∀ (t : List Pc) (s a b : Rat), Cont t → (∀ p ∈ t, 0 < p.l) → s ≤ a → a < b → a < s + tlen t → valF a a (cutT s a b t) = valF s a t
  | [], s, a, b, _, _, h1, _, h3 => by rw [tlen_nil] at h3; grind
  | p :: t, s, a, b, hc, h, h1, h2, h3 => by
    have hp := h p List.mem_cons_self
    have ht' : ∀ y ∈ t, 0 < y.l := fun y hy => h y (List.mem_cons_of_mem _ hy)
    have e3 : mx s a = a := by
      unfold mx
      by_cases z : s < a
      · rw [if_pos z]
      · rw [if_neg z]; grind
    rw [show cutT s a b (p :: t) = (if mx s a < mn (s + p.l) b then [shP p (mn (s + p.l) b - mx s a) (mx s a - s)] else []) ++ cutT (s + p.l) a b t from rfl, e3]
    by_cases c : a < s + p.l
    · have c2 : a < mn (s + p.l) b := by unfold mn; split <;> grind
      rw [if_pos c2, List.singleton_append, valF_in (by show a ≤ a + (mn (s + p.l) b - a); grind), sh_val, valF_in (by grind)]
      congr 1
      grind
    · have c2 : ¬ a < mn (s + p.l) b := by have := mn_le (s + p.l) b; grind
      rw [if_neg c2, List.nil_append]
      rw [tlen_cons] at h3
      have hct : Cont t := by
        cases t with
        | nil => trivial
        | cons q t => exact hc.2
      have ih := cut_val0 t (s + p.l) a b hct ht' (by grind) h2 (by grind)
      rw [ih]
      have t0 : t ≠ [] := fun z => by rw [z, tlen_nil] at h3; grind
      by_cases c3 : a = s + p.l
      · cases t with
        | nil => exact absurd rfl t0
        | cons q t =>
          rw [valF_in (p := p) (by grind), valF_in (by have := ht' q List.mem_cons_self; grind), c3, show s + p.l - (s + p.l) = 0 by grind, valIn_zero, show s + p.l - s = p.l by grind]
          exact hc.1
      · rw [valF_past (p := p) t0 (by grind)]
theorem mx_bd {s a : Rat} {n : Nat} (h1 : Bd n s) (h2 : Bd n a) : Bd n (mx s a) := by unfold mx; split <;> assumption
theorem mn_bd {s a : Rat} {n : Nat} (h1 : Bd n s) (h2 : Bd n a) : Bd n (mn s a) := by unfold mn; split <;> assumption
theorem cut_bd {nl na M : Nat} {a b : Rat} (ha : Bd M a) (hb : Bd M b) : ∀ {t : List Pc} {s : Rat} {ns : Nat}, TrB nl na t → Bd ns s → ns + (nl + 1) * t.length ≤ M → TrB (2 * M + 1) (3 * na + 4 * M + 4) (cutT s a b t)
  | [], _, _, _, _, _ => fun q h => by cases h
  | p :: t, s, ns, h, hs, hM => fun q hq => by
    have hB := h p List.mem_cons_self
    have hl := hB.l
    have hc := hB.c
    rw [List.length_cons, Nat.mul_succ] at hM
    have e : Bd (ns + nl + 1) (s + p.l) := Bd.add
    rcases List.mem_append.mp hq with hq | hq
    · split at hq
      · rw [List.mem_singleton.mp hq]
        have b1 : Bd M (mx s a) := mx_bd (hs.mono (by omega)) ha
        have b2 : Bd M (mn (s + p.l) b) := mn_bd (e.mono (by omega)) hb
        have hs' : Bd M s := hs.mono (by omega)
        have b3 : Bd (M + M + 1) (mx s a - s) := Bd.sub
        have b4 : Bd (M + M + 1) (mn (s + p.l) b - mx s a) := Bd.sub
        exact ⟨b4.mono (by omega), (bd_valIn hB b3).mono (by omega), (bd_slIn hB b3).mono (by omega), hc.mono (by omega)⟩
      · cases hq
    · exact cut_bd ha hb (fun y hy => h y (List.mem_cons_of_mem _ hy)) e (by omega) q hq
theorem cut_length : ∀ (t : List Pc) (s a b : Rat), (cutT s a b t).length ≤ t.length
  | [], _, _, _ => Nat.le_refl _
  | p :: t, s, a, b => by
    have ih := cut_length t (s + p.l) a b
    rw [show cutT s a b (p :: t) = (if mx s a < mn (s + p.l) b then [shP p (mn (s + p.l) b - mx s a) (mx s a - s)] else []) ++ cutT (s + p.l) a b t from rfl, List.length_append, List.length_cons]
    split
    · rw [List.length_singleton]; omega
    · rw [List.length_nil]; omega
/-- the markers of a cut -/
def cutM (a b : Rat) (ms : List (Rat × Str)) : List (Rat × Str) := (ms.filter fun m => !decide (m.1 < a) && !decide (b < m.1)).map fun m => (m.1 - a, m.2)
noncomputable def cutC (a b : Rat) (c : Clip) : Clip := ⟨b - a, c.tr.map fun x => (x.1, nrmT (cutT 0 a b x.2)), ordP (cutM a b c.ms)⟩
theorem cutM_mem {a b : Rat} {ms : List (Rat × Str)} {m : Rat × Str} : m ∈ cutM a b ms ↔ (m.1 + a, m.2) ∈ ms ∧ 0 ≤ m.1 ∧ m.1 ≤ b - a := by
  unfold cutM
  rw [List.mem_map]
  constructor
  · rintro ⟨y, hy, rfl⟩
    obtain ⟨h1, h2⟩ := List.mem_filter.mp hy
    simp only [Bool.and_eq_true, Bool.not_eq_true', decide_eq_false_iff_not] at h2
    rw [show (y.1 - a + a, y.2) = y from Prod.ext (by show y.1 - a + a = y.1; grind) rfl]
    exact ⟨h1, by show 0 ≤ y.1 - a; grind, by show y.1 - a ≤ b - a; grind⟩
  · rintro ⟨h1, h2, h3⟩
    refine ⟨_, List.mem_filter.mpr ⟨h1, ?_⟩, Prod.ext (by show m.1 + a - a = m.1; grind) rfl⟩
    simp only [Bool.and_eq_true, Bool.not_eq_true', decide_eq_false_iff_not]
    exact ⟨by show ¬ m.1 + a < a; grind, by show ¬ b < m.1 + a; grind⟩
theorem cutM_up {a b : Rat} {ms : List (Rat × Str)} (h : UpM ms) : UpM (cutM a b ms) := by
  unfold cutM
  refine List.pairwise_map.mpr (List.Pairwise.imp (fun {x y} q => ?_) (h.filter _))
  rcases q with q | q
  · exact .inl (by show x.1 - a < y.1 - a; grind)
  · exact .inr ⟨by show x.1 - a = y.1 - a; rw [q.1], q.2⟩
theorem cutM_len (a b : Rat) (ms : List (Rat × Str)) : (cutM a b ms).length ≤ ms.length := by
  unfold cutM
  rw [List.length_map]
  exact List.length_filter_le _ _
end DL

namespace DL
open PySem PySem.Spec L2
theorem cut_out : ∀ (t : List Pc) (s a b : Rat), (∀ p ∈ t, 0 < p.l) → ¬ s < b → cutT s a b t = []
  | [], _, _, _, _, _ => rfl
  | p :: t, s, a, b, h, c => by
    have hp := h p List.mem_cons_self
    rw [show cutT s a b (p :: t) = (if mx s a < mn (s + p.l) b then [shP p (mn (s + p.l) b - mx s a) (mx s a - s)] else []) ++ cutT (s + p.l) a b t from rfl, cut_out t (s + p.l) a b (fun y hy => h y (List.mem_cons_of_mem _ hy)) (by grind)]
    have h1 := mx_ge s a
    have h2 := mn_le (s + p.l) b
    rw [if_neg (by grind)]
    rfl
theorem cut_cont : ∀ (t : List Pc) (s a b : Rat), Cont t → (∀ p ∈ t, 0 < p.l) → Cont (cutT s a b t)
  | [], _, _, _, _, _ => trivial
  | [p], s, a, b, _, _ => by
    rw [show cutT s a b [p] = (if mx s a < mn (s + p.l) b then [shP p (mn (s + p.l) b - mx s a) (mx s a - s)] else []) ++ [] from rfl, List.append_nil]
    split
    · trivial
    · trivial
  | p :: q :: t, s, a, b, hc, h => by
    have hp := h p List.mem_cons_self
    have ht' : ∀ y ∈ q :: t, 0 < y.l := fun y hy => h y (List.mem_cons_of_mem _ hy)
    have hq := ht' q List.mem_cons_self
    have ih := cut_cont (q :: t) (s + p.l) a b hc.2 ht'
    rw [show cutT s a b (p :: q :: t) = (if mx s a < mn (s + p.l) b then [shP p (mn (s + p.l) b - mx s a) (mx s a - s)] else []) ++ cutT (s + p.l) a b (q :: t) from rfl]
    by_cases c : mx s a < mn (s + p.l) b
    · rw [if_pos c, List.singleton_append]
      by_cases c2 : s + p.l < b
      · have e1 : mn (s + p.l) b = s + p.l := by unfold mn; rw [if_neg (by grind)]
        have e2 : mx (s + p.l) a = s + p.l := by
          have h1 := mx_ge s a
          unfold mx
          rw [if_neg (by grind)]
        have e3 : s + p.l < mn (s + p.l + q.l) b := by unfold mn; split <;> grind
        have e4 : cutT (s + p.l) a b (q :: t) = shP q (mn (s + p.l + q.l) b - (s + p.l)) 0 :: cutT (s + p.l + q.l) a b t := by
          rw [show cutT (s + p.l) a b (q :: t) = (if mx (s + p.l) a < mn (s + p.l + q.l) b then [shP q (mn (s + p.l + q.l) b - mx (s + p.l) a) (mx (s + p.l) a - (s + p.l))] else []) ++ cutT (s + p.l + q.l) a b t from rfl, e2, if_pos e3, List.singleton_append, show s + p.l - (s + p.l) = 0 by grind]
        rw [e4] at ih ⊢
        refine ⟨?_, ih⟩
        show valIn q 0 = valIn (shP p (mn (s + p.l) b - mx s a) (mx s a - s)) (mn (s + p.l) b - mx s a)
        rw [valIn_zero, sh_val, hc.1, e1]
        congr 1
        grind
      · rw [cut_out (q :: t) (s + p.l) a b ht' c2]
        trivial
    · rw [if_neg c, List.nil_append]
      exact ih
/-- a clip as it should be -/
structure GC (c : Clip) : Prop where
  T : ∀ x ∈ c.tr, x.2 ≠ [] ∧ Cont x.2 ∧ (∀ p ∈ x.2, 0 < p.l) ∧ tlen x.2 = c.len
  nd : (c.tr.map (·.1)).Nodup
  mu : UpM c.ms
  mr : ∀ m ∈ c.ms, 0 ≤ m.1 ∧ m.1 ≤ c.len
section
variable {t : List Pc} {a b L : Rat}
theorem mx0 (h : 0 ≤ a) : mx 0 a = a := by unfold mx; split <;> grind
theorem mnL (h : b ≤ L) : mn (0 + L) b = b := by unfold mn; split <;> grind
theorem cut_tlen (hp : ∀ p ∈ t, 0 < p.l) (hl : tlen t = L) (h0 : 0 ≤ a) (h1 : a < b) (h2 : b ≤ L) : tlen (cutT 0 a b t) = b - a := by
  rw [cut_len _ _ _ _ hp, hl, mx0 h0, mnL h2, if_pos h1]
theorem cut_ne0 (hp : ∀ p ∈ t, 0 < p.l) (hl : tlen t = L) (h0 : 0 ≤ a) (h1 : a < b) (h2 : b ≤ L) : cutT 0 a b t ≠ [] := by
  refine cut_ne hp ?_
  rw [hl, mx0 h0, mnL h2]
  exact h1
/-- the value of a cut -/
theorem cut_valA (hc : Cont t) (hp : ∀ p ∈ t, 0 < p.l) (hl : tlen t = L) (h0 : 0 ≤ a) (h1 : a < b) (h2 : b ≤ L) {y : Rat} (y0 : 0 ≤ y) (y1 : y ≤ b - a) : valF 0 y (cutT 0 a b t) = valF 0 (a + y) t := by
  rw [show y = a + y - a by grind, ← valF_off, show a + (a + y - a) = a + y by grind]
  by_cases c : 0 < y
  · have := cut_val t 0 a b (a + y) hp (by rw [mx0 h0]; grind) (by rw [hl, mnL h2]; grind)
    rw [mx0 h0] at this
    exact this
  · have e : a + y = a := by grind
    rw [e]
    exact cut_val0 t 0 a b hc hp h0 h1 (by rw [hl]; grind)
/-- the two cuts at a place, joined -/
theorem cut_join (hc : Cont t) (hp : ∀ p ∈ t, 0 < p.l) (hl : tlen t = L) (h0 : 0 < a) (h1 : a < L) (t0 : t ≠ []) : nrmT (nrmT (cutT 0 0 a t) ++ nrmT (cutT 0 a L t)) = nrmT t := by
  have n1 := cut_ne0 hp hl (Rat.le_refl (a := 0)) h0 (Rat.le_of_lt h1)
  have n2 := cut_ne0 hp hl (Rat.le_of_lt h0) h1 (Rat.le_refl (a := L))
  have l1 := cut_tlen hp hl (Rat.le_refl (a := 0)) h0 (Rat.le_of_lt h1)
  have l2 := cut_tlen hp hl (Rat.le_of_lt h0) h1 (Rat.le_refl (a := L))
  have p1 : ∀ p ∈ nrmT (cutT 0 0 a t), 0 < p.l := nrmT_pos cut_pos
  have p2 : ∀ p ∈ nrmT (cutT 0 a L t), 0 < p.l := nrmT_pos cut_pos
  have e1 : tlen (nrmT (cutT 0 0 a t)) = a := by rw [nrmT_tlen, l1]; grind
  have e2 : tlen (nrmT (cutT 0 a L t)) = L - a := by rw [nrmT_tlen, l2]
  refine nrm_uniq (fun p h => (List.mem_append.mp h).elim (p1 p) (p2 p)) hp (fun z => nrmT_ne n1 (List.append_eq_nil_iff.mp z).1) t0 (by rw [tlen_app, e1, e2, hl]; grind) fun x x0 x1 => ?_
  rw [tlen_app, e1, e2] at x1
  rw [valF_app _ _ _ _ (nrmT_ne n1) (nrmT_ne n2) p1, e1]
  by_cases c : x ≤ 0 + a
  · rw [if_pos c, valF_nrm cut_pos, cut_valA hc hp hl (Rat.le_refl (a := 0)) h0 (Rat.le_of_lt h1) (by grind) (by grind)]
    congr 1
    grind
  · rw [if_neg c, valF_off, valF_nrm cut_pos, cut_valA hc hp hl (Rat.le_of_lt h0) h1 (Rat.le_refl (a := L)) (by grind) (by grind)]
    congr 1
    grind
/-- a cut run back -/
theorem cut_rev (hc : Cont t) (hp : ∀ p ∈ t, 0 < p.l) (hl : tlen t = L) (h0 : 0 ≤ a) (h1 : a < b) (h2 : b ≤ L) (t0 : t ≠ []) : nrmT (revT (nrmT (cutT 0 a b t))) = nrmT (cutT 0 (L - b) (L - a) (nrmT (revT t))) := by
  have n1 := nrmT_ne (cut_ne0 hp hl h0 h1 h2)
  have p1 : ∀ p ∈ nrmT (cutT 0 a b t), 0 < p.l := nrmT_pos cut_pos
  have l1 : tlen (nrmT (cutT 0 a b t)) = b - a := by rw [nrmT_tlen, cut_tlen hp hl h0 h1 h2]
  have c1 : Cont (nrmT (cutT 0 a b t)) := cont_nrm (cut_cont t 0 a b hc hp)
  have rp : ∀ p ∈ nrmT (revT t), 0 < p.l := nrmT_pos (rev_pos hp)
  have rl : tlen (nrmT (revT t)) = L := by rw [nrmT_tlen, rev_tlen, hl]
  have rc : Cont (nrmT (revT t)) := cont_nrm (rev_cont hc)
  have n2 := cut_ne0 (a := L - b) (b := L - a) rp rl (by grind) (by grind) (by grind)
  have l2 := cut_tlen (a := L - b) (b := L - a) rp rl (by grind) (by grind) (by grind)
  refine nrm_uniq (rev_pos p1) cut_pos (rev_ne n1) n2 (by rw [rev_tlen, l1, l2]; grind) fun x x0 x1 => ?_
  rw [rev_tlen, l1] at x1
  have e := rev_val (x := b - a - x) c1 p1 n1 (by grind) (by rw [l1]; grind)
  rw [l1, show b - a - (b - a - x) = x by grind, valF_nrm cut_pos, cut_valA hc hp hl h0 h1 h2 (by grind) (by grind)] at e
  rw [e, cut_valA rc rp rl (by grind) (by grind) (by grind) (by grind) (by grind), valF_nrm (rev_pos hp)]
  have e2 := rev_val (x := a + (b - a - x)) hc hp t0 (by grind) (by rw [hl]; grind)
  rw [← e2, hl]
  congr 1
  grind
end
theorem gc_rev {c : Clip} (h : GC c) : GC (revC c) := by
  refine ⟨fun x hx => ?_, ?_, ordP_up _, fun m hm => ?_⟩
  · obtain ⟨y, hy, rfl⟩ := List.mem_map.mp hx
    obtain ⟨h1, h2, h3, h4⟩ := h.T y hy
    exact ⟨nrmT_ne (rev_ne h1), cont_nrm (rev_cont h2), nrmT_pos (rev_pos h3), by show tlen (nrmT (revT y.2)) = c.len; rw [nrmT_tlen, rev_tlen, h4]⟩
  · show ((c.tr.map fun x => (x.1, nrmT (revT x.2))).map (·.1)).Nodup
    rw [List.map_map]
    exact h.nd
  · have := h.mr _ (revM_mem.mp (ordP_mem.mp hm))
    show 0 ≤ m.1 ∧ m.1 ≤ c.len
    constructor
    · have := this.2; grind
    · have := this.1; grind
theorem rev_cutC {c : Clip} (h : GC c) {a b : Rat} (h0 : 0 ≤ a) (h1 : a < b) (h2 : b ≤ c.len) : revC (cutC a b c) = cutC (c.len - b) (c.len - a) (revC c) := by
  have e1 : (revC (cutC a b c)).len = (cutC (c.len - b) (c.len - a) (revC c)).len := by
    show b - a = c.len - a - (c.len - b)
    grind
  have e2 : (revC (cutC a b c)).tr = (cutC (c.len - b) (c.len - a) (revC c)).tr := by
    show ((c.tr.map fun x => (x.1, nrmT (cutT 0 a b x.2))).map fun x => (x.1, nrmT (revT x.2))) = ((c.tr.map fun x => (x.1, nrmT (revT x.2))).map fun x => (x.1, nrmT (cutT 0 (c.len - b) (c.len - a) x.2)))
    rw [List.map_map, List.map_map]
    refine List.map_congr_left fun x hx => ?_
    obtain ⟨t1, t2, t3, t4⟩ := h.T x hx
    show (x.1, nrmT (revT (nrmT (cutT 0 a b x.2)))) = (x.1, nrmT (cutT 0 (c.len - b) (c.len - a) (nrmT (revT x.2))))
    rw [cut_rev t2 t3 t4 h0 h1 h2 t1]
  have e3 : (revC (cutC a b c)).ms = (cutC (c.len - b) (c.len - a) (revC c)).ms := by
    show ordP (revM (b - a) (ordP (cutM a b c.ms))) = ordP (cutM (c.len - b) (c.len - a) (ordP (revM c.len c.ms)))
    refine ordP_congr fun x => ?_
    rw [revM_mem, ordP_mem, cutM_mem, cutM_mem, ordP_mem, revM_mem]
    show (b - a - x.1 + a, x.2) ∈ c.ms ∧ 0 ≤ b - a - x.1 ∧ b - a - x.1 ≤ b - a ↔ (c.len - (x.1 + (c.len - b)), x.2) ∈ c.ms ∧ 0 ≤ x.1 ∧ x.1 ≤ c.len - a - (c.len - b)
    rw [show b - a - x.1 + a = c.len - (x.1 + (c.len - b)) by grind]
    constructor
    · rintro ⟨q1, q2, q3⟩; exact ⟨q1, by grind, by grind⟩
    · rintro ⟨q1, q2, q3⟩; exact ⟨q1, by grind, by grind⟩
  revert e1 e2 e3
  generalize revC (cutC a b c) = r
  generalize cutC (c.len - b) (c.len - a) (revC c) = u
  intro e1 e2 e3
  cases r
  cases u
  simp only at e1 e2 e3
  rw [e1, e2, e3]
theorem nrm_revC (c : Clip) : nrmC (revC c) = revC c := by
  unfold nrmC revC
  rw [List.map_map]
  congr 1
  refine List.map_congr_left fun x _ => ?_
  show (x.1, nrmT (nrmT (revT x.2))) = _
  rw [nrmT_idem]
end DL

namespace DL
open PySem PySem.Spec L2
def endsT (t : List Pc) : List Rat := (List.range t.length).map fun k => off t (k + 1)
def mixP (w : Rat) (p q : Pc) (l : Rat) : Pc := ⟨l, (1 - w) * p.a + w * q.a, (1 - w) * p.b + w * q.b, (1 - w) * p.c + w * q.c⟩
def hdP (l : List Pc) : Pc := l.getD 0 ⟨0, 0, 0, 0⟩
def mixF (w : Rat) (t u : List Pc) : Rat → List Rat → List Pc
  | _, [] => []
  | s, e :: es => mixP w (hdP (cutT 0 s e t)) (hdP (cutT 0 s e u)) (e - s) :: mixF w t u e es
def mixT (w : Rat) (t u : List Pc) : List Pc := mixF w t u 0 (sortU (endsT t ++ endsT u))
theorem mixP_val (w : Rat) (p q : Pc) (l x : Rat) : valIn (mixP w p q l) x = (1 - w) * valIn p x + w * valIn q x := by
  unfold valIn mixP
  grind
theorem cut_one : ∀ (t : List Pc) (s a b : Rat), (∀ p ∈ t, 0 < p.l) → s ≤ a → a < b → b ≤ s + tlen t → (∀ k, k ≤ t.length → ¬ (a < s + off t k ∧ s + off t k < b)) → ∃ p, cutT s a b t = [p]
  | [], s, a, b, _, h1, h2, h3, _ => by rw [tlen_nil] at h3; grind
  | p :: t, s, a, b, hp, h1, h2, h3, hj => by
    have hpl := hp p List.mem_cons_self
    have ht' : ∀ y ∈ t, 0 < y.l := fun y hy => hp y (List.mem_cons_of_mem _ hy)
    have e0 : cutT s a b (p :: t) = (if mx s a < mn (s + p.l) b then [shP p (mn (s + p.l) b - mx s a) (mx s a - s)] else []) ++ cutT (s + p.l) a b t := rfl
    have e3 : mx s a = a := by unfold mx; split <;> grind
    have j1 := hj 1 (by simp)
    rw [show off (p :: t) 1 = p.l + off t 0 from rfl, off_zero] at j1
    by_cases c : a < s + p.l
    · have c2 : b ≤ s + p.l := by grind
      have e4 : mn (s + p.l) b = b := by unfold mn; split <;> grind
      rw [e0, e3, e4, if_pos h2, cut_out t (s + p.l) a b ht' (by grind)]
      exact ⟨_, rfl⟩
    · have g := mn_le (s + p.l) b
      rw [e0, e3, if_neg (by grind), List.nil_append]
      refine cut_one t (s + p.l) a b ht' (by grind) h2 (by rw [tlen_cons] at h3; grind) fun k hk => ?_
      have := hj (k + 1) (by rw [List.length_cons]; omega)
      rw [show off (p :: t) (k + 1) = p.l + off t k from rfl, show s + (p.l + off t k) = s + p.l + off t k by grind] at this
      exact this
/-- what a stretch of a track is between two places where no pieces meet -/
theorem cut_hd {t : List Pc} {L a b : Rat} (hc : Cont t) (hp : ∀ p ∈ t, 0 < p.l) (hl : tlen t = L) (h0 : 0 ≤ a) (h1 : a < b) (h2 : b ≤ L) (hj : ∀ k, k ≤ t.length → ¬ (a < off t k ∧ off t k < b)) :
    cutT 0 a b t = [hdP (cutT 0 a b t)] ∧ ∀ y, 0 ≤ y → y ≤ b - a → valIn (hdP (cutT 0 a b t)) y = valF 0 (a + y) t := by
  obtain ⟨p, e⟩ := cut_one t 0 a b hp h0 h1 (by rw [hl]; grind) fun k hk => by rw [show (0 : Rat) + off t k = off t k by grind]; exact hj k hk
  have e2 : hdP (cutT 0 a b t) = p := by rw [e]; rfl
  refine ⟨by rw [e2, e], fun y y0 y1 => ?_⟩
  have := cut_valA hc hp hl h0 h1 h2 y0 y1
  rw [e, valF_one, show y - 0 = y by grind] at this
  rw [e2]
  exact this
theorem mixF_snoc (w : Rat) (t u : List Pc) : ∀ (es : List Rat) (s e : Rat), mixF w t u s (es ++ [e]) = mixF w t u s es ++ [mixP w (hdP (cutT 0 (es.getLast?.getD s) e t)) (hdP (cutT 0 (es.getLast?.getD s) e u)) (e - es.getLast?.getD s)]
  | [], _, _ => rfl
  | a :: es, s, e => by
    have ih := mixF_snoc w t u es a e
    have g : (a :: es).getLast?.getD s = es.getLast?.getD a := by
      cases es with
      | nil => rfl
      | cons b es => rw [List.getLast?_cons_cons]; cases h : (b :: es).getLast? with
        | none => simp at h
        | some z => rfl
    rw [g]
    show _ :: mixF w t u a (es ++ [e]) = _ :: (mixF w t u a es ++ _)
    rw [ih]
/-- the places of a stretch's walk: no pieces meet between two that follow one another -/
structure MixI (t u : List Pc) (L s : Rat) (es : List Rat) : Prop where
  up : Up es
  gt : ∀ e ∈ es, s < e
  le : ∀ e ∈ es, e ≤ L
  s0 : 0 ≤ s
  sL : s ≤ L
  jt : ∀ k, k ≤ t.length → s < off t k → off t k ∈ es
  ju : ∀ k, k ≤ u.length → s < off u k → off u k ∈ es
theorem MixI.step {t u : List Pc} {L s e : Rat} {es : List Rat} (h : MixI t u L s (e :: es)) : MixI t u L e es ∧ s < e ∧ e ≤ L ∧ (∀ k, k ≤ t.length → ¬ (s < off t k ∧ off t k < e)) ∧ ∀ k, k ≤ u.length → ¬ (s < off u k ∧ off u k < e) := by
  obtain ⟨h1, h2⟩ := List.pairwise_cons.mp h.up
  have g1 := h.gt e List.mem_cons_self
  have g2 := h.le e List.mem_cons_self
  have j : ∀ v : List Pc, (∀ k, k ≤ v.length → s < off v k → off v k ∈ e :: es) → (∀ k, k ≤ v.length → e < off v k → off v k ∈ es) ∧ ∀ k, k ≤ v.length → ¬ (s < off v k ∧ off v k < e) := fun v hv => ⟨fun k hk q => by
    rcases List.mem_cons.mp (hv k hk (rat_lt_trans g1 q)) with z | z
    · rw [z] at q; grind
    · exact z, fun k hk ⟨q1, q2⟩ => by
    rcases List.mem_cons.mp (hv k hk q1) with z | z
    · rw [z] at q2; grind
    · have := h1 _ z; grind⟩
  obtain ⟨a1, a2⟩ := j t h.jt
  obtain ⟨b1, b2⟩ := j u h.ju
  exact ⟨⟨h2, h1, fun x hx => h.le x (List.mem_cons_of_mem _ hx), by have := h.s0; grind, g2, a1, b1⟩, g1, g2, a2, b2⟩
section
variable {w L : Rat} {t u : List Pc}
theorem mix_all (ct : Cont t) (cu : Cont u) (pt : ∀ p ∈ t, 0 < p.l) (pu : ∀ p ∈ u, 0 < p.l) (lt : tlen t = L) (lu : tlen u = L) : ∀ (es : List Rat) (s : Rat), MixI t u L s es →
    tlen (mixF w t u s es) = L - s ∧ (∀ p ∈ mixF w t u s es, 0 < p.l) ∧ ∀ x, s ≤ x → x ≤ L → es ≠ [] → valF s x (mixF w t u s es) = (1 - w) * valF 0 x t + w * valF 0 x u
  | [], s, h => by
    have e : L = s := by
      refine Decidable.byContradiction fun z => ?_
      have := h.jt t.length (Nat.le_refl _) (by rw [show off t t.length = L from lt]; have := h.sL; grind)
      cases this
    refine ⟨?_, fun p hp => (by cases hp), fun x _ _ z => absurd rfl z⟩
    show tlen [] = L - s
    rw [tlen_nil]
    grind
  | e :: es, s, h => by
    obtain ⟨h1, h2, h3, h4, h5⟩ := h.step
    obtain ⟨i1, i2, i3⟩ := mix_all ct cu pt pu lt lu es e h1
    obtain ⟨_, v1⟩ := cut_hd ct pt lt h.s0 h2 h3 h4
    obtain ⟨_, v2⟩ := cut_hd cu pu lu h.s0 h2 h3 h5
    have ee : mixF w t u s (e :: es) = mixP w (hdP (cutT 0 s e t)) (hdP (cutT 0 s e u)) (e - s) :: mixF w t u e es := rfl
    refine ⟨?_, fun p hp => ?_, fun x x0 x1 _ => ?_⟩
    · rw [ee, tlen_cons, i1]
      show e - s + (L - e) = L - s
      grind
    · rw [ee] at hp
      rcases List.mem_cons.mp hp with z | z
      · rw [z]; show 0 < e - s; grind
      · exact i2 p z
    · rw [ee]
      by_cases c : x ≤ e
      · rw [valF_in (by show x ≤ s + (e - s); grind), mixP_val, v1 _ (by grind) (by grind), v2 _ (by grind) (by grind), show s + (x - s) = x by grind]
      · have ne : es ≠ [] := fun z => by
          subst z
          have := i1
          rw [show mixF w t u e [] = [] from rfl, tlen_nil] at this
          grind
        have ne2 : mixF w t u e es ≠ [] := by
          cases es with
          | nil => exact absurd rfl ne
          | cons b es => exact fun z => nomatch z
        rw [valF_past ne2 (by show s + (e - s) < x; grind), show s + (mixP w (hdP (cutT 0 s e t)) (hdP (cutT 0 s e u)) (e - s)).l = e by show s + (e - s) = e; grind]
        exact i3 x (by grind) x1 ne
theorem off_le {t : List Pc} (h : ∀ p ∈ t, 0 < p.l) {k : Nat} (hk : k ≤ t.length) : off t k ≤ tlen t := (off_rng h hk).2
theorem off_pos {t : List Pc} (h : ∀ p ∈ t, 0 < p.l) {k : Nat} (hk : k + 1 ≤ t.length) : 0 < off t (k + 1) := by
  cases t with
  | nil => simp at hk
  | cons p t =>
    have hp := h p List.mem_cons_self
    have := (off_rng (t := t) (k := k) (fun y hy => h y (List.mem_cons_of_mem _ hy)) (by rw [List.length_cons] at hk; omega)).1
    show 0 < p.l + off t k
    grind
theorem endsT_mem {t : List Pc} {x : Rat} : x ∈ endsT t ↔ ∃ k, k + 1 ≤ t.length ∧ x = off t (k + 1) := by
  unfold endsT
  rw [List.mem_map]
  constructor
  · rintro ⟨k, hk, rfl⟩; exact ⟨k, by have := List.mem_range.mp hk; omega, rfl⟩
  · rintro ⟨k, hk, rfl⟩; exact ⟨k, List.mem_range.mpr (by omega), rfl⟩
theorem mix_start (pt : ∀ p ∈ t, 0 < p.l) (pu : ∀ p ∈ u, 0 < p.l) (lt : tlen t = L) (lu : tlen u = L) : MixI t u L 0 (sortU (endsT t ++ endsT u)) := by
  refine ⟨sortU_up _, fun e he => ?_, fun e he => ?_, Rat.le_refl, ?_, fun k hk h => ?_, fun k hk h => ?_⟩
  · rcases List.mem_append.mp (sortU_mem.mp he) with z | z
    · obtain ⟨k, hk, rfl⟩ := endsT_mem.mp z; exact off_pos pt hk
    · obtain ⟨k, hk, rfl⟩ := endsT_mem.mp z; exact off_pos pu hk
  · rcases List.mem_append.mp (sortU_mem.mp he) with z | z
    · obtain ⟨k, hk, rfl⟩ := endsT_mem.mp z; rw [← lt]; exact off_le pt hk
    · obtain ⟨k, hk, rfl⟩ := endsT_mem.mp z; rw [← lu]; exact off_le pu hk
  · rw [← lt]; exact tlen_nn pt
  · cases k with
    | zero => rw [off_zero] at h; grind
    | succ k => exact sortU_mem.mpr (List.mem_append_left _ (endsT_mem.mpr ⟨k, hk, rfl⟩))
  · cases k with
    | zero => rw [off_zero] at h; grind
    | succ k => exact sortU_mem.mpr (List.mem_append_right _ (endsT_mem.mpr ⟨k, hk, rfl⟩))
theorem mixF_len (w : Rat) (t u : List Pc) : ∀ (es : List Rat) (s : Rat), (mixF w t u s es).length = es.length
  | [], _ => rfl
  | e :: es, s => by
    show (mixF w t u e es).length + 1 = es.length + 1
    rw [mixF_len w t u es e]
theorem endsT_len (t : List Pc) : (endsT t).length = t.length := by unfold endsT; rw [List.length_map, List.length_range]
end
end DL

namespace DL
open PySem PySem.Spec L2
def FV.S : FV → S
  | .d x => .d x
  | .own ds => .bor ds
  | .dic ds => .bdic ds
/-- a cell of an object -/
def cellO : HO → Bool
  | .lst _ => true
  | .dK _ => true
  | .ins _ _ _ => true
  | .tbl _ => true
  | _ => false
section
variable {K : PySem.W.Frag} {H H' Hc Hd : Hp} {F F' : Fz}
theorem FvAt.cell : ∀ {x : FV} {v : V} {ads : List Addr}, FvAt K F H Hc x v ads → ∀ a ∈ ads, ∃ o, Hc a = some o ∧ cellO o = true
  | .d _, _, _, ⟨h1, _⟩, a, ha => by rw [h1] at ha; cases ha
  | .own _, _, _, ⟨p, vs, h1, h2, h3, h4⟩, a, ha => by rw [h2] at ha; rw [List.mem_singleton.mp ha]; exact ⟨_, h3, rfl⟩
  | .dic _, _, _, ⟨p, vs, h1, h2, h3, h4⟩, a, ha => by rw [h2] at ha; rw [List.mem_singleton.mp ha]; exact ⟨_, h3, rfl⟩
theorem FsAt.cell : ∀ {fs : List (Str × FV)} {vs : List (Str × V)} {ads : List Addr}, FsAt K F H Hc fs vs ads → ∀ a ∈ ads, ∃ o, Hc a = some o ∧ cellO o = true
  | [], [], _, h, a, ha => by
    have h' : _ = [] := h
    rw [h'] at ha
    cases ha
  | _ :: _, _ :: _, _, ⟨h1, a1, a2, h2, h3, h4⟩, a, ha => by
    subst h2
    rcases List.mem_append.mp ha with z | z
    · exact FvAt.cell h3 a z
    · exact FsAt.cell h4 a z
  | [], _ :: _, _, h, _, _ => h.elim
  | _ :: _, [], _, h, _, _ => h.elim
theorem ObAt.cell {o : Ob} {ads : List Addr} (h : ObAt K F H Hc o ads) : ∀ a ∈ ads, ∃ o, Hc a = some o ∧ cellO o = true := fun a ha => by
  obtain ⟨vs, as, rfl, h2, h3⟩ := h
  rcases List.mem_cons.mp ha with z | z
  · subst z
    obtain ⟨a0, C, fs⟩ := o
    cases C with
    | some C =>
      obtain ⟨dx, h3⟩ := h3
      exact ⟨_, h3, rfl⟩
    | none =>
      cases fs with
      | nil =>
        obtain ⟨ps, h4, h5⟩ := h3
        exact ⟨_, h4, rfl⟩
      | cons f fs => exact ⟨_, h3, rfl⟩
  · exact FsAt.cell h2 a z
theorem ObsAt.cell : ∀ {os : List Ob} {ads : List Addr}, ObsAt K F H Hc os ads → ∀ a ∈ ads, ∃ o, Hc a = some o ∧ cellO o = true
  | [], _, h, a, ha => by
    have h' : _ = [] := h
    rw [h'] at ha
    cases ha
  | _ :: _, _, ⟨a1, a2, h2, h3, h4⟩, a, ha => by
    subst h2
    rcases List.mem_append.mp ha with z | z
    · exact ObAt.cell h3 a z
    · exact ObsAt.cell h4 a z
theorem ObsAt.mem : ∀ {os : List Ob} {ads : List Addr} {o : Ob}, ObsAt K F H Hc os ads → o ∈ os → ∃ a1, (∀ x ∈ a1, x ∈ ads) ∧ ObAt K F H Hc o a1
  | [], _, _, _, ho => by cases ho
  | _ :: _, _, o, ⟨a1, a2, h2, h3, h4⟩, ho => by
    subst h2
    rcases List.mem_cons.mp ho with z | z
    · subst z
      exact ⟨a1, fun x hx => List.mem_append_left _ hx, h3⟩
    · obtain ⟨a3, h5, h6⟩ := ObsAt.mem h4 z
      exact ⟨a3, fun x hx => List.mem_append_right _ (h5 x hx), h6⟩
theorem ObsAt.sub {os : List Ob} {ads : List Addr} (h : ObsAt K F H Hc os ads) : ∀ {l : List Ob}, (∀ o ∈ l, o ∈ os) → ∃ as, (∀ x ∈ as, x ∈ ads) ∧ ObsAt K F H Hc l as
  | [], _ => ⟨[], fun x hx => (by cases hx), rfl⟩
  | o :: l, hl => by
    obtain ⟨a1, h1, h2⟩ := h.mem (hl o List.mem_cons_self)
    obtain ⟨a2, h3, h4⟩ := ObsAt.sub h (l := l) fun x hx => hl x (List.mem_cons_of_mem _ hx)
    exact ⟨a1 ++ a2, fun x hx => (List.mem_append.mp hx).elim (h1 x) (h3 x), a1, a2, rfl, h2, h4⟩
theorem FsAt.look {f : Str} {x : FV} : ∀ {fs : List (Str × FV)} {vs : List (Str × V)} {ads : List Addr}, FsAt K F H Hc fs vs ads → fs.lookup f = some x → ∃ v as, vs.lookup f = some v ∧ (∀ a ∈ as, a ∈ ads) ∧ FvAt K F H Hc x v as
  | [], [], _, _, h => by cases h
  | (g, y) :: fs, (g', v) :: vs, ads, ⟨h1, a1, a2, h2, h3, h4⟩, e => by
    have h1' : g = g' := h1
    subst h1' h2
    rw [List.lookup_cons] at e ⊢
    split at e
    · have e' := Option.some.inj e
      subst e'
      exact ⟨v, a1, rfl, fun a ha => List.mem_append_left _ ha, h3⟩
    · obtain ⟨v', as, q1, q2, q3⟩ := FsAt.look h4 e
      exact ⟨v', as, q1, fun a ha => List.mem_append_right _ (q2 a ha), q3⟩
  | [], _ :: _, _, h, _ => h.elim
  | _ :: _, [], _, h, _ => h.elim
theorem FsAt.none {f : Str} : ∀ {fs : List (Str × FV)} {vs : List (Str × V)} {ads : List Addr}, FsAt K F H Hc fs vs ads → fs.lookup f = none → vs.lookup f = none
  | [], [], _, _, h => rfl
  | (g, y) :: fs, (g', v) :: vs, ads, ⟨h1, a1, a2, h2, h3, h4⟩, e => by
    have h1' : g = g' := h1
    subst h1'
    rw [List.lookup_cons] at e ⊢
    split at e
    · cases e
    · exact FsAt.none h4 e
  | [], _ :: _, _, h, _ => h.elim
  | _ :: _, [], _, h, _ => h.elim
theorem FsAt.len : ∀ {fs : List (Str × FV)} {vs : List (Str × V)} {ads : List Addr}, FsAt K F H Hc fs vs ads → vs.length = fs.length
  | [], [], _, _ => rfl
  | _ :: _, _ :: _, _, ⟨_, a1, a2, _, _, h4⟩ => by rw [List.length_cons, List.length_cons, FsAt.len h4]
  | [], _ :: _, _, h => h.elim
  | _ :: _, [], _, h => h.elim
theorem FvAt.sr {x : FV} {v : V} {ads : List Addr} (h : FvAt K F H H x v ads) (H0 : Hp) : SR K x.S H0 v H F := by
  cases x with
  | d x => exact h.2
  | own ds => obtain ⟨p, vs, h1, h2, h3, h4⟩ := h; exact ⟨p, vs, h1, h3, h4⟩
  | dic ds => obtain ⟨p, vs, h1, h2, h3, h4⟩ := h; exact ⟨p, vs, h1, .inl h3, h4⟩
end

/-- objects that may be changed here -/
def obsR (l : List Ob) : Res where
  holds K H F A := ∃ ads, ObsAt K F H H l ads ∧ ads.Nodup ∧ ∀ x, A x ↔ x ∈ ads
  stable := fun ⟨ads, h1, h2, h3⟩ m hA => ⟨ads, ObsAt.mon m (fun a ha o z => by rw [hA a ((h3 a).mpr ha)]; exact z) h1, h2, h3⟩
  nx := fun ⟨ads, h1, h2, h3⟩ a vs ha e => by
    obtain ⟨o, h4, h5⟩ := h1.cell a ((h3 a).mp ha)
    rw [e] at h4
    cases h4
    cases h5

section
variable {X : Cx} {W : Exw} {G : List S} {R : Res} {O : Out} {e o tg : Expr} {es : List Expr} {rest : List Stmt} {pos apos p2 : Pos} {s : S} {ss : List S} {l l' : List Ob} {a b C : Addr} {fs : List (Str × FV)} {f m : Str} {d : D} {ds : List D} {xn : Exn}
theorem ev_varO (i : Nat) {x : Str} (hs : G[i]? = some (.bob a l)) (hN : X.N[i]? = some x := by rfl) (hv : Vis X.env.scope x := by first | exact Or.inl rfl | exact Or.inr (Or.inl rfl) | exact Or.inr (Or.inr rfl)) (hd : (x == ("__debug__" : Str)) = false := by decide)
    (hcd : (x == ("__classdict__" : Str)) = false := by decide) : Ev X (.Name x pos) G R (.bob a l) := by
  intro en A σ H F Q st k
  refine ⟨_, pe_var hN hv hd hcd, ?_⟩
  obtain ⟨ow, o, h1, h2, ads, h3, h4⟩ := slot_at st hs
  subst h2
  exact ⟨_, h1, k _ H F (Grow.refl st.ft) ⟨rfl, ads, ObsAt.mon Mon.refl (fun b hb o z => st.fr b o z (h4 b hb)) h3⟩⟩
/-- an object that may be changed is read -/
theorem ev_obR (h : Ev X e G (obsR l) (.d (.obj a))) : Ev X e G (obsR l) (.bob a l) := by
  intro en A σ H F Q st k
  refine h en A σ H F _ st fun v H' F' g r => ?_
  obtain ⟨ads, h1, _, _⟩ := (st.grow g).rs
  exact k v H' F' g ⟨r, ads, h1⟩
theorem ev_varR (i : Nat) {x : Str} (hs : G[i]? = some (.d (.obj a))) (hN : X.N[i]? = some x := by rfl) (hv : Vis X.env.scope x := by first | exact Or.inl rfl | exact Or.inr (Or.inl rfl) | exact Or.inr (Or.inr rfl)) (hd : (x == ("__debug__" : Str)) = false := by decide)
    (hcd : (x == ("__classdict__" : Str)) = false := by decide) : Ev X (.Name x pos) G (obsR l) (.bob a l) := ev_obR (ev_var i hs hN hv hd hcd)
theorem ev_bobS (h : Ev X e G R (.bob a l)) (hl : ∀ o ∈ l', o ∈ l) : Ev X e G R (.bob a l') := by
  intro en A σ H F Q st k
  refine h en A σ H F _ st fun v H' F' g ⟨r, ads, h1⟩ => ?_
  obtain ⟨as, _, h2⟩ := h1.sub hl
  exact k v H' F' g ⟨r, as, h2⟩
/-- what the text says of a class -/
structure KC (K : PySem.W.Frag) (C : Addr) (flds : List Str) : Prop where
  cl : Cls K C
  no : ∀ f ∈ flds, NoAttr K C f
variable {flds : List Str} {x : FV}
theorem ev_fld (h : Ev X e G R (.bob a l)) (c : KC X.K C flds) (ho : ⟨a, some C, fs⟩ ∈ l) (hl : fs.lookup f = some x) (hf : f ∈ flds := by decide) (hb : attributeBase e f X.env (eval e X.env) = eval e X.env := by rfl) :
    Ev X (.Attribute e f pos) G R x.S := by
  intro en A σ H F Q st k
  refine ⟨_, pe_fld pe_t hb, ?_⟩
  refine h en A σ H F _ st fun v H' F' g ⟨r, ads, h1⟩ => ?_
  obtain ⟨a1, _, vs, as, rfl, h3, h4⟩ := h1.mem ho
  obtain ⟨dx, h4⟩ := h4
  obtain ⟨v', as', q1, _, q3⟩ := h3.look hl
  exact ⟨a, C, dx, vs, v', r, h4, c.cl, c.no f hf, q1, k v' H' F' g (q3.sr H)⟩
theorem ev_fldD (h : Ev X e G R (.bob a l)) (c : KC X.K C flds) (ho : ⟨a, some C, fs⟩ ∈ l) (hl : fs.lookup f = some (.d d)) (hf : f ∈ flds := by decide) (hb : attributeBase e f X.env (eval e X.env) = eval e X.env := by rfl) :
    Ev X (.Attribute e f pos) G R (.d d) := ev_fld h c ho hl hf hb
theorem ev_fldB (h : Ev X e G R (.bob a l)) (c : KC X.K C flds) (ho : ⟨a, some C, fs⟩ ∈ l) (hl : fs.lookup f = some (.own ds)) (hf : f ∈ flds := by decide) (hb : attributeBase e f X.env (eval e X.env) = eval e X.env := by rfl) :
    Ev X (.Attribute e f pos) G R (.bor ds) := ev_fld h c ho hl hf hb
theorem ev_fldK {kvs : List (Key × D)} (h : Ev X e G R (.bob a l)) (c : KC X.K C flds) (ho : ⟨a, some C, fs⟩ ∈ l) (hl : fs.lookup f = some (.dic kvs)) (hf : f ∈ flds := by decide) (hb : attributeBase e f X.env (eval e X.env) = eval e X.env := by rfl) :
    Ev X (.Attribute e f pos) G R (.bdic kvs) := ev_fld h c ho hl hf hb
/-- a field that is an object -/
theorem ev_fldO (h : Ev X e G R (.bob a l)) (c : KC X.K C flds) (ho : ⟨a, some C, fs⟩ ∈ l) (hl : fs.lookup f = some (.d (.obj b))) (hf : f ∈ flds := by decide) (hb : attributeBase e f X.env (eval e X.env) = eval e X.env := by rfl) :
    Ev X (.Attribute e f pos) G R (.bob b l) := by
  intro en A σ H F Q st k
  refine ⟨_, pe_fld pe_t hb, ?_⟩
  refine h en A σ H F _ st fun v H' F' g ⟨r, ads, h1⟩ => ?_
  obtain ⟨a1, _, vs, as, rfl, h3, h4⟩ := h1.mem ho
  obtain ⟨dx, h4⟩ := h4
  obtain ⟨v', as', q1, _, q3⟩ := h3.look hl
  exact ⟨a, C, dx, vs, v', r, h4, c.cl, c.no f hf, q1, k v' H' F' g ⟨q3.2, ads, h1⟩⟩
/-- for x in self.f -/
theorem evi_fld (i : Nat) {y : Str} (hs : G[i]? = some (.bob a l)) (c : KC X.K C flds) (ho : ⟨a, some C, fs⟩ ∈ l) (hl : fs.lookup f = some (.own ds)) (hf : f ∈ flds := by decide) (hN : X.N[i]? = some y := by rfl) (hv : Vis X.env.scope y := by first | exact Or.inl rfl | exact Or.inr (Or.inl rfl) | exact Or.inr (Or.inr rfl))
    (hd : (y == ("__debug__" : Str)) = false := by decide) (hcd : (y == ("__classdict__" : Str)) = false := by decide) (hb : attributeBase (.Name y p2) f X.env (eval (.Name y p2) X.env) = eval (.Name y p2) X.env := by rfl) : EvI X tg (.Attribute (.Name y p2) f pos) G R ds := by
  intro en A σ H F Q st k
  refine ⟨_, pi_list (pe_fld (pe_var hN hv hd hcd) hb), ?_⟩
  obtain ⟨ow, o, h1, h2, ads, h3, h4⟩ := slot_at st hs
  subst h2
  obtain ⟨a1, hs1, vs, as, rfl, h5, h6⟩ := h3.mem ho
  obtain ⟨dx, h6⟩ := h6
  obtain ⟨v', as', q1, q2, p, ws, rfl, q3, q4, q5⟩ := h5.look hl
  have hp : ¬ en.A p := h4 p (hs1 p (List.mem_cons_of_mem _ (q2 p (by rw [q3]; exact List.mem_singleton_self p))))
  have ha : ¬ en.A a := h4 a (hs1 a List.mem_cons_self)
  refine ⟨_, h1, a, C, dx, vs, _, rfl, st.fr _ _ h6 ha, c.cl, c.no f hf, q1, p, rfl, ⟨ws, SqL.of (st.fr _ _ q4 hp)⟩, k _ H F (Grow.refl st.ft) fun i H2 F2 m fr => ?_⟩
  have h1' := SqL.of (K := X.K) (fr _ _ q4 hp)
  refine ⟨fun hi => ⟨ws, h1', by rw [q5.length]; exact hi⟩, fun d hd => ?_⟩
  obtain ⟨v, e1, e2⟩ := q5.get hd
  refine ⟨⟨ws, v, h1', e1⟩, fun x H' y => ⟨y.1, ?_⟩⟩
  have e3 := y.2 ws h1'
  rw [e1] at e3
  cases e3
  exact Dn.mon m _ _ e2
/-- over a list that is not changed by the block -/
theorem evg_bor (h : Ev X e G R (.bor ds)) : EvIG X tg e G R ds := by
  intro en A σ H F Q st k
  refine ⟨_, pi_list pe_t, ?_⟩
  refine h en A σ H F _ st fun v H1 F1 g r => ?_
  obtain ⟨p, vs, rfl, h1, h2⟩ := r
  refine ⟨p, rfl, ⟨vs, SqL.of h1⟩, k _ H1 F1 g fun i H2 F2 g2 _ => ?_⟩
  have h1' := SqL.of (K := X.K) (g2.h _ _ h1)
  refine ⟨fun hi => ⟨vs, h1', by rw [h2.length]; exact hi⟩, fun d hd => ?_⟩
  obtain ⟨v, e1, e2⟩ := h2.get hd
  refine ⟨⟨vs, v, h1', e1⟩, fun x H' y => ⟨y.1, ?_⟩⟩
  have e3 := y.2 vs h1'
  rw [e1] at e3
  cases e3
  exact Dn.mon g2.mon _ _ e2
end

/-! ### methods that change nothing -/
/-- a method by its contract -/
structure Mtd (P : Program) (w : World) (K : PySem.W.Frag) (mg : Str → Option Value) (base : Heap) (C : Addr) (m : Str) (k : Nat) (Ct : Ct) : Prop where
  ex : ∃ (f : Addr) (fd : FuncData) (ps : List Str), FnOk P w K mg base (L2.CX P w) k f fd ps (spD K Ct) ∧ Meth K C m f ∧ Binds K fd ps []
  cl : Cls K C
/-- a property by its contract -/
structure Prp (P : Program) (w : World) (K : PySem.W.Frag) (mg : Str → Option Value) (base : Heap) (C : Addr) (m : Str) (k : Nat) (Ct : Ct) : Prop where
  ex : ∃ (p f : Addr) (fd : FuncData) (ps : List Str), FnOk P w K mg base (L2.CX P w) k f fd ps (spD K Ct) ∧ PropOf K C m p f ∧ Binds K fd ps []
  cl : Cls K C
section
variable {X : Cx} {CX : CXT} {k : Nat} {f C : Addr} {fd : FuncData} {ps : List Str} {sp : Sp} {E : L2.St → XK} {m : Str} {pos apos : Pos} {e o : Expr} {es : List Expr} {ta : TE} {t : TA}
def tMethAt (C : Addr) (m : Str) (sp : Sp) (E : L2.St → XK) (ta : TE) (t : TA) : TE := fun σ H Q => ta σ H fun x H1 => ∃ a dx fs, x = .ref a ∧ H1 a = some (.ins C dx fs) ∧ fs.lookup m = none ∧ t σ H1 fun vs H2 => sp (x :: vs) H2 Q (E σ)
theorem pe_methAt {pl : Sem Bool} (he : PE X o ta) (c : Cls X.K C) (hm : Meth X.K C m f) (F : FnOk X.prog X.w X.K X.mg X.base CX k f fd ps sp) (hr : Room k X.A) (hb : Binds X.K fd ps []) (hx : ∀ σ, PassesAt CX X σ (E σ)) (ha : PA X (e :: es) t)
    (hst : starEach (e :: es) X.env = (false, eval e X.env) :: starEach es X.env) (hpl : (backTo pos (starEach es X.env)).any (·.1) = false)
    (ht : eval (.Call (.Attribute o m apos) (e :: es) [] pos) X.env = (do
      let ov ← eval o X.env
      standAt apos.atName
      let (f, first) ← holding [ov] (getMethod ov m pl)
      callWith pos f first (backTo pos (starEach (e :: es) X.env)) (backToKw pos (keywordEach [] X.env)))) :
    PE X (.Call (.Attribute o m apos) (e :: es) [] pos) (tMethAt C m sp E ta t) := by
  refine ⟨fun pins s σ H Q I h => ?_⟩
  refine PySem.W.methodCall_KW (pl := pl) (thn (he.run pins s σ H _ I h) fun u s1 ⟨x, H1, I1, rx, a, dx, fs, ex, ea, l, q⟩ => ?_) ht
  subst ex
  obtain rfl : u = Value.ref a := rx
  refine getmeth_ok I1 ea c hm l ?_
  refine PySem.W.callWith_K (first := [.ref a]) (h₀ := X.base) I.ok.mod.kin hm.kp (thn (ha.run pos pins s1 σ H1 _ I1 q) fun us s2 ⟨vs, H2, I2, r, q2⟩ => ⟨I2.kIn, ?_⟩) hst hpl
  exact run_fnS (us := .ref a :: us) (vs := .ref a :: vs) F hr hb (hx σ) I2 (.cons rfl r) q2
theorem pe_methAt0 {pl : Sem Bool} (he : PE X o ta) (c : Cls X.K C) (hm : Meth X.K C m f) (F : FnOk X.prog X.w X.K X.mg X.base CX k f fd ps sp) (hr : Room k X.A) (hb : Binds X.K fd ps []) (hx : ∀ σ, PassesAt CX X σ (E σ))
    (ht : eval (.Call (.Attribute o m apos) [] [] pos) X.env = (do
      let ov ← eval o X.env
      standAt apos.atName
      let (f, first) ← holding [ov] (getMethod ov m pl)
      callWith pos f first (backTo pos (starEach [] X.env)) (backToKw pos (keywordEach [] X.env)))) :
    PE X (.Call (.Attribute o m apos) [] [] pos) (tMethAt C m sp E ta tNil) := by
  refine ⟨fun pins s σ H Q I h => ?_⟩
  refine PySem.W.methodCall_KW (pl := pl) (thn (he.run pins s σ H _ I h) fun u s1 ⟨x, H1, I1, rx, a, dx, fs, ex, ea, l, q⟩ => ?_) ht
  subst ex
  obtain rfl : u = Value.ref a := rx
  refine getmeth_ok I1 ea c hm l ?_
  exact PySem.W.callWith_K0 (first := [.ref a]) I1.kIn hm.kp (run_fnS (us := [.ref a]) (vs := [.ref a]) F hr hb (hx σ) I1 (.cons rfl .nil) q)
end
section
variable {X : Cx} {W : Exw} {G : List S} {R : Res} {O : Out} {e o tg : Expr} {es : List Expr} {rest : List Stmt} {pos apos p2 : Pos} {s : S} {ss : List S} {l l' : List Ob} {a b C : Addr} {fs : List (Str × FV)} {f m : Str} {d : D} {ds : List D} {xn : Exn} {Ct : Ct} {k j : Nat} {pl : Sem Bool}
theorem ev_meth (M : Mtd X.prog X.w X.K X.mg X.base C m k Ct) (hr : Room j X.A) (hk : k ≤ j) (h : Ev X o G R (.bob a l)) (ho : ⟨a, some C, fs⟩ ∈ l) (hno : fs.lookup m = none) (ha : EvA X (e :: es) G R ss) (hC : Ct (.bob a l' :: ss) (.ret s)) (hl : ∀ o ∈ l', o ∈ l)
    (hss : ss.all S.arg = true := by rfl)
    (hst : starEach (e :: es) X.env = (false, eval e X.env) :: starEach es X.env := by rfl) (hpl : (backTo pos (starEach es X.env)).any (·.1) = false := by rfl)
    (ht : eval (.Call (.Attribute o m apos) (e :: es) [] pos) X.env = (do
      let ov ← eval o X.env
      standAt apos.atName
      let (f, first) ← holding [ov] (getMethod ov m pl)
      callWith pos f first (backTo pos (starEach (e :: es) X.env)) (backToKw pos (keywordEach [] X.env))) := by rfl) : Ev X (.Call (.Attribute o m apos) (e :: es) [] pos) G R s := by
  intro en A σ H F Q st q
  obtain ⟨f, fd, ps, h1, h2, h3⟩ := M.ex
  refine ⟨_, pe_meth pe_t M.cl h2 h1 (hr.mono hk) h3 .nil passL pa_t hst hpl ht, ?_⟩
  refine h en A σ H F _ st fun v H1 F1 g1 ⟨r, ads, r1⟩ => ?_
  subst r
  obtain ⟨a1, _, vs, as, rfl, h5, h6⟩ := r1.mem ho
  obtain ⟨dx, h6⟩ := h6
  refine ⟨a, dx, vs, rfl, h6, h5.none hno, ?_⟩
  refine ha en A σ H1 F1 _ (st.grow g1) fun us H2 F2 g2 r2 => ?_
  rw [List.append_nil]
  obtain ⟨as', _, r3⟩ := (ObsAt.mon g2.mon (fun a _ o z => g2.h a o z) r1).sub hl
  refine ⟨F2, .bob a l' :: ss, .ret s, hC, g2.t, ⟨⟨rfl, as', r3⟩, srs_here hss r2⟩, fun v H3 F3 g3 r3 => q v H3 F3 ((g1.trans g2).trans g3) (SR.pre (g1.trans g2).nn r3)⟩
theorem ev_meth0 (M : Mtd X.prog X.w X.K X.mg X.base C m k Ct) (hr : Room j X.A) (hk : k ≤ j) (h : Ev X o G R (.bob a l)) (ho : ⟨a, some C, fs⟩ ∈ l) (hno : fs.lookup m = none) (hC : Ct [.bob a l'] (.ret s)) (hl : ∀ o ∈ l', o ∈ l)
    (ht : eval (.Call (.Attribute o m apos) [] [] pos) X.env = (do
      let ov ← eval o X.env
      standAt apos.atName
      let (f, first) ← holding [ov] (getMethod ov m pl)
      callWith pos f first (backTo pos (starEach [] X.env)) (backToKw pos (keywordEach [] X.env))) := by rfl) : Ev X (.Call (.Attribute o m apos) [] [] pos) G R s := by
  intro en A σ H F Q st q
  obtain ⟨f, fd, ps, h1, h2, h3⟩ := M.ex
  refine ⟨_, pe_meth0 pe_t M.cl h2 h1 (hr.mono hk) h3 .nil passL ht, ?_⟩
  refine h en A σ H F _ st fun v H1 F1 g1 ⟨r, ads, r1⟩ => ?_
  subst r
  obtain ⟨a1, _, vs, as, rfl, h5, h6⟩ := r1.mem ho
  obtain ⟨dx, h6⟩ := h6
  refine ⟨a, dx, vs, rfl, h6, h5.none hno, ?_⟩
  obtain ⟨as', _, r3⟩ := r1.sub hl
  exact ⟨F1, [.bob a l'], .ret s, hC, g1.t, ⟨⟨rfl, as', r3⟩, trivial⟩, fun v H3 F3 g3 r3 => q v H3 F3 (g1.trans g3) (SR.pre g1.nn r3)⟩
/-- .. that raises -/
theorem evx_meth (M : Mtd X.prog X.w X.K X.mg X.base C m k Ct) (hr : Room j X.A) (hk : k ≤ j) (h : Ev X o G R (.bob a l)) (ho : ⟨a, some C, fs⟩ ∈ l) (hno : fs.lookup m = none) (ha : EvA X (e :: es) G R ss) (hC : Ct (.bob a l' :: ss) (.exc xn)) (hl : ∀ o ∈ l', o ∈ l)
    (hss : ss.all S.arg = true := by rfl)
    (hst : starEach (e :: es) X.env = (false, eval e X.env) :: starEach es X.env := by rfl) (hpl : (backTo pos (starEach es X.env)).any (·.1) = false := by rfl)
    (ht : eval (.Call (.Attribute o m apos) (e :: es) [] pos) X.env = (do
      let ov ← eval o X.env
      standAt apos.atName
      let (f, first) ← holding [ov] (getMethod ov m pl)
      callWith pos f first (backTo pos (starEach (e :: es) X.env)) (backToKw pos (keywordEach [] X.env))) := by rfl) : EvX X (.Call (.Attribute o m apos) (e :: es) [] pos) G R xn := by
  intro W en A σ H H0 F F0 Q tk mn st hw
  obtain ⟨f, fd, ps, h1, h2, h3⟩ := M.ex
  refine ⟨_, pe_methAt pe_t M.cl h2 h1 (hr.mono hk) h3 (fun σ => passAt tk σ) pa_t hst hpl ht, ?_⟩
  refine h en A σ H F _ st fun v H1 F1 g1 ⟨r, ads, r1⟩ => ?_
  subst r
  obtain ⟨a1, _, vs, as, rfl, h5, h6⟩ := r1.mem ho
  obtain ⟨dx, h6⟩ := h6
  refine ⟨a, dx, vs, rfl, h6, h5.none hno, ?_⟩
  refine ha en A σ H1 F1 _ (st.grow g1) fun us H2 F2 g2 r2 => ?_
  obtain ⟨as', _, r3⟩ := (ObsAt.mon g2.mon (fun a _ o z => g2.h a o z) r1).sub hl
  refine ⟨F2, .bob a l' :: ss, .exc xn, hC, g2.t, ⟨⟨rfl, as', r3⟩, srs_here hss r2⟩, fun cls d H3 F3 g3 hx => ?_⟩
  have g := (g1.trans g2).trans g3
  exact ⟨xn, G, R, A, F3, hw, st.grow g, hx, mn.trans g.mon⟩
/-- a property -/
theorem ev_prop (M : Prp X.prog X.w X.K X.mg X.base C m k Ct) (hr : Room j X.A) (hk : k + 1 ≤ j) (h : Ev X o G R (.bob a l)) (ho : ⟨a, some C, fs⟩ ∈ l) (hC : Ct [.bob a l'] (.ret s)) (hl : ∀ o ∈ l', o ∈ l) (hb : attributeBase o m X.env (eval o X.env) = eval o X.env := by rfl) :
    Ev X (.Attribute o m pos) G R s := by
  intro en A σ H F Q st q
  obtain ⟨p, f, fd, ps, h1, h2, h3⟩ := M.ex
  refine ⟨_, pe_prop pe_t M.cl h2 h1 (hr.mono hk) h3 .nil passL hb, ?_⟩
  refine h en A σ H F _ st fun v H1 F1 g1 ⟨r, ads, r1⟩ => ?_
  subst r
  obtain ⟨a1, _, vs, as, rfl, h5, h6⟩ := r1.mem ho
  obtain ⟨dx, h6⟩ := h6
  refine ⟨a, dx, vs, rfl, h6, ?_⟩
  obtain ⟨as', _, r3⟩ := r1.sub hl
  exact ⟨F1, [.bob a l'], .ret s, hC, g1.t, ⟨⟨rfl, as', r3⟩, trivial⟩, fun v H3 F3 g3 r3 => q v H3 F3 (g1.trans g3) (SR.pre g1.nn r3)⟩
end
end DL

namespace DL
open PySem PySem.Spec L2
/-- what is asked and what comes of it: arguments, objects ahead, ends with the objects behind -/
abbrev CtR := List S → List Ob → (Oc → List Ob → Prop) → Prop
def OcR (K : PySem.W.Frag) (H : Hp) (F : Fz) (A : Addr → Prop) (Q : VK) (E : XK) (l : List Ob) : Oc → Prop
  | .ret r => ∀ v H' F' A', Fin K ⟨H, F, A⟩ (obsR l) A' H' F' → SR K r H v H' F' → Apart A' r v → Q v H'
  | .exc x => ∀ cls d H' F' A', Fin K ⟨H, F, A⟩ (obsR l) A' H' F' → ExnOk K F' H' x cls d → E cls d H'
def S.plain : S → Bool
  | .any => true
  | .d _ => true
  | _ => false
structure Live (H : Hp) (F : Fz) (A : Addr → Prop) : Prop where
  ft : ∀ a, F a → H a ≠ none
  at_ : ∀ a, A a → H a ≠ none ∧ ¬ F a
/-- arguments: data; where no object goes along, lists that stay too -/
def okArgs (ss : List S) (l : List Ob) : Prop := ss.all S.plain = true ∨ (l = [] ∧ ss.all S.arg = true)
theorem arg_of_plain : ∀ {ss : List S}, ss.all S.plain = true → ss.all S.arg = true
  | [], _ => rfl
  | s :: ss, h => by
    rw [List.all_cons, Bool.and_eq_true] at h ⊢
    refine ⟨?_, arg_of_plain h.2⟩
    have := h.1
    cases s with
    | any => rfl
    | d x => rfl
    | _ => cases this
theorem okArgs.arg {ss : List S} {l : List Ob} (h : okArgs ss l) : ss.all S.arg = true := h.elim arg_of_plain fun z => z.2
def spR (K : PySem.W.Frag) (C : CtR) : Sp := fun vs H Q E => ∃ (F : Fz) (A : Addr → Prop) (ss : List S) (l : List Ob) (post : Oc → List Ob → Prop), C ss l post ∧ Live H F A ∧ (obsR l).holds K H F A ∧ okArgs ss l ∧ SRs K ss H vs H F ∧
  ∀ oc l', post oc l' → OcR K H F A Q E l' oc
theorem slots_startR {K : PySem.W.Frag} {H : Hp} {F : Fz} {A : Addr → Prop} (ow : Addr → Nat) (m : Nat) : ∀ {ss : List S} {vs : List V} (n : Nat), ss.all S.plain = true → SRs K ss H vs H F →
    ∀ (i : Nat) (s : S), (ss ++ List.replicate m S.any)[i]? = some s → ∃ o, (vs.map some ++ List.replicate m none)[i]? = some o ∧ SlotOk K ⟨H, F, A⟩ ow H F A n s o
  | [], [], n, _, _, i, s, h => by
    rw [List.nil_append, List.getElem?_replicate] at h
    split at h
    · cases h
      refine ⟨none, ?_, trivial⟩
      rw [List.map_nil, List.nil_append, List.getElem?_replicate, if_pos (by assumption)]
    · cases h
  | [], _ :: _, _, _, h, _, _, _ => h.elim
  | _ :: _, [], _, _, h, _, _, _ => h.elim
  | t :: ss, v :: vs, n, p, h, 0, s, e => by
    have e' : t = s := Option.some.inj e
    subst e'
    refine ⟨some v, rfl, ?_⟩
    have r := h.1
    rw [List.all_cons, Bool.and_eq_true] at p
    cases t with
    | any => trivial
    | d x => exact ⟨v, rfl, r⟩
    | _ => exact absurd p.1 (fun z => nomatch z)
  | t :: ss, v :: vs, n, p, h, i + 1, s, e => by
    rw [List.all_cons, Bool.and_eq_true] at p
    exact slots_startR ow m n p.2 h.2 i s e
section
variable {P : Program} {w : World} {K : PySem.W.Frag} {mg : Str → Option Value} {base : Heap}
/-- a def that changes objects keeps its contract -/
theorem fn_mkR {x qual : Str} {params : Arguments} {body : List Stmt} {scope : Scope} {dvs : List V} {kws : List (Str × V)} {f : Addr} {fd : FuncData} {N ps : List Str} {k : Nat} {C : CtR} (F : FunD K x qual params body scope dvs kws f fd) (S' : FnScope N ps scope)
    (hlen : ∀ ss l post, C ss l post → ss.length = ps.length)
    (hbody : ∀ (cdv : Value) (A : Around) (outer : List Env) (s : Shared) (H : Hp) (E : XK), Room k (A.deeper (PyProof.Rows.envOfC qual scope s.heap.objs.size f cdv)) →
      PassesOwn (model P w) (A.deeper (PyProof.Rows.envOfC qual scope s.heap.objs.size f cdv)) (PyProof.Rows.envOfC qual scope s.heap.objs.size f cdv) (cxOf (L2.CX P w) P w K mg base N qual scope f cdv A outer s H E).xe → ∀ ss l post, C ss l post → okArgs ss l →
      Ex (cxOf (L2.CX P w) P w K mg base N qual scope f cdv A outer s H E) (fun x _ R => ∃ l', R = obsR l' ∧ post (.exc x) l') body (ss ++ List.replicate (N.length - ps.length) S.any) (obsR l)
        { nx := fun _ R => ∃ l', R = obsR l' ∧ post (.ret (.d .non)) l', rt := fun s R => ∃ l', R = obsR l' ∧ post (.ret s) l' }) :
    FnOk P w K mg base (L2.CX P w) (k + 1) f fd ps (spR K C) := by
  have len : ∀ vs H Q E, spR K C vs H Q E → vs.length = ps.length := fun vs H Q E h => by
    obtain ⟨F, A, ss, l, post, h1, h2, h3, h4, h5, h6⟩ := h
    rw [h5.length]
    exact hlen ss l post h1
  refine F.ok S' len fun cdv A outer s H vs Q E hr hsp => ?_
  have hvl := len vs H Q E hsp
  obtain ⟨F, A0, ss, l, post, h1, h2, h3, h4, h5, h6⟩ := hsp
  have hl := hlen ss l post h1
  have tk0 : Takes (cxOf (L2.CX P w) P w K mg base N qual scope f cdv A outer s H E) (fun cls d _ H => E cls d H) := takes_of rfl rfl rfl rfl
  have hp : PassesOwn (model P w) (A.deeper (PyProof.Rows.envOfC qual scope s.heap.objs.size f cdv)) (PyProof.Rows.envOfC qual scope s.heap.objs.size f cdv) (cxOf (L2.CX P w) P w K mg base N qual scope f cdv A outer s H E).xe := PassesOwn.leaving
  have st : Sta K ⟨H, F, A0⟩ (ss ++ List.replicate (N.length - ps.length) S.any) (obsR l) A0 (start N vs) H F := by
    refine ⟨fun a o h _ => h, fun a h => h, fun a h => h, fun a h => .inl h, h2.ft, fun a h => ⟨(h2.at_ a h).1, (h2.at_ a h).2, .inl h⟩, h3, ?_, fun _ => 0, fun i t ht => ?_⟩
    · unfold L2.start
      rw [List.length_append, List.length_append, List.length_replicate, List.length_replicate, List.length_map, hl, hvl]
    · unfold L2.start
      rw [hvl]
      rcases h4 with h4' | ⟨rfl, h4'⟩
      · obtain ⟨o, k1, k2⟩ := slots_startR (K := K) (F := F) (A := A0) (fun _ => 0) (N.length - ps.length) 0 h4' h5 i t ht
        refine ⟨o, k1, ?_⟩
        have ts : t = .any ∨ ∃ x, t = .d x := by
          have := List.mem_of_getElem? ht
          rcases List.mem_append.mp this with z | z
          · have q := List.all_eq_true.mp h4' t z
            cases t with
            | any => exact .inl rfl
            | d x => exact .inr ⟨x, rfl⟩
            | _ => cases q
          · exact .inl (List.eq_of_mem_replicate z)
        rcases ts with rfl | ⟨x, rfl⟩
        · trivial
        · exact k2
      · obtain ⟨ads, e1, _, e2⟩ := h3
        have e1' : ads = [] := e1
        subst e1'
        have eA : A0 = fun _ => False := funext fun x => propext ⟨fun z => (List.not_mem_nil ((e2 x).mp z)).elim, fun z => z.elim⟩
        subst eA
        obtain ⟨o, k1, k2⟩ := slots_start (K := K) (F := F) (fun _ => 0) (N.length - ps.length) 0 h5 i t ht
        refine ⟨o, k1, ?_⟩
        cases t with
        | own ds => obtain ⟨a, vs, z1, z2, z3, z4, z5, z6, z7⟩ := k2; have z7' : H a = none := z7; rw [z7'] at z5; cases z5
        | dic ds => obtain ⟨a, vs, z1, z2, z3, z4, z5, z6, z7⟩ := k2; have z7' : H a = none := z7; rw [z7'] at z5; cases z5
        | any => exact k2
        | d x => exact k2
        | bor x => exact k2
        | scr x => exact k2
        | bdic x => exact k2
        | bob a l => exact k2
        | ldic a l => exact k2
        | exn a dd fs => exact k2
  refine ⟨_, pss_t, hbody cdv A outer s H E hr hp ss l post h1 h4 ⟨H, F, A0⟩ A0 (start N vs) H F _ st ⟨tk0.imp fun cls d σ H' hw => ?_, fun G R A σ H' F' h s' m => ?_, fun s R A' v H' F' h s' r ap => ?_, fun _ _ _ _ _ _ h => h.elim, fun _ _ _ _ _ _ h => h.elim⟩⟩
  · obtain ⟨x, G, R, A', F', ⟨l', rfl, hw⟩, s', hx, _⟩ := hw
    exact h6 _ l' hw cls d H' F' A' s'.fin hx
  · obtain ⟨l', rfl, hw⟩ := h
    exact h6 _ l' hw .non H' F' A s'.fin rfl trivial
  · obtain ⟨l', rfl, hw⟩ := h
    exact h6 _ l' hw v H' F' A' s' r ap
end
/-- a def of the module that changes objects -/
structure FnC (P : Program) (w : World) (K : PySem.W.Frag) (mg : Str → Option Value) (base : Heap) (x : Str) (k : Nat) (C : CtR) : Prop where
  ex : ∃ (f : Addr) (fd : FuncData) (ps : List Str), FnOk P w K mg base (L2.CX P w) k f fd ps (spR K C) ∧ mg x = some (.ref f) ∧ PySem.W.keepIn K (.ref f) = true ∧ Binds K fd ps []
/-- a method that changes objects -/
structure MtdC (P : Program) (w : World) (K : PySem.W.Frag) (mg : Str → Option Value) (base : Heap) (C : Addr) (m : Str) (k : Nat) (Ct : CtR) : Prop where
  ex : ∃ (f : Addr) (fd : FuncData) (ps : List Str), FnOk P w K mg base (L2.CX P w) k f fd ps (spR K Ct) ∧ Meth K C m f ∧ Binds K fd ps []
  cl : Cls K C
/-- a class whose instances are made -/
structure MkC (P : Program) (w : World) (K : PySem.W.Frag) (mg : Str → Option Value) (base : Heap) (x : Str) (C : Addr) (k : Nat) (Ct : CtR) : Prop where
  ex : ∃ (f : Addr) (fd : FuncData) (ps : List Str), FnOk P w K mg base (L2.CX P w) k f fd ps (spR K Ct) ∧ Mk K C f ∧ Binds K fd ps []
  g : mg x = some (.ref C)

/-! ### objects in the state -/
section
variable {K : PySem.W.Frag} {en : En} {G : List S} {A : Addr → Prop} {σ : L2.St} {H H' : Hp} {F F' : Fz} {l l1 l2 : List Ob}
theorem ObsAt.append {Hc : Hp} : ∀ {l1 l2 : List Ob} {a1 a2 : List Addr}, ObsAt K F H Hc l1 a1 → ObsAt K F H Hc l2 a2 → ObsAt K F H Hc (l1 ++ l2) (a1 ++ a2)
  | [], _, _, _, h1, h2 => by
    have h' : _ = [] := h1
    rw [h']
    exact h2
  | _ :: _, _, _, _, ⟨b1, b2, rfl, h3, h4⟩, h2 => ⟨b1, b2 ++ _, by rw [List.append_assoc], h3, ObsAt.append h4 h2⟩
theorem ObsAt.split {Hc : Hp} : ∀ {l1 l2 : List Ob} {as : List Addr}, ObsAt K F H Hc (l1 ++ l2) as → ∃ a1 a2, as = a1 ++ a2 ∧ ObsAt K F H Hc l1 a1 ∧ ObsAt K F H Hc l2 a2
  | [], _, as, h => ⟨[], as, rfl, rfl, h⟩
  | _ :: _, _, _, ⟨b1, b2, rfl, h3, h4⟩ => by
    obtain ⟨a1, a2, rfl, h5, h6⟩ := ObsAt.split h4
    exact ⟨b1 ++ a1, a2, by rw [List.append_assoc], ⟨b1, a1, rfl, h3, h5⟩, h6⟩
theorem not_tup {o : HO} (h : cellO o = true) : (∀ xs, o ≠ .tup xs) ∧ (∀ b xs, o ≠ .frz b (.tup xs)) := by
  refine ⟨fun xs z => ?_, fun b xs z => ?_⟩
  · subst z; exact nomatch (show (false = true) from h)
  · subst z; exact nomatch (show (false = true) from h)
/-- a callee has changed objects alone -/
theorem Fin.mon {R' : Res} {A1 A1' : Addr → Prop} (hl : (obsR l).holds K H F A1) (nf : ∀ a, A1 a → ¬ F a) (f : Fin K ⟨H, F, A1⟩ R' A1' H' F') : Mon H F H' F' := by
  obtain ⟨ads, h1, h2, h3⟩ := hl
  refine ⟨fun a h => f.f0 a h, fun a xs h => ?_, fun a xs h e => f.fr a _ e fun z => nf a z h⟩
  have na : ¬ A1 a := fun z => by
    obtain ⟨o, h4, h5⟩ := h1.cell a ((h3 a).mp z)
    obtain ⟨h6, h7⟩ := not_tup h5
    rcases h with h | ⟨b, h⟩
    · rw [h] at h4; exact h6 xs (Option.some.inj h4).symm
    · rw [h] at h4; exact h7 b xs (Option.some.inj h4).symm
  rcases h with h | ⟨b, h⟩
  · exact .inl (f.fr a _ h na)
  · exact .inr ⟨b, f.fr a _ h na⟩
theorem chg_at {l1' : List Ob} {a1 a2 : List Addr} {A1' : Addr → Prop} (st : Sta K en G (obsR (l1 ++ l2)) A σ H F) (h4 : ObsAt K F H H l1 a1) (h5 : ObsAt K F H H l2 a2) (h2 : (a1 ++ a2).Nodup) (h3 : ∀ x, A x ↔ x ∈ a1 ++ a2)
    (f : Fin K ⟨H, F, fun a => a ∈ a1⟩ (obsR l1') A1' H' F') (m : Mon H F H' F') : ∃ A', Sta K en G (obsR (l1' ++ l2)) A' σ H' F' ∧ (∀ a, A' a → A1' a ∨ a ∈ a2) := by
  have nd := List.nodup_append.mp h2
  have nf : ∀ a, a ∈ a1 → ¬ F a := fun a ha => (st.at_ a ((h3 a).mpr (List.mem_append_left _ ha))).2.1
  have A1A : ∀ a, a ∈ a1 → A a := fun a ha => (h3 a).mpr (List.mem_append_left _ ha)
  have keep : ∀ a o, ¬ A a → H a = some o → H' a = some o := fun a o na e => f.fr a o e fun z => na (A1A a z)
  obtain ⟨b1, k1, k2, k3⟩ := f.rs
  have a2n : ∀ a, a ∈ a2 → a ∉ a1 := fun a ha z => nd.2.2 a z a ha rfl
  have fresh : ∀ a, A1' a → ∀ o, H a = some o → a ∈ a1 := fun a ha o e => by
    rcases (f.at_ a ha).2.2 with z | z
    · exact z
    · have z' : H a = none := z
      rw [z'] at e; cases e
  have live2 : ∀ a, a ∈ a2 → ∃ o, H a = some o := fun a ha => by
    obtain ⟨o, h, _⟩ := h5.cell a ha
    exact ⟨o, h⟩
  refine ⟨fun x => A1' x ∨ x ∈ a2, ⟨fun a o e na => ?_, fun a e => f.th a (st.th a e), fun a h => f.f0 a (st.f0 a h), fun a h => ?_, f.ft, fun a h => ?_, ⟨b1 ++ a2, ObsAt.append k1 (ObsAt.mon m (fun a ha o e => f.fr a o e (a2n a ha)) h5), ?_, fun x => by show A1' x ∨ x ∈ a2 ↔ _; rw [List.mem_append, k3]⟩, st.len, ?_⟩, fun a h => h⟩
  · refine f.fr a o (st.fr a o e na) fun z => ?_
    rcases (st.at_ a (A1A a z)).2.2 with y | y
    · exact na y
    · rw [y] at e; cases e
  · rcases f.f1 a h with z | z
    · exact st.f1 a z
    · exact .inr (st.nn a z)
  · rcases h with h | h
    · obtain ⟨q1, q2, q3⟩ := f.at_ a h
      refine ⟨q1, q2, ?_⟩
      rcases q3 with z | z
      · exact (st.at_ a (A1A a z)).2.2
      · exact .inr (st.nn a z)
    · obtain ⟨o, ho⟩ := live2 a h
      have hA := (h3 a).mpr (List.mem_append_right _ h)
      obtain ⟨q1, q2, q3⟩ := st.at_ a hA
      refine ⟨f.th a q1, fun z => ?_, q3⟩
      rcases f.f1 a z with y | y
      · exact q2 y
      · exact q1 y
  · refine List.nodup_append.mpr ⟨k2, nd.2.1, fun x hx y hy e => ?_⟩
    subst e
    obtain ⟨o, ho⟩ := live2 x hy
    exact a2n x hy (fresh x ((k3 x).mpr hx) o ho)
  · obtain ⟨ow, h⟩ := st.sl
    refine ⟨ow, fun i x hx => ?_⟩
    obtain ⟨o, q1, q2⟩ := h i x hx
    refine ⟨o, q1, ?_⟩
    have nA' : ∀ a o, H a = some o → ¬ A a → ¬ (A1' a ∨ a ∈ a2) := fun a o e na z => by
      rcases z with z | z
      · exact na (A1A a (fresh a z o e))
      · exact na ((h3 a).mpr (List.mem_append_right _ z))
    cases x with
    | any => trivial
    | d x => obtain ⟨v, z1, z2⟩ := q2; exact ⟨v, z1, Dn.mon m _ _ z2⟩
    | own ds =>
      obtain ⟨a, vs, z1, z2, z3, z4, z5, z6, z7⟩ := q2
      exact ⟨a, vs, z1, z2, fun z => (f.f1 a z).elim z3 (fun y => ne_none_of z5 y), nA' a _ z5 z4, keep a _ z4 z5, DnA.mon m _ _ z6, z7⟩
    | bor ds => obtain ⟨a, vs, z1, z2, z3, z4⟩ := q2; exact ⟨a, vs, z1, z2, z3, DnA.mon m _ _ z4⟩
    | scr ns => exact q2
    | dic ds =>
      obtain ⟨a, vs, z1, z2, z3, z4, z5, z6, z7⟩ := q2
      exact ⟨a, vs, z1, z2, fun z => (f.f1 a z).elim z3 (fun y => ne_none_of z5 y), nA' a _ z5 z4, keep a _ z4 z5, DnK.mon m z6, z7⟩
    | bdic ds => obtain ⟨a, vs, z1, z2, z3, z4⟩ := q2; exact ⟨a, vs, z1, z2, z3, DnK.mon m z4⟩
    | bob a l => obtain ⟨z1, ads, z2, z3⟩ := q2; exact ⟨z1, ads, ObsAt.mon m (fun _ _ _ z => z) z2, z3⟩
    | ldic a l => obtain ⟨z1, vs, z2, z3, z4⟩ := q2; exact ⟨z1, vs, z2, z3, DnK.mon m z4⟩
    | exn a dd fs => obtain ⟨z1, z2, vs, z3, z4⟩ := q2; exact ⟨z1, nA' dd _ z3 z2, vs, keep dd _ z2 z3, DnF.mon m z4⟩
/-- objects that are not needed any more -/
theorem Sta.drop (st : Sta K en G (obsR (l1 ++ l2)) A σ H F) : ∃ A', Sta K en G (obsR l2) A' σ H F := by
  obtain ⟨ads, h1, h2, h3⟩ := st.rs
  obtain ⟨a1, a2, rfl, h4, h5⟩ := h1.split
  have nd := List.nodup_append.mp h2
  have sub : ∀ a, a ∈ a2 → A a := fun a ha => (h3 a).mpr (List.mem_append_right _ ha)
  refine ⟨fun x => x ∈ a2, st.fr, st.th, st.f0, st.f1, st.ft, fun a h => st.at_ a (sub a h), ⟨a2, h5, nd.2.1, fun _ => Iff.rfl⟩, st.len, ?_⟩
  obtain ⟨ow, h⟩ := st.sl
  refine ⟨ow, fun i x hx => ?_⟩
  obtain ⟨o, q1, q2⟩ := h i x hx
  refine ⟨o, q1, ?_⟩
  cases x with
  | any => trivial
  | d x => exact q2
  | own ds => obtain ⟨a, vs, z1, z2, z3, z4, z5⟩ := q2; exact ⟨a, vs, z1, z2, z3, fun z => z4 (sub a z), z5⟩
  | bor ds => exact q2
  | scr ns => exact q2
  | dic ds => obtain ⟨a, vs, z1, z2, z3, z4, z5⟩ := q2; exact ⟨a, vs, z1, z2, z3, fun z => z4 (sub a z), z5⟩
  | bdic ds => exact q2
  | bob a l => exact q2
  | ldic a l => exact q2
  | exn a dd fs => obtain ⟨z1, z2, z3⟩ := q2; exact ⟨z1, fun z => z2 (sub dd z), z3⟩
theorem Sta.obs0 (st : Sta K en G emp A σ H F) : Sta K en G (obsR []) A σ H F :=
  ⟨st.fr, st.th, st.f0, st.f1, st.ft, st.at_, ⟨[], rfl, List.nodup_nil, fun x => ⟨fun h => absurd h (st.rs x), fun h => by cases h⟩⟩, st.len, st.sl⟩
theorem Sta.emp (st : Sta K en G (obsR l) A σ H F) : ∃ A', Sta K en G emp A' σ H F := by
  have st' : Sta K en G (obsR (l ++ [])) A σ H F := by rw [List.append_nil]; exact st
  obtain ⟨A', s⟩ := st'.drop
  refine ⟨A', s.fr, s.th, s.f0, s.f1, s.ft, s.at_, fun a ha => ?_, s.len, s.sl⟩
  obtain ⟨ads, h1, h2, h3⟩ := s.rs
  have h1' : ads = [] := h1
  have := (h3 a).mp ha
  rw [h1'] at this
  cases this
theorem obs_perm {l l' : List Ob} (h : l.Perm l') {ads : List Addr} {Hc : Hp} : ObsAt K F H Hc l ads → ∃ ads', ObsAt K F H Hc l' ads' ∧ ads.Perm ads' := by
  induction h generalizing ads with
  | nil => exact fun h => ⟨ads, h, .refl _⟩
  | cons x h ih =>
    rintro ⟨a1, a2, rfl, h3, h4⟩
    obtain ⟨a3, h5, h6⟩ := ih h4
    exact ⟨a1 ++ a3, ⟨a1, a3, rfl, h3, h5⟩, h6.append_left _⟩
  | swap x y l =>
    rintro ⟨a1, a2, rfl, h3, a3, a4, rfl, h5, h6⟩
    refine ⟨a3 ++ (a1 ++ a4), ⟨a3, _, rfl, h5, a1, a4, rfl, h3, h6⟩, ?_⟩
    rw [← List.append_assoc, ← List.append_assoc]
    exact List.perm_append_comm.append_right _
  | trans h1 h2 ih1 ih2 =>
    intro h
    obtain ⟨a1, h3, h4⟩ := ih1 h
    obtain ⟨a2, h5, h6⟩ := ih2 h3
    exact ⟨a2, h5, h4.trans h6⟩
theorem Sta.perm {l l' : List Ob} (st : Sta K en G (obsR l) A σ H F) (h : l.Perm l') : Sta K en G (obsR l') A σ H F := by
  refine ⟨st.fr, st.th, st.f0, st.f1, st.ft, st.at_, ?_, st.len, st.sl⟩
  obtain ⟨ads, h1, h2, h3⟩ := st.rs
  obtain ⟨a1, h4, h5⟩ := obs_perm h h1
  exact ⟨a1, h4, h5.nodup h2, fun x => by rw [h3]; exact h5.mem_iff⟩
end
end DL

namespace DL
open PySem PySem.Spec L2
/-- an expression that may change objects -/
def EvM (X : Cx) (e : Expr) (G : List S) (R : Res) (P : S → Res → Prop) : Prop :=
  ∀ (en : En) (A : Addr → Prop) (σ : L2.St) (H : Hp) (F : Fz) (Q : VK), Sta X.K en G R A σ H F → (∀ s R' A' v H' F', P s R' → Sta X.K en G R' A' σ H' F' → Mon H F H' F' → SR X.K s H v H' F' → Apart A' s v → Q v H') → tE X e σ H Q
def TvM (X : Cx) (e : Expr) (G : List S) (R : Res) (P : Bool → Res → Prop) : Prop :=
  ∀ (en : En) (A : Addr → Prop) (σ : L2.St) (H : Hp) (F : Fz) (Q : Bool → Hp → Prop), Sta X.K en G R A σ H F → (∀ b R' A' H' F', P b R' → Sta X.K en G R' A' σ H' F' → Mon H F H' F' → Q b H') → tT X e σ H Q
def TwM (X : Cx) (e : Expr) (G : List S) (R : Res) (P : Bool → Res → Prop) : Prop :=
  ∀ (en : En) (A : Addr → Prop) (σ : L2.St) (H : Hp) (F : Fz) (Q : Bool → Hp → Prop), Sta X.K en G R A σ H F → (∀ b R' A' H' F', P b R' → Sta X.K en G R' A' σ H' F' → Mon H F H' F' → Q b H') → ∃ t, PW X e t ∧ t σ H Q
/-- .. that raises -/
def EvXM (X : Cx) (e : Expr) (G : List S) (R : Res) (P : Exn → Res → Prop) : Prop :=
  ∀ (W : Exw) (en : En) (A : Addr → Prop) (σ : L2.St) (H H0 : Hp) (F F0 : Fz) (Q : VK), Takes X (Wd X.K en H0 F0 W) → Mon H0 F0 H F → Sta X.K en G R A σ H F → (∀ xn R', P xn R' → W xn G R') → tE X e σ H Q
section
variable {K : PySem.W.Frag} {en : En} {G : List S} {R R' : Res} {A A' : Addr → Prop} {σ : L2.St} {H H' : Hp} {F F' : Fz} {s : S} {v : V}
theorem apart_new (st : Sta K en G R A σ H F) (r : SR K s H v H' F') : Apart A s v := by
  cases s with
  | own ds =>
    obtain ⟨a, vs, rfl, h2, _⟩ := r
    intro b e z
    cases e
    exact (st.at_ a z).1 h2
  | dic ds =>
    obtain ⟨a, vs, rfl, h2, _⟩ := r
    intro b e z
    cases e
    exact (st.at_ a z).1 h2
  | _ => trivial
/-- a new value is put into a slot -/
theorem Sta.putM {i : Nat} (st : Sta K en G R A σ H F) (st' : Sta K en G R' A' σ H' F') (hs : s.sto = true) (r : SR K s H v H' F') (ap : Apart A' s v) : Sta K en (G.set i s) R' A' (σ.set i (some v)) H' F' := by
  refine ⟨st'.fr, st'.th, st'.f0, st'.f1, st'.ft, st'.at_, st'.rs, by rw [List.length_set, List.length_set]; exact st'.len, ?_⟩
  obtain ⟨ow, q⟩ := st'.sl
  have key : ∀ (ow' : Addr → Nat), (∀ a, (∃ j : Nat, σ[j]? = some (some (V.ref a)) ∧ ∃ o, H a = some o) → ow' a = ow a) → (SlotOk K en ow' H' F' A' i s (some v)) → ∃ ow : Addr → Nat, ∀ (j : Nat) (t : S), (G.set i s)[j]? = some t → ∃ o, (σ.set i (some v))[j]? = some o ∧ SlotOk K en ow H' F' A' j t o := by
    intro ow' ho hi
    refine ⟨ow', fun j t ht => ?_⟩
    by_cases e : i = j
    · subst e
      have hl : i < G.length := by
        rcases Nat.lt_or_ge i G.length with z | z
        · exact z
        · rw [List.getElem?_eq_none (by rw [List.length_set]; exact z)] at ht; cases ht
      rw [List.getElem?_set_self hl] at ht
      cases ht
      exact ⟨some v, by rw [List.getElem?_set_self (by rw [← st'.len]; exact hl)], hi⟩
    · rw [List.getElem?_set_ne e] at ht
      obtain ⟨o, h1, h2⟩ := q j t ht
      refine ⟨o, by rw [List.getElem?_set_ne e]; exact h1, ?_⟩
      have old : ∃ ow0, SlotOk K en ow0 H F A j t o := by
        obtain ⟨ow0, q0⟩ := st.sl
        obtain ⟨o0, z1, z2⟩ := q0 j t ht
        rw [h1] at z1
        cases z1
        exact ⟨ow0, z2⟩
      cases t with
      | own ds =>
        obtain ⟨a, vs, z1, z2, z3⟩ := h2
        obtain ⟨ow0, b, ws, y1, y2, y3, y4, y5, _⟩ := old
        rw [z1] at y1
        cases y1
        refine ⟨a, vs, z1, ?_, z3⟩
        rw [ho a ⟨j, by rw [h1, z1], _, y5⟩, z2]
      | dic ds =>
        obtain ⟨a, vs, z1, z2, z3⟩ := h2
        obtain ⟨ow0, b, ws, y1, y2, y3, y4, y5, _⟩ := old
        rw [z1] at y1
        cases y1
        refine ⟨a, vs, z1, ?_, z3⟩
        rw [ho a ⟨j, by rw [h1, z1], _, y5⟩, z2]
      | any => exact h2
      | d x => exact h2
      | bor ds => exact h2
      | scr ns => exact h2
      | bdic ds => exact h2
      | bob a l => exact h2
      | ldic a l => exact h2
      | exn a dd fs => exact h2
  cases s with
  | any => exact key ow (fun _ _ => rfl) trivial
  | d x => exact key ow (fun _ _ => rfl) ⟨v, rfl, r⟩
  | own ds =>
    obtain ⟨a, vs, rfl, h2, h3, h4, h5⟩ := r
    exact key (fun b => if b = a then i else ow b) (fun b ⟨_, _, o, hb⟩ => if_neg (fun (z : b = a) => by rw [z, h2] at hb; cases hb)) ⟨a, vs, rfl, if_pos rfl, h3, ap a rfl, h4, h5, st.nn a h2⟩
  | dic ds =>
    obtain ⟨a, vs, rfl, h2, h3, h4, h5⟩ := r
    exact key (fun b => if b = a then i else ow b) (fun b ⟨_, _, o, hb⟩ => if_neg (fun (z : b = a) => by rw [z, h2] at hb; cases hb)) ⟨a, vs, rfl, if_pos rfl, h3, ap a rfl, h4, h5, st.nn a h2⟩
  | bor ds => cases hs
  | scr ns => cases hs
  | bdic ds => cases hs
  | bob a l => cases hs
  | ldic a l => cases hs
  | exn a dd fs => cases hs
end
section
variable {X : Cx} {W : Exw} {G G' : List S} {R R1 R2 : Res} {O : Out} {e a b c o tg : Expr} {es : List Expr} {rest body orelse : List Stmt} {pos pos' p apos : Pos} {s s1 s2 : S} {ss : List S} {l l' l1 l2 : List Ob} {x m : Str} {d d2 : D} {k j : Nat} {P P1 P2 : S → Res → Prop} {B B1 B2 : Bool → Res → Prop} {Z : Exn → Res → Prop}
theorem evm_of (h : Ev X e G R s) : EvM X e G R (fun s' R' => s' = s ∧ R' = R) := fun en A σ H F Q st k =>
  h en A σ H F Q st fun v H' F' g r => k s R A v H' F' ⟨rfl, rfl⟩ (st.grow g) g.mon r (apart_new st r)
theorem evm_imp (h : EvM X e G R P1) (w : ∀ s R', P1 s R' → P2 s R') : EvM X e G R P2 := fun en A σ H F Q st k =>
  h en A σ H F Q st fun s R' A' v H' F' p => k s R' A' v H' F' (w s R' p)
theorem evm_frz (h : EvM X e G R (fun s R' => ∃ ds, s = .own ds ∧ P1 (.d (.lst ds)) R')) : EvM X e G R P1 := fun en A σ H F Q st k =>
  h en A σ H F Q st fun s R' A' v H' F' ⟨ds, e1, p⟩ st' m r ap => by
    subst e1
    obtain ⟨a, vs, rfl, h2, h3, h4, h5⟩ := r
    have m2 : Mon H' F' H' (fun b => F' b ∨ b = a) := ⟨fun b h => .inl h, fun _ _ h => h, fun _ _ _ h => h⟩
    have na : ¬ A' a := ap a rfl
    have ne : en.H a = none := st.nn a h2
    refine k _ R' A' _ H' (fun b => F' b ∨ b = a) p ?_ (m.trans m2) ⟨a, vs, rfl, .inr rfl, h4, DnA.mon m2 _ _ h5⟩ trivial
    refine ⟨st'.fr, st'.th, fun b h => .inl (st'.f0 b h), fun b h => ?_, fun b h => ?_, fun b h => ?_, R'.stable st'.rs m2 fun _ _ => rfl, st'.len, ?_⟩
    · rcases h with h | h
      · exact st'.f1 b h
      · rw [h]; exact .inr ne
    · rcases h with h | h
      · exact st'.ft b h
      · rw [h, h4]; exact fun z => nomatch z
    · obtain ⟨k1, k2, k3⟩ := st'.at_ b h
      refine ⟨k1, fun z => ?_, k3⟩
      rcases z with z | z
      · exact k2 z
      · rw [z] at h; exact na h
    · obtain ⟨ow, q⟩ := st'.sl
      refine ⟨ow, fun j t ht => ?_⟩
      obtain ⟨o, k1, k2⟩ := q j t ht
      refine ⟨o, k1, ?_⟩
      have old : ∃ ow0, SlotOk X.K en ow0 H F A j t o := by
        obtain ⟨ow0, q0⟩ := st.sl
        obtain ⟨o0, z1, z2⟩ := q0 j t ht
        rw [k1] at z1
        cases z1
        exact ⟨ow0, z2⟩
      cases t with
      | any => trivial
      | d x => obtain ⟨v, z1, z2⟩ := k2; exact ⟨v, z1, Dn.mon m2 _ _ z2⟩
      | own es =>
        obtain ⟨b, ws, z1, z2, z3, z4, z5, z6, z7⟩ := k2
        obtain ⟨ow0, b', ws', y1, y2, y3, y4, y5, _⟩ := old
        rw [z1] at y1
        cases y1
        refine ⟨b, ws, z1, z2, fun z => ?_, z4, z5, DnA.mon m2 _ _ z6, z7⟩
        rcases z with z | z
        · exact z3 z
        · rw [z, h2] at y5; cases y5
      | bor es => obtain ⟨b, ws, z1, z2, z3, z4⟩ := k2; exact ⟨b, ws, z1, z2, z3, DnA.mon m2 _ _ z4⟩
      | scr ns => exact k2
      | dic es =>
        obtain ⟨b, ws, z1, z2, z3, z4, z5, z6, z7⟩ := k2
        obtain ⟨ow0, b', ws', y1, y2, y3, y4, y5, _⟩ := old
        rw [z1] at y1
        cases y1
        refine ⟨b, ws, z1, z2, fun z => ?_, z4, z5, DnK.mon m2 z6, z7⟩
        rcases z with z | z
        · exact z3 z
        · rw [z, h2] at y5; cases y5
      | bdic es => obtain ⟨b, ws, z1, z2, z3, z4⟩ := k2; exact ⟨b, ws, z1, z2, z3, DnK.mon m2 z4⟩
      | bob b l => obtain ⟨z1, ads, z2, z3⟩ := k2; exact ⟨z1, ads, ObsAt.mon m2 (fun _ _ _ z => z) z2, z3⟩
      | ldic b l => obtain ⟨z1, vs0, z2, z3, z4⟩ := k2; exact ⟨z1, vs0, z2, z3, DnK.mon m2 z4⟩
      | exn b dd fs => obtain ⟨z1, z2, ws, z3, z4⟩ := k2; exact ⟨z1, z2, ws, z3, DnF.mon m2 z4⟩
/-- deterministic: data, and the objects behind -/
abbrev EvMd (X : Cx) (e : Expr) (G : List S) (R : Res) (d : D) (R' : Res) : Prop := EvM X e G R (fun s R1 => s = .d d ∧ R1 = R')
abbrev TvMd (X : Cx) (e : Expr) (G : List S) (R : Res) (q : Bool) (R' : Res) : Prop := TvM X e G R (fun b R1 => b = q ∧ R1 = R')
theorem evmd_of (h : Ev X e G R (.d d)) : EvMd X e G R d R := evm_of h
theorem tvm_of {q : Bool} (h : Tv X e G R q) : TvMd X e G R q R := fun en A σ H F Q st k => h en A σ H F Q st fun H' F' g => k q R A H' F' ⟨rfl, rfl⟩ (st.grow g) g.mon
theorem evm_cmpR {op : CmpOp} {r : L2.R2} {d3 : D} (ho : OpR X (compareOp op) r) (hr : RO X.K r (.d d) (.d d2) (.d d3)) (ha : EvMd X a G R d R1) (hb : EvMd X b G R1 d2 R2) (hm : behindInMarks op b = false) : EvMd X (.Compare a [op] [b] pos) G R d3 R2 := by
  intro en A σ H F Q st k
  refine ⟨_, pe_cmpR ho pe_t pe_t hm, ?_⟩
  refine ha en A σ H F _ st fun s R' A' x H1 F1 ⟨e1, e2⟩ st1 m1 r1 ap1 => ?_
  subst e1 e2
  refine hb en A' σ H1 F1 _ st1 fun s' R'' A'' y H2 F2 ⟨e1, e2⟩ st2 m2 r2 ap2 => ?_
  subst e1 e2
  exact hr H1 x y H2 F2 _ st2.ft (Dn.mon m2 _ _ r1) r2 fun v H3 F3 g3 r3 => k _ _ A'' v H3 F3 ⟨rfl, rfl⟩ (st2.grow g3) ((m1.trans m2).trans g3.mon) r3 trivial
theorem tvm_cmpR {op : CmpOp} {r : L2.R2} {q : Bool} (ho : OpR X (compareOp op) r) (hr : RO X.K r (.d d) (.d d2) (.d (.bl q))) (ha : EvMd X a G R d R1) (hb : EvMd X b G R1 d2 R2) (hm : behindInMarks op b = false) : TvMd X (.Compare a [op] [b] pos) G R q R2 := by
  intro en A σ H F Q st k
  refine ⟨_, pt_cmpR ho pe_t pe_t hm, ?_⟩
  refine ha en A σ H F _ st fun s R' A' x H1 F1 ⟨e1, e2⟩ st1 m1 r1 ap1 => ?_
  subst e1 e2
  refine hb en A' σ H1 F1 _ st1 fun s' R'' A'' y H2 F2 ⟨e1, e2⟩ st2 m2 r2 ap2 => ?_
  subst e1 e2
  exact hr H1 x y H2 F2 _ st2.ft (Dn.mon m2 _ _ r1) r2 fun v H3 F3 g3 r3 => ⟨q, r3, k _ _ A'' H3 F3 ⟨rfl, rfl⟩ (st2.grow g3) ((m1.trans m2).trans g3.mon)⟩
theorem tvm_neD {r : Nat} (hu : Room r X.A) (hd : d.Fit) (he : d2.Fit) (ha : EvMd X a G R d R1) (hb : EvMd X b G R1 d2 R2) : TvMd X (.Compare a [.NotEq] [b] pos) G R (!D.eq d d2) R2 := tvm_cmpR (op_neD hu.units) (ro_neD hd he) ha hb (nomark _)
theorem tvm_eqD {r : Nat} (hu : Room r X.A) (hd : d.Fit) (he : d2.Fit) (ha : EvMd X a G R d R1) (hb : EvMd X b G R1 d2 R2) : TvMd X (.Compare a [.Eq] [b] pos) G R (D.eq d d2) R2 := tvm_cmpR (op_eqD hu.units) (ro_eqD hd he) ha hb (nomark _)
theorem tvm_val {q : Bool} (h : EvMd X e G R (.bl q) R1) (he : ∀ whole, isTrue e X.env whole = (do let v ← whole; standAt e.pos; holding [v] (truthy v)) := by intro _; rfl) : TvMd X e G R q R1 := by
  intro en A σ H F Q st k
  refine ⟨_, pt_val pe_t he, ?_⟩
  refine h en A σ H F _ st fun s R' A' x H1 F1 ⟨e1, e2⟩ st1 m1 r1 _ => ?_
  subst e1 e2
  exact ⟨q, r1, k _ _ A' H1 F1 ⟨rfl, rfl⟩ st1 m1⟩
theorem tvm_eq {q q' : Bool} (h : TvMd X e G R q R1) (w : q = q') : TvMd X e G R q' R1 := w ▸ h
theorem tvm_not {q : Bool} (h : TvMd X a G R q R1) : TvMd X (.UnaryOp .Not a pos) G R (!q) R1 := by
  intro en A σ H F Q st k
  refine ⟨_, pt_not pt_t, ?_⟩
  refine h en A σ H F _ st fun b R' A' H1 F1 ⟨e1, e2⟩ st1 m1 => ?_
  subst e1 e2
  exact k _ _ A' H1 F1 ⟨rfl, rfl⟩ st1 m1
abbrev TwMd (X : Cx) (e : Expr) (G : List S) (R : Res) (q : Bool) (R' : Res) : Prop := TwM X e G R (fun b R1 => b = q ∧ R1 = R')
theorem twm_tv {q : Bool} (h : TwMd X e G R q R1) : TvMd X e G R q R1 := fun en A σ H F Q st k => ⟨_, pw_t.pt, h en A σ H F Q st k⟩
theorem twm_or1 {q : Bool} (h : TvMd X a G R q R1) : TwMd X (.BoolOp .Or [a] pos) G R q R1 := fun en A σ H F Q st k => ⟨_, pw_or1 pt_t, h en A σ H F Q st k⟩
theorem twm_and1 {q : Bool} (h : TvMd X a G R q R1) : TwMd X (.BoolOp .And [a] pos) G R q R1 := fun en A σ H F Q st k => ⟨_, pw_and1 pt_t, h en A σ H F Q st k⟩
/-- none holds -/
theorem twm_orF {q : Bool} (h : TvMd X a G R false R1) (h' : TwMd X (.BoolOp .Or (b :: es) pos) G R1 q R2) : TwMd X (.BoolOp .Or (a :: b :: es) pos) G R q R2 := by
  intro en A σ H F Q st k
  refine ⟨_, pw_or pt_t pw_t, ?_⟩
  refine h en A σ H F _ st fun c R' A' H1 F1 ⟨e1, e2⟩ st1 m1 => ?_
  subst e1 e2
  exact iteF (h' en A' σ H1 F1 _ st1 fun c R'' A'' H2 F2 p2 st2 m2 => k c R'' A'' H2 F2 p2 st2 (m1.trans m2))
theorem twm_orT (h : TvMd X a G R true R1) : TwMd X (.BoolOp .Or (a :: b :: es) pos) G R true R1 := by
  intro en A σ H F Q st k
  refine ⟨_, pw_or pt_t pw_t, ?_⟩
  refine h en A σ H F _ st fun c R' A' H1 F1 ⟨e1, e2⟩ st1 m1 => ?_
  subst e1 e2
  exact iteT (k _ _ A' H1 F1 ⟨rfl, rfl⟩ st1 m1)
theorem twm_andT {q : Bool} (h : TvMd X a G R true R1) (h' : TwMd X (.BoolOp .And (b :: es) pos) G R1 q R2) : TwMd X (.BoolOp .And (a :: b :: es) pos) G R q R2 := by
  intro en A σ H F Q st k
  refine ⟨_, pw_and pt_t pw_t, ?_⟩
  refine h en A σ H F _ st fun c R' A' H1 F1 ⟨e1, e2⟩ st1 m1 => ?_
  subst e1 e2
  exact iteT (h' en A' σ H1 F1 _ st1 fun c R'' A'' H2 F2 p2 st2 m2 => k c R'' A'' H2 F2 p2 st2 (m1.trans m2))
theorem twm_andF (h : TvMd X a G R false R1) : TwMd X (.BoolOp .And (a :: b :: es) pos) G R false R1 := by
  intro en A σ H F Q st k
  refine ⟨_, pw_and pt_t pw_t, ?_⟩
  refine h en A σ H F _ st fun c R' A' H1 F1 ⟨e1, e2⟩ st1 m1 => ?_
  subst e1 e2
  exact iteF (k _ _ A' H1 F1 ⟨rfl, rfl⟩ st1 m1)

/-! ### calls that change objects -/
theorem srs_plain {K : PySem.W.Frag} {H H' : Hp} {F' : Fz} : ∀ {ss : List S} {vs : List V}, ss.all S.plain = true → SRs K ss H vs H' F' → SRs K ss H' vs H' F'
  | [], [], _, _ => trivial
  | s :: ss, v :: vs, q, h => by
    rw [List.all_cons, Bool.and_eq_true] at q
    refine ⟨?_, srs_plain q.2 h.2⟩
    have h1 := h.1
    cases s with
    | any => trivial
    | d x => exact h1
    | _ => exact absurd q.1 (fun z => nomatch z)
  | [], _ :: _, _, h => h.elim
  | _ :: _, [], _, h => h.elim
/-- how a call ends, for the caller -/
theorem call_end {X : Cx} {en : En} {A : Addr → Prop} {σ : L2.St} {H H1 : Hp} {F F1 : Fz} {G : List S} {l1 l2 : List Ob} {Ct : CtR} {post : Oc → List Ob → Prop} {vs : List V} {Q : VK} {E : XK} (st1 : Sta X.K en G (obsR (l1 ++ l2)) A σ H1 F1) (m1 : Mon H F H1 F1) (nn : ∀ a, H1 a = none → H a = none)
    (hC : Ct ss l1 post) (hss : okArgs ss l1) (hs : SRs X.K ss H vs H1 F1)
    (hq : ∀ s l', post (.ret s) l' → ∀ A' v H' F', Sta X.K en G (obsR (l' ++ l2)) A' σ H' F' → Mon H F H' F' → SR X.K s H v H' F' → Apart A' s v → Q v H')
    (he : ∀ xn l', post (.exc xn) l' → ∀ A' cls d H' F', Sta X.K en G (obsR (l' ++ l2)) A' σ H' F' → Mon H F H' F' → ExnOk X.K F' H' xn cls d → E cls d H') : spR X.K Ct vs H1 Q E := by
  obtain ⟨ads, h1, h2, h3⟩ := st1.rs
  obtain ⟨a1, a2, rfl, h4, h5⟩ := h1.split
  have nd := List.nodup_append.mp h2
  have sub : ∀ a, a ∈ a1 → A a := fun a ha => (h3 a).mpr (List.mem_append_left _ ha)
  refine ⟨F1, fun a => a ∈ a1, ss, l1, post, hC, ⟨st1.ft, fun a ha => ⟨(st1.at_ a (sub a ha)).1, (st1.at_ a (sub a ha)).2.1⟩⟩, ⟨a1, h4, nd.1, fun _ => Iff.rfl⟩, hss, srs_here hss.arg hs, fun oc l' hp => ?_⟩
  have chg := fun {H' : Hp} {F' : Fz} {A1' : Addr → Prop} (f : Fin X.K ⟨H1, F1, fun a => a ∈ a1⟩ (obsR l') A1' H' F') => (show Mon H1 F1 H' F' ∧ ∃ A', Sta X.K en G (obsR (l' ++ l2)) A' σ H' F' ∧ (∀ a, A' a → A1' a ∨ a ∈ a2) from by
    have nf : ∀ a, a ∈ a1 → ¬ F1 a := fun a ha => (st1.at_ a (sub a ha)).2.1
    have m : Mon H1 F1 H' F' := Fin.mon ⟨a1, h4, nd.1, fun x => Iff.rfl⟩ nf f
    exact ⟨m, chg_at st1 h4 h5 h2 h3 f m⟩)
  cases oc with
  | ret r =>
    intro v H' F' A1' f hr ap
    obtain ⟨m, A', st', hA⟩ := chg f
    refine hq r l' hp A' v H' F' st' (m1.trans m) (SR.pre nn hr) ?_
    have no2 : ∀ a, H1 a = none → a ∉ a2 := fun a ha z => by
      obtain ⟨o, ho, _⟩ := h5.cell a z
      rw [ha] at ho
      cases ho
    cases r with
    | own ds =>
      obtain ⟨a, vs, rfl, k2, _⟩ := hr
      intro b e z
      cases e
      rcases hA a z with y | y
      · exact ap a rfl y
      · exact no2 a k2 y
    | dic ds =>
      obtain ⟨a, vs, rfl, k2, _⟩ := hr
      intro b e z
      cases e
      rcases hA a z with y | y
      · exact ap a rfl y
      · exact no2 a k2 y
    | _ => trivial
  | exc xn =>
    intro cls d H' F' A1' f hx
    obtain ⟨m, A', st', _⟩ := chg f
    exact he xn l' hp A' cls d H' F' st' (m1.trans m) hx
end
end DL

namespace DL
open PySem PySem.Spec L2
def putFV (f : Str) (v : FV) : List (Str × FV) → List (Str × FV)
  | [] => [(f, v)]
  | (g, x) :: r => if g = f then (g, v) :: r else (g, x) :: putFV f v r
def S.fv : S → Option FV
  | .d x => some (.d x)
  | .own ds => some (.own ds)
  | .dic ds => some (.dic ds)
  | _ => none
section
variable {K : PySem.W.Frag} {H H' Hc Hd H0 : Hp} {F F' F0 : Fz}
theorem FsAt.put {f : Str} {x : FV} {v : V} {as : List Addr} (hx : FvAt K F H Hc x v as) (na : as.Nodup) : ∀ {fs : List (Str × FV)} {vs : List (Str × V)} {ads : List Addr}, FsAt K F H Hc fs vs ads → ads.Nodup → (∀ y ∈ as, y ∉ ads) →
    ∃ ads', FsAt K F H Hc (putFV f x fs) (putF f v vs) ads' ∧ ads'.Nodup ∧ ∀ y ∈ ads', y ∈ ads ∨ y ∈ as
  | [], [], _, _, _, _ => ⟨as, ⟨rfl, as, [], by rw [List.append_nil], hx, rfl⟩, na, fun y hy => .inr hy⟩
  | (g, y) :: fs, (g', w) :: vs, _, ⟨h1, a1, a2, rfl, h3, h4⟩, nd, dj => by
    have h1' : g = g' := h1
    subst h1'
    obtain ⟨n1, n2, n3⟩ := List.nodup_append.mp nd
    unfold putFV putF
    by_cases e : g = f
    · rw [if_pos e, if_pos e]
      refine ⟨as ++ a2, ⟨rfl, as, a2, rfl, hx, h4⟩, List.nodup_append.mpr ⟨na, n2, fun p hp q hq e => dj p hp (by rw [e]; exact List.mem_append_right _ hq)⟩, fun p hp => ?_⟩
      rcases List.mem_append.mp hp with z | z
      · exact .inr z
      · exact .inl (List.mem_append_right _ z)
    · rw [if_neg e, if_neg e]
      obtain ⟨ads', k1, k2, k3⟩ := FsAt.put (f := f) hx na h4 n2 (fun p hp z => dj p hp (List.mem_append_right _ z))
      refine ⟨a1 ++ ads', ⟨rfl, a1, ads', rfl, h3, k1⟩, List.nodup_append.mpr ⟨n1, k2, fun p hp q hq e => ?_⟩, fun p hp => ?_⟩
      · subst e
        rcases k3 p hq with z | z
        · exact n3 p hp p z rfl
        · exact dj p z (List.mem_append_left _ hp)
      · rcases List.mem_append.mp hp with z | z
        · exact .inl (List.mem_append_left _ z)
        · rcases k3 p z with y | y
          · exact .inl (List.mem_append_right _ y)
          · exact .inr y
  | [], _ :: _, _, h, _, _ => h.elim
  | _ :: _, [], _, h, _, _ => h.elim
/-- a field's own cell is changed -/
theorem FsAt.mut {f : Str} {x : FV} : ∀ {fs : List (Str × FV)} {vs : List (Str × V)} {ads : List Addr}, FsAt K F H H fs vs ads → ads.Nodup → fs.lookup f = some x →
    ∃ v as, vs.lookup f = some v ∧ (∀ a ∈ as, a ∈ ads) ∧ FvAt K F H H x v as ∧ ∀ {H' F' x'}, Mon H F H' F' → (∀ a ∈ ads, a ∉ as → ∀ o, H a = some o → H' a = some o) → FvAt K F' H' H' x' v as → FsAt K F' H' H' (putFV f x' fs) vs ads
  | [], [], _, _, _, h => by cases h
  | (g, y) :: fs, (g', v) :: vs, _, ⟨h1, a1, a2, rfl, h3, h4⟩, nd, e => by
    have h1' : g = g' := h1
    subst h1'
    obtain ⟨n1, n2, n3⟩ := List.nodup_append.mp nd
    rw [List.lookup_cons] at e
    unfold putFV
    by_cases q : g = f
    · subst q
      rw [beq_self_eq_true] at e
      have e' : y = x := Option.some.inj e
      subst e'
      refine ⟨v, a1, by rw [List.lookup_cons, beq_self_eq_true], fun a ha => List.mem_append_left _ ha, h3, fun m k hx => ?_⟩
      rw [if_pos rfl]
      exact ⟨rfl, a1, a2, rfl, hx, FsAt.mon m (fun a ha o => k a (List.mem_append_right _ ha) (fun z => n3 a z a ha rfl) o) h4⟩
    · have qb : (f == g) = false := beq_eq_false_iff_ne.mpr fun z => q z.symm
      rw [qb] at e
      obtain ⟨v', as, k1, k2, k3, k4⟩ := FsAt.mut h4 n2 e
      refine ⟨v', as, by rw [List.lookup_cons, qb]; exact k1, fun a ha => List.mem_append_right _ (k2 a ha), k3, fun m k hx => ?_⟩
      rw [if_neg q]
      exact ⟨rfl, a1, a2, rfl, FvAt.mon m (fun a ha o => k a (List.mem_append_left _ ha) (fun z => n3 a ha a (k2 a z) rfl) o) h3, k4 m (fun a ha na => k a (List.mem_append_right _ ha) na) hx⟩
  | [], _ :: _, _, h, _, _ => h.elim
  | _ :: _, [], _, h, _, _ => h.elim
end
section
variable {K : PySem.W.Frag} {en : En} {G : List S} {A : Addr → Prop} {σ : L2.St} {H H0 H' : Hp} {F F0 F' : Fz} {l2 : List Ob} {a C : Addr} {fs : List (Str × FV)} {f : Str}
/-- an own list or dict of an object is changed -/
theorem Sta.mutF {x : FV} (st : Sta K en G (obsR (⟨a, some C, fs⟩ :: l2)) A σ H F) (hl : fs.lookup f = some x) : ∃ dx vs v as, H a = some (.ins C dx vs) ∧ vs.lookup f = some v ∧ FvAt K F H H x v as ∧
    ∀ {p : Addr} {o : HO} {x' : FV}, as = [p] → (Mon H F (upd H p o) F → FvAt K F (upd H p o) (upd H p o) x' v as) → ∃ A', Sta K en G (obsR (⟨a, some C, putFV f x' fs⟩ :: l2)) A' σ (upd H p o) F ∧ Mon H F (upd H p o) F := by
  obtain ⟨ads, h1, h2, h3⟩ := st.rs
  obtain ⟨a1, a2, rfl, ⟨vs, as0, rfl, h4, dx, h5⟩, h6⟩ := h1
  have h1' : ObsAt K F H H [⟨a, some C, fs⟩] (a :: as0) := ⟨a :: as0, [], by rw [List.append_nil], ⟨vs, as0, rfl, h4, dx, h5⟩, rfl⟩
  obtain ⟨n1, n2, n3⟩ := List.nodup_append.mp h2
  obtain ⟨na, nas⟩ := List.nodup_cons.mp n1
  obtain ⟨v, as, k1, k2, k3, k4⟩ := h4.mut nas hl
  refine ⟨dx, vs, v, as, h5, k1, k3, fun {p o x'} e hx => ?_⟩
  subst e
  have pm : p ∈ as0 := k2 p (List.mem_singleton_self p)
  have pA : A p := (h3 p).mpr (List.mem_append_left _ (List.mem_cons_of_mem _ pm))
  obtain ⟨op, hp1, hp2⟩ := h4.cell p pm
  have pF : ¬ F p := (st.at_ p pA).2.1
  have m : Mon H F (upd H p o) F := mon_upd hp1 (fun xs z => (not_tup hp2).1 xs z) (fun b xs z => (not_tup hp2).2 b xs z) pF
  have ap : a ≠ p := fun z => na (z ▸ pm)
  have tr : ∀ b, H b ≠ none → upd H p o b ≠ none := fun b hb => by
    by_cases e : b = p
    · rw [e, upd_same]; exact fun z => nomatch z
    · rw [upd_ne e]; exact hb
  have fn : Fin K ⟨H, F, fun b => b ∈ a :: as0⟩ (obsR [⟨a, some C, putFV f x' fs⟩]) (fun b => b ∈ a :: as0) (upd H p o) F := by
    refine ⟨fun b u hb nb => ?_, tr, fun _ h => h, fun _ h => .inl h, fun b hb => tr b (st.ft b hb), fun b hb => ?_, a :: as0, ⟨a :: as0, [], by rw [List.append_nil], ⟨vs, as0, rfl, ?_, dx, ?_⟩, rfl⟩, n1, fun _ => Iff.rfl⟩
    · rw [upd_ne (fun z => nb (by rw [z]; exact List.mem_cons_of_mem _ pm))]; exact hb
    · obtain ⟨q1, q2, _⟩ := st.at_ b ((h3 b).mpr (List.mem_append_left _ hb))
      exact ⟨tr b q1, q2, .inl hb⟩
    · exact k4 m (fun b hb nb u hu => by rw [upd_ne (fun z => nb (by rw [z]; exact List.mem_singleton_self p))]; exact hu) (hx m)
    · rw [upd_ne ap]; exact h5
  obtain ⟨A', s', _⟩ := chg_at (l1 := [⟨a, some C, fs⟩]) (l1' := [⟨a, some C, putFV f x' fs⟩]) st h1' h6 h2 h3 fn m
  exact ⟨A', s', m⟩
theorem fv_of {s : S} {x : FV} {v : V} (hs : s.fv = some x) (r : SR K s H0 v H F) : ∃ as, FvAt K F H H x v as ∧ as.Nodup ∧ ∀ y ∈ as, H0 y = none ∧ ¬ F y := by
  cases s with
  | d d =>
    have e : FV.d d = x := Option.some.inj hs
    subst e
    exact ⟨[], ⟨rfl, r⟩, List.nodup_nil, fun y hy => by cases hy⟩
  | own ds =>
    have e : FV.own ds = x := Option.some.inj hs
    subst e
    obtain ⟨a, vs, h1, h2, h3, h4, h5⟩ := r
    exact ⟨[a], ⟨a, vs, h1, rfl, h4, h5⟩, List.nodup_cons.mpr ⟨List.not_mem_nil, List.nodup_nil⟩, fun y hy => by rw [List.mem_singleton.mp hy]; exact ⟨h2, h3⟩⟩
  | dic ds =>
    have e : FV.dic ds = x := Option.some.inj hs
    subst e
    obtain ⟨a, vs, h1, h2, h3, h4, h5⟩ := r
    exact ⟨[a], ⟨a, vs, h1, rfl, h4, h5⟩, List.nodup_cons.mpr ⟨List.not_mem_nil, List.nodup_nil⟩, fun y hy => by rw [List.mem_singleton.mp hy]; exact ⟨h2, h3⟩⟩
  | _ => cases hs
/-- a field is stored -/
theorem Sta.putF {s : S} {x : FV} {v : V} {dx : Addr} {vs : List (Str × V)} (st : Sta K en G (obsR (⟨a, some C, fs⟩ :: l2)) A σ H0 F0) (g : Grow H0 F0 H F) (hs : s.fv = some x) (r : SR K s H0 v H F) (ha : H a = some (.ins C dx vs)) :
    ∃ A', Sta K en G (obsR (⟨a, some C, putFV f x fs⟩ :: l2)) A' σ (upd H a (.ins C dx (putF f v vs))) F ∧ Mon H0 F0 (upd H a (.ins C dx (putF f v vs))) F := by
  obtain ⟨ads, h1, h2, h3⟩ := st.rs
  obtain ⟨a1, a2, rfl, ⟨vs0, as0, rfl, h4, dx0, h5⟩, h6⟩ := h1
  have h1' : ObsAt K F0 H0 H0 [⟨a, some C, fs⟩] (a :: as0) := ⟨a :: as0, [], by rw [List.append_nil], ⟨vs0, as0, rfl, h4, dx0, h5⟩, rfl⟩
  obtain ⟨n1, n2, n3⟩ := List.nodup_append.mp h2
  obtain ⟨na, nas⟩ := List.nodup_cons.mp n1
  have ha' := g.h _ _ h5
  rw [ha] at ha'
  have e1 : dx = dx0 ∧ vs = vs0 := by cases ha'; exact ⟨rfl, rfl⟩
  obtain ⟨rfl, rfl⟩ := e1
  obtain ⟨as, k1, k2, k3⟩ := fv_of hs r
  have aA : A a := (h3 a).mpr (List.mem_append_left _ List.mem_cons_self)
  have st1 := st.grow g
  have aF : ¬ F a := (st1.at_ a aA).2.1
  have mu : Mon H F (upd H a (.ins C dx (L2.putF f v vs))) F := mon_upd ha (fun _ z => nomatch z) (fun _ _ z => nomatch z) aF
  have m : Mon H0 F0 (upd H a (.ins C dx (L2.putF f v vs))) F := g.mon.trans mu
  have tr : ∀ b, H b ≠ none → upd H a (.ins C dx (L2.putF f v vs)) b ≠ none := fun b hb => by
    by_cases e : b = a
    · rw [e, upd_same]; exact fun z => nomatch z
    · rw [upd_ne e]; exact hb
  have tr0 : ∀ b, H0 b ≠ none → H b ≠ none := fun b hb z => hb (none_pre g.h z)
  have asn : ∀ y ∈ as, y ≠ a ∧ y ∉ as0 := fun y hy => ⟨fun z => (by
    have := (k3 y hy).1
    rw [z, h5] at this
    cases this), fun z => (by
    obtain ⟨o, ho, _⟩ := h4.cell y z
    rw [(k3 y hy).1] at ho
    cases ho)⟩
  have c4 : FsAt K F (upd H a (.ins C dx (L2.putF f v vs))) (upd H a (.ins C dx (L2.putF f v vs))) fs vs as0 := FsAt.mon m (fun b hb o ho => by
    have ba : b ≠ a := fun z => na (by rw [← z]; exact hb)
    rw [upd_ne ba]; exact g.h _ _ ho) h4
  have cx : FvAt K F (upd H a (.ins C dx (L2.putF f v vs))) (upd H a (.ins C dx (L2.putF f v vs))) x v as := FvAt.mon mu (fun b hb o ho => by rw [upd_ne (asn b hb).1]; exact ho) k1
  obtain ⟨ads', q1, q2, q3⟩ := FsAt.put (f := f) cx k2 c4 nas (fun y hy => (asn y hy).2)
  have fn : Fin K ⟨H0, F0, fun b => b ∈ a :: as0⟩ (obsR [⟨a, some C, putFV f x fs⟩]) (fun b => b ∈ a :: ads') (upd H a (.ins C dx (L2.putF f v vs))) F := by
    refine ⟨fun b u hb nb => ?_, fun b hb => tr b (tr0 b hb), g.f, g.n, fun b hb => tr b (g.t b hb), fun b hb => ?_, a :: ads', ⟨a :: ads', [], by rw [List.append_nil], ⟨_, ads', rfl, q1, dx, upd_same⟩, rfl⟩, List.nodup_cons.mpr ⟨fun z => ?_, q2⟩, fun _ => Iff.rfl⟩
    · rw [upd_ne (fun z => nb (by rw [z]; exact List.mem_cons_self))]; exact g.h _ _ hb
    · rcases List.mem_cons.mp hb with z | z
      · subst z
        exact ⟨(by rw [upd_same]; exact fun z => nomatch z), aF, Or.inl List.mem_cons_self⟩
      · rcases q3 b z with y | y
        · obtain ⟨p1, p2, _⟩ := st1.at_ b ((h3 b).mpr (List.mem_append_left _ (List.mem_cons_of_mem _ y)))
          exact ⟨tr b p1, p2, .inl (List.mem_cons_of_mem _ y)⟩
        · refine ⟨?_, (k3 b y).2, .inr (k3 b y).1⟩
          obtain ⟨o, ho, _⟩ := k1.cell b y
          exact tr b (by rw [ho]; exact fun z => nomatch z)
    · rcases q3 a z with y | y
      · exact na y
      · exact (asn a y).1 rfl
  obtain ⟨A', s', _⟩ := chg_at (l1 := [⟨a, some C, fs⟩]) (l1' := [⟨a, some C, putFV f x fs⟩]) st h1' h6 h2 h3 fn m
  exact ⟨A', s', m⟩
end

section
variable {X : Cx} {W : Exw} {G G' : List S} {R R1 R2 : Res} {O : Out} {e b c o tg iter value : Expr} {es : List Expr} {rest body orelse : List Stmt} {pos pos' p p1 apos cpos : Pos} {s s1 s2 : S} {ss : List S} {l l' l1 l2 : List Ob} {x m f : Str} {d d2 : D} {ds es' : List D} {k j : Nat} {P : S → Res → Prop} {Z : Exn → Res → Prop} {a C : Addr} {fs : List (Str × FV)} {flds : List Str} {fv : FV}
/-- o.f = value -/
theorem ex_sto (hv : Ev X value G (obsR (⟨a, some C, fs⟩ :: l2)) s) (ho : Ev X o G (obsR (⟨a, some C, fs⟩ :: l2)) (.d (.obj a))) (c : KC X.K C flds) (k : Ex X W rest G (obsR (⟨a, some C, putFV f fv fs⟩ :: l2)) O) (hs : s.fv = some fv := by rfl) (hf : f ∈ flds := by decide)
    (hl : fs.length < 1000 := by exact Nat.le_of_ble_eq_true rfl) (hsw : swapsWith value (some (.Attribute o f pos')) pos.line X.env = pure false := by rfl) : Ex X W (.Assign [.Attribute o f pos'] value pos :: rest) G (obsR (⟨a, some C, fs⟩ :: l2)) O := fun en A σ H F D st po => by
  refine ⟨_, pss_cons (ps_fld pe_t pe_t hsw) pss_t, ?_⟩
  refine hv en A σ H F _ st fun v H1 F1 g1 r1 => ?_
  refine ho en A σ H1 F1 _ (st.grow g1) fun x H2 F2 g2 r2 => ?_
  obtain ⟨ads, ⟨a1, a2, rfl, ⟨vs, as0, rfl, h4, dx, h5⟩, h6⟩, _, _⟩ := ((st.grow g1).grow g2).rs
  obtain ⟨A', st', m'⟩ := Sta.putF (f := f) st (g1.trans g2) hs (SR.grow r1 g2) h5
  exact ⟨a, C, dx, vs, r2, h5, c.cl, c.no f hf, by rw [h4.len]; exact hl, k en A' σ _ F2 D st' (po.from m')⟩
/-- o.f.append(e) -/
theorem evmd_app (ho : Ev X o G (obsR (⟨a, some C, fs⟩ :: l2)) (.d (.obj a))) (c : KC X.K C flds) (hl : fs.lookup f = some (.own ds)) (he : Ev X e G (obsR (⟨a, some C, fs⟩ :: l2)) (.d d)) (hn : ds.length < sizeLine) (hf : f ∈ flds := by decide)
    (hb : attributeBase o f X.env (eval o X.env) = eval o X.env := by rfl) (hbase : attributeBase (.Attribute o f p1) "append" X.env (eval (.Attribute o f p1) X.env) = eval (.Attribute o f p1) X.env := by rfl)
    (hfew : ((backTo cpos (starEach [e] X.env)).all (fun x => !x.1) && (backToKw cpos (keywordEach [] X.env)).all (fun x => x.1.isSome)
      && decide ([e].length + ([] : List Keyword).length + (if ([] : List Keyword).isEmpty then 0 else 1) < 30)) = true := by rfl)
    (hline : (apos.endLine == cpos.line) = true := by rfl) (hse : starEach [e] X.env = [(false, eval e X.env)] := by rfl) :
    EvMd X (.Call (.Attribute (.Attribute o f p1) "append" apos) [e] [] cpos) G (obsR (⟨a, some C, fs⟩ :: l2)) .non (obsR (⟨a, some C, putFV f (.own (ds ++ [d])) fs⟩ :: l2)) := by
  intro en A σ H F Q st q
  refine ⟨_, pe_bm PySem.F.plainAttrs_list PySem.F.slot_list_append PySem.F.type_list_append mt_append (pe_fld pe_t hb) pa_t hbase hfew hline hse (by rfl), ?_⟩
  refine ho en A σ H F _ st fun x H1 F1 g1 r1 => ?_
  have st1 := st.grow g1
  obtain ⟨dx, vs, v, as, k1, k2, ⟨pp, ws, rfl, rfl, k4, k5⟩, _⟩ := st1.mutF hl
  refine ⟨a, C, dx, vs, _, r1, k1, c.cl, c.no f hf, k2, .inl ⟨rfl, _, SqL.of k4⟩, ?_⟩
  refine eva_cons he eva_nil hse en A σ H1 F1 _ st1 fun us H2 F2 g2 r2 => ?_
  obtain ⟨u, e1, r3⟩ := srs1 r2
  subst e1
  obtain ⟨dx', vs', v', as', z1, z2, ⟨pq, ws', rfl, rfl, z4, z5⟩, z6⟩ := (st1.grow g2).mutF hl
  have y1 := g2.h _ _ k1
  rw [z1] at y1
  cases y1
  rw [k2] at z2
  cases z2
  refine ⟨pp, ws', u, rfl, rfl, z4, by rw [z5.length]; exact hn, ?_⟩
  obtain ⟨A', s', m'⟩ := z6 (p := pp) (o := .lst (ws' ++ [u])) (x' := .own (ds ++ [d])) rfl fun m => ⟨pp, _, rfl, rfl, upd_same, DnA.mon m _ _ (DnA.append z5 ⟨r3, trivial⟩)⟩
  exact q _ _ A' _ _ F2 ⟨rfl, rfl⟩ s' ((g1.trans g2).mon.trans m') rfl trivial
/-- o.f.pop() -/
theorem evmd_pop (ho : Ev X o G (obsR (⟨a, some C, fs⟩ :: l2)) (.d (.obj a))) (c : KC X.K C flds) (hl : fs.lookup f = some (.own (ds ++ [d]))) (hf : f ∈ flds := by decide)
    (hb : attributeBase o f X.env (eval o X.env) = eval o X.env := by rfl) (hbase : attributeBase (.Attribute o f p1) "pop" X.env (eval (.Attribute o f p1) X.env) = eval (.Attribute o f p1) X.env := by rfl)
    (hline : (apos.endLine == cpos.line) = true := by rfl) :
    EvMd X (.Call (.Attribute (.Attribute o f p1) "pop" apos) [] [] cpos) G (obsR (⟨a, some C, fs⟩ :: l2)) d (obsR (⟨a, some C, putFV f (.own ds) fs⟩ :: l2)) := by
  intro en A σ H F Q st q
  refine ⟨_, pe_bm0 PySem.F.plainAttrs_list PySem.F.slot_list_pop PySem.F.type_list_pop mt_pop (pe_fld pe_t hb) hbase hline, ?_⟩
  refine ho en A σ H F _ st fun x H1 F1 g1 r1 => ?_
  have st1 := st.grow g1
  obtain ⟨dx, vs, v, as, k1, k2, ⟨pp, ws, rfl, rfl, k4, k5⟩, z6⟩ := st1.mutF hl
  refine ⟨a, C, dx, vs, _, r1, k1, c.cl, c.no f hf, k2, .inl ⟨rfl, _, SqL.of k4⟩, ?_⟩
  have hlen : ws.length = ds.length + 1 := by rw [k5.length, List.length_append]; rfl
  obtain ⟨y, hy1, hy2⟩ := k5.get (i := ds.length) (d := d) (by rw [List.getElem?_append_right (Nat.le_refl _), Nat.sub_self]; rfl)
  refine ⟨pp, ws, y, rfl, rfl, k4, by rw [hlen]; exact hy1, ?_⟩
  have kd : DnA X.K F1 H1 ds ws.dropLast := by
    have := DnA.take ds.length k5
    rw [List.take_left'] at this
    · rw [List.dropLast_eq_take, hlen]
      exact this
    · rfl
  obtain ⟨A', s', m'⟩ := z6 (p := pp) (o := .lst ws.dropLast) (x' := .own ds) rfl fun m => ⟨pp, _, rfl, rfl, upd_same, DnA.mon m _ _ kd⟩
  exact q _ _ A' _ _ F1 ⟨rfl, rfl⟩ s' (g1.mon.trans m') (Dn.mon m' _ _ hy2) trivial
/-- o.f.extend(e) -/
theorem evmd_ext (ho : Ev X o G (obsR (⟨a, some C, fs⟩ :: l2)) (.d (.obj a))) (c : KC X.K C flds) (hl : fs.lookup f = some (.own ds)) (he : Ev X e G (obsR (⟨a, some C, fs⟩ :: l2)) (.bor es')) (hn : ds.length + es'.length ≤ sizeLine) (hf : f ∈ flds := by decide)
    (hb : attributeBase o f X.env (eval o X.env) = eval o X.env := by rfl) (hbase : attributeBase (.Attribute o f p1) "extend" X.env (eval (.Attribute o f p1) X.env) = eval (.Attribute o f p1) X.env := by rfl)
    (hfew : ((backTo cpos (starEach [e] X.env)).all (fun x => !x.1) && (backToKw cpos (keywordEach [] X.env)).all (fun x => x.1.isSome)
      && decide ([e].length + ([] : List Keyword).length + (if ([] : List Keyword).isEmpty then 0 else 1) < 30)) = true := by rfl)
    (hline : (apos.endLine == cpos.line) = true := by rfl) (hse : starEach [e] X.env = [(false, eval e X.env)] := by rfl) :
    EvMd X (.Call (.Attribute (.Attribute o f p1) "extend" apos) [e] [] cpos) G (obsR (⟨a, some C, fs⟩ :: l2)) .non (obsR (⟨a, some C, putFV f (.own (ds ++ es')) fs⟩ :: l2)) := by
  intro en A σ H F Q st q
  refine ⟨_, pe_bm PySem.F.plainAttrs_list PySem.F.slot_list_extend PySem.F.type_list_extend mt_extend (pe_fld pe_t hb) pa_t hbase hfew hline hse (by rfl), ?_⟩
  refine ho en A σ H F _ st fun x H1 F1 g1 r1 => ?_
  have st1 := st.grow g1
  obtain ⟨dx, vs, v, as, k1, k2, ⟨pp, ws, rfl, rfl, k4, k5⟩, _⟩ := st1.mutF hl
  refine ⟨a, C, dx, vs, _, r1, k1, c.cl, c.no f hf, k2, .inl ⟨rfl, _, SqL.of k4⟩, ?_⟩
  refine eva_cons he eva_nil hse en A σ H1 F1 _ st1 fun us H2 F2 g2 r2 => ?_
  obtain ⟨u, e1, r3⟩ := srs1 r2
  subst e1
  obtain ⟨q1, zs, rfl, q2, q3⟩ := r3
  obtain ⟨dx', vs', v', as', z1, z2, ⟨pq, ws', rfl, rfl, z4, z5⟩, z6⟩ := (st1.grow g2).mutF hl
  have y1 := g2.h _ _ k1
  rw [z1] at y1
  cases y1
  rw [k2] at z2
  cases z2
  refine ⟨pp, q1, ws', zs, rfl, rfl, z4, q2, by rw [z5.length, q3.length]; exact hn, ?_⟩
  obtain ⟨A', s', m'⟩ := z6 (p := pp) (o := .lst (ws' ++ zs)) (x' := .own (ds ++ es')) rfl fun m => ⟨pp, _, rfl, rfl, upd_same, DnA.mon m _ _ (DnA.append z5 q3)⟩
  exact q _ _ A' _ _ F2 ⟨rfl, rfl⟩ s' ((g1.trans g2).mon.trans m') rfl trivial

/-! ### statements -/
theorem ex_setM (i : Nat) (hN : X.N.Nodup) (he : EvM X e G R P) (hs : ∀ s R', P s R' → s.sto = true) (k : ∀ s R', P s R' → Ex X W rest (G.set i s) R' O) (hi : X.N[i]? = some x := by rfl) (hx : Loc X.env.scope x := by first | exact Or.inl rfl | exact Or.inr rfl)
    (hf : X.fn x = true ∨ X.env.scope.names.lookup x = some .local := by first | exact .inl rfl | exact .inr rfl) (hw : swapsWith e (some (.Name x pos')) pos.line X.env = pure false := by rfl) : Ex X W (.Assign [.Name x pos'] e pos :: rest) G R O := fun en A σ H F D st po => by
  refine ⟨_, pss_cons (ps_set hN hi hx pe_t hw hf) pss_t, ?_⟩
  refine he en A σ H F _ st fun s R' A' v H' F' p st' m r ap => ?_
  exact k s R' p en A' _ H' F' D (st.putM st' (hs s R' p) r ap) (po.from m)
theorem ex_setMd (i : Nat) (hN : X.N.Nodup) (he : EvMd X e G R d R1) (k : Ex X W rest (G.set i (.d d)) R1 O) (hi : X.N[i]? = some x := by rfl) (hx : Loc X.env.scope x := by first | exact Or.inl rfl | exact Or.inr rfl)
    (hf : X.fn x = true ∨ X.env.scope.names.lookup x = some .local := by first | exact .inl rfl | exact .inr rfl) (hw : swapsWith e (some (.Name x pos')) pos.line X.env = pure false := by rfl) : Ex X W (.Assign [.Name x pos'] e pos :: rest) G R O :=
  ex_setM i hN he (fun s R' h => by rw [h.1]; rfl) (fun s R' h => by obtain ⟨rfl, rfl⟩ := h; exact k) hi hx hf hw
theorem ex_exprM (he : EvM X e G R P) (k : ∀ s R', P s R' → Ex X W rest G R' O) (hs : swapsWith e none pos.line X.env = pure false := by rfl) : Ex X W (.Expr e pos :: rest) G R O := fun en A σ H F D st po => by
  refine ⟨_, pss_cons (ps_expr pe_t hs) pss_t, ?_⟩
  exact he en A σ H F _ st fun s R' A' v H' F' p st' m r ap => k s R' p en A' σ H' F' D st' (po.from m)
theorem ex_exprMd (he : EvMd X e G R d R1) (k : Ex X W rest G R1 O) (hs : swapsWith e none pos.line X.env = pure false := by rfl) : Ex X W (.Expr e pos :: rest) G R O :=
  ex_exprM he (fun s R' h => by obtain ⟨rfl, rfl⟩ := h; exact k) hs
theorem ex_retM (he : EvM X e G R P) (h : ∀ s R', P s R' → O.rt s R') : Ex X W (.Return (some e) pos :: rest) G R O := fun en A σ H F D st po => by
  refine ⟨_, pss_cons (ps_ret pe_t) pss_t, ?_⟩
  exact he en A σ H F _ st fun s R' A' v H' F' p st' m r ap => po.rt s R' A' v H' F' (h s R' p) st'.fin (SR.pre st.nn r) ap
theorem ex_asgMd (he : EvMd X e G R d R1) (hg : Tg X tg d G G') (k : Ex X W rest G' R1 O) (hs : swapsWithSole [tg] e pos.line X.env = pure false := by rfl) (hw : swappedStores [tg] e X.env = pure none := by rfl)
    (h1 : (assignEach [tg] X.env).map (·.2) = [assign tg X.env] := by rfl) : Ex X W (.Assign [tg] e pos :: rest) G R O := fun en A σ H F D st po => by
  refine ⟨_, pss_cons (ps_asg pe_t pg_t hs hw h1) pss_t, ?_⟩
  refine he en A σ H F _ st fun s R' A' v H' F' ⟨e1, e2⟩ st' m r ap => ?_
  subst e1 e2
  exact hg en R' A' σ H' F' v _ st' r fun σ' st2 => k en A' σ' H' F' D st2 (po.from m)
theorem ex_ifMd {q : Bool} (hc : TvMd X c G R q R1) (h1 : q = true → Ex X W body G R1 (O.thn X W rest)) (h2 : q = false → Ex X W orelse G R1 (O.thn X W rest)) : Ex X W (.If c body orelse pos :: rest) G R O := fun en A σ H F D st po => by
  refine ⟨_, pss_cons (ps_if pt_t pss_t pss_t) pss_t, ?_⟩
  refine hc en A σ H F _ st fun b R' A' H' F' ⟨e1, e2⟩ st' m => ?_
  subst e1 e2
  cases b with
  | true => exact iteT (h1 rfl en A' σ H' F' _ st' (po.thn m))
  | false => exact iteF (h2 rfl en A' σ H' F' _ st' (po.thn m))
/-- the test fails, no else -/
theorem ex_ifNMd (hc : TvMd X c G R false R1) (h : Ex X W rest G R1 O) : Ex X W (.If c body [] pos :: rest) G R O := ex_ifMd hc (fun z => nomatch z) fun _ => ex_nil h
theorem ex_exprXM (he : EvXM X e G R Z) (h : ∀ xn R', Z xn R' → W xn G R') (hs : swapsWith e none pos.line X.env = pure false := by rfl) : Ex X W (.Expr e pos :: rest) G R O := fun en A σ H F D st po => by
  refine ⟨_, pss_cons (ps_expr pe_t hs) pss_t, ?_⟩
  exact he W en A σ H H F F _ po.tk Mon.refl st h
theorem ex_retXM (he : EvXM X e G R Z) (h : ∀ xn R', Z xn R' → W xn G R') : Ex X W (.Return (some e) pos :: rest) G R O := fun en A σ H F D st po => by
  refine ⟨_, pss_cons (ps_ret pe_t) pss_t, ?_⟩
  exact he W en A σ H H F F _ po.tk Mon.refl st h
theorem ex_setXM (i : Nat) (he : EvXM X e G R Z) (h : ∀ xn R', Z xn R' → W xn G R') (hN : X.N.Nodup) (hi : X.N[i]? = some x := by rfl) (hx : Loc X.env.scope x := by first | exact Or.inl rfl | exact Or.inr rfl)
    (hf : X.fn x = true ∨ X.env.scope.names.lookup x = some .local := by first | exact .inl rfl | exact .inr rfl) (hw : swapsWith e (some (.Name x pos')) pos.line X.env = pure false := by rfl) : Ex X W (.Assign [.Name x pos'] e pos :: rest) G R O := fun en A σ H F D st po => by
  refine ⟨_, pss_cons (ps_set hN hi hx pe_t hw hf) pss_t, ?_⟩
  exact he W en A σ H H F F _ po.tk Mon.refl st h
theorem ex_obs0 (h : Ex X W rest G (obsR []) O) : Ex X W rest G emp O := fun en A σ H F D st po => h en A σ H F D st.obs0 po
theorem ex_emp (h : Ex X W rest G emp O) : Ex X W rest G (obsR l) O := fun en A σ H F D st po => by
  obtain ⟨A', st'⟩ := st.emp
  exact h en A' σ H F D st' po
theorem ex_drop (h : Ex X W rest G (obsR l2) O) : Ex X W rest G (obsR (l1 ++ l2)) O := fun en A σ H F D st po => by
  obtain ⟨A', st'⟩ := st.drop
  exact h en A' σ H F D st' po
theorem ex_perm (hp : l.Perm l') (h : Ex X W rest G (obsR l') O) : Ex X W rest G (obsR l) O := fun en A σ H F D st po => h en A σ H F D (st.perm hp) po
/-! ### loops in which objects change -/
theorem ex_forR (I : Nat → List S → Res → Prop) (hp : PassesOwn (model X.prog X.w) X.A X.env X.xe) (hi : EvI X tg iter G R ds) (h0 : I 0 G R)
    (ht : ∀ k d G R, ds[k]? = some d → I k G R → ∃ G', Tg X tg d G G' ∧ Ex X W body G' R { O with nx := fun G' R' => I (k + 1) G' R', ct := fun G' R' => I (k + 1) G' R', bk := fun G' R' => Ex X W rest G' R' O })
    (hn : ∀ G R, I ds.length G R → Ex X W rest G R O) (hc : X.calm = true := by rfl) (hs : ∀ x, foldedSetIterable iter X.env x = pure x := by intro _; rfl) :
    Ex X W (.For tg iter body [] pos :: rest) G R O := fun en A σ H F D st p => by
  refine ⟨_, pss_cons (ps_for hp hc pi_t pg_t pss_t hs) pss_t, ?_⟩
  refine hi en A σ H F _ st fun J H1 F1 g1 feed => ?_
  refine ⟨fun i m σ' H' => m = ds.length - i ∧ i ≤ ds.length ∧ ∃ G' R' A' F', I i G' R' ∧ Sta X.K en G' R' A' σ' H' F' ∧ Mon H1 F1 H' F', ⟨ds.length, by simp, Nat.zero_le _, G, R, A, F1, h0, st.grow g1, Mon.refl⟩, ?_⟩
  rintro i m σ2 H2 ⟨rfl, hle, G2, R2, A2, F2, i2, st2, m2⟩
  obtain ⟨f1, f2⟩ := feed i H2 F2 m2 st2.fr
  rcases Nat.lt_or_ge i ds.length with hlt | hge
  · have hd : ds[i]? = some ds[i] := List.getElem?_eq_getElem hlt
    obtain ⟨f3, f4⟩ := f2 _ hd
    obtain ⟨G3, ht3, hb⟩ := ht i _ G2 R2 hd i2
    refine .inr ⟨f3, fun σ' H' => ∃ G' R' A' F', I (i + 1) G' R' ∧ Sta X.K en G' R' A' σ' H' F' ∧ Mon H1 F1 H' F', fun σ' H' h => ⟨ds.length - (i + 1), by omega, rfl, hlt, h⟩, fun x H' y => ?_⟩
    obtain ⟨rfl, hx⟩ := f4 x H' y
    refine ht3 en R2 A2 σ2 H' F2 x _ st2 hx fun σ3 st3 => ?_
    refine hb en A2 σ3 H' F2 _ st3 ⟨(p.from (g1.mon.trans m2)).tk, fun G' R' A' σ' H' F' h s' n => ?_, p.rt, fun G' R' A' σ' H' F' h s' n => ?_, fun G' R' A' σ' H' F' h s' n => ?_⟩
    · exact ⟨G', R', A', F', h, s', m2.trans n⟩
    · exact h en A' σ' H' F' D s' (p.from ((g1.mon.trans m2).trans n))
    · exact ⟨G', R', A', F', h, s', m2.trans n⟩
  · have e : i = ds.length := by omega
    subst e
    exact .inl ⟨f1 hge, hn G2 R2 i2 en A2 σ2 H2 F2 D st2 (p.from (g1.mon.trans m2))⟩
theorem ex_whileR (I : Nat → List S → Res → Prop) (hp : PassesOwn (model X.prog X.w) X.A X.env X.xe) {n0 : Nat} (h0 : I n0 G R)
    (ht : ∀ n G R, I n G R → ∃ q R1, TvMd X c G R q R1 ∧ (q = true → Ex X W body G R1 { O with nx := fun G' R' => ∃ m, m < n ∧ I m G' R', ct := fun G' R' => ∃ m, m < n ∧ I m G' R', bk := fun G' R' => Ex X W rest G' R' O }) ∧ (q = false → Ex X W rest G R1 O)) :
    Ex X W (.While c body [] pos :: rest) G R O := fun en A σ H F D st p => by
  refine ⟨_, pss_cons (ps_while hp pt_t pss_t) pss_t, ?_⟩
  refine ⟨fun m σ' H' => ∃ G' R' A' F', I m G' R' ∧ Sta X.K en G' R' A' σ' H' F' ∧ Mon H F H' F', ⟨n0, G, R, A, F, h0, st, Mon.refl⟩, ?_⟩
  rintro m σ1 H1 ⟨G1, R1, A1, F1, i1, st1, m1⟩
  obtain ⟨q, R2, hc, hb, hn⟩ := ht m G1 R1 i1
  refine hc en A1 σ1 H1 F1 _ st1 fun b R' A2 H2 F2 ⟨e1, e2⟩ st2 m2 => ?_
  subst e1 e2
  cases b with
  | false => exact iteF (hn rfl en A2 σ1 H2 F2 D st2 (p.from (m1.trans m2)))
  | true =>
    refine iteT ⟨fun σ' H' => ∃ k, k < m ∧ ∃ G' R' A' F', I k G' R' ∧ Sta X.K en G' R' A' σ' H' F' ∧ Mon H F H' F', fun σ' H' h => h, ?_⟩
    refine hb rfl en A2 σ1 H2 F2 _ st2 ⟨(p.from (m1.trans m2)).tk, fun G' R' A' σ' H' F' h s' n => ?_, p.rt, fun G' R' A' σ' H' F' h s' n => ?_, fun G' R' A' σ' H' F' h s' n => ?_⟩
    · obtain ⟨k, hk, ik⟩ := h
      exact ⟨k, hk, G', R', A', F', ik, s', (m1.trans m2).trans n⟩
    · exact h en A' σ' H' F' D s' (p.from ((m1.trans m2).trans n))
    · obtain ⟨k, hk, ik⟩ := h
      exact ⟨k, hk, G', R', A', F', ik, s', (m1.trans m2).trans n⟩
end
end DL

namespace DL
open PySem PySem.Spec L2
section
variable {X : Cx} {W : Exw} {G G' : List S} {R R1 R2 : Res} {O : Out} {e b c o tg iter value : Expr} {es : List Expr} {rest body orelse : List Stmt} {pos pos' p p1 apos cpos : Pos} {s s1 s2 : S} {ss : List S} {l l' l1 l2 : List Ob} {x m f : Str} {d d2 : D} {ds es' : List D} {k j : Nat} {P : S → Res → Prop} {Z : Exn → Res → Prop} {a C : Addr} {fs : List (Str × FV)} {flds : List Str} {fv : FV} {Ct : CtR} {post : Oc → List Ob → Prop} {pl : Sem Bool}
theorem evm_callC (f : FnC X.prog X.w X.K X.mg X.base x k Ct) (hr : Room j X.A) (hk : k ≤ j) (ha : EvA X (e :: es) G (obsR (l1 ++ l2)) ss) (hC : Ct ss l1 post) (hno : ∀ xn l', ¬ post (.exc xn) l') (hss : ss.all S.plain = true := by rfl) (hg : Gl X x := by rfl) (hdb : (x == ("__debug__" : Str)) = false := by decide)
    (he : starEach (e :: es) X.env = (false, eval e X.env) :: starEach es X.env := by rfl) (hpl : (backTo pos (starEach es X.env)).any (·.1) = false := by rfl) : EvM X (.Call (.Name x p) (e :: es) [] pos) G (obsR (l1 ++ l2)) (fun s R' => ∃ l', R' = obsR (l' ++ l2) ∧ post (.ret s) l') := by
  intro en A σ H F Q st q
  obtain ⟨f, fd, ps, h1, h2, h3, h4⟩ := f.ex
  refine ⟨_, pe_call h1 (hr.mono hk) hg h2 h3 h4 .nil passL pa_t hdb he hpl, ?_⟩
  refine ha en A σ H F _ st fun vs H1 F1 g1 r1 => ?_
  rw [List.append_nil]
  refine call_end (st.grow g1) Mon.refl (fun _ h => h) hC (.inl hss) (srs_plain hss r1) (fun s l' hp A' v H' F' st' m r ap => q s _ A' v H' F' ⟨l', rfl, hp⟩ st' (g1.mon.trans m) (SR.pre g1.nn r) ap) (fun xn l' hp => (hno xn l' hp).elim)
/-- .. no object goes along -/
theorem evm_callN (f : FnC X.prog X.w X.K X.mg X.base x k Ct) (hr : Room j X.A) (hk : k ≤ j) (ha : EvA X (e :: es) G (obsR l) ss) (hC : Ct ss [] post) (hno : ∀ xn l', ¬ post (.exc xn) l') (hss : ss.all S.arg = true := by rfl) (hg : Gl X x := by rfl) (hdb : (x == ("__debug__" : Str)) = false := by decide)
    (he : starEach (e :: es) X.env = (false, eval e X.env) :: starEach es X.env := by rfl) (hpl : (backTo pos (starEach es X.env)).any (·.1) = false := by rfl) : EvM X (.Call (.Name x p) (e :: es) [] pos) G (obsR l) (fun s R' => ∃ l', R' = obsR (l' ++ l) ∧ post (.ret s) l') := by
  intro en A σ H F Q st q
  obtain ⟨f, fd, ps, h1, h2, h3, h4⟩ := f.ex
  refine ⟨_, pe_call h1 (hr.mono hk) hg h2 h3 h4 .nil passL pa_t hdb he hpl, ?_⟩
  refine ha en A σ H F _ st fun vs H1 F1 g1 r1 => ?_
  rw [List.append_nil]
  refine call_end (l1 := []) (l2 := l) (st.grow g1) Mon.refl (fun _ h => h) hC (.inr ⟨rfl, hss⟩) (srs_here hss r1) (fun s l' hp A' v H' F' st' m r ap => q s _ A' v H' F' ⟨l', rfl, hp⟩ st' (g1.mon.trans m) (SR.pre g1.nn r) ap) (fun xn l' hp => (hno xn l' hp).elim)
theorem evxm_callC (f : FnC X.prog X.w X.K X.mg X.base x k Ct) (hr : Room j X.A) (hk : k ≤ j) (ha : EvA X (e :: es) G (obsR (l1 ++ l2)) ss) (hC : Ct ss l1 post) (hno : ∀ s l', ¬ post (.ret s) l') (hss : ss.all S.plain = true := by rfl) (hg : Gl X x := by rfl) (hdb : (x == ("__debug__" : Str)) = false := by decide)
    (he : starEach (e :: es) X.env = (false, eval e X.env) :: starEach es X.env := by rfl) (hpl : (backTo pos (starEach es X.env)).any (·.1) = false := by rfl) : EvXM X (.Call (.Name x p) (e :: es) [] pos) G (obsR (l1 ++ l2)) (fun xn R' => ∃ l', R' = obsR (l' ++ l2) ∧ post (.exc xn) l') := by
  intro W en A σ H H0 F F0 Q tk mn st hw
  obtain ⟨f, fd, ps, h1, h2, h3, h4⟩ := f.ex
  refine ⟨_, pe_callS h1 (hr.mono hk) hg h2 h3 h4 (fun σ => passAt tk σ) pa_t hdb he hpl, ?_⟩
  refine ha en A σ H F _ st fun vs H1 F1 g1 r1 => ?_
  refine call_end (st.grow g1) Mon.refl (fun _ h => h) hC (.inl hss) (srs_plain hss r1) (fun s l' hp => (hno s l' hp).elim) (fun xn l' hp A' cls d H' F' st' m hx => ?_)
  exact ⟨xn, G, _, A', F', hw xn _ ⟨l', rfl, hp⟩, st', hx, mn.trans (g1.mon.trans m)⟩
theorem evm_methC (M : MtdC X.prog X.w X.K X.mg X.base C m k Ct) (hr : Room j X.A) (hk : k ≤ j) (h : Ev X o G (obsR (l1 ++ l2)) (.d (.obj a))) (ho : ⟨a, some C, fs⟩ ∈ l1 ++ l2) (hm : fs.lookup m = none) (ha : EvA X (e :: es) G (obsR (l1 ++ l2)) ss) (hC : Ct (.d (.obj a) :: ss) l1 post) (hno : ∀ xn l', ¬ post (.exc xn) l')
    (hss : ss.all S.plain = true := by rfl) (hst : starEach (e :: es) X.env = (false, eval e X.env) :: starEach es X.env := by rfl) (hpl : (backTo pos (starEach es X.env)).any (·.1) = false := by rfl)
    (ht : eval (.Call (.Attribute o m apos) (e :: es) [] pos) X.env = (do
      let ov ← eval o X.env
      standAt apos.atName
      let (f, first) ← holding [ov] (getMethod ov m pl)
      callWith pos f first (backTo pos (starEach (e :: es) X.env)) (backToKw pos (keywordEach [] X.env))) := by rfl) :
    EvM X (.Call (.Attribute o m apos) (e :: es) [] pos) G (obsR (l1 ++ l2)) (fun s R' => ∃ l', R' = obsR (l' ++ l2) ∧ post (.ret s) l') := by
  intro en A σ H F Q st q
  obtain ⟨f, fd, ps, h1, h2, h3⟩ := M.ex
  refine ⟨_, pe_meth pe_t M.cl h2 h1 (hr.mono hk) h3 .nil passL pa_t hst hpl ht, ?_⟩
  refine h en A σ H F _ st fun v H1 F1 g1 r => ?_
  obtain ⟨ads, h0, _, _⟩ := (st.grow g1).rs
  obtain ⟨a1, _, vs, as, rfl, h5, dx, h6⟩ := h0.mem ho
  have e1 : v = .ref a := r
  subst e1
  refine ⟨a, dx, vs, rfl, h6, h5.none hm, ?_⟩
  refine ha en A σ H1 F1 _ (st.grow g1) fun us H2 F2 g2 r2 => ?_
  rw [List.append_nil]
  have g := g1.trans g2
  refine call_end (st.grow g) Mon.refl (fun _ h => h) hC (.inl (by rw [List.all_cons, hss]; rfl)) ⟨rfl, srs_plain hss r2⟩ (fun s l' hp A' v H' F' st' m r ap => q s _ A' v H' F' ⟨l', rfl, hp⟩ st' (g.mon.trans m) (SR.pre g.nn r) ap) (fun xn l' hp => (hno xn l' hp).elim)
theorem evm_methC0 (M : MtdC X.prog X.w X.K X.mg X.base C m k Ct) (hr : Room j X.A) (hk : k ≤ j) (h : Ev X o G (obsR (l1 ++ l2)) (.d (.obj a))) (ho : ⟨a, some C, fs⟩ ∈ l1 ++ l2) (hm : fs.lookup m = none) (hC : Ct [.d (.obj a)] l1 post) (hno : ∀ xn l', ¬ post (.exc xn) l')
    (ht : eval (.Call (.Attribute o m apos) [] [] pos) X.env = (do
      let ov ← eval o X.env
      standAt apos.atName
      let (f, first) ← holding [ov] (getMethod ov m pl)
      callWith pos f first (backTo pos (starEach [] X.env)) (backToKw pos (keywordEach [] X.env))) := by rfl) :
    EvM X (.Call (.Attribute o m apos) [] [] pos) G (obsR (l1 ++ l2)) (fun s R' => ∃ l', R' = obsR (l' ++ l2) ∧ post (.ret s) l') := by
  intro en A σ H F Q st q
  obtain ⟨f, fd, ps, h1, h2, h3⟩ := M.ex
  refine ⟨_, pe_meth0 pe_t M.cl h2 h1 (hr.mono hk) h3 .nil passL ht, ?_⟩
  refine h en A σ H F _ st fun v H1 F1 g1 r => ?_
  obtain ⟨ads, h0, _, _⟩ := (st.grow g1).rs
  obtain ⟨a1, _, vs, as, rfl, h5, dx, h6⟩ := h0.mem ho
  have e1 : v = .ref a := r
  subst e1
  refine ⟨a, dx, vs, rfl, h6, h5.none hm, ?_⟩
  refine call_end (st.grow g1) Mon.refl (fun _ h => h) hC (.inl rfl) ⟨rfl, trivial⟩ (fun s l' hp A' v H' F' st' m r ap => q s _ A' v H' F' ⟨l', rfl, hp⟩ st' (g1.mon.trans m) (SR.pre g1.nn r) ap) (fun xn l' hp => (hno xn l' hp).elim)
theorem evxm_methC (M : MtdC X.prog X.w X.K X.mg X.base C m k Ct) (hr : Room j X.A) (hk : k ≤ j) (h : Ev X o G (obsR (l1 ++ l2)) (.d (.obj a))) (ho : ⟨a, some C, fs⟩ ∈ l1 ++ l2) (hm : fs.lookup m = none) (ha : EvA X (e :: es) G (obsR (l1 ++ l2)) ss) (hC : Ct (.d (.obj a) :: ss) l1 post) (hno : ∀ s l', ¬ post (.ret s) l')
    (hss : ss.all S.plain = true := by rfl) (hst : starEach (e :: es) X.env = (false, eval e X.env) :: starEach es X.env := by rfl) (hpl : (backTo pos (starEach es X.env)).any (·.1) = false := by rfl)
    (ht : eval (.Call (.Attribute o m apos) (e :: es) [] pos) X.env = (do
      let ov ← eval o X.env
      standAt apos.atName
      let (f, first) ← holding [ov] (getMethod ov m pl)
      callWith pos f first (backTo pos (starEach (e :: es) X.env)) (backToKw pos (keywordEach [] X.env))) := by rfl) :
    EvXM X (.Call (.Attribute o m apos) (e :: es) [] pos) G (obsR (l1 ++ l2)) (fun xn R' => ∃ l', R' = obsR (l' ++ l2) ∧ post (.exc xn) l') := by
  intro W en A σ H H0 F F0 Q tk mn st hw
  obtain ⟨f, fd, ps, h1, h2, h3⟩ := M.ex
  refine ⟨_, pe_methAt pe_t M.cl h2 h1 (hr.mono hk) h3 (fun σ => passAt tk σ) pa_t hst hpl ht, ?_⟩
  refine h en A σ H F _ st fun v H1 F1 g1 r => ?_
  obtain ⟨ads, h0, _, _⟩ := (st.grow g1).rs
  obtain ⟨a1, _, vs, as, rfl, h5, dx, h6⟩ := h0.mem ho
  have e1 : v = .ref a := r
  subst e1
  refine ⟨a, dx, vs, rfl, h6, h5.none hm, ?_⟩
  refine ha en A σ H1 F1 _ (st.grow g1) fun us H2 F2 g2 r2 => ?_
  have g := g1.trans g2
  refine call_end (st.grow g) Mon.refl (fun _ h => h) hC (.inl (by rw [List.all_cons, hss]; rfl)) ⟨rfl, srs_plain hss r2⟩ (fun s l' hp => (hno s l' hp).elim) (fun xn l' hp A' cls d H' F' st' m hx => ?_)
  exact ⟨xn, G, _, A', F', hw xn _ ⟨l', rfl, hp⟩, st', hx, mn.trans (g.mon.trans m)⟩
/-- a new instance -/
theorem Sta.newOb {K : PySem.W.Frag} {en : En} {A : Addr → Prop} {σ : L2.St} {H : Hp} {F : Fz} {dx : Addr} (st : Sta K en G (obsR l) A σ H F) (ha : H a = none) (hd : H dx = none) (ne : dx ≠ a) :
    Grow H F (upd (upd H dx (.own a)) a (.ins C dx [])) F ∧ Sta K en G (obsR ([⟨a, some C, []⟩] ++ l)) (fun b => b = a ∨ A b) σ (upd (upd H dx (.own a)) a (.ins C dx [])) F := by
  have g1 : Grow H F (upd H dx (.own a)) F := Grow.new hd st.ft
  have g2 : Grow (upd H dx (.own a)) F (upd (upd H dx (.own a)) a (.ins C dx [])) F := Grow.new (by rw [upd_ne ne.symm]; exact ha) g1.t
  have g := g1.trans g2
  have st' := st.grow g
  refine ⟨g, st'.fr, st'.th, st'.f0, st'.f1, st'.ft, fun b hb => ?_, ?_, st'.len, ?_⟩
  · rcases hb with rfl | hb
    · exact ⟨(by rw [upd_same]; exact fun z => nomatch z), fun z => st.ft _ z ha, Or.inr (st.nn _ ha)⟩
    · exact st'.at_ b hb
  · obtain ⟨ads, h1, h2, h3⟩ := st'.rs
    refine ⟨a :: ads, ⟨[a], ads, rfl, ⟨[], [], rfl, rfl, dx, upd_same⟩, h1⟩, List.nodup_cons.mpr ⟨fun z => ?_, h2⟩, fun b => by rw [List.mem_cons, ← h3]⟩
    exact (st.at_ a ((h3 a).mpr z)).1 ha
  · obtain ⟨ow, h⟩ := st'.sl
    have old := st.sl
    refine ⟨ow, fun i x hx => ?_⟩
    obtain ⟨o, q1, q2⟩ := h i x hx
    refine ⟨o, q1, ?_⟩
    obtain ⟨ow0, h0⟩ := old
    obtain ⟨o0, y1, y2⟩ := h0 i x hx
    rw [q1] at y1
    cases y1
    cases x with
    | any => trivial
    | d x => exact q2
    | own ds =>
      obtain ⟨b, vs, z1, z2, z3, z4, z5⟩ := q2
      obtain ⟨b', vs', w1, w2, w3, w4, w5, _⟩ := y2
      rw [z1] at w1
      cases w1
      exact ⟨b, vs, z1, z2, z3, fun z => z.elim (fun y => by rw [y, ha] at w5; cases w5) z4, z5⟩
    | bor ds => exact q2
    | scr ns => exact q2
    | dic ds =>
      obtain ⟨b, vs, z1, z2, z3, z4, z5⟩ := q2
      obtain ⟨b', vs', w1, w2, w3, w4, w5, _⟩ := y2
      rw [z1] at w1
      cases w1
      exact ⟨b, vs, z1, z2, z3, fun z => z.elim (fun y => by rw [y, ha] at w5; cases w5) z4, z5⟩
    | bdic ds => exact q2
    | bob b l => exact q2
    | ldic b l => exact q2
    | exn b dd fs =>
      obtain ⟨z1, z2, z3⟩ := q2
      obtain ⟨w1, w2, vs', w3, _⟩ := y2
      exact ⟨z1, fun z => z.elim (fun y => by rw [y, ha] at w3; cases w3) z2, z3⟩
/-- C(), C(e, ..) -/
theorem evm_mk0 (M : MkC X.prog X.w X.K X.mg X.base x C k Ct) (hr : Room j X.A) (hk : k + 1 ≤ j) {pst : Addr → Oc → List Ob → Prop} (hC : ∀ a, Ct [.d (.obj a)] [⟨a, some C, []⟩] (pst a)) (hno : ∀ a oc l', pst a oc l' → oc = .ret (.d .non)) (hg : Gl X x := by rfl) (hdb : (x == ("__debug__" : Str)) = false := by decide) :
    EvM X (.Call (.Name x p) [] [] pos) G (obsR l) (fun s R' => ∃ a l', s = .d (.obj a) ∧ R' = obsR (l' ++ l) ∧ pst a (.ret (.d .non)) l') := by
  intro en A σ H F Q st q
  obtain ⟨f, fd, ps, h1, h2, h3⟩ := M.ex
  refine ⟨_, pe_make0 h2 h1 (hr.mono hk) hg M.g h3 .nil passL hdb, ?_⟩
  intro a dx ha hd ne
  obtain ⟨g, st'⟩ := st.newOb (C := C) ha hd ne
  refine call_end st' Mon.refl (fun _ h => h) (hC a) (.inl rfl) ⟨rfl, trivial⟩ (fun s l' hp A' v H' F' s2 m r ap => ?_) (fun xn l' hp => nomatch (hno a _ l' hp))
  have es : s = .d .non := by have := hno a _ l' hp; cases this; rfl
  subst es
  exact ⟨r, q _ _ A' _ H' F' ⟨a, l', rfl, rfl, hp⟩ s2 (g.mon.trans m) rfl trivial⟩
theorem evm_mk (M : MkC X.prog X.w X.K X.mg X.base x C k Ct) (hr : Room j X.A) (hk : k + 1 ≤ j) (ha : EvA X (e :: es) G (obsR l) ss) {pst : Addr → Oc → List Ob → Prop} (hC : ∀ a, Ct (.d (.obj a) :: ss) [⟨a, some C, []⟩] (pst a)) (hno : ∀ a oc l', pst a oc l' → oc = .ret (.d .non)) (hss : ss.all S.plain = true := by rfl) (hg : Gl X x := by rfl) (hdb : (x == ("__debug__" : Str)) = false := by decide)
    (he : starEach (e :: es) X.env = (false, eval e X.env) :: starEach es X.env := by rfl) (hpl : (backTo pos (starEach es X.env)).any (·.1) = false := by rfl) :
    EvM X (.Call (.Name x p) (e :: es) [] pos) G (obsR l) (fun s R' => ∃ a l', s = .d (.obj a) ∧ R' = obsR (l' ++ l) ∧ pst a (.ret (.d .non)) l') := by
  intro en A σ H F Q st q
  obtain ⟨f, fd, ps, h1, h2, h3⟩ := M.ex
  refine ⟨_, pe_make h2 h1 (hr.mono hk) hg M.g h3 .nil passL pa_t hdb he hpl, ?_⟩
  refine ha en A σ H F _ st fun vs H1 F1 g1 r1 => ?_
  intro a dx ha hd ne
  obtain ⟨g, st'⟩ := (st.grow g1).newOb (C := C) ha hd ne
  rw [List.append_nil]
  have r2 : SRs X.K ss (upd (upd H1 dx (.own a)) a (.ins C dx [])) vs (upd (upd H1 dx (.own a)) a (.ins C dx [])) F1 := srs_plain hss (SRs.grow r1 g)
  refine call_end st' Mon.refl (fun _ h => h) (hC a) (.inl (by rw [List.all_cons, hss]; rfl)) ⟨rfl, r2⟩ (fun s l' hp A' v H' F' s2 m r ap => ?_) (fun xn l' hp => nomatch (hno a _ l' hp))
  have es : s = .d .non := by have := hno a _ l' hp; cases this; rfl
  subst es
  exact ⟨r, q _ _ A' _ H' F' ⟨a, l', rfl, rfl, hp⟩ s2 ((g1.trans g).mon.trans m) rfl trivial⟩
end

/-! ### len, in, == by methods of one's own -/
section
variable {X : Cx} {CX : CXT} {k : Nat} {f C a dx : Addr} {fd : FuncData} {ps : List Str} {sp : Sp} {E : XK}
theorem inst_of {pins : List (Addr × Obj)} {σ : L2.St} {H : Hp} {s : Shared} {fs : List (Str × V)} (I : Inv X pins σ H s) (ea : H a = some (.ins C dx fs)) : ∃ ox od, PySem.W.InstAt s.heap a ox C od := by
  obtain ⟨mA, O, _, _, _, _⟩ := ins_get I.hok ea
  obtain ⟨od, J, _⟩ := O.look
  exact ⟨_, _, J⟩
def rLenO (C : Addr) (sp : Sp) (E : XK) : List V → Hp → VK → Prop := fun xs H Q => ∃ a dx fs, xs = [V.ref a] ∧ H a = some (.ins C dx fs) ∧ sp [.ref a] H (fun z H' => ∃ n : Nat, z = .int n ∧ n < 2 ^ 62 ∧ Q z H') E
theorem cr_lenO (hm : Meth X.K C "__len__" f) (F : FnOk X.prog X.w X.K X.mg X.base CX k f fd ps sp) (hr : Room (k + 1) X.A) (hb : Binds X.K fd ps []) (hx : Passes CX X E) : CallR X (.builtin "len") (rLenO C sp E) := by
  intro pins s σ H xs us Q I r h
  obtain ⟨a, dx, fs, rfl, ea, q⟩ := h
  obtain ⟨u, rfl, ru⟩ := r.one
  obtain rfl : u = Value.ref a := ru
  obtain ⟨ox, od, J⟩ := inst_of I ea
  obtain ⟨m, hF⟩ := I.fr
  refine PySem.W.len_K hF I.ok.mod.kin J hm.at_ hm.fn ?_
  have hl : [Value.ref a].length = ps.length := by rw [← F.len _ _ _ _ q]; rfl
  have bb := hb s [.ref a] I.kIn (by rw [List.append_nil]; exact hl)
  rw [List.append_nil] at bb
  refine wpAny_call (codeAny_mono (F.run X.A.in1 X.stack s H ⟨[.ref a], []⟩ [.ref a] [.ref a] _ E hr.in1 I.env0.in1 bb (.cons rfl .nil) q) fun r s' hq => ?_)
  cases r with
  | error e => exact hx pins σ H s e s' I hq
  | ok fl =>
    cases fl with
    | ret w =>
      obtain ⟨v, H', I3, rv, n, e1, e2, q3⟩ := I.after hq
      subst e1
      obtain ⟨t, e⟩ := (show ∃ t, w = Value.int n t from rv)
      cases e
      refine ⟨⟨by omega, by omega⟩, V.int n, H', I3.tok _, ⟨_, rfl⟩, q3⟩
    | next => exact False.elim hq
    | brk => exact False.elim hq
    | cont => exact False.elim hq
def rInO (C : Addr) (sp : Sp) (E : XK) (neg : Bool) : L2.R2 := fun x y H Q => ∃ a dx fs, y = V.ref a ∧ H a = some (.ins C dx fs) ∧ sp [.ref a, x] H (fun z H' => ∃ b : Bool, z = .bl b ∧ Q (.bl (if neg = true then !b else b)) H') E
theorem run_two {pins : List (Addr × Obj)} {σ : L2.St} {H : Hp} {s : Shared} {Q : VK} {u : Value} {v : V} (F : FnOk X.prog X.w X.K X.mg X.base CX k f fd ps sp) (hr : Room k X.A) (hb : Binds X.K fd ps []) (hx : Passes CX X E) (I : Inv X pins σ H s) (rv : RelV v u) (q : sp [.ref a, v] H Q E) :
    wpAny (model X.prog X.w) X.A (call (.ref f) [.ref a, u]) (EP X pins σ Q) X.xe s := by
  have := run_fn (us := [.ref a, u]) (vs := [.ref a, v]) (dvs := []) (ds := []) F hr hb .nil hx I (.cons rfl (.cons rv .nil)) (by rw [List.append_nil]; exact q)
  exact this
theorem op_inO (hm : Meth X.K C "__contains__" f) (F : FnOk X.prog X.w X.K X.mg X.base CX k f fd ps sp) (hr : Room k X.A) (hb : Binds X.K fd ps []) (hx : Passes CX X E) : OpR X (compareOp .In) (rInO C sp E false) := by
  intro pins s σ H x y v u Q I rx ry h
  obtain ⟨a, dx, fs, rfl, ea, q⟩ := h
  obtain rfl : u = Value.ref a := ry
  obtain ⟨ox, od, J⟩ := inst_of I ea
  obtain ⟨m, hF⟩ := I.fr
  refine PySem.W.in_K hF I.ok.mod.kin J hm.at_ hm.fn (wpAny_mono (run_two F hr hb hx I rx q) (fun w s' z => ?_) fun _ _ z => z)
  obtain ⟨v', H', I3, rv, b, e1, q3⟩ := z
  subst e1
  obtain rfl : w = Value.bool b := rv
  exact wpAny_truthy_bool ⟨.bl b, H', I3, rfl, q3⟩
theorem op_notInO (hm : Meth X.K C "__contains__" f) (F : FnOk X.prog X.w X.K X.mg X.base CX k f fd ps sp) (hr : Room k X.A) (hb : Binds X.K fd ps []) (hx : Passes CX X E) : OpR X (compareOp .NotIn) (rInO C sp E true) := by
  intro pins s σ H x y v u Q I rx ry h
  obtain ⟨a, dx, fs, rfl, ea, q⟩ := h
  obtain rfl : u = Value.ref a := ry
  obtain ⟨ox, od, J⟩ := inst_of I ea
  obtain ⟨m, hF⟩ := I.fr
  refine PySem.W.notIn_K hF I.ok.mod.kin J hm.at_ hm.fn (wpAny_mono (run_two F hr hb hx I rx q) (fun w s' z => ?_) fun _ _ z => z)
  obtain ⟨v', H', I3, rv, b, e1, q3⟩ := z
  subst e1
  obtain rfl : w = Value.bool b := rv
  exact wpAny_truthy_bool ⟨.bl (!b), H', I3, rfl, q3⟩
end
section
variable {X : Cx} {G : List S} {R : Res} {e o : Expr} {pos p : Pos} {l l' : List Ob} {a C : Addr} {fs : List (Str × FV)} {d : D} {Ct : Ct} {k j n : Nat} {q : Bool}
theorem ev_lenO (M : Mtd X.prog X.w X.K X.mg X.base C "__len__" k Ct) (hr : Room j X.A) (hk : k + 1 ≤ j) (hm : X.mg "len" = none) (h : Ev X e G R (.bob a l)) (ho : ⟨a, some C, fs⟩ ∈ l) (hC : Ct [.bob a l'] (.ret (.d (.int n)))) (hn : n < 2 ^ 62) (hl : ∀ o ∈ l', o ∈ l) (hg : Gl X "len" := by rfl) (he : starEach [e] X.env = [(false, eval e X.env)] := by rfl) :
    Ev X (.Call (.Name "len" p) [e] [] pos) G R (.d (.int n)) := by
  obtain ⟨f, fd, ps, h1, h2, h3⟩ := M.ex
  refine ev_callB (r := rLenO C (spD X.K Ct) (fun _ _ _ => False)) (cr_lenO h2 h1 (hr.mono hk) h3 passL) hm boot_len ?_ (eva_cons h eva_nil he) hg (by decide) (by decide) he (by rfl)
  intro H0 xs H F Q ft hs k
  obtain ⟨v, e1, r, ads, r1⟩ := srs1 hs
  subst e1 r
  obtain ⟨a1, _, vs, as, rfl, h5, dx, h6⟩ := r1.mem ho
  obtain ⟨as', _, r3⟩ := r1.sub hl
  refine ⟨a, dx, vs, rfl, h6, F, [.bob a l'], _, hC, ft, ⟨⟨rfl, as', r3⟩, trivial⟩, fun v H' F' g r => ⟨n, r, hn, k v H' F' g r⟩⟩
theorem tv_inO (M : Mtd X.prog X.w X.K X.mg X.base C "__contains__" k Ct) (hr : Room j X.A) (hk : k ≤ j) (hd : Ev X e G R (.d d)) (h : Ev X o G R (.bob a l)) (ho : ⟨a, some C, fs⟩ ∈ l) (hC : Ct [.bob a l', .d d] (.ret (.d (.bl q)))) (hl : ∀ o ∈ l', o ∈ l) (hm : behindInMarks .In o = false := by rfl) : Tv X (.Compare e [.In] [o] pos) G R q := by
  obtain ⟨f, fd, ps, h1, h2, h3⟩ := M.ex
  refine tv_cmpR (op_inO (E := fun _ _ _ => False) h2 h1 (hr.mono hk) h3 passL) (s1 := .d d) (s2 := .bob a l) ?_ hd h hm
  intro H0 x y H F Q ft hx ⟨hy, ads, r1⟩ k
  subst hy
  obtain ⟨a1, _, vs, as, rfl, h5, dx, h6⟩ := r1.mem ho
  obtain ⟨as', _, r3⟩ := r1.sub hl
  refine ⟨a, dx, vs, rfl, h6, F, [.bob a l', .d d], _, hC, ft, ⟨⟨rfl, as', r3⟩, hx, trivial⟩, fun v H' F' g r => ⟨q, r, k _ H' F' g rfl⟩⟩
theorem tv_notinO (M : Mtd X.prog X.w X.K X.mg X.base C "__contains__" k Ct) (hr : Room j X.A) (hk : k ≤ j) (hd : Ev X e G R (.d d)) (h : Ev X o G R (.bob a l)) (ho : ⟨a, some C, fs⟩ ∈ l) (hC : Ct [.bob a l', .d d] (.ret (.d (.bl q)))) (hl : ∀ o ∈ l', o ∈ l) (hm : behindInMarks .NotIn o = false := by rfl) : Tv X (.Compare e [.NotIn] [o] pos) G R (!q) := by
  obtain ⟨f, fd, ps, h1, h2, h3⟩ := M.ex
  refine tv_cmpR (op_notInO (E := fun _ _ _ => False) h2 h1 (hr.mono hk) h3 passL) (s1 := .d d) (s2 := .bob a l) ?_ hd h hm
  intro H0 x y H F Q ft hx ⟨hy, ads, r1⟩ k
  subst hy
  obtain ⟨a1, _, vs, as, rfl, h5, dx, h6⟩ := r1.mem ho
  obtain ⟨as', _, r3⟩ := r1.sub hl
  refine ⟨a, dx, vs, rfl, h6, F, [.bob a l', .d d], _, hC, ft, ⟨⟨rfl, as', r3⟩, hx, trivial⟩, fun v H' F' g r => ⟨q, r, k _ H' F' g rfl⟩⟩
end
end DL

namespace DL
open PySem PySem.Spec L2
section
variable {X : Cx} {G : List S} {R : Res} {e : Expr} {pos p np : Pos}
/-- isinstance(n, c), n the caught error (with a dict of its own) -/
def rIsX (K : PySem.W.Frag) (C a dd : Addr) : List V → Hp → VK → Prop := fun xs H Q => ∃ (D : Addr) (b : Bool) (fs : List (Str × V)), xs = [.ref a, .ref D] ∧ H dd = some (.xd fs) ∧ PySem.W.kitOne K (.ref C) (.ref D) = some b ∧ Q (.bl b) H
theorem call_isX {a dd C : Addr} {oe : Obj} {pn : List (Addr × Obj)} (T : L2.ExcC X.K C) (hz : Zc (.ref C) (some dd) oe) (hf : ∃ vs, oe.data = .fields vs) : CallR (X.suite a ((a, oe) :: pn)) (.builtin "isinstance") (rIsX X.K C a dd) := by
  intro pins s σ H xs us Q I r h
  obtain ⟨D, b, fs, rfl, ea, e, q⟩ := h
  obtain ⟨u1, u2, rfl, r1, r2⟩ := r.two
  obtain rfl : u1 = Value.ref a := r1
  obtain rfl : u2 = Value.ref D := r2
  obtain ⟨hget, _⟩ := I.pin (a, oe) (List.mem_append.mpr (.inl List.mem_cons_self))
  obtain ⟨vs, hv⟩ := hf
  have hx : ObjOk X.prog X.w H s.heap dd (.xd fs) := I.hok dd _ ea
  obtain ⟨mA, hns, hr⟩ := hx
  obtain ⟨od, ho, hl⟩ := lookIn_ns hns
  have J : PySem.W.InstAt s.heap a oe C (some od) := ⟨hget, hz.1, by unfold PySem.W.notCls; rw [hv] <;> rfl, by rw [hz.2]; exact ho⟩
  have hcl : (PySem.W.clsIn X.K C).isSome = true := by
    obtain ⟨cd, hc, _⟩ := PySem.W.any_some T.hd
    rw [hc] <;> rfl
  exact PySem.W.kia_one (PySem.W.kitx_exc hcl T.hg T.hk T.hs T.ha T.hn T.ht T.hm) I.kIn J e (fun z => nomatch z) fun tk => ⟨.bl b, H, I.kept (t' := tk) fun _ _ z => z, rfl, q⟩
/-- a class of the program, as a name -/
def Cls1 (K : PySem.W.Frag) (mg : Str → Option Value) (x : Str) (C : Addr) : Prop := mg x = some (.ref C)
theorem ev_isX {a dd C D : Addr} {oe : Obj} {pn : List (Addr × Obj)} {nm cn : Str} {cp : Pos} {b : Bool} (i : Nat) (T : L2.ExcC X.K C) (hz : Zc (.ref C) (some dd) oe) (hf : ∃ vs, oe.data = .fields vs) (hk : PySem.W.kitOne X.K (.ref C) (.ref D) = some b) (hD : X.mg cn = some (.ref D)) (hm : X.mg "isinstance" = none)
    {fl : List (Str × DL.D)} (hG : G[i]? = some (.exn a dd fl)) (hi : X.N[i]? = some nm := by rfl) (hv : Vis X.env.scope nm := by first | exact Or.inl rfl | exact Or.inr (Or.inl rfl) | exact Or.inr (Or.inr rfl)) (hd : (nm == ("__debug__" : Str)) = false := by decide)
    (hcd : (nm == ("__classdict__" : Str)) = false := by decide) (hg : Gl X "isinstance" := by rfl) (hg2 : Gl X cn := by rfl) (hd2 : (cn == ("__debug__" : Str)) = false := by decide)
    (he : starEach [.Name nm np, .Name cn cp] X.env = (false, eval (.Name nm np) X.env) :: starEach [.Name cn cp] X.env := by rfl) (he2 : starEach [.Name cn cp] X.env = [(false, eval (.Name cn cp) X.env)] := by rfl) (hpl : (backTo pos (starEach [.Name cn cp] X.env)).any (·.1) = false := by rfl) :
    Ev (X.suite a ((a, oe) :: pn)) (.Call (.Name "isinstance" p) [.Name nm np, .Name cn cp] [] pos) G R (.d (.bl b)) := by
  intro en A σ H F Q st q
  obtain ⟨ow, o, h1, h2, h3, vs, h4, h5⟩ := slot_at st hG
  subst h2
  refine ⟨_, pe_callB (X := X.suite a ((a, oe) :: pn)) (call_isX T hz hf) hg hm (by decide +kernel) (pa_cons (pe_var (i := i) hi hv hd hcd) (pa_cons (pe_glob hg2 hD (v := .ref D) rfl hd2) pa_nil he2) he) (by decide) (by decide) he hpl, ?_⟩
  exact ⟨_, h1, D, b, vs, rfl, h4, hk, q _ H F (Grow.refl st.ft) rfl⟩
end
end DL

namespace DL
open PySem PySem.Spec L2
abbrev FnQ (K : PySem.W.Frag) (x q : Str) (st : Stmt) (f : Addr) (fd : FuncData) : Prop := FunD K x q (defArgs st) (defBody st) (defScope st) [] [] f fd
/-- the getter of a property -/
def gAd (K : PySem.W.Frag) (C m : Str) : Addr := match PySem.W.recIn K (He.ma K (He.ga K C) m) "property" with
  | some (.ref g :: _) => g
  | _ => 0
structure GetD where
  C : Str
  m : Str
  qual : Str
  params : Arguments
  body : List Stmt
  scope : Scope
def fnG (K : PySem.W.Frag) (C m : Str) : He.FnW := match K.lookup (gAd K C m) with
  | some ⟨_, _, .func fd, _⟩ => some (fd.name, fd.qualname, fd.params, fd.body, fd.scope, fd.globals, fd.closure, fd.builtins)
  | _ => none
def GetD.val (d : GetD) : He.FnW := some (d.m, d.qual, d.params, .stmts d.body, d.scope, mainGlobals, [], builtinsNs)
def getB (K : PySem.W.Frag) (d : GetD) : Bool :=
  He.eqO (PySem.W.findIn K (.ref (He.ga K d.C)) d.m) (some (some (.ref (He.ma K (He.ga K d.C) d.m)))) && (He.eqO (PySem.W.specialIn K (.ref (He.ma K (He.ga K d.C) d.m)) "__get__") (some (some (.builtin "property.__get__"))) &&
  (decide (PySem.W.takesIn K (.ref (He.ma K (He.ga K d.C) d.m)) = some true) && ((match PySem.W.recIn K (He.ma K (He.ga K d.C) d.m) "property" with
    | some (.ref _ :: _) => true
    | _ => false) && (PySem.W.keepIn K (.ref (gAd K d.C d.m)) && (match K.lookup (gAd K d.C d.m) with
    | some ⟨_, _, .func fd, _⟩ => PySem.W.codeIn K fd.code d.qual && (He.dflB K fd.defaults [] && He.kwdB K fd.kwdefaults [])
    | _ => false)))))
theorem get_ok {K : PySem.W.Frag} {d : GetD} (e : fnG K d.C d.m = d.val) (c : getB K d = true) : PropOf K (He.ga K d.C) d.m (He.ma K (He.ga K d.C) d.m) (gAd K d.C d.m) ∧ ∃ fd, FunD K d.m d.qual d.params d.body d.scope [] [] (gAd K d.C d.m) fd := by
  unfold getB at c
  obtain ⟨c1, c⟩ := He.ba c
  obtain ⟨c2, c⟩ := He.ba c
  obtain ⟨c3, c⟩ := He.ba c
  obtain ⟨c4, c⟩ := He.ba c
  obtain ⟨kp, c5⟩ := He.ba c
  refine ⟨⟨He.eqO_ok c1, He.eqO_ok c2, of_decide_eq_true c3, ?_⟩, ?_⟩
  · unfold gAd
    split at c4
    · next g r h => rw [h]; exact ⟨r, rfl⟩
    · cases c4
  · unfold fnG at e
    cases q : K.lookup (gAd K d.C d.m) with
    | none =>
      rw [q] at c5
      cases c5
    | some o =>
      obtain ⟨oc, od, dt, osl⟩ := o
      rw [q] at c5 e
      cases dt with
      | func fd =>
        obtain ⟨n1, n2, n3, n4, n5, n6, n7, n8, n9, n10, n11, n12, n13, n14, n15⟩ := fd
        have e2 : (some (n1, n2, n3, n4, n5, n6, n7, n15) : He.FnW) = some (d.m, d.qual, d.params, .stmts d.body, d.scope, mainGlobals, [], builtinsNs) := e
        simp only [Option.some.injEq, Prod.mk.injEq] at e2
        obtain ⟨h1, h2, h3, h4, h5, h6, h7, h8⟩ := e2
        subst h1 h2 h3 h4 h5 h6 h7 h8
        obtain ⟨k1, k2⟩ := He.ba c5
        obtain ⟨k3, k4⟩ := He.ba k2
        exact ⟨_, ⟨oc, od, n8, n9, n10, n11, n12, n13, n14, osl, rfl, q, k1, He.dflB_ok k3, He.kwdB_ok k4⟩, kp⟩
      | _ => cases c5
/-- isinstance of a caught error of the class x -/
def excB (K : PySem.W.Frag) (x : Str) : Bool :=
  xfB K (He.ga K x) && (He.eqO (PySem.W.findIn K (.ref (He.ga K x)) "__class__") (some (some (.builtin "object.__class__"))) && (He.eqO (PySem.W.specialIn K (.builtin "object.__class__") "__get__") (some (some (.builtin "getset_descriptor.__get__"))) &&
  (decide (PySem.W.takesIn K (.builtin "object.__class__") = some true) && decide (PySem.W.mroIn K (He.ga K x) (.type "object") = some true))))
theorem excB_ok {K : PySem.W.Frag} {x : Str} (c : excB K x = true) : L2.ExcC K (He.ga K x) := by
  unfold excB at c
  obtain ⟨c1, c⟩ := He.ba c
  obtain ⟨c2, c⟩ := He.ba c
  obtain ⟨c3, c⟩ := He.ba c
  obtain ⟨c4, c5⟩ := He.ba c
  have T := xfB_ok c1
  exact ⟨T.ga, T.gg, T.exC, T.hdC, He.eqO_ok c2, He.eqO_ok c3, of_decide_eq_true c4, of_decide_eq_true c5⟩
def kitB (x y : Str) (b : Bool) (K : PySem.W.Frag) : Bool := decide (PySem.W.kitOne K (.ref (He.ga K x)) (.ref (He.ga K y)) = some b)
theorem kitB_ok {K : PySem.W.Frag} {x y : Str} {b : Bool} (c : kitB x y b K = true) : PySem.W.kitOne K (.ref (He.ga K x)) (.ref (He.ga K y)) = some b := of_decide_eq_true c

section
variable {X : Cx} {W : Exw} {G : List S} {R : Res} {o : Expr} {pos apos : Pos} {l l' : List Ob} {a C : Addr} {fs : List (Str × FV)} {m : Str} {xn : Exn} {Ct : Ct} {k j : Nat} {pl : Sem Bool}
theorem evx_meth0 (M : Mtd X.prog X.w X.K X.mg X.base C m k Ct) (hr : Room j X.A) (hk : k ≤ j) (h : Ev X o G R (.bob a l)) (ho : ⟨a, some C, fs⟩ ∈ l) (hno : fs.lookup m = none) (hC : Ct [.bob a l'] (.exc xn)) (hl : ∀ o ∈ l', o ∈ l)
    (ht : eval (.Call (.Attribute o m apos) [] [] pos) X.env = (do
      let ov ← eval o X.env
      standAt apos.atName
      let (f, first) ← holding [ov] (getMethod ov m pl)
      callWith pos f first (backTo pos (starEach [] X.env)) (backToKw pos (keywordEach [] X.env))) := by rfl) : EvX X (.Call (.Attribute o m apos) [] [] pos) G R xn := by
  intro W en A σ H H0 F F0 Q tk mn st hw
  obtain ⟨f, fd, ps, h1, h2, h3⟩ := M.ex
  refine ⟨_, pe_methAt0 pe_t M.cl h2 h1 (hr.mono hk) h3 (fun σ => passAt tk σ) ht, ?_⟩
  refine h en A σ H F _ st fun v H1 F1 g1 ⟨r, ads, r1⟩ => ?_
  subst r
  obtain ⟨a1, _, vs, as, rfl, h5, h6⟩ := r1.mem ho
  obtain ⟨dx, h6⟩ := h6
  refine ⟨a, dx, vs, rfl, h6, h5.none hno, ?_⟩
  obtain ⟨as', _, r3⟩ := r1.sub hl
  refine ⟨F1, [.bob a l'], .exc xn, hC, g1.t, ⟨⟨rfl, as', r3⟩, trivial⟩, fun cls d H3 F3 g3 hx => ?_⟩
  have g := g1.trans g3
  exact ⟨xn, G, R, A, F3, hw, st.grow g, hx, mn.trans g.mon⟩
end
/-! ### data behind other kinds of values -/
def S.asD : S → Option D
  | .d x => some x
  | .bor xs => some (.lst xs)
  | _ => none
theorem sr_dp {K : PySem.W.Frag} {H0 H : Hp} {F : Fz} {v : V} {s : S} {d : D} (hs : s.asD = some d) (hp : d.pure = true) (h : SR K s H0 v H F) : Dp K H v d.py := by
  cases s with
  | d x =>
    have e : x = d := Option.some.inj hs
    subst e
    exact Dn.dp x v hp h
  | bor ds =>
    have e : D.lst ds = d := Option.some.inj hs
    subst e
    exact bor_dp hp h
  | _ => cases hs
section
variable {X : Cx} {G : List S} {R : Res} {a b : Expr} {pos : Pos} {d e : D} {ds : List D} {s1 s2 : S} {r : Nat}
theorem ro_eqG {K : PySem.W.Frag} (hd : d.Fit) (he : e.Fit) (h1 : s1.asD = some d) (h2 : s2.asD = some e) : RO K (rEqD K) s1 s2 (.d (.bl (D.eq d e))) := fun H0 x y H F Q ft hx hy k => by
  obtain ⟨n, q1, q2⟩ := hd.sh
  obtain ⟨m, q3, q4⟩ := he.sh
  exact ⟨d.py, e.py, sr_dp h1 (D.nb_pure d hd.nb) hx, sr_dp h2 (D.nb_pure e he.nb) hy, D.shaped q2 q1, D.shaped q4 q3, k _ H F (Grow.refl ft) (by rw [D.eqv_eq hd he]; rfl)⟩
theorem ro_neG {K : PySem.W.Frag} (hd : d.Fit) (he : e.Fit) (h1 : s1.asD = some d) (h2 : s2.asD = some e) : RO K (rNeD K) s1 s2 (.d (.bl (!D.eq d e))) := fun H0 x y H F Q ft hx hy k => by
  obtain ⟨n, q1, q2⟩ := hd.sh
  obtain ⟨m, q3, q4⟩ := he.sh
  exact ⟨d.py, e.py, sr_dp h1 (D.nb_pure d hd.nb) hx, sr_dp h2 (D.nb_pure e he.nb) hy, D.shaped q2 q1, D.shaped q4 q3, k _ H F (Grow.refl ft) (by rw [D.eqv_eq hd he]; rfl)⟩
theorem tv_eqG (hu : Room r X.A) (hd : d.Fit) (he : e.Fit) (ha : Ev X a G R s1) (hb : Ev X b G R s2) (h1 : s1.asD = some d := by rfl) (h2 : s2.asD = some e := by rfl) : Tv X (.Compare a [.Eq] [b] pos) G R (D.eq d e) := tv_cmpR (op_eqD hu.units) (ro_eqG hd he h1 h2) ha hb (nomark _)
theorem tv_neG (hu : Room r X.A) (hd : d.Fit) (he : e.Fit) (ha : Ev X a G R s1) (hb : Ev X b G R s2) (h1 : s1.asD = some d := by rfl) (h2 : s2.asD = some e := by rfl) : Tv X (.Compare a [.NotEq] [b] pos) G R (!D.eq d e) := tv_cmpR (op_neD hu.units) (ro_neG hd he h1 h2) ha hb (nomark _)
theorem ev_eqG (hu : Room r X.A) (hd : d.Fit) (he : e.Fit) (ha : Ev X a G R s1) (hb : Ev X b G R s2) (h1 : s1.asD = some d := by rfl) (h2 : s2.asD = some e := by rfl) : Ev X (.Compare a [.Eq] [b] pos) G R (.d (.bl (D.eq d e))) := ev_cmpR (op_eqD hu.units) (ro_eqG hd he h1 h2) ha hb (nomark _)
/-- they are equal -/
theorem tv_neG_f (hu : Room r X.A) (hd : d.Fit) (ha : Ev X a G R s1) (hb : Ev X b G R s2) (h1 : s1.asD = some d := by rfl) (h2 : s2.asD = some d := by rfl) : Tv X (.Compare a [.NotEq] [b] pos) G R false := tv_eq (tv_neG hu hd hd ha hb h1 h2) (by rw [D.eq_true rfl]; rfl)
/-- .. by the units alone (in an except suite) -/
theorem tv_neU (hu : X.A.units + 64 < cLine) (hd : d.Fit) (he : e.Fit) (ha : Ev X a G R s1) (hb : Ev X b G R s2) (h1 : s1.asD = some d := by rfl) (h2 : s2.asD = some e := by rfl) : Tv X (.Compare a [.NotEq] [b] pos) G R (!D.eq d e) := tv_cmpR (op_neD hu) (ro_neG hd he h1 h2) ha hb (nomark _)
theorem tv_neU_f (hu : X.A.units + 64 < cLine) (hd : d.Fit) (ha : Ev X a G R s1) (hb : Ev X b G R s2) (h1 : s1.asD = some d := by rfl) (h2 : s2.asD = some d := by rfl) : Tv X (.Compare a [.NotEq] [b] pos) G R false := tv_eq (tv_neU hu hd hd ha hb h1 h2) (by rw [D.eq_true rfl]; rfl)
theorem ev_in (hu : Room r X.A) (hr : 0 < r) (hd : d.Fit) (hs : FitL ds) (ha : Ev X a G R (.d d)) (hb : Ev X b G R (.bor ds)) (hm : behindInMarks .In b = false := by rfl) : Ev X (.Compare a [.In] [b] pos) G R (.d (.bl (D.mem d ds))) := ev_cmpR (op_inD (by have := hu.un; omega)) (ro_inD hd hs) ha hb hm
end
/-! ### books as data -/
structure Fc where
  a : Str
  b : Str
  lo : Rat
  hi : Rat
abbrev fcD (f : Fc) : D := .tup [.str f.a, .str f.b, ratD f.lo, ratD f.hi]
structure Pst where
  w : Str
  nm : List Str
  fc : List Fc
abbrev pstD (p : Pst) : D := .tup [.str p.w, .lst (strDs p.nm), .lst (p.fc.map fcD)]
structure BkS where
  nm : List Str
  fc : List Fc
  past : List Pst
abbrev bkF (b : BkS) : List (Str × FV) := [("_names", .own (strDs b.nm)), ("_facts", .own (b.fc.map fcD)), ("_past", .own (b.past.map pstD))]
abbrev bkO (a C : Addr) (b : BkS) : Ob := ⟨a, some C, bkF b⟩
abbrev bkFl : List Str := ["_names", "_facts", "_past"]
structure FcOk (f : Fc) : Prop where
  a : okS f.a
  b : okS f.b
  lo : Bd 20 f.lo
  hi : Bd 20 f.hi
structure BkOk (b : BkS) : Prop where
  n1 : b.nm.length ≤ 60
  n2 : ∀ x ∈ b.nm, okS x
  f1 : b.fc.length ≤ 60
  f2 : ∀ f ∈ b.fc, FcOk f
  p1 : b.past.length ≤ 10000
theorem strDs_len (l : List Str) : (strDs l).length = l.length := List.length_map ..
theorem fcs_len (l : List Fc) : (l.map fcD).length = l.length := List.length_map ..
theorem strDs_fit {l : List Str} (h : ∀ x ∈ l, okS x) : FitL (strDs l) := FitL.of_all (n := 1) (by decide) fun d hd => by
  obtain ⟨x, hx, rfl⟩ := List.mem_map.mp hd
  exact ⟨rfl, str_shp (h x hx) 1⟩
theorem strD_mem {l : List Str} {x : Str} : D.str x ∈ strDs l ↔ x ∈ l := by
  constructor
  · intro h
    obtain ⟨y, hy, e⟩ := List.mem_map.mp h
    cases e
    exact hy
  · exact fun h => List.mem_map_of_mem h
theorem str_mem_eq {l : List Str} {x : Str} [Decidable (x ∈ l)] : D.mem (.str x) (strDs l) = decide (x ∈ l) := by
  by_cases h : x ∈ l
  · rw [decide_eq_true h, D.mem_iff.mpr (strD_mem.mpr h)]
  · rw [decide_eq_false h, D.mem_false.mpr (fun z => h (strD_mem.mp z))]
theorem str_fit {x : Str} (h : okS x) : (D.str x).Fit := ⟨rfl, 1, by decide, str_shp h 1⟩
theorem fcD_fit {f : Fc} (h1 : okS f.a) (h2 : okS f.b) : (fcD f).nb = true ∧ D.shp 3 (fcD f) = true := by
  refine ⟨rfl, tup_shp fun d hd => ?_⟩
  rcases List.mem_cons.mp hd with rfl | hd
  · exact str_shp h1 _
  rcases List.mem_cons.mp hd with rfl | hd
  · exact str_shp h2 _
  rcases List.mem_cons.mp hd with rfl | hd
  · exact ratD_shp _ _
  rw [List.mem_singleton.mp hd]
  exact ratD_shp _ _
theorem fcsL_fit {l : List Fc} (h : ∀ f ∈ l, okS f.a ∧ okS f.b) : (D.lst (l.map fcD)).Fit := ⟨nbs_all fun d hd => by
    obtain ⟨f, hf, rfl⟩ := List.mem_map.mp hd
    exact (fcD_fit (h f hf).1 (h f hf).2).1, 4, by decide, shps_all fun d hd => by
    obtain ⟨f, hf, rfl⟩ := List.mem_map.mp hd
    exact (fcD_fit (h f hf).1 (h f hf).2).2⟩
theorem fcD_inj {f g : Fc} (h : fcD f = fcD g) : f = g := by
  obtain ⟨a, b, lo, hi⟩ := f
  obtain ⟨a', b', lo', hi'⟩ := g
  simp only [fcD, D.tup.injEq, List.cons.injEq, D.str.injEq, and_true] at h
  obtain ⟨h1, h2, h3, h4⟩ := h
  have e3 : lo = lo' := ratD_inj (by unfold ratD; rw [D.tup.injEq]; simp only [List.cons.injEq, and_true]; exact h3)
  have e4 : hi = hi' := ratD_inj (by unfold ratD; rw [D.tup.injEq]; simp only [List.cons.injEq, and_true]; exact h4)
  rw [h1, h2, e3, e4]
/-- what a book's error tells -/
abbrev bkE (eB : Addr) (w : Str) (ch : D) : Exn := ⟨eB, some [("chain", ch), ("what", .str w)]⟩
end DL

namespace DL
open PySem PySem.Spec L2
def valD (kvs : List (Key × D)) (k : Key) : Option D := (kvs.find? fun kv => decide (kv.1 = k)).map (·.2)
def putD (kvs : List (Key × D)) (k : Key) (v : D) : List (Key × D) :=
  if (kvs.any fun kv => decide (kv.1 = k)) = true then kvs.map (fun kv => if kv.1 = k then (kv.1, v) else kv) else kvs ++ [(k, v)]
section
variable {K : PySem.W.Frag} {H : Hp} {F : Fz} {k : Key} {d : D} {v : V}
theorem DnK.len : ∀ {ds : List (Key × D)} {vs : List (Key × V)}, DnK K F H ds vs → vs.length = ds.length
  | [], [], _ => rfl
  | _ :: _, _ :: _, h => by rw [List.length_cons, List.length_cons, DnK.len h.2.2]
  | [], _ :: _, h => h.elim
  | _ :: _, [], h => h.elim
theorem DnK.val : ∀ {ds : List (Key × D)} {vs : List (Key × V)}, DnK K F H ds vs → (valD ds k = none ∧ valV vs k = none) ∨ ∃ d v, valD ds k = some d ∧ valV vs k = some v ∧ Dn K F H d v
  | [], [], _ => .inl ⟨rfl, rfl⟩
  | (k1, d1) :: ds, (k2, v2) :: vs, ⟨h1, h2, h3⟩ => by
    have e : k1 = k2 := h1
    subst e
    by_cases q : k1 = k
    · refine .inr ⟨d1, v2, ?_, valV_pos q, h2⟩
      unfold valD
      rw [List.find?_cons_of_pos (by exact decide_eq_true q)]
      rfl
    · have e1 : valD ((k1, d1) :: ds) k = valD ds k := by unfold valD; rw [List.find?_cons_of_neg (by show ¬ decide (k1 = k) = true; rw [decide_eq_false q]; exact Bool.false_ne_true)]
      have e2 : valV ((k1, v2) :: vs) k = valV vs k := valV_neg q
      rw [e1, e2]
      exact DnK.val h3
  | [], _ :: _, h => h.elim
  | _ :: _, [], h => h.elim
theorem DnK.any : ∀ {ds : List (Key × D)} {vs : List (Key × V)}, DnK K F H ds vs → (ds.any fun kv => decide (kv.1 = k)) = (vs.any fun kv => decide (kv.1 = k))
  | [], [], _ => rfl
  | (k1, d1) :: ds, (k2, v2) :: vs, ⟨h1, h2, h3⟩ => by
    have e : k1 = k2 := h1
    subst e
    rw [List.any_cons, List.any_cons, DnK.any h3]
  | [], _ :: _, h => h.elim
  | _ :: _, [], h => h.elim
theorem DnK.app : ∀ {ds es : List (Key × D)} {vs ws : List (Key × V)}, DnK K F H ds vs → DnK K F H es ws → DnK K F H (ds ++ es) (vs ++ ws)
  | [], _, [], _, _, h => h
  | _ :: _, _, _ :: _, _, h, g => ⟨h.1, h.2.1, DnK.app h.2.2 g⟩
  | [], _, _ :: _, _, h, _ => h.elim
  | _ :: _, _, [], _, h, _ => h.elim
theorem DnK.put (hd : Dn K F H d v) {ds : List (Key × D)} {vs : List (Key × V)} (h : DnK K F H ds vs) : DnK K F H (putD ds k d) (putK vs k v) := by
  unfold putD putK
  rw [DnK.any h]
  split
  · rename_i hq; clear hq
    induction ds generalizing vs with
    | nil => cases vs with
      | nil => exact trivial
      | cons _ _ => exact h.elim
    | cons p ds ih => cases vs with
      | nil => exact h.elim
      | cons q vs =>
        obtain ⟨h1, h2, h3⟩ := h
        rw [List.map_cons, List.map_cons]
        by_cases e : p.1 = k
        · rw [if_pos e, if_pos (h1 ▸ e)]
          exact ⟨h1, hd, ih h3⟩
        · rw [if_neg e, if_neg (fun z => e (h1.trans z))]
          exact ⟨h1, h2, ih h3⟩
  · exact DnK.app h ⟨rfl, hd, trivial⟩
end
section
variable {X : Cx} {W : Exw} {G : List S} {R : Res} {O : Out} {e e1 e2 o i value tg iter : Expr} {rest body : List Stmt} {pos pos' p1 : Pos} {d : D} {kvs : List (Key × D)} {x : Str} {r : Nat}
theorem ev_kb (h : Ev X e G R (.dic kvs)) : Ev X e G R (.bdic kvs) := fun en A σ H F Q st k => h en A σ H F Q st fun v H' F' g ⟨a, vs, h1, h2, h3, h4, h5⟩ => k v H' F' g ⟨a, vs, h1, .inl h4, h5⟩
theorem ev_dic0 : Ev X (.Dict [] [] pos) G R (.dic []) := fun en A σ H F Q st k => by
  refine ⟨_, pe_dnewK, fun p hp => ?_⟩
  exact k _ _ F (Grow.new hp st.ft) ⟨p, [], rfl, hp, fresh_nf st.ft hp, upd_same, trivial⟩
theorem rd_key {K : PySem.W.Frag} {H : Hp} {a : Addr} {vs : List (Key × V)} {o : Option V} (h : Rd H a (.dK vs)) (hv : valV vs (.inr x) = o) : DGet H a (.str x) o := .inl ⟨vs, .inr x, h, rfl, hv.symm⟩
theorem ev_dgetS (hu : X.A.units + 1 < cLine) (ho : Ev X o G R (.bdic kvs)) (hi : Ev X i G R (.d (.str x))) (hv : valD kvs (.inr x) = some d) (hs : NoSl i := by exact fun _ _ => rfl) : Ev X (.Subscript o i pos) G R (.d d) := by
  intro en A σ H F Q st k
  refine ⟨_, pe_dget hu pe_t pe_t hs, ?_⟩
  refine ho en A σ H F _ st fun u H1 F1 g1 r1 => ?_
  refine hi en A σ H1 F1 _ (st.grow g1) fun y H2 F2 g2 r2 => ?_
  obtain ⟨a, vs, rfl, h1, h2⟩ := SR.grow r1 g2
  have r2' : y = .str x := r2
  subst r2'
  rcases DnK.val (k := .inr x) h2 with ⟨h3, _⟩ | ⟨d', v, h3, h4, h5⟩
  · rw [hv] at h3; cases h3
  · rw [hv] at h3
    cases h3
    exact ⟨a, v, rfl, rd_key (K := X.K) h1 h4, k v H2 F2 (g1.trans g2) h5⟩
theorem tv_inK (hu : X.A.units + 1 < cLine) (hi : Ev X i G R (.d (.str x))) (ho : Ev X o G R (.bdic kvs)) (hm : behindInMarks .In o = false := by rfl) : Tv X (.Compare i [.In] [o] pos) G R (valD kvs (.inr x)).isSome := by
  intro en A σ H F Q st k
  refine ⟨_, pt_cmp (pc_din hu pe_t pe_t) hm, ?_⟩
  refine hi en A σ H F _ st fun y H1 F1 g1 r1 => ?_
  refine ho en A σ H1 F1 _ (st.grow g1) fun u H2 F2 g2 r2 => ?_
  have r1' : y = .str x := r1
  subst r1'
  obtain ⟨a, vs, rfl, h1, h2⟩ := r2
  refine ⟨a, valV vs (.inr x), rfl, rd_key (K := X.K) h1 rfl, _, rfl, ?_⟩
  have e : (valV vs (.inr x)).isSome = (valD kvs (.inr x)).isSome := by
    rcases DnK.val (k := .inr x) h2 with ⟨h3, h4⟩ | ⟨d', v, h3, h4, h5⟩ <;> rw [h3, h4] <;> rfl
  rw [e]
  exact k H2 F2 (g1.trans g2)
theorem tv_notinK (hu : X.A.units + 1 < cLine) (hi : Ev X i G R (.d (.str x))) (ho : Ev X o G R (.bdic kvs)) (hm : behindInMarks .NotIn o = false := by rfl) : Tv X (.Compare i [.NotIn] [o] pos) G R (!(valD kvs (.inr x)).isSome) := by
  intro en A σ H F Q st k
  refine ⟨_, pt_cmp (pc_dnotin hu pe_t pe_t) hm, ?_⟩
  refine hi en A σ H F _ st fun y H1 F1 g1 r1 => ?_
  refine ho en A σ H1 F1 _ (st.grow g1) fun u H2 F2 g2 r2 => ?_
  have r1' : y = .str x := r1
  subst r1'
  obtain ⟨a, vs, rfl, h1, h2⟩ := r2
  refine ⟨a, valV vs (.inr x), rfl, rd_key (K := X.K) h1 rfl, _, rfl, ?_⟩
  have e : (valV vs (.inr x)).isSome = (valD kvs (.inr x)).isSome := by
    rcases DnK.val (k := .inr x) h2 with ⟨h3, h4⟩ | ⟨d', v, h3, h4, h5⟩ <;> rw [h3, h4] <;> rfl
  rw [e]
  exact k H2 F2 (g1.trans g2)
/-- an own dict is changed -/
theorem Sta.mutK {K : PySem.W.Frag} {en : En} {A : Addr → Prop} {σ : L2.St} {H : Hp} {F : Fz} {j : Nat} {ds es : List (Key × D)} (st : Sta K en G R A σ H F) (h : G[j]? = some (.dic ds)) : ∃ a vs, σ[j]? = some (some (.ref a)) ∧ H a = some (.dK vs) ∧ DnK K F H ds vs ∧
    ∀ ws, DnK K F H es ws → Sta K en (G.set j (.dic es)) R A σ (upd H a (.dK ws)) F ∧ Mon H F (upd H a (.dK ws)) F := by
  obtain ⟨ow, q⟩ := st.sl
  obtain ⟨o, h1, a, vs, rfl, h2, h3, h4, h5, h6, h7⟩ := q j _ h
  refine ⟨a, vs, h1, h5, h6, fun ws hw => ?_⟩
  have m : Mon H F (upd H a (.dK ws)) F := mon_upd h5 (fun _ z => nomatch z) (fun _ _ z => nomatch z) h3
  have un : ∀ b o, b ≠ a → H b = some o → upd H a (.dK ws) b = some o := fun b o e h => by rw [upd_ne e]; exact h
  have tr : ∀ b, H b ≠ none → upd H a (.dK ws) b ≠ none := fun b hb => by
    by_cases e : b = a
    · rw [e, upd_same]; exact fun z => nomatch z
    · rw [upd_ne e]; exact hb
  refine ⟨⟨fun b o hb na => un b o (fun e => by rw [e, h7] at hb; cases hb) (st.fr b o hb na), fun b hb => tr b (st.th b hb), st.f0, st.f1, fun b hb => tr b (st.ft b hb), fun b hb => ?_, ?_, by rw [List.length_set]; exact st.len, ow, fun l t ht => ?_⟩, m⟩
  · obtain ⟨k1, k2, k3⟩ := st.at_ b hb
    exact ⟨tr b k1, k2, k3⟩
  · refine R.stable st.rs m fun b hb => ?_
    rw [upd_ne (fun e => h4 (by rw [← e]; exact hb))]
  · by_cases e : j = l
    · subst e
      have hl : j < G.length := by
        rcases Nat.lt_or_ge j G.length with z | z
        · exact z
        · rw [List.getElem?_eq_none z] at h; cases h
      rw [List.getElem?_set_self hl] at ht
      cases ht
      exact ⟨_, h1, a, ws, rfl, h2, h3, h4, upd_same, DnK.mon m hw, h7⟩
    · rw [List.getElem?_set_ne e] at ht
      obtain ⟨o, k1, k2⟩ := q l t ht
      refine ⟨o, k1, ?_⟩
      cases t with
      | any => trivial
      | d x => obtain ⟨v, z1, z2⟩ := k2; exact ⟨v, z1, Dn.mon m _ _ z2⟩
      | own fs =>
        obtain ⟨b, us, z1, z2, z3, z4, z5, z6, z7⟩ := k2
        exact ⟨b, us, z1, z2, z3, z4, un b _ (fun z => e (by rw [z, h2] at z2; exact z2)) z5, DnA.mon m _ _ z6, z7⟩
      | bor fs => obtain ⟨b, us, z1, z2, z3, z4⟩ := k2; exact ⟨b, us, z1, z2, z3, DnA.mon m _ _ z4⟩
      | scr ns => exact k2
      | dic fs =>
        obtain ⟨b, us, z1, z2, z3, z4, z5, z6, z7⟩ := k2
        exact ⟨b, us, z1, z2, z3, z4, un b _ (fun z => e (by rw [z, h2] at z2; exact z2)) z5, DnK.mon m z6, z7⟩
      | bdic fs => obtain ⟨b, us, z1, z2, z3, z4⟩ := k2; exact ⟨b, us, z1, z2, z3, DnK.mon m z4⟩
      | bob b l => obtain ⟨z1, ads, z2, z3⟩ := k2; exact ⟨z1, ads, ObsAt.mon m (fun _ _ _ z => z) z2, z3⟩
      | ldic b l => obtain ⟨z1, vs0, z2, z3, z4⟩ := k2; exact ⟨z1, vs0, z2, z3, DnK.mon m z4⟩
      | exn b dd fs => obtain ⟨z1, z2, us, z3, z4⟩ := k2; exact ⟨z1, z2, us, un dd _ (fun z => by rw [z, h5] at z3; cases z3) z3, DnF.mon m z4⟩
/-- x[k] = e, x an own dict -/
theorem ex_dput (j : Nat) {nm : Str} (hu : X.A.units + 1 < cLine) (he : Ev X value G R (.d d)) (h : G[j]? = some (.dic kvs)) (hi : Ev X i G R (.d (.str x))) (hl : kvs.length < sizeLine) (k : Ex X W rest (G.set j (.dic (putD kvs (.inr x) d))) R O)
    (hN : X.N[j]? = some nm := by rfl) (hv : Vis X.env.scope nm := by first | exact Or.inl rfl | exact Or.inr (Or.inl rfl) | exact Or.inr (Or.inr rfl)) (hd : (nm == ("__debug__" : Str)) = false := by decide) (hcd : (nm == ("__classdict__" : Str)) = false := by decide)
    (hs : swapsWith value (some (.Subscript (.Name nm p1) i pos')) pos.line X.env = pure false := by rfl) : Ex X W (.Assign [.Subscript (.Name nm p1) i pos'] value pos :: rest) G R O := fun en A σ H F D st p => by
  refine ⟨_, pss_cons (ps_dput hu (pe_var hN hv hd hcd) pe_t pe_t hs) pss_t, ?_⟩
  refine he en A σ H F _ st fun v H1 F1 g1 r1 => ?_
  obtain ⟨a, vs, h1, h2, h3, _⟩ := (st.grow g1).mutK (es := []) h
  refine ⟨_, h1, ?_⟩
  refine hi en A σ H1 F1 _ (st.grow g1) fun y H2 F2 g2 r2 => ?_
  have r2' : y = .str x := r2
  subst r2'
  obtain ⟨a', vs', k1, k2, k3, k4⟩ := ((st.grow g1).grow g2).mutK (es := putD kvs (.inr x) d) h
  rw [h1] at k1
  cases k1
  obtain ⟨st', m'⟩ := k4 (putK vs' (.inr x) v) (DnK.put (Dn.mon g2.mon _ _ r1) k3)
  refine ⟨a, _, rfl, DPut.k (k := .inr x) k2 (by rw [k3.len]; exact hl), ?_⟩
  exact k en A σ _ F2 D st' (p.from ((g1.trans g2).mon.trans m'))
theorem ex_retK (j : Nat) {nm : Str} {p1 : Pos} (h : G[j]? = some (.dic kvs)) (ho : O.rt (.dic kvs) R) (hN : X.N[j]? = some nm := by rfl) (hv : Vis X.env.scope nm := by first | exact Or.inl rfl | exact Or.inr (Or.inl rfl) | exact Or.inr (Or.inr rfl)) (hd : (nm == ("__debug__" : Str)) = false := by decide)
    (hcd : (nm == ("__classdict__" : Str)) = false := by decide) : Ex X W (.Return (some (.Name nm p1)) pos :: rest) G R O := fun en A σ H F D st p => by
  refine ⟨_, pss_cons (ps_ret (pe_var hN hv hd hcd)) pss_t, ?_⟩
  obtain ⟨ow, o, h1, a, vs, rfl, h2, h3, h4, h5, h6, h7⟩ := slot_at st h
  refine ⟨_, h1, ?_⟩
  exact p.rt (.dic kvs) R A _ H F ho st.fin ⟨a, vs, rfl, h7, h3, h5, h6⟩ (fun b e => by cases e; exact h4)
/-- {k: v} -/
theorem ev_dic1 {k1 : Expr} (hk : Ev X k1 G R (.d (.str x))) (hv : Ev X value G R (.d d)) (hp : ∀ {tk tv : TE}, PE X k1 tk → PE X value tv → PPs X pos [some k1] [value] [(tk, tv)]) : Ev X (.Dict [some k1] [value] pos) G R (.dic [(.inr x, d)]) := by
  intro en A σ H F Q st q
  refine ⟨_, pe_disp (hp pe_t pe_t) rfl rfl (by simp) (Nat.le_of_ble_eq_true rfl), fun p hpn => ?_⟩
  have g0 : Grow H F (upd H p (.dK [])) F := Grow.new hpn st.ft
  show tE X k1 σ (upd H p (.dK [])) _
  refine hk en A σ _ F _ (st.grow g0) fun y H1 F1 g1 r1 => ?_
  refine hv en A σ H1 F1 _ ((st.grow g0).grow g1) fun v H2 F2 g2 r2 => ?_
  have r1' : y = .str x := r1
  subst r1'
  have hp2 : H2 p = some (.dK []) := g2.h _ _ (g1.h _ _ upd_same)
  refine ⟨hp2, [(.inr x, v)], rfl, Nat.le_of_ble_eq_true rfl, ?_⟩
  have gg := (g0.trans g1).trans g2
  have nF : ¬ F2 p := fun z => by
    rcases gg.n p z with y | y
    · exact st.ft p y hpn
    · rcases g2.n p z with w1 | w1
      · rcases g1.n p w1 with w2 | w2
        · exact st.ft p w2 hpn
        · rw [upd_same] at w2; cases w2
      · rw [g1.h _ _ upd_same] at w1; cases w1
  have m : Mon H2 F2 (upd H2 p (.dK (mergeK [] [(.inr x, v)]))) F2 := mon_upd hp2 (fun _ z => nomatch z) (fun _ _ z => nomatch z) nF
  have g3 : Grow H F (upd H2 p (.dK (mergeK [] [(.inr x, v)]))) F2 := by
    refine ⟨fun a o h => ?_, gg.f, gg.n, fun a h => ?_⟩
    · rw [upd_ne (ne_of_none h hpn)]; exact gg.h a o h
    · by_cases e : a = p
      · rw [e, upd_same]; exact fun z => nomatch z
      · rw [upd_ne e]; exact gg.t a h
  exact q _ _ F2 g3 ⟨p, _, rfl, hpn, nF, upd_same, rfl, Dn.mon m _ _ r2, trivial⟩
end
end DL

namespace DL
open PySem PySem.Spec L2
section
variable {X : Cx} {W : Exw} {G : List S} {R : Res} {O : Out} {e tg : Expr} {rest body : List Stmt} {pos p1 : Pos} {kvs : List (Key × D)}
theorem ev_varL (i : Nat) {a : Addr} {x : Str} {pos : Pos} (hs : G[i]? = some (.ldic a kvs)) (hN : X.N[i]? = some x := by rfl) (hv : Vis X.env.scope x := by first | exact Or.inl rfl | exact Or.inr (Or.inl rfl) | exact Or.inr (Or.inr rfl)) (hd : (x == ("__debug__" : Str)) = false := by decide)
    (hcd : (x == ("__classdict__" : Str)) = false := by decide) : Ev X (.Name x pos) G R (.bdic kvs) := by
  intro en A σ H F Q st k
  obtain ⟨ow, o, h1, h2, vs, h3, h4, h5⟩ := slot_at st hs
  subst h2
  exact ⟨_, pe_var hN hv hd hcd, _, h1, k _ H F (Grow.refl st.ft) ⟨a, vs, rfl, (by
      rcases h3 with h3 | ⟨b, h3⟩
      · exact .inl (st.fr _ _ h3 h4)
      · exact .inr ⟨b, st.fr _ _ h3 h4⟩), h5⟩⟩
/-- locked -/
theorem Sta.lock {K : PySem.W.Frag} {en : En} {A : Addr → Prop} {σ : L2.St} {H : Hp} {F : Fz} {j : Nat} {d : Addr} {vs : List (Key × V)} {od : Obj} {ow : Addr → Nat} (st : Sta K en G R A σ H F) (hj : G[j]? = some (.dic kvs)) (sl : ∀ (i : Nat) (s : S), G[i]? = some s → ∃ o, σ[i]? = some o ∧ SlotOk K en ow H F A i s o)
    (h1 : σ[j]? = some (some (.ref d))) (h2 : ow d = j) (h3 : ¬ F d) (h4 : ¬ A d) (h5 : H d = some (.dK vs)) (h6 : DnK K F H kvs vs) (h7 : en.H d = none) :
    Sta K ⟨upd en.H d (.frz od (.dK vs)), en.F, fun a => en.A a ∧ a ≠ d⟩ (G.set j (.ldic d kvs)) R A σ (upd H d (.frz od (.dK vs))) F ∧ Mon H F (upd H d (.frz od (.dK vs))) F := by
  have m : Mon H F (upd H d (.frz od (.dK vs))) F := mon_upd h5 (fun _ z => nomatch z) (fun _ _ z => nomatch z) h3
  have tr : ∀ b, H b ≠ none → upd H d (.frz od (.dK vs)) b ≠ none := fun b hb => by
    by_cases e : b = d
    · rw [e, upd_same]; exact fun z => nomatch z
    · rw [upd_ne e]; exact hb
  have ext : ∀ a o, en.H a = some o → upd en.H d (.frz od (.dK vs)) a = some o := fun a o h => by rw [upd_ne (fun e => by rw [e, h7] at h; cases h)]; exact h
  refine ⟨⟨fun a o h na => ?_, fun a h => ?_, st.f0, fun a h => ?_, fun a h => tr a (st.ft a h), fun a h => ?_, R.stable st.rs m fun a ha => upd_ne (fun e => h4 (by rw [← e]; exact ha)), by rw [List.length_set]; exact st.len, ow, fun i t ht => ?_⟩, m⟩
  · by_cases e : a = d
    · subst e
      have h' : upd en.H a (.frz od (.dK vs)) a = some o := h
      rw [upd_same] at h' ⊢
      exact h'
    · have h' : upd en.H d (.frz od (.dK vs)) a = some o := h
      rw [upd_ne e] at h' ⊢
      exact st.fr a o h' fun z => na ⟨z, e⟩
  · by_cases e : a = d
    · rw [e, upd_same]; exact fun z => nomatch z
    · have h' : upd en.H d (.frz od (.dK vs)) a ≠ none := h
      rw [upd_ne e] at h' ⊢
      exact st.th a h'
  · rcases st.f1 a h with z | z
    · exact .inl z
    · refine .inr ?_
      show upd en.H d _ a = none
      rw [upd_ne (fun e => h3 (by rw [← e]; exact h))]
      exact z
  · obtain ⟨k1, k2, k3⟩ := st.at_ a h
    have ne : a ≠ d := fun e => h4 (by rw [← e]; exact h)
    refine ⟨tr a k1, k2, ?_⟩
    rcases k3 with z | z
    · exact .inl ⟨z, ne⟩
    · refine .inr ?_
      show upd en.H d _ a = none
      rw [upd_ne ne]
      exact z
  · by_cases e : j = i
    · subst e
      have hl : j < G.length := by
        rcases Nat.lt_or_ge j G.length with z | z
        · exact z
        · rw [List.getElem?_eq_none z] at hj; cases hj
      rw [List.getElem?_set_self hl] at ht
      cases ht
      exact ⟨_, h1, rfl, vs, .inr ⟨od, upd_same⟩, fun z => z.2 rfl, DnK.mon m h6⟩
    · rw [List.getElem?_set_ne e] at ht
      obtain ⟨o, k1, k2⟩ := sl i t ht
      refine ⟨o, k1, ?_⟩
      cases t with
      | any => trivial
      | d x => obtain ⟨v, z1, z2⟩ := k2; exact ⟨v, z1, Dn.mon m _ _ z2⟩
      | own ds =>
        obtain ⟨a, us, z1, z2, z3, z4, z5, z6, z7⟩ := k2
        have ne : a ≠ d := fun q => e (by rw [← h2, ← q, z2])
        refine ⟨a, us, z1, z2, z3, z4, by rw [upd_ne ne]; exact z5, DnA.mon m _ _ z6, ?_⟩
        show upd en.H d _ a = none
        rw [upd_ne ne]
        exact z7
      | bor ds => obtain ⟨a, us, z1, z2, z3, z4⟩ := k2; exact ⟨a, us, z1, ext _ _ z2, fun z => z3 z.1, DnA.mon m _ _ z4⟩
      | scr ns => obtain ⟨a, z1, z2, z3⟩ := k2; exact ⟨a, z1, sqL_grow ext z2, fun z => z3 z.1⟩
      | dic ds =>
        obtain ⟨a, us, z1, z2, z3, z4, z5, z6, z7⟩ := k2
        have ne : a ≠ d := fun q => e (by rw [← h2, ← q, z2])
        refine ⟨a, us, z1, z2, z3, z4, by rw [upd_ne ne]; exact z5, DnK.mon m z6, ?_⟩
        show upd en.H d _ a = none
        rw [upd_ne ne]
        exact z7
      | bdic ds => obtain ⟨a, us, z1, z2, z3, z4⟩ := k2; exact ⟨a, us, z1, rd_grow ext z2, fun z => z3 z.1, DnK.mon m z4⟩
      | bob a l => obtain ⟨z1, ads, z2, z3⟩ := k2; exact ⟨z1, ads, ObsAt.mon m (fun b _ o z => ext b o z) z2, fun b hb z => z3 b hb z.1⟩
      | ldic a l => obtain ⟨z1, us, z2, z3, z4⟩ := k2; exact ⟨z1, us, rd_grow ext z2, fun z => z3 z.1, DnK.mon m z4⟩
      | exn a dd fs =>
        obtain ⟨z1, z2, us, z3, z4⟩ := k2
        exact ⟨z1, z2, us, by rw [upd_ne (fun q => by rw [q, h5] at z3; cases z3)]; exact z3, DnF.mon m z4⟩
def S.lk : S → Bool
  | .any => true
  | .d _ => true
  | .own _ => true
  | .dic _ => true
  | .bor _ => true
  | _ => false
/-- .. and unlocked -/
theorem Sta.unlock {K : PySem.W.Frag} {en : En} {A A0 : Addr → Prop} {σ σ0 : L2.St} {H H0 : Hp} {F F0 : Fz} {j : Nat} {d : Addr} {vs : List (Key × V)} {od : Obj} {G0 G1 : List S} {R0 : Res} (st0 : Sta K en G0 R0 A0 σ0 H0 F0) (h0F : ¬ F0 d) (h7 : en.H d = none)
    (st : Sta K ⟨upd en.H d (.frz od (.dK vs)), en.F, fun a => en.A a ∧ a ≠ d⟩ G1 R A σ H F) (hj : G1[j]? = some (.ldic d kvs)) (hlk : ∀ i s, j ≠ i → G1[i]? = some s → s.lk = true) : H d = some (.frz od (.dK vs)) ∧ Sta K en (G1.set j (.dic kvs)) R A σ (upd H d (.dK vs)) F ∧ Mon H F (upd H d (.dK vs)) F := by
  have hd : H d = some (.frz od (.dK vs)) := st.fr d _ upd_same fun z => z.2 rfl
  have nF : ¬ F d := fun z => by
    rcases st.f1 d z with y | y
    · exact h0F (st0.f0 d y)
    · have y' : upd en.H d (.frz od (.dK vs)) d = none := y
      rw [upd_same] at y'
      cases y'
  have nA : ¬ A d := fun z => by
    rcases (st.at_ d z).2.2 with y | y
    · exact y.2 rfl
    · have y' : upd en.H d (.frz od (.dK vs)) d = none := y
      rw [upd_same] at y'
      cases y'
  have m : Mon H F (upd H d (.dK vs)) F := mon_upd hd (fun _ z => nomatch z) (fun _ _ z => nomatch z) nF
  have tr : ∀ b, H b ≠ none → upd H d (.dK vs) b ≠ none := fun b hb => by
    by_cases e : b = d
    · rw [e, upd_same]; exact fun z => nomatch z
    · rw [upd_ne e]; exact hb
  have low : ∀ a, a ≠ d → upd en.H d (.frz od (.dK vs)) a = en.H a := fun a e => upd_ne e
  have back : ∀ a o, a ≠ d → upd en.H d (.frz od (.dK vs)) a = some o → en.H a = some o := fun a o e h => by rw [low a e] at h; exact h
  refine ⟨hd, ⟨fun a o h na => ?_, fun a h => ?_, st.f0, fun a h => ?_, fun a h => tr a (st.ft a h), fun a h => ?_, R.stable st.rs m fun a ha => upd_ne (fun e => nA (by rw [← e]; exact ha)), by rw [List.length_set]; exact st.len, ?_⟩, m⟩
  · have e : a ≠ d := fun e => by rw [e, h7] at h; cases h
    rw [upd_ne e]
    exact st.fr a o (by show upd en.H d _ a = some o; rw [low a e]; exact h) fun z => na z.1
  · have e : a ≠ d := fun e => h (by rw [e, h7])
    exact tr a (st.th a (by show upd en.H d _ a ≠ none; rw [low a e]; exact h))
  · have e : a ≠ d := fun e => nF (by rw [← e]; exact h)
    rcases st.f1 a h with z | z
    · exact .inl z
    · exact .inr (by have z' : upd en.H d (.frz od (.dK vs)) a = none := z; rw [low a e] at z'; exact z')
  · have e : a ≠ d := fun e => nA (by rw [← e]; exact h)
    obtain ⟨k1, k2, k3⟩ := st.at_ a h
    refine ⟨tr a k1, k2, ?_⟩
    rcases k3 with z | z
    · exact .inl z.1
    · exact .inr (by have z' : upd en.H d (.frz od (.dK vs)) a = none := z; rw [low a e] at z'; exact z')
  · obtain ⟨ow, q⟩ := st.sl
    have hd' : ∃ o, upd en.H d (.frz od (.dK vs)) d = some o := ⟨_, upd_same⟩
    refine ⟨fun a => if a = d then j else ow a, fun i t ht => ?_⟩
    by_cases e : j = i
    · subst e
      have hl : j < G1.length := by
        rcases Nat.lt_or_ge j G1.length with z | z
        · exact z
        · rw [List.getElem?_eq_none z] at hj; cases hj
      rw [List.getElem?_set_self hl] at ht
      cases ht
      obtain ⟨o, k1, k2, us, k3, k4, k5⟩ := q j _ hj
      subst k2
      have eu : us = vs := by
        have k3' : Rd (upd en.H d (.frz od (.dK vs))) d (.dK us) := k3
        unfold Rd at k3'
        rw [upd_same] at k3'
        rcases k3' with z | ⟨b, z⟩
        · cases z
        · cases z; rfl
      subst eu
      exact ⟨_, k1, d, us, rfl, if_pos rfl, nF, nA, upd_same, DnK.mon m k5, h7⟩
    · rw [List.getElem?_set_ne e] at ht
      obtain ⟨o, k1, k2⟩ := q i t ht
      refine ⟨o, k1, ?_⟩
      cases t with
      | any => trivial
      | d x => obtain ⟨v, z1, z2⟩ := k2; exact ⟨v, z1, Dn.mon m _ _ z2⟩
      | own ds =>
        obtain ⟨a, us, z1, z2, z3, z4, z5, z6, z7⟩ := k2
        have ne : a ≠ d := fun q => by rw [q, hd] at z5; cases z5
        exact ⟨a, us, z1, (if_neg ne).trans z2, z3, z4, by rw [upd_ne ne]; exact z5, DnA.mon m _ _ z6, by have z7' : upd en.H d (.frz od (.dK vs)) a = none := z7; rw [low a ne] at z7'; exact z7'⟩
      | bor ds =>
        obtain ⟨a, us, z1, z2, z3, z4⟩ := k2
        have ne : a ≠ d := fun q => by
          have z2' : upd en.H d (.frz od (.dK vs)) a = some (.lst us) := z2
          rw [q, upd_same] at z2'
          cases z2'
        exact ⟨a, us, z1, back _ _ ne z2, fun z => z3 ⟨z, ne⟩, DnA.mon m _ _ z4⟩
      | scr ns => exact absurd (hlk i _ e ht) (fun z => nomatch z)
      | dic ds =>
        obtain ⟨a, us, z1, z2, z3, z4, z5, z6, z7⟩ := k2
        have ne : a ≠ d := fun q => by rw [q, hd] at z5; cases z5
        exact ⟨a, us, z1, (if_neg ne).trans z2, z3, z4, by rw [upd_ne ne]; exact z5, DnK.mon m z6, by have z7' : upd en.H d (.frz od (.dK vs)) a = none := z7; rw [low a ne] at z7'; exact z7'⟩
      | bdic ds => exact absurd (hlk i _ e ht) (fun z => nomatch z)
      | bob a l => exact absurd (hlk i _ e ht) (fun z => nomatch z)
      | ldic a l => exact absurd (hlk i _ e ht) (fun z => nomatch z)
      | exn a dd fs => exact absurd (hlk i _ e ht) (fun z => nomatch z)
/-- for x in d, d an own dict at a name -/
theorem ex_forK (j : Nat) {nm : Str} (hG : G[j]? = some (.dic kvs)) (hp : PassesOwn (model X.prog X.w) X.A X.env X.xe) (I : Addr → Nat → List S → Prop) (h0 : ∀ a, I a 0 (G.set j (.ldic a kvs))) (hk : ∀ q ∈ kvs, ∃ x, q.1 = .inr x)
    (hI : ∀ a k G1, I a k G1 → G1[j]? = some (.ldic a kvs) ∧ ∀ i s, j ≠ i → G1[i]? = some s → s.lk = true)
    (ht : ∀ a k x v G1, kvs[k]? = some (.inr x, v) → I a k G1 → ∃ G2, Tg X tg (.str x) G1 G2 ∧ Ex X (fun _ _ _ => False) body G2 R { nx := fun G' R' => R' = R ∧ I a (k + 1) G', rt := fun _ _ => False, ct := fun G' R' => R' = R ∧ I a (k + 1) G' })
    (hn : ∀ a G1, I a kvs.length G1 → Ex X W rest (G1.set j (.dic kvs)) R O) (hc : X.calm = true := by rfl) (hs : ∀ x, foldedSetIterable (.Name nm p1) X.env x = pure x := by intro _; rfl)
    (hN : X.N[j]? = some nm := by rfl) (hv : Vis X.env.scope nm := by first | exact Or.inl rfl | exact Or.inr (Or.inl rfl) | exact Or.inr (Or.inr rfl)) (hd : (nm == ("__debug__" : Str)) = false := by decide) (hcd : (nm == ("__classdict__" : Str)) = false := by decide) :
    Ex X W (.For tg (.Name nm p1) body [] pos :: rest) G R O := fun en A σ H F D' st p => by
  refine ⟨_, pss_cons (ps_lock (ps_for hp hc (pi_keys (pe_var hN hv hd hcd)) pg_t pss_t hs)) pss_t, ?_⟩
  obtain ⟨ow, sl⟩ := st.sl
  obtain ⟨o, h1, d, vs, rfl, h2, h3, h4, h5, h6, h7⟩ := sl j _ hG
  refine ⟨d, .dK vs, h5, True.intro, fun od => ?_⟩
  obtain ⟨st1, m1⟩ := st.lock (od := od) hG sl h1 h2 h3 h4 h5 h6 h7
  refine ⟨_, h1, d, od, rfl, .inl ⟨vs, upd_same, ?_⟩⟩
  refine ⟨fun i m σ' H' => m = kvs.length - i ∧ i ≤ kvs.length ∧ ∃ G1 A' F', I d i G1 ∧ Sta X.K ⟨upd en.H d (.frz od (.dK vs)), en.F, fun a => en.A a ∧ a ≠ d⟩ G1 R A' σ' H' F' ∧ Mon H F H' F', ⟨kvs.length, by simp, Nat.zero_le _, _, A, F, h0 d, st1, m1⟩, ?_⟩
  rintro i m σ2 H2 ⟨rfl, hle, G2, A2, F2, i2, st2, m2⟩
  have hd2 : H2 d = some (.frz od (.dK vs)) := st2.fr d _ upd_same fun z => z.2 rfl
  have hlen : vs.length = kvs.length := DnK.len h6
  rcases Nat.lt_or_ge i kvs.length with hlt | hge
  · have hv : ∃ x v, kvs[i]? = some (.inr x, v) := by
      obtain ⟨x, hx⟩ := hk _ (List.getElem_mem hlt)
      refine ⟨x, kvs[i].2, ?_⟩
      rw [List.getElem?_eq_getElem hlt, ← hx]
    obtain ⟨x, v, hx⟩ := hv
    obtain ⟨G3, ht3, hb⟩ := ht d i x v G2 hx i2
    refine .inr ⟨⟨hd2, by omega⟩, fun σ' H' => ∃ G1 A' F', I d (i + 1) G1 ∧ Sta X.K ⟨upd en.H d (.frz od (.dK vs)), en.F, fun a => en.A a ∧ a ≠ d⟩ G1 R A' σ' H' F' ∧ Mon H F H' F', fun σ' H' h => ⟨kvs.length - (i + 1), by omega, rfl, hlt, h⟩, fun y H' hy => ?_⟩
    obtain ⟨rfl, k', v', hk1, hk2⟩ := hy
    have ek : k' = .inr x := by
      have : ∀ {ds : List (Key × D)} {us : List (Key × V)} {n : Nat} {a : Key × D} {b : Key × V}, DnK X.K F H ds us → ds[n]? = some a → us[n]? = some b → a.1 = b.1 := by
        intro ds
        induction ds with
        | nil => intro us n a b _ e; simp at e
        | cons q ds ih =>
          intro us n a b h e1 e2
          cases us with
          | nil => exact h.elim
          | cons r us =>
            cases n with
            | zero =>
              have e1' : q = a := by simpa using e1
              have e2' : r = b := by simpa using e2
              rw [← e1', ← e2']
              exact h.1
            | succ n => exact ih h.2.2 (by simpa using e1) (by simpa using e2)
      exact (this h6 hx hk1).symm
    subst ek
    subst hk2
    refine ht3 _ R A2 σ2 H' F2 (.str x) _ st2 rfl fun σ3 st3 => ?_
    refine hb _ A2 σ3 H' F2 _ st3 ⟨takes_no, fun G' R' A' σ' H' F' h s' n => ?_, fun s R A' v H' F' h => h.elim, fun G' R' A' σ' H' F' h => h.elim, fun G' R' A' σ' H' F' h s' n => ?_⟩
    · obtain ⟨rfl, ik⟩ := h
      exact ⟨G', A', F', ik, s', m2.trans n⟩
    · obtain ⟨rfl, ik⟩ := h
      exact ⟨G', A', F', ik, s', m2.trans n⟩
  · have e : i = kvs.length := by omega
    subst e
    refine .inl ⟨⟨hd2, by omega⟩, hd2, ?_⟩
    obtain ⟨hj2, hlk⟩ := hI d _ G2 i2
    obtain ⟨_, st3, m3⟩ := Sta.unlock st h3 h7 st2 hj2 hlk
    exact hn d G2 i2 en A2 σ2 _ F2 D' st3 (p.from (m2.trans m3))
end
/-! ### the order of data -/
section
variable {X : Cx} {G : List S} {R : Res} {a b : Expr} {pos : Pos} {d e : D} {s1 s2 : S}
/-- .. alike, at most n deep -/
structure AlkF (d e : D) : Prop where
  p1 : d.pure = true
  p2 : e.pure = true
  al : PySem.W.alike d.py e.py = true
  nn : d.py ≠ .none
  s1 : ∃ n, n ≤ 64 ∧ d.shp n = true
  s2 : ∃ n, n ≤ 64 ∧ e.shp n = true
def rLtA (K : PySem.W.Frag) : L2.R2 := fun x y H Q => ∃ d e, Dp K H x d ∧ Dp K H y e ∧ PySem.W.alike d e = true ∧ d ≠ .none ∧ d.depth ≤ 64 ∧ Q (.bl (PySem.W.dataLt d e)) H
theorem op_ltA (hu : X.A.units + 64 < cLine) : OpR X (compareOp .Lt) (rLtA X.K) := by
  intro pins s σ H x y v u Q I rx ry h
  obtain ⟨d, e, hd, he, al, nn, dp, q⟩ := h
  obtain ⟨as, r1⟩ := Dp.reads I d x v hd rx
  obtain ⟨bs, r2⟩ := Dp.reads I e y u he ry
  exact PySem.W.rcLt_alike d e X.A s v u as bs r1 r2 al nn (by have := Nat.min_le_left d.depth e.depth; omega) X.prog X.w _ _ ⟨.bl _, H, I, rfl, q⟩
theorem ro_ltA {K : PySem.W.Frag} (h : AlkF d e) (h1 : s1.asD = some d) (h2 : s2.asD = some e) : RO K (rLtA K) s1 s2 (.d (.bl (PySem.W.dataLt d.py e.py))) := fun H0 x y H F Q ft hx hy k => by
  obtain ⟨n, q1, q2⟩ := h.s1
  exact ⟨d.py, e.py, sr_dp h1 h.p1 hx, sr_dp h2 h.p2 hy, h.al, h.nn, Nat.le_trans (D.shp_ok n d q2).2 q1, k _ H F (Grow.refl ft) rfl⟩
theorem ev_ltA (hu : X.A.units + 64 < cLine) (h : AlkF d e) (ha : Ev X a G R s1) (hb : Ev X b G R s2) (h1 : s1.asD = some d := by rfl) (h2 : s2.asD = some e := by rfl) : Ev X (.Compare a [.Lt] [b] pos) G R (.d (.bl (PySem.W.dataLt d.py e.py))) := ev_cmpR (op_ltA hu) (ro_ltA h h1 h2) ha hb (nomark _)
mutual
theorem D.eqv_alk : ∀ d e : D, d.pure = true → e.pure = true → PySem.W.alike d.py e.py = true → (PyData.eqv d.py e.py = true ↔ d = e)
  | .non, e, _, he, h => by cases e <;> simp_all [D.py, PyData.eqv, PySem.W.alike, D.pure]
  | .bl b, e, _, he, h => by cases e <;> simp_all [D.py, PyData.eqv, PySem.W.alike, D.pure]
  | .int i, e, _, he, h => by cases e <;> simp_all [D.py, PyData.eqv, PySem.W.alike, D.pure]
  | .str i, e, _, he, h => by cases e <;> simp_all [D.py, PyData.eqv, PySem.W.alike, D.pure]
  | .obj _, _, h, _, _ => by cases h
  | .tup ds, e, hd, he, h => by
    cases e with
    | tup es =>
      have q := D.eqvs_alk ds es hd he (by simpa [D.py, PySem.W.alike] using h)
      simp only [D.py, PyData.eqv, D.tup.injEq]
      exact q
    | obj _ => cases he
    | _ => simp_all [D.py, PySem.W.alike]
  | .lst ds, e, hd, he, h => by
    cases e with
    | lst es =>
      have q := D.eqvs_alk ds es hd he (by simpa [D.py, PySem.W.alike] using h)
      simp only [D.py, PyData.eqv, D.lst.injEq]
      exact q
    | obj _ => cases he
    | _ => simp_all [D.py, PySem.W.alike]
theorem D.eqvs_alk : ∀ ds es : List D, D.pures ds = true → D.pures es = true → PySem.W.alikeAll (D.pys ds) (D.pys es) = true → (PyData.eqvAll (D.pys ds) (D.pys es) = true ↔ ds = es)
  | [], [], _, _, _ => by simp [D.pys, PyData.eqvAll]
  | [], _ :: _, _, _, _ => by simp [D.pys, PyData.eqvAll]
  | _ :: _, [], _, _, _ => by simp [D.pys, PyData.eqvAll]
  | d :: ds, e :: es, hd, he, h => by
    have hd' : (d.pure && D.pures ds) = true := hd
    have he' : (e.pure && D.pures es) = true := he
    rw [Bool.and_eq_true] at hd' he'
    obtain ⟨h1, h2⟩ := PySem.W.alike_all_cons (show PySem.W.alikeAll (d.py :: D.pys ds) (e.py :: D.pys es) = true from h)
    have q1 := D.eqv_alk d e hd'.1 he'.1 h1
    have q2 := D.eqvs_alk ds es hd'.2 he'.2 h2
    simp only [D.pys, PyData.eqvAll, Bool.and_eq_true, q1, q2, List.cons.injEq]
end
theorem eqv_alkF (h : AlkF d e) : PyData.eqv d.py e.py = D.eq d e := by
  have q := D.eqv_alk d e h.p1 h.p2 h.al
  by_cases z : d = e
  · rw [D.eq_true z, q.mpr z]
  · rw [D.eq_false z]
    cases y : PyData.eqv d.py e.py with
    | false => rfl
    | true => exact absurd (q.mp y) z
theorem ro_eqA {K : PySem.W.Frag} (h : AlkF d e) (h1 : s1.asD = some d) (h2 : s2.asD = some e) : RO K (rEqD K) s1 s2 (.d (.bl (D.eq d e))) := fun H0 x y H F Q ft hx hy k => by
  obtain ⟨n, q1, q2⟩ := h.s1
  obtain ⟨m, q3, q4⟩ := h.s2
  exact ⟨d.py, e.py, sr_dp h1 h.p1 hx, sr_dp h2 h.p2 hy, D.shaped q2 q1, D.shaped q4 q3, k _ H F (Grow.refl ft) (by rw [eqv_alkF h]; rfl)⟩
theorem ro_neA {K : PySem.W.Frag} (h : AlkF d e) (h1 : s1.asD = some d) (h2 : s2.asD = some e) : RO K (rNeD K) s1 s2 (.d (.bl (!D.eq d e))) := fun H0 x y H F Q ft hx hy k => by
  obtain ⟨n, q1, q2⟩ := h.s1
  obtain ⟨m, q3, q4⟩ := h.s2
  exact ⟨d.py, e.py, sr_dp h1 h.p1 hx, sr_dp h2 h.p2 hy, D.shaped q2 q1, D.shaped q4 q3, k _ H F (Grow.refl ft) (by rw [eqv_alkF h]; rfl)⟩
theorem tv_eqA (hu : X.A.units + 64 < cLine) (h : AlkF d e) (ha : Ev X a G R s1) (hb : Ev X b G R s2) (h1 : s1.asD = some d := by rfl) (h2 : s2.asD = some e := by rfl) : Tv X (.Compare a [.Eq] [b] pos) G R (D.eq d e) := tv_cmpR (op_eqD hu) (ro_eqA h h1 h2) ha hb (nomark _)
theorem tv_neA (hu : X.A.units + 64 < cLine) (h : AlkF d e) (ha : Ev X a G R s1) (hb : Ev X b G R s2) (h1 : s1.asD = some d := by rfl) (h2 : s2.asD = some e := by rfl) : Tv X (.Compare a [.NotEq] [b] pos) G R (!D.eq d e) := tv_cmpR (op_neD hu) (ro_neA h h1 h2) ha hb (nomark _)
end
end DL

namespace DL
open PySem PySem.Spec L2
abbrev Chn := Rat × List (Nat × Nat)
abbrev stpD (s : Nat × Nat) : D := .tup [.int (s.1 : Nat), .int (s.2 : Nat)]
abbrev cnD (c : Chn) : D := .tup [ratD c.1, .lst (c.2.map stpD)]
abbrev Ly := List (Str × Chn)
abbrev lyD (l : Ly) : List (Key × D) := l.map fun p => ((.inr p.1 : Key), cnD p.2)
def putA (x : Str) (c : Chn) (l : Ly) : Ly := if (l.any fun p => decide (p.1 = x)) = true then l.map (fun p => if p.1 = x then (p.1, c) else p) else l ++ [(x, c)]
def getA (l : Ly) (x : Str) : Option Chn := (l.find? fun p => decide (p.1 = x)).map (·.2)
theorem key_inr {x y : Str} : ((.inr x : Key) = .inr y) ↔ x = y := ⟨fun h => Sum.inr.inj h, fun h => by rw [h]⟩
theorem valD_ly (l : Ly) (x : Str) : valD (lyD l) (.inr x) = (getA l x).map cnD := by
  unfold valD getA lyD
  induction l with
  | nil => rfl
  | cons p l ih =>
    rw [List.map_cons]
    by_cases h : p.1 = x
    · rw [List.find?_cons_of_pos (by exact decide_eq_true (by rw [h])), List.find?_cons_of_pos (by exact decide_eq_true h)]
      rfl
    · rw [List.find?_cons_of_neg (by simpa using fun z => h (key_inr.mp z)), List.find?_cons_of_neg (by simpa using h)]
      exact ih
theorem putD_ly (l : Ly) (x : Str) (c : Chn) : putD (lyD l) (.inr x) (cnD c) = lyD (putA x c l) := by
  unfold putD putA lyD
  have e : ((l.map fun p => ((.inr p.1 : Key), cnD p.2)).any fun kv => decide (kv.1 = .inr x)) = l.any fun p => decide (p.1 = x) := by
    rw [List.any_map]
    congr 1
    funext p
    show decide ((.inr p.1 : Key) = .inr x) = decide (p.1 = x)
    rw [decide_eq_decide]
    exact key_inr
  rw [e]
  split
  · rw [List.map_map, List.map_map]
    refine List.map_congr_left fun p _ => ?_
    show (if (.inr p.1 : Key) = .inr x then _ else _) = _
    by_cases h : p.1 = x
    · rw [if_pos (key_inr.mpr h)]
      show _ = ((.inr (if p.1 = x then (p.1, c) else p).1 : Key), cnD (if p.1 = x then (p.1, c) else p).2)
      rw [if_pos h]
    · rw [if_neg (fun z => h (key_inr.mp z))]
      show _ = ((.inr (if p.1 = x then (p.1, c) else p).1 : Key), cnD (if p.1 = x then (p.1, c) else p).2)
      rw [if_neg h]
  · rw [List.map_append]
    rfl
theorem getA_put (l : Ly) (x y : Str) (c : Chn) : getA (putA x c l) y = if y = x then some c else getA l y := by
  unfold putA
  split
  · next h =>
    unfold getA
    induction l with
    | nil => cases h
    | cons p l ih =>
      rw [List.map_cons]
      by_cases hp : p.1 = x
      · rw [if_pos hp]
        by_cases hy : y = x
        · rw [if_pos hy, List.find?_cons_of_pos (by exact decide_eq_true (by show p.1 = y; rw [hp, hy]))]
          rfl
        · rw [if_neg hy, List.find?_cons_of_neg (by simpa using fun z : p.1 = y => hy (by rw [← z, hp])), List.find?_cons_of_neg (by simpa using fun z : p.1 = y => hy (by rw [← z, hp]))]
          by_cases ha : (l.any fun p => decide (p.1 = x)) = true
          · have := ih ha
            rw [if_neg hy] at this
            exact this
          · have : l.map (fun p => if p.1 = x then (p.1, c) else p) = l := by
              have hn : ∀ q ∈ l, ¬ q.1 = x := fun q hq z => ha (List.any_eq_true.mpr ⟨q, hq, decide_eq_true z⟩)
              have e2 : l.map (fun p => if p.1 = x then (p.1, c) else p) = l.map id := List.map_congr_left fun q hq => if_neg (hn q hq)
              rw [e2, List.map_id]
            rw [this]
      · rw [if_neg hp]
        have ha : (l.any fun p => decide (p.1 = x)) = true := by
          rw [List.any_cons, decide_eq_false hp, Bool.false_or] at h
          exact h
        by_cases hy : p.1 = y
        · rw [List.find?_cons_of_pos (by exact decide_eq_true hy), List.find?_cons_of_pos (by exact decide_eq_true hy), if_neg (fun z => hp (by rw [hy, z]))]
        · rw [List.find?_cons_of_neg (by simpa using hy), List.find?_cons_of_neg (by simpa using hy)]
          exact ih ha
  · next h =>
    unfold getA
    rw [List.find?_append]
    by_cases hy : y = x
    · have hn : l.find? (fun p => decide (p.1 = y)) = none := by
        rw [List.find?_eq_none]
        intro q hq z
        exact h (List.any_eq_true.mpr ⟨q, hq, by rw [← hy]; exact z⟩)
      rw [hn, if_pos hy, Option.none_or, List.find?_cons_of_pos (by exact decide_eq_true hy.symm)]
      rfl
    · rw [if_neg hy, List.find?_cons_of_neg (by simpa using fun z => hy z.symm), List.find?_nil, Option.or_none]
theorem getA_mem {l : Ly} {x : Str} {c : Chn} (h : getA l x = some c) : (x, c) ∈ l := by
  unfold getA at h
  cases e : l.find? (fun p => decide (p.1 = x)) with
  | none => rw [e] at h; cases h
  | some p =>
    rw [e] at h
    have h1 := List.mem_of_find?_eq_some e
    have h2 : p.1 = x := by have := List.find?_some e; exact of_decide_eq_true this
    have h3 : p.2 = c := Option.some.inj h
    rw [← h2, ← h3]
    exact h1
/-- the keys, each once -/
def NdA (l : Ly) : Prop := (l.map (·.1)).Nodup
theorem getA_of {l : Ly} (h : NdA l) {x : Str} {c : Chn} (hm : (x, c) ∈ l) : getA l x = some c := by
  unfold getA
  induction l with
  | nil => cases hm
  | cons p l ih =>
    obtain ⟨h1, h2⟩ := List.nodup_cons.mp (show (p.1 :: l.map (·.1)).Nodup from h)
    rcases List.mem_cons.mp hm with z | z
    · subst z
      rw [List.find?_cons_of_pos (by exact decide_eq_true rfl)]
      rfl
    · rw [List.find?_cons_of_neg (by simpa using fun q : p.1 = x => h1 (by rw [q]; exact List.mem_map_of_mem (f := (·.1)) z))]
      exact ih h2 z
theorem putA_nd {l : Ly} (h : NdA l) (x : Str) (c : Chn) : NdA (putA x c l) := by
  unfold putA
  split
  · unfold NdA
    rw [List.map_map]
    have : (fun p : Str × Chn => p.1) ∘ (fun p => if p.1 = x then (p.1, c) else p) = fun p => p.1 := by
      funext p
      show (if p.1 = x then (p.1, c) else p).1 = p.1
      split <;> rfl
    rw [this]
    exact h
  · next hn =>
    unfold NdA
    rw [List.map_append]
    refine List.nodup_append.mpr ⟨h, List.nodup_cons.mpr ⟨List.not_mem_nil, List.nodup_nil⟩, fun a ha b hb e => ?_⟩
    have hb' : b = x := List.mem_singleton.mp hb
    obtain ⟨q, hq, rfl⟩ := List.mem_map.mp ha
    exact hn (List.any_eq_true.mpr ⟨q, hq, decide_eq_true (by rw [e, hb'])⟩)
theorem putA_len (l : Ly) (x : Str) (c : Chn) : (putA x c l).length ≤ l.length + 1 := by
  unfold putA
  split
  · rw [List.length_map]; omega
  · rw [List.length_append]; exact Nat.le_refl _
theorem putA_all {l : Ly} {x : Str} {c : Chn} {P : Str × Chn → Prop} (h : ∀ p ∈ l, P p) (hc : P (x, c)) : ∀ p ∈ putA x c l, P p := by
  intro p hp
  unfold putA at hp
  split at hp
  · obtain ⟨q, hq, rfl⟩ := List.mem_map.mp hp
    split
    · next e => rw [e]; exact hc
    · exact h q hq
  · rcases List.mem_append.mp hp with z | z
    · exact h p z
    · rw [List.mem_singleton.mp z]; exact hc

/-! ### steps -/
def fB (f : Fc) (t : Nat) : Str := if t = 0 then f.a else f.b
def fE (f : Fc) (t : Nat) : Str := if t = 0 then f.b else f.a
def fL (f : Fc) (t : Nat) : Rat := if t = 0 then f.hi else 0 - f.lo
/-- the order of chains -/
def chLt : List (Nat × Nat) → List (Nat × Nat) → Bool
  | [], [] => false
  | [], _ :: _ => true
  | _ :: _, [] => false
  | x :: xs, y :: ys => if x = y then chLt xs ys else (decide (x.1 < y.1) || (decide (x.1 = y.1) && decide (x.2 < y.2)))
def better (a b : Chn) : Bool := if a.1 = b.1 then chLt a.2 b.2 else decide (a.1 < b.1)
def ext1 (fc : List Fc) (ly lt : Ly) (s : Nat × Nat) : Ly := match fc[s.1]? with
  | none => lt
  | some f => match getA ly (fB f s.2) with
    | none => lt
    | some c => match getA lt (fE f s.2) with
      | none => putA (fE f s.2) (c.1 + fL f s.2, c.2 ++ [s]) lt
      | some o => if better (c.1 + fL f s.2, c.2 ++ [s]) o = true then putA (fE f s.2) (c.1 + fL f s.2, c.2 ++ [s]) lt else lt
def stepsOf (n : Nat) : List (Nat × Nat) := (List.range n).flatMap fun k => [(k, 0), (k, 1)]
theorem stepsOf_succ (n : Nat) : stepsOf (n + 1) = stepsOf n ++ [(n, 0), (n, 1)] := by
  unfold stepsOf
  rw [List.range_succ, List.flatMap_append]
  rfl
theorem stepsOf_mem {n : Nat} {s : Nat × Nat} : s ∈ stepsOf n ↔ s.1 < n ∧ s.2 < 2 := by
  unfold stepsOf
  rw [List.mem_flatMap]
  constructor
  · rintro ⟨k, hk, h⟩
    have hk := List.mem_range.mp hk
    simp only [List.mem_cons, List.not_mem_nil, or_false] at h
    rcases h with rfl | rfl
    · exact ⟨hk, by show (0 : Nat) < 2; decide⟩
    · exact ⟨hk, by show (1 : Nat) < 2; decide⟩
  · rintro ⟨h1, h2⟩
    refine ⟨s.1, List.mem_range.mpr h1, ?_⟩
    obtain ⟨k, t⟩ := s
    have h2' : t < 2 := h2
    have : t = 0 ∨ t = 1 := by omega
    rcases this with rfl | rfl <;> simp
def oneMore (fc : List Fc) (ly : Ly) : Ly := (stepsOf fc.length).foldl (ext1 fc ly) []
def keepB (b : Ly) (p : Str × Chn) : Ly := match getA b p.1 with
  | none => putA p.1 p.2 b
  | some o => if p.2.1 < o.1 then putA p.1 p.2 b else b
def mergeB (b ly : Ly) : Ly := ly.foldl keepB b
def goB (fc : List Fc) (u : Str) : Nat → Ly × Ly
  | 0 => ([(u, (0, []))], [(u, (0, []))])
  | n + 1 => (oneMore fc (goB fc u n).1, mergeB (goB fc u n).2 (oneMore fc (goB fc u n).1))
def bestOf (fc : List Fc) (n : Nat) (u : Str) : Ly := (goB fc u n).2
/-- how large, how long -/
structure LyB (fc : List Fc) (n : Nat) (l : Ly) : Prop where
  nd : NdA l
  bd : ∀ p ∈ l, Bd (23 * n + 1) p.2.1
  ch : ∀ p ∈ l, p.2.2.length ≤ n ∧ ∀ s ∈ p.2.2, s.1 < fc.length ∧ s.2 < 2
  len : l.length ≤ 2 * fc.length + 1
section
variable {fc : List Fc} {ly lt : Ly} {n : Nat}
theorem bd_fL {f : Fc} (h : FcOk f) (t : Nat) : Bd 22 (fL f t) := by
  unfold fL
  have h1 := h.lo
  split
  · exact h.hi.mono (by decide)
  · exact (Bd.sub : Bd (1 + 20 + 1) (0 - f.lo))
/-- what holds while one step more is taken -/
structure ExtB (fc : List Fc) (n i : Nat) (l : Ly) : Prop where
  nd : NdA l
  bd : ∀ p ∈ l, Bd (23 * (n + 1) + 1) p.2.1
  ch : ∀ p ∈ l, p.2.2.length ≤ n + 1 ∧ ∀ s ∈ p.2.2, s.1 < fc.length ∧ s.2 < 2
  len : l.length ≤ i
theorem ext1_b (hf : ∀ f ∈ fc, FcOk f) (h : LyB fc n ly) {i : Nat} (g : ExtB fc n i lt) {s : Nat × Nat} (hs : s.2 < 2) : ExtB fc n (i + 1) (ext1 fc ly lt s) := by
  have keep : ExtB fc n (i + 1) lt := ⟨g.nd, g.bd, g.ch, by have := g.len; omega⟩
  unfold ext1
  split
  · exact keep
  · next f hfs =>
    have hF := hf f (List.mem_of_getElem? hfs)
    have hlt : s.1 < fc.length := by
      rcases Nat.lt_or_ge s.1 fc.length with z | z
      · exact z
      · rw [List.getElem?_eq_none z] at hfs; cases hfs
    split
    · exact keep
    · next c hc =>
      have hm := getA_mem hc
      have b1 := h.bd _ hm
      have b2 := bd_fL hF s.2
      have put : ExtB fc n (i + 1) (putA (fE f s.2) (c.1 + fL f s.2, c.2 ++ [s]) lt) := by
        refine ⟨putA_nd g.nd _ _, putA_all g.bd ?_, putA_all g.ch ⟨?_, fun q hq => ?_⟩, Nat.le_trans (putA_len _ _ _) (by have := g.len; omega)⟩
        · have b1' : Bd (23 * n + 1) c.1 := b1
          show Bd _ (c.1 + fL f s.2)
          exact (Bd.add (n := 23 * n + 1) (m := 22)).mono (by omega)
        · show (c.2 ++ [s]).length ≤ n + 1
          rw [List.length_append]
          have := (h.ch _ hm).1
          exact Nat.succ_le_succ this
        · rcases List.mem_append.mp (show q ∈ c.2 ++ [s] from hq) with z | z
          · exact (h.ch _ hm).2 q z
          · rw [List.mem_singleton.mp z]; exact ⟨hlt, hs⟩
      split
      · exact put
      · split
        · exact put
        · exact keep
theorem oneMore_b (hf : ∀ f ∈ fc, FcOk f) (h : LyB fc n ly) (l : List (Nat × Nat)) (hl : ∀ s ∈ l, s.2 < 2) : ExtB fc n l.length (l.foldl (ext1 fc ly) []) := by
  have key : ∀ (l : List (Nat × Nat)) (i : Nat) (lt : Ly), (∀ s ∈ l, s.2 < 2) → ExtB fc n i lt → ExtB fc n (i + l.length) (l.foldl (ext1 fc ly) lt) := by
    intro l
    induction l with
    | nil => intro i lt _ h; exact h
    | cons s l ih =>
      intro i lt hl g
      have := ih (i + 1) _ (fun q hq => hl q (List.mem_cons_of_mem _ hq)) (ext1_b hf h g (hl s List.mem_cons_self))
      rw [List.foldl_cons, List.length_cons, show i + (l.length + 1) = i + 1 + l.length by omega]
      exact this
  have := key l 0 [] hl ⟨List.nodup_nil, fun p hp => (by cases hp), fun p hp => (by cases hp), Nat.le_refl _⟩
  rw [Nat.zero_add] at this
  exact this
theorem stepsOf_len (n : Nat) : (stepsOf n).length = 2 * n := by
  induction n with
  | zero => rfl
  | succ n ih => rw [stepsOf_succ, List.length_append, ih]; rfl
theorem oneMore_lyb (hf : ∀ f ∈ fc, FcOk f) (h : LyB fc n ly) : LyB fc (n + 1) (oneMore fc ly) := by
  have := oneMore_b hf h (stepsOf fc.length) fun s hs => (stepsOf_mem.mp hs).2
  exact ⟨this.nd, this.bd, this.ch, by have := this.len; rw [stepsOf_len] at this; exact Nat.le_trans this (by omega)⟩
theorem lyb_zero (u : Str) : LyB fc 0 [(u, (0, []))] := ⟨List.nodup_cons.mpr ⟨List.not_mem_nil, List.nodup_nil⟩, fun p hp => by rw [List.mem_singleton.mp hp]; exact Bd.zero, fun p hp => by rw [List.mem_singleton.mp hp]; exact ⟨Nat.le_refl _, fun s hs => (by cases hs)⟩, by show 1 ≤ _; omega⟩
theorem goB_lyb (hf : ∀ f ∈ fc, FcOk f) (u : Str) : ∀ n, LyB fc n (goB fc u n).1
  | 0 => lyb_zero u
  | n + 1 => oneMore_lyb hf (goB_lyb hf u n)
/-- .. of the best ones -/
structure BsB (fc : List Fc) (n : Nat) (l : Ly) : Prop where
  bd : ∀ p ∈ l, Bd (23 * n + 1) p.2.1
  ch : ∀ p ∈ l, p.2.2.length ≤ n ∧ ∀ s ∈ p.2.2, s.1 < fc.length ∧ s.2 < 2
theorem BsB.mono {l : Ly} {m : Nat} (h : BsB fc n l) (hm : n ≤ m) : BsB fc m l := ⟨fun p hp => (h.bd p hp).mono (by omega), fun p hp => ⟨Nat.le_trans (h.ch p hp).1 hm, (h.ch p hp).2⟩⟩
theorem keepB_b {b : Ly} {p : Str × Chn} (h : BsB fc n b) (h1 : Bd (23 * n + 1) p.2.1) (h2 : p.2.2.length ≤ n ∧ ∀ s ∈ p.2.2, s.1 < fc.length ∧ s.2 < 2) : BsB fc n (keepB b p) ∧ (keepB b p).length ≤ b.length + 1 := by
  have put : BsB fc n (putA p.1 p.2 b) ∧ (putA p.1 p.2 b).length ≤ b.length + 1 := ⟨⟨putA_all h.bd h1, putA_all h.ch h2⟩, putA_len _ _ _⟩
  unfold keepB
  split
  · exact put
  · split
    · exact put
    · exact ⟨h, by omega⟩
theorem mergeB_b {b : Ly} (h : BsB fc n b) : ∀ {ly : Ly}, (∀ p ∈ ly, Bd (23 * n + 1) p.2.1) → (∀ p ∈ ly, p.2.2.length ≤ n ∧ ∀ s ∈ p.2.2, s.1 < fc.length ∧ s.2 < 2) → BsB fc n (ly.foldl keepB b) ∧ (ly.foldl keepB b).length ≤ b.length + ly.length := by
  intro ly
  induction ly generalizing b with
  | nil => intro _ _; exact ⟨h, Nat.le_refl _⟩
  | cons p ly ih =>
    intro h1 h2
    obtain ⟨k1, k2⟩ := keepB_b h (h1 p List.mem_cons_self) (h2 p List.mem_cons_self)
    obtain ⟨k3, k4⟩ := ih k1 (fun q hq => h1 q (List.mem_cons_of_mem _ hq)) fun q hq => h2 q (List.mem_cons_of_mem _ hq)
    exact ⟨k3, by rw [List.foldl_cons, List.length_cons]; omega⟩
theorem goB_bsb (hf : ∀ f ∈ fc, FcOk f) (u : Str) : ∀ n, BsB fc n (goB fc u n).2 ∧ (goB fc u n).2.length ≤ 1 + n * (2 * fc.length + 1)
  | 0 => ⟨⟨(lyb_zero (fc := fc) u).bd, (lyb_zero (fc := fc) u).ch⟩, by show 1 ≤ _; omega⟩
  | n + 1 => by
    obtain ⟨h1, h2⟩ := goB_bsb hf u n
    have h3 := goB_lyb hf u (n + 1)
    obtain ⟨k1, k2⟩ := mergeB_b (h1.mono (Nat.le_succ n)) h3.bd h3.ch
    refine ⟨k1, Nat.le_trans k2 ?_⟩
    have := h3.len
    rw [Nat.succ_mul]
    have e : (goB fc u (n + 1)).1 = oneMore fc (goB fc u n).1 := rfl
    rw [e] at this ⊢
    omega
end
/-! ### chains as data -/
theorem stps_pure : ∀ l : List (Nat × Nat), D.pures (l.map stpD) = true
  | [] => rfl
  | _ :: l => by
    show (true && D.pures (l.map stpD)) = true
    rw [stps_pure l]
    rfl
theorem stps_shp (l : List (Nat × Nat)) : D.shps 1 (l.map stpD) = true := shps_all fun d hd => by
  obtain ⟨s, _, rfl⟩ := List.mem_map.mp hd
  rfl
theorem stps_alike : ∀ l m : List (Nat × Nat), PySem.W.alikeAll (D.pys (l.map stpD)) (D.pys (m.map stpD)) = true
  | [], m => by show PySem.W.alikeAll [] _ = true; rw [PySem.W.alikeAll]
  | x :: l, [] => by show PySem.W.alikeAll (_ :: _) [] = true; rw [PySem.W.alikeAll]
  | x :: l, y :: m => by
    show PySem.W.alikeAll ((stpD x).py :: D.pys (l.map stpD)) ((stpD y).py :: D.pys (m.map stpD)) = true
    rw [PySem.W.alikeAll, stps_alike l m, Bool.and_true]
    show PySem.W.alike (.tuple [.int _, .int _]) (.tuple [.int _, .int _]) = true
    simp [PySem.W.alike, PySem.W.alikeAll]
theorem stps_alk (l m : List (Nat × Nat)) : AlkF (.lst (l.map stpD)) (.lst (m.map stpD)) := by
  refine ⟨stps_pure l, stps_pure m, ?_, (fun z => nomatch (show PyData.list _ = PyData.none from z)), ⟨2, by decide, stps_shp l⟩, ⟨2, by decide, stps_shp m⟩⟩
  show PySem.W.alike (.list (D.pys (l.map stpD))) (.list (D.pys (m.map stpD))) = true
  rw [PySem.W.alike]
  exact stps_alike l m
theorem stp_lt (x y : Nat × Nat) : PySem.W.dataLt (stpD x).py (stpD y).py = if x = y then false else (decide (x.1 < y.1) || (decide (x.1 = y.1) && decide (x.2 < y.2))) := by
  show PySem.W.dataLt (.tuple [.int (x.1 : Nat), .int (x.2 : Nat)]) (.tuple [.int (y.1 : Nat), .int (y.2 : Nat)]) = _
  rw [PySem.W.dataLt_tuple]
  have al : ∀ i j : Int, PySem.W.alike (.int i) (.int j) = true := fun i j => by simp [PySem.W.alike]
  have ev : ∀ i j : Int, PyData.eqv (.int i) (.int j) = decide (i = j) := fun i j => by
    by_cases h : i = j
    · subst h; simp [PyData.eqv]
    · rw [decide_eq_false h]; simp [PyData.eqv, h]
  obtain ⟨a, b⟩ := x
  obtain ⟨c, d⟩ := y
  show PyProof.Rows.lexLt PyProof.Rows.itemOrd (PySem.W.keyToksAll [.int (a : Nat), .int (b : Nat)]) (PySem.W.keyToksAll [.int (c : Nat), .int (d : Nat)]) = if (a, b) = (c, d) then false else (decide (a < c) || (decide (a = c) && decide (b < d)))
  by_cases h : a = c
  · subst h
    rw [PySem.W.dataLt_all_yes (al _ _) (by rw [ev]; exact decide_eq_true rfl)]
    by_cases h2 : b = d
    · subst h2
      rw [PySem.W.dataLt_all_yes (al _ _) (by rw [ev]; exact decide_eq_true rfl), if_pos rfl]
      rfl
    · rw [PySem.W.dataLt_all_no (al _ _) (by rw [ev]; exact decide_eq_false (by omega)), PySem.W.dataLt_int, if_neg (fun z => h2 (by injection z)), decide_eq_false (Nat.lt_irrefl a), Bool.false_or, decide_eq_true rfl, Bool.true_and, decide_eq_decide]
      omega
  · rw [PySem.W.dataLt_all_no (al _ _) (by rw [ev]; exact decide_eq_false (by omega)), PySem.W.dataLt_int, if_neg (fun z => h (by injection z)), decide_eq_false h, Bool.false_and, Bool.or_false, decide_eq_decide]
    omega
theorem stps_lt : ∀ l m : List (Nat × Nat), PySem.W.dataLt (D.lst (l.map stpD)).py (D.lst (m.map stpD)).py = chLt l m := by
  intro l m
  show PySem.W.dataLt (.list (D.pys (l.map stpD))) (.list (D.pys (m.map stpD))) = chLt l m
  rw [PySem.W.dataLt_list]
  induction l generalizing m with
  | nil =>
    cases m with
    | nil => rfl
    | cons y m =>
      show PyProof.Rows.lexLt PyProof.Rows.itemOrd (PySem.W.keyToksAll []) (PySem.W.keyToksAll ((stpD y).py :: D.pys (m.map stpD))) = true
      rw [PySem.W.toks_all_cons, PySem.W.keyToksAll]
      rw [PySem.W.lex_atom (by simp)]
      rfl
  | cons x l ih =>
    cases m with
    | nil =>
      show PyProof.Rows.lexLt PyProof.Rows.itemOrd (PySem.W.keyToksAll ((stpD x).py :: D.pys (l.map stpD))) (PySem.W.keyToksAll []) = false
      rw [PySem.W.toks_all_cons, PySem.W.keyToksAll]
      rw [PySem.W.lex_atom (by simp)]
      rfl
    | cons y m =>
      show PyProof.Rows.lexLt PyProof.Rows.itemOrd (PySem.W.keyToksAll ((stpD x).py :: D.pys (l.map stpD))) (PySem.W.keyToksAll ((stpD y).py :: D.pys (m.map stpD))) = chLt (x :: l) (y :: m)
      have al : PySem.W.alike (stpD x).py (stpD y).py = true := by
        show PySem.W.alike (.tuple [.int _, .int _]) (.tuple [.int _, .int _]) = true
        simp [PySem.W.alike, PySem.W.alikeAll]
      have ev : PyData.eqv (stpD x).py (stpD y).py = true ↔ x = y := by
        rw [D.eqv_alk (stpD x) (stpD y) rfl rfl al]
        constructor
        · intro h
          simp only [stpD, D.tup.injEq, List.cons.injEq, D.int.injEq, and_true] at h
          exact Prod.ext (by omega) (by omega)
        · intro h; rw [h]
      unfold chLt
      by_cases h : x = y
      · rw [if_pos h, PySem.W.dataLt_all_yes al (ev.mpr h)]
        exact ih m
      · rw [if_neg h]
        have e0 : PyData.eqv (stpD x).py (stpD y).py = false := by
          cases q : PyData.eqv (stpD x).py (stpD y).py with
          | false => rfl
          | true => exact absurd (ev.mp q) h
        rw [PySem.W.dataLt_all_no al e0, stp_lt, if_neg h]
end DL

namespace DL
open PySem PySem.Spec L2
inductive Wk (fc : List Fc) (u : Str) : Str → Rat → List (Nat × Nat) → Prop
  | nil : Wk fc u u 0 []
  | snoc {v : Str} {L : Rat} {l : List (Nat × Nat)} {f : Fc} {s : Nat × Nat} : Wk fc u v L l → fc[s.1]? = some f → s.2 < 2 → fB f s.2 = v → Wk fc u (fE f s.2) (L + fL f s.2) (l ++ [s])
def Pot (p : Str → Rat) (fc : List Fc) : Prop := ∀ f ∈ fc, f.lo ≤ p f.b - p f.a ∧ p f.b - p f.a ≤ f.hi
section
variable {fc : List Fc} {u v x y : Str} {L : Rat} {l : List (Nat × Nat)} {ly lt : Ly} {n : Nat} {p : Str → Rat}
theorem pot_step (h : Pot p fc) {f : Fc} (hf : f ∈ fc) (t : Nat) : p (fE f t) ≤ p (fB f t) + fL f t := by
  obtain ⟨h1, h2⟩ := h f hf
  unfold fE fB fL
  split <;> grind
theorem pot_wk (h : Pot p fc) (w : Wk fc u v L l) : p v ≤ p u + L := by
  induction w with
  | nil => grind
  | snoc w hf ht hb ih =>
    subst hb
    rename_i s
    have := pot_step h (List.mem_of_getElem? hf) s.2
    grind
theorem chLt_le (a b : Chn) : (better a b = true → a.1 ≤ b.1) ∧ (better a b = false → b.1 ≤ a.1) := by
  unfold better
  split
  · next e => exact ⟨fun _ => by grind, fun _ => by grind⟩
  · next e => exact ⟨fun h => by have := of_decide_eq_true h; grind, fun h => by have := of_decide_eq_false h; grind⟩
/-- every chain of a layer is a walk -/
def WkL (fc : List Fc) (u : Str) (n : Nat) (ly : Ly) : Prop := ∀ p ∈ ly, Wk fc u p.1 p.2.1 p.2.2 ∧ p.2.2.length = n
theorem ext1_wk (h : WkL fc u n ly) (g : WkL fc u (n + 1) lt) {s : Nat × Nat} (hs : s.2 < 2) : WkL fc u (n + 1) (ext1 fc ly lt s) := by
  unfold ext1
  split
  · exact g
  · next f hf =>
    split
    · exact g
    · next c hc =>
      obtain ⟨w1, w2⟩ := h _ (getA_mem hc)
      have put : WkL fc u (n + 1) (putA (fE f s.2) (c.1 + fL f s.2, c.2 ++ [s]) lt) := putA_all g ⟨.snoc w1 hf hs rfl, by
        show (c.2 ++ [s]).length = n + 1
        rw [List.length_append]
        have : c.2.length = n := w2
        rw [this]
        rfl⟩
      split
      · exact put
      · split
        · exact put
        · exact g
theorem oneMore_wk (h : WkL fc u n ly) : WkL fc u (n + 1) (oneMore fc ly) := by
  unfold oneMore
  have key : ∀ (l : List (Nat × Nat)) (lt : Ly), (∀ s ∈ l, s.2 < 2) → WkL fc u (n + 1) lt → WkL fc u (n + 1) (l.foldl (ext1 fc ly) lt) := by
    intro l
    induction l with
    | nil => intro lt _ g; exact g
    | cons s l ih => intro lt hl g; exact ih _ (fun q hq => hl q (List.mem_cons_of_mem _ hq)) (ext1_wk h g (hl s List.mem_cons_self))
  exact key _ _ (fun s hs => (stepsOf_mem.mp hs).2) fun p hp => (by cases hp)
theorem goB_wk (fc : List Fc) (u : Str) : ∀ n, WkL fc u n (goB fc u n).1
  | 0 => fun p hp => by rw [List.mem_singleton.mp hp]; exact ⟨.nil, rfl⟩
  | n + 1 => oneMore_wk (goB_wk fc u n)
def WkB (fc : List Fc) (u : Str) (n : Nat) (b : Ly) : Prop := ∀ p ∈ b, Wk fc u p.1 p.2.1 p.2.2 ∧ p.2.2.length ≤ n
theorem keepB_wk {b : Ly} {q : Str × Chn} (h : WkB fc u n b) (hq : Wk fc u q.1 q.2.1 q.2.2 ∧ q.2.2.length ≤ n) : WkB fc u n (keepB b q) := by
  have put : WkB fc u n (putA q.1 q.2 b) := putA_all h hq
  unfold keepB
  split
  · exact put
  · split
    · exact put
    · exact h
theorem mergeB_wk {b : Ly} (h : WkB fc u n b) : ∀ {ly : Ly}, (∀ q ∈ ly, Wk fc u q.1 q.2.1 q.2.2 ∧ q.2.2.length ≤ n) → WkB fc u n (mergeB b ly) := by
  intro ly
  unfold mergeB
  induction ly generalizing b with
  | nil => intro _; exact h
  | cons q ly ih => intro g; exact ih (keepB_wk h (g q List.mem_cons_self)) fun r hr => g r (List.mem_cons_of_mem _ hr)
theorem bestOf_wk (fc : List Fc) (u : Str) : ∀ n, WkB fc u n (bestOf fc n u)
  | 0 => fun p hp => by rw [List.mem_singleton.mp hp]; exact ⟨.nil, Nat.le_refl _⟩
  | n + 1 => mergeB_wk (fun p hp => ⟨(bestOf_wk fc u n p hp).1, Nat.le_succ_of_le (bestOf_wk fc u n p hp).2⟩) fun q hq => ⟨(goB_wk fc u (n + 1) q hq).1, Nat.le_of_eq (goB_wk fc u (n + 1) q hq).2⟩
/-- b knows of x a chain not longer than r -/
def Has (b : Ly) (x : Str) (r : Rat) : Prop := ∃ c, getA b x = some c ∧ c.1 ≤ r
theorem Has.mono {b : Ly} {r r' : Rat} (h : Has b x r) (hr : r ≤ r') : Has b x r' := by
  obtain ⟨c, h1, h2⟩ := h
  exact ⟨c, h1, by grind⟩
theorem has_put {b : Ly} {r : Rat} (h : Has b x r) {z : Str} {c : Chn} (hc : ∀ o, getA b z = some o → c.1 ≤ o.1) : Has (putA z c b) x r := by
  obtain ⟨o, h1, h2⟩ := h
  unfold Has
  rw [getA_put]
  split
  · next e =>
    subst e
    exact ⟨c, rfl, by have := hc o h1; grind⟩
  · exact ⟨o, h1, h2⟩
theorem has_new {b : Ly} {c : Chn} : Has (putA x c b) x c.1 := ⟨c, by rw [getA_put, if_pos rfl], by grind⟩
theorem ext1_has {r : Rat} (h : Has lt x r) (s : Nat × Nat) : Has (ext1 fc ly lt s) x r := by
  unfold ext1
  split
  · exact h
  · split
    · exact h
    · split
      · next e => exact has_put h fun o ho => by rw [e] at ho; cases ho
      · next o e =>
        split
        · next hb => exact has_put h fun o' ho => by rw [e] at ho; cases ho; exact (chLt_le _ _).1 hb
        · exact h
theorem ext1_new {c : Chn} {f : Fc} {s : Nat × Nat} (hf : fc[s.1]? = some f) (hc : getA ly (fB f s.2) = some c) : Has (ext1 fc ly lt s) (fE f s.2) (c.1 + fL f s.2) := by
  unfold ext1
  rw [hf]
  dsimp only
  rw [hc]
  dsimp only
  split
  · exact has_new
  · next o e =>
    split
    · exact has_new
    · next hb => exact ⟨o, e, (chLt_le _ _).2 (by simpa using hb)⟩
theorem fold_has {r : Rat} : ∀ (l : List (Nat × Nat)) {lt : Ly}, Has lt x r → Has (l.foldl (ext1 fc ly) lt) x r
  | [], _, h => h
  | s :: l, _, h => fold_has l (ext1_has h s)
theorem fold_new {c : Chn} {f : Fc} {s : Nat × Nat} (hf : fc[s.1]? = some f) (hc : getA ly (fB f s.2) = some c) : ∀ (l : List (Nat × Nat)) (lt : Ly), s ∈ l → Has (l.foldl (ext1 fc ly) lt) (fE f s.2) (c.1 + fL f s.2)
  | [], _, h => nomatch h
  | q :: l, lt, h => by
    rcases List.mem_cons.mp h with e | h
    · subst e
      exact fold_has l (ext1_new hf hc)
    · exact fold_new hf hc l _ h
theorem oneMore_new {c : Chn} {f : Fc} {s : Nat × Nat} (hf : fc[s.1]? = some f) (ht : s.2 < 2) (hc : getA ly (fB f s.2) = some c) : Has (oneMore fc ly) (fE f s.2) (c.1 + fL f s.2) := by
  refine fold_new hf hc _ _ (stepsOf_mem.mpr ⟨?_, ht⟩)
  rcases Nat.lt_or_ge s.1 fc.length with z | z
  · exact z
  · rw [List.getElem?_eq_none z] at hf; cases hf
theorem goB_has (w : Wk fc u v L l) : Has (goB fc u l.length).1 v L := by
  induction w with
  | nil => exact ⟨(0, []), by show getA [(u, (0, []))] u = _; unfold getA; simp, by grind⟩
  | @snoc v L l f s w hf ht hb ih =>
    obtain ⟨c, h1, h2⟩ := ih
    subst hb
    rw [List.length_append]
    exact (oneMore_new hf ht h1).mono (by grind)
theorem keepB_has {b : Ly} {r : Rat} (h : Has b x r) (q : Str × Chn) : Has (keepB b q) x r := by
  unfold keepB
  split
  · next e => exact has_put h fun o ho => by rw [e] at ho; cases ho
  · next o e =>
    split
    · next hb => exact has_put h fun o' ho => by rw [e] at ho; cases ho; grind
    · exact h
theorem keepB_new (b : Ly) (q : Str × Chn) : Has (keepB b q) q.1 q.2.1 := by
  unfold keepB
  split
  · exact has_new
  · next o e =>
    split
    · exact has_new
    · next hb => exact ⟨o, e, by grind⟩
theorem mergeB_has {r : Rat} : ∀ {ly : Ly} {b : Ly}, Has b x r → Has (mergeB b ly) x r
  | [], _, h => h
  | q :: ly, _, h => mergeB_has (ly := ly) (keepB_has h q)
theorem mergeB_new {q : Str × Chn} : ∀ {ly : Ly} {b : Ly}, q ∈ ly → Has (mergeB b ly) q.1 q.2.1
  | [], _, h => nomatch h
  | z :: ly, b, h => by
    rcases List.mem_cons.mp h with e | h
    · subst e
      exact mergeB_has (ly := ly) (keepB_new b q)
    · exact mergeB_new (ly := ly) h
theorem bestOf_mono {r : Rat} (h : Has (bestOf fc n u) x r) : ∀ m, Has (bestOf fc (n + m) u) x r
  | 0 => h
  | m + 1 => mergeB_has (bestOf_mono h m)
theorem bestOf_has (w : Wk fc u v L l) (hl : l.length ≤ n) : Has (bestOf fc n u) v L := by
  have h : Has (bestOf fc l.length u) v L := by
    cases hk : l.length with
    | zero =>
      have : l = [] := List.length_eq_zero_iff.mp hk
      subst this
      have h0 := goB_has w
      exact h0
    | succ k =>
      have h0 := goB_has w
      rw [hk] at h0
      obtain ⟨c, h1, h2⟩ := h0
      exact (mergeB_new (getA_mem h1)).mono h2
  have := bestOf_mono h (n - l.length)
  rw [show l.length + (n - l.length) = n by omega] at this
  exact this
end
/-! ### books that hold together -/
structure BkC (b : BkS) : Prop where
  ok : BkOk b
  nd : b.nm.Nodup
  st : ("start" : Str) ∈ b.nm
  ends : ∀ f ∈ b.fc, f.a ∈ b.nm ∧ f.b ∈ b.nm
  hub : ∀ x ∈ b.nm, x ≠ "start" → ∃ f ∈ b.fc, f.a = "start" ∧ f.b = x
def bst (b : BkS) (x y : Str) : Chn := (getA (bestOf b.fc b.nm.length x) y).getD (0, [])
theorem fact_at {fc : List Fc} {f : Fc} (hf : f ∈ fc) : ∃ i : Nat, fc[i]? = some f := List.mem_iff_getElem?.mp hf
theorem BkC.two {b : BkS} (h : BkC b) {x : Str} (hx : x ∈ b.nm) (hn : x ≠ "start") : 2 ≤ b.nm.length := by
  have h1 := h.st
  generalize b.nm = l at hx h1
  match l with
  | [] => cases hx
  | [z] => exact absurd ((List.mem_singleton.mp hx).trans (List.mem_singleton.mp h1).symm) hn
  | _ :: _ :: _ => exact Nat.le_add_left 2 _
theorem wk_to {b : BkS} (h : BkC b) {u v : Str} {L : Rat} {l : List (Nat × Nat)} (w : Wk b.fc u "start" L l) (hv : v ∈ b.nm) (hn : v ≠ "start") : ∃ L' s, Wk b.fc u v L' (l ++ [s]) := by
  obtain ⟨f, hf, h1, h2⟩ := h.hub v hv hn
  obtain ⟨i, hi⟩ := fact_at hf
  have := Wk.snoc (s := (i, 0)) w hi (show (0 : Nat) < 2 by decide) (show f.a = _ from h1)
  have e : fE f (i, 0).2 = v := h2
  rw [e] at this
  exact ⟨_, _, this⟩
theorem wk_back {b : BkS} (h : BkC b) {v : Str} (hv : v ∈ b.nm) (hn : v ≠ "start") : ∃ L s, Wk b.fc v "start" L [s] := by
  obtain ⟨f, hf, h1, h2⟩ := h.hub v hv hn
  obtain ⟨i, hi⟩ := fact_at hf
  have := Wk.snoc (s := (i, 1)) (.nil (u := v)) hi (show (1 : Nat) < 2 by decide) (show f.b = _ from h2)
  have e : fE f (i, 1).2 = "start" := h1
  rw [e] at this
  exact ⟨_, _, this⟩
theorem bst_ok {b : BkS} (h : BkC b) {x y : Str} (hx : x ∈ b.nm) (hy : y ∈ b.nm) : getA (bestOf b.fc b.nm.length x) y = some (bst b x y) := by
  have key : ∃ L l, Wk b.fc x y L l ∧ l.length ≤ b.nm.length := by
    by_cases e : x = y
    · subst e
      exact ⟨_, _, .nil, Nat.zero_le _⟩
    by_cases ex : x = "start"
    · subst ex
      obtain ⟨L, s, w⟩ := wk_to h (.nil (u := "start")) hy (fun z => e z.symm)
      exact ⟨_, _, w, by have := h.two hy (fun z => e z.symm); show 1 ≤ _; omega⟩
    · have h2 := h.two hx ex
      obtain ⟨L, s, w⟩ := wk_back h hx ex
      by_cases ey : y = "start"
      · subst ey
        exact ⟨_, _, w, by show 1 ≤ _; omega⟩
      · obtain ⟨L', s', w'⟩ := wk_to h w hy ey
        exact ⟨_, _, w', h2⟩
  obtain ⟨L, l, w, hl⟩ := key
  obtain ⟨c, hc, _⟩ := bestOf_has w hl
  unfold bst
  rw [hc]
  rfl
theorem bst_wk {b : BkS} (h : BkC b) {x y : Str} (hx : x ∈ b.nm) (hy : y ∈ b.nm) : Wk b.fc x y (bst b x y).1 (bst b x y).2 ∧ (bst b x y).2.length ≤ b.nm.length := bestOf_wk _ _ _ _ (getA_mem (bst_ok h hx hy))
theorem bst_le {b : BkS} (h : BkC b) {x y : Str} (hx : x ∈ b.nm) (hy : y ∈ b.nm) {L : Rat} {l : List (Nat × Nat)} (w : Wk b.fc x y L l) (hl : l.length ≤ b.nm.length) : (bst b x y).1 ≤ L := by
  obtain ⟨c, hc, h2⟩ := bestOf_has w hl
  rw [bst_ok h hx hy] at hc
  cases hc
  exact h2
theorem bst_bd {b : BkS} (h : BkC b) {x y : Str} (hx : x ∈ b.nm) (hy : y ∈ b.nm) : Bd 1400 (bst b x y).1 := by
  have := (goB_bsb h.ok.f2 x b.nm.length).1.bd _ (getA_mem (bst_ok h hx hy))
  have h1 := h.ok.n1
  exact Bd.mono this (by omega)
theorem bst_len {b : BkS} (h : BkC b) {x y : Str} (hx : x ∈ b.nm) (hy : y ∈ b.nm) : (bst b x y).2.length ≤ 60 := Nat.le_trans (bst_wk h hx hy).2 h.ok.n1
/-- the least and the greatest number between two moments -/
def spanF (b : BkS) (x y : Str) : Rat × Rat := (0 - (bst b y x).1, (bst b x y).1)
theorem span_pot {b : BkS} (h : BkC b) {p : Str → Rat} (hp : Pot p b.fc) {x y : Str} (hx : x ∈ b.nm) (hy : y ∈ b.nm) : (spanF b x y).1 ≤ p y - p x ∧ p y - p x ≤ (spanF b x y).2 := by
  have h1 := pot_wk hp (bst_wk h hx hy).1
  have h2 := pot_wk hp (bst_wk h hy hx).1
  unfold spanF
  constructor <;> grind
def tellB (b : BkS) (x y : Str) (lo hi : Rat) : BkS := ⟨b.nm, b.fc ++ [⟨x, y, lo, hi⟩], b.past ++ [⟨"tell", b.nm, b.fc⟩]⟩
/-- the chain as it is told -/
def chD (l : List (Nat × Nat)) : D := .lst (l.map fun s => D.tup [.int (s.1 : Nat), .bl (decide (s.2 = 0))])
theorem BkC.tell {b : BkS} (h : BkC b) {x y : Str} {lo hi : Rat} (hx : x ∈ b.nm) (hy : y ∈ b.nm) (B1 : Bd 20 lo) (B2 : Bd 20 hi) (hl : b.fc.length < 60) (hp : b.past.length < 10000) : BkC (tellB b x y lo hi) := by
  have hf : ∀ f ∈ (tellB b x y lo hi).fc, f ∈ b.fc ∨ f = ⟨x, y, lo, hi⟩ := fun f hf => by
    rcases List.mem_append.mp (show f ∈ b.fc ++ [_] from hf) with z | z
    · exact .inl z
    · exact .inr (List.mem_singleton.mp z)
  refine ⟨⟨h.ok.n1, h.ok.n2, ?_, fun f q => ?_, ?_⟩, h.nd, h.st, fun f q => ?_, fun z hz hn => ?_⟩
  · show (b.fc ++ [_]).length ≤ 60
    rw [List.length_append]
    exact hl
  · rcases hf f q with z | z
    · exact h.ok.f2 f z
    · rw [z]; exact ⟨h.ok.n2 x hx, h.ok.n2 y hy, B1, B2⟩
  · show (b.past ++ [_]).length ≤ _
    rw [List.length_append]
    exact hp
  · rcases hf f q with z | z
    · exact h.ends f z
    · rw [z]; exact ⟨hx, hy⟩
  · obtain ⟨f, q1, q2⟩ := h.hub z hz hn
    exact ⟨f, List.mem_append_left _ q1, q2⟩
end DL

namespace DL
open PySem PySem.Spec L2
section
variable {X : Cx} {W : Exw} {G : List S} {R : Res} {O : Out} {a b e tg : Expr} {rest : List Stmt} {pos p : Pos} {x y : Str} {i : Int} {xn : Exn}
theorem ev_catS (hl : x.length + y.length ≤ sizeLine) (ha : Ev X a G R (.d (.str x))) (hb : Ev X b G R (.d (.str y))) : Ev X (.BinOp a .Add b pos) G R (.d (.str (x ++ y))) :=
  ev_op (s1 := .d (.str x)) (s2 := .d (.str y)) op_add_str (fun H0 v w H F Q ft hv hw k => ⟨x, y, (show v = .str x from hv), (show w = .str y from hw), hl, k _ H F (Grow.refl ft) rfl⟩) ha hb
theorem ev_strI (hm : X.mg "str" = none) (hl : i.natAbs.log2 < 1920) (ha : Ev X e G R (.d (.int i))) (hg : Gl X "str" := by rfl) (he : starEach [e] X.env = [(false, eval e X.env)] := by rfl) : Ev X (.Call (.Name "str" p) [e] [] pos) G R (.d (.str (toString i))) := by
  refine ev_callTy call_str_int hm (by decide +kernel) ?_ (eva_cons ha eva_nil he) hg (by decide) (by decide) he (by rfl)
  intro H0 xs H F Q ft h k
  obtain ⟨v, rfl, r1⟩ := srs1 h
  exact ⟨i, by rw [show v = .int i from r1], hl, k _ H F (Grow.refl ft) rfl⟩
theorem ev_intB {q : Bool} (hm : X.mg "int" = none) (ha : Ev X e G R (.d (.bl q))) (hg : Gl X "int" := by rfl) (he : starEach [e] X.env = [(false, eval e X.env)] := by rfl) : Ev X (.Call (.Name "int" p) [e] [] pos) G R (.d (.int (if q then 1 else 0))) := by
  refine ev_callTy call_int1 hm (by decide +kernel) ?_ (eva_cons ha eva_nil he) hg (by decide) (by decide) he (by rfl)
  intro H0 xs H F Q ft h k
  obtain ⟨v, rfl, r1⟩ := srs1 h
  exact .inr ⟨q, by rw [show v = .bl q from r1], k _ H F (Grow.refl ft) rfl⟩
theorem evx_ix (h : EvX X a G R xn) (hs : PlainIx b := by exact fun _ _ => rfl) : EvX X (.Subscript a b pos) G R xn := fun W en A σ H H0 F F0 Q tk m st hw => ⟨_, pe_ix ix_tup pe_t pe_t hs, h W en A σ H H0 F F0 _ tk m st hw⟩
theorem ex_asgX (he : EvX X e G R xn) (h : W xn G R) (hs : swapsWithSole [tg] e pos.line X.env = pure false := by rfl) (hw : swappedStores [tg] e X.env = pure none := by rfl)
    (h1 : (assignEach [tg] X.env).map (·.2) = [assign tg X.env] := by rfl) : Ex X W (.Assign [tg] e pos :: rest) G R O := fun en A σ H F D st po => by
  refine ⟨_, pss_cons (ps_asg pe_t pg_t hs hw h1) pss_t, ?_⟩
  exact he W en A σ H H F F _ po.tk Mon.refl st h
end
/-! ### how questions and deeds end -/
def askO (eB : Addr) : Option Str → S → Oc
  | some w, _ => .exc (bkE eB w (.lst []))
  | none, s => .ret s
def fltO (eB : Addr) (o : Option Str) : Oc := askO eB o (.d .non)
/-- how a deed ends -/
def deedP (eB cB a : Addr) (b : BkS) (flt : Option (Str × D)) (b' : BkS) (r : S) (oc : Oc) (l' : List Ob) : Prop := match flt with
  | some (w, ch) => oc = .exc (bkE eB w ch) ∧ l' = [bkO a cB b]
  | none => oc = .ret r ∧ l' = [bkO a cB b']
def noCh (o : Option Str) : Option (Str × D) := o.map fun w => (w, .lst [])
def unkF (b : BkS) (x y : Str) : Option Str := if x ∈ b.nm ∧ y ∈ b.nm then none else some "unknown moment"
theorem BkC.okx {b : BkS} (h : BkC b) {x : Str} (hx : x ∈ b.nm) : okS x := h.ok.n2 x hx
theorem ratD_nat (k : Nat) : ratD ((k : Int) : Rat) = .tup [.int k, .int 1] := rfl
end DL

namespace DL
open PySem PySem.Spec L2
section
variable {X : Cx} {G : List S} {R R1 R2 : Res} {a b e o : Expr} {es : List Expr} {pos p apos : Pos} {x m : Str} {ss : List S} {l2 : List Ob} {ad C : Addr} {fs : List (Str × FV)} {o2 : Ob} {Ct : CtR} {post : Oc → List Ob → Prop} {k j : Nat} {d : D} {xn : Exn} {pl : Sem Bool}
abbrev EvXMd (X : Cx) (e : Expr) (G : List S) (R : Res) (xn : Exn) (R' : Res) : Prop := EvXM X e G R (fun x R1 => x = xn ∧ R1 = R')
theorem evmd_meth (M : MtdC X.prog X.w X.K X.mg X.base C m k Ct) (hr : Room j X.A) (hk : k ≤ j) (h : Ev X o G (obsR (⟨ad, some C, fs⟩ :: l2)) (.d (.obj ad))) (hm : fs.lookup m = none) (ha : EvA X (e :: es) G (obsR (⟨ad, some C, fs⟩ :: l2)) ss) (hC : Ct (.d (.obj ad) :: ss) [⟨ad, some C, fs⟩] post) (hp : ∀ oc l', post oc l' → oc = .ret (.d d) ∧ l' = [o2])
    (hss : ss.all S.plain = true := by rfl) (hst : starEach (e :: es) X.env = (false, eval e X.env) :: starEach es X.env := by rfl) (hpl : (backTo pos (starEach es X.env)).any (·.1) = false := by rfl)
    (ht : eval (.Call (.Attribute o m apos) (e :: es) [] pos) X.env = (do
      let ov ← eval o X.env
      standAt apos.atName
      let (f, first) ← holding [ov] (getMethod ov m pl)
      callWith pos f first (backTo pos (starEach (e :: es) X.env)) (backToKw pos (keywordEach [] X.env))) := by rfl) :
    EvMd X (.Call (.Attribute o m apos) (e :: es) [] pos) G (obsR (⟨ad, some C, fs⟩ :: l2)) d (obsR (o2 :: l2)) :=
  evm_imp (evm_methC M hr hk (l1 := [⟨ad, some C, fs⟩]) (l2 := l2) h List.mem_cons_self hm ha hC (fun xn l' z => nomatch (hp _ _ z).1) hss hst hpl ht) fun s R' ⟨l', e1, z⟩ => by
    obtain ⟨h1, h2⟩ := hp _ _ z
    subst h2
    exact ⟨Oc.ret.inj h1, e1⟩
theorem evmd_meth0 (M : MtdC X.prog X.w X.K X.mg X.base C m k Ct) (hr : Room j X.A) (hk : k ≤ j) (h : Ev X o G (obsR (⟨ad, some C, fs⟩ :: l2)) (.d (.obj ad))) (hm : fs.lookup m = none) (hC : Ct [.d (.obj ad)] [⟨ad, some C, fs⟩] post) (hp : ∀ oc l', post oc l' → oc = .ret (.d d) ∧ l' = [o2])
    (ht : eval (.Call (.Attribute o m apos) [] [] pos) X.env = (do
      let ov ← eval o X.env
      standAt apos.atName
      let (f, first) ← holding [ov] (getMethod ov m pl)
      callWith pos f first (backTo pos (starEach [] X.env)) (backToKw pos (keywordEach [] X.env))) := by rfl) :
    EvMd X (.Call (.Attribute o m apos) [] [] pos) G (obsR (⟨ad, some C, fs⟩ :: l2)) d (obsR (o2 :: l2)) :=
  evm_imp (evm_methC0 M hr hk (l1 := [⟨ad, some C, fs⟩]) (l2 := l2) h List.mem_cons_self hm hC (fun xn l' z => nomatch (hp _ _ z).1) ht) fun s R' ⟨l', e1, z⟩ => by
    obtain ⟨h1, h2⟩ := hp _ _ z
    subst h2
    exact ⟨Oc.ret.inj h1, e1⟩
theorem evxmd_meth (M : MtdC X.prog X.w X.K X.mg X.base C m k Ct) (hr : Room j X.A) (hk : k ≤ j) (h : Ev X o G (obsR (⟨ad, some C, fs⟩ :: l2)) (.d (.obj ad))) (hm : fs.lookup m = none) (ha : EvA X (e :: es) G (obsR (⟨ad, some C, fs⟩ :: l2)) ss) (hC : Ct (.d (.obj ad) :: ss) [⟨ad, some C, fs⟩] post) (hp : ∀ oc l', post oc l' → oc = .exc xn ∧ l' = [o2])
    (hss : ss.all S.plain = true := by rfl) (hst : starEach (e :: es) X.env = (false, eval e X.env) :: starEach es X.env := by rfl) (hpl : (backTo pos (starEach es X.env)).any (·.1) = false := by rfl)
    (ht : eval (.Call (.Attribute o m apos) (e :: es) [] pos) X.env = (do
      let ov ← eval o X.env
      standAt apos.atName
      let (f, first) ← holding [ov] (getMethod ov m pl)
      callWith pos f first (backTo pos (starEach (e :: es) X.env)) (backToKw pos (keywordEach [] X.env))) := by rfl) :
    EvXMd X (.Call (.Attribute o m apos) (e :: es) [] pos) G (obsR (⟨ad, some C, fs⟩ :: l2)) xn (obsR (o2 :: l2)) := by
  have z := evxm_methC M hr hk (l1 := [⟨ad, some C, fs⟩]) (l2 := l2) h List.mem_cons_self hm ha hC (fun s l' z => nomatch (hp _ _ z).1) hss hst hpl ht
  intro W en A σ H H0 F F0 Q tk mn st hw
  refine z W en A σ H H0 F F0 Q tk mn st fun xn' R' ⟨l', e1, q⟩ => ?_
  obtain ⟨h1, h2⟩ := hp _ _ q
  subst h2
  exact hw xn' R' ⟨Oc.exc.inj h1, e1⟩
theorem evmd_callC {o1 : Ob} (f : FnC X.prog X.w X.K X.mg X.base x k Ct) (hr : Room j X.A) (hk : k ≤ j) (ha : EvA X (e :: es) G (obsR (o1 :: l2)) ss) (hC : Ct ss [o1] post) (hp : ∀ oc l', post oc l' → oc = .ret (.d d) ∧ l' = [o2]) (hss : ss.all S.plain = true := by rfl) (hg : Gl X x := by rfl) (hdb : (x == ("__debug__" : Str)) = false := by decide)
    (he : starEach (e :: es) X.env = (false, eval e X.env) :: starEach es X.env := by rfl) (hpl : (backTo pos (starEach es X.env)).any (·.1) = false := by rfl) :
    EvMd X (.Call (.Name x p) (e :: es) [] pos) G (obsR (o1 :: l2)) d (obsR (o2 :: l2)) :=
  evm_imp (evm_callC f hr hk (l1 := [o1]) (l2 := l2) ha hC (fun xn l' z => nomatch (hp _ _ z).1) hss hg hdb he hpl) fun s R' ⟨l', e1, z⟩ => by
    obtain ⟨h1, h2⟩ := hp _ _ z
    subst h2
    exact ⟨Oc.ret.inj h1, e1⟩
theorem evmd_one {op} (h : EvMd X a G R d R1) : EvMd X (.BoolOp op [a] pos) G R d R1 := fun en A σ H F Q st k => ⟨_, pe_one pe_t, h en A σ H F Q st k⟩
theorem evmd_andT {q : Bool} (h : EvMd X a G R (.bl true) R1) (h' : EvMd X (.BoolOp .And (b :: es) pos) G R1 (.bl q) R2) : EvMd X (.BoolOp .And (a :: b :: es) pos) G R (.bl q) R2 := by
  intro en A σ H F Q st k
  refine ⟨_, pe_and pe_t pe_t, ?_⟩
  refine h en A σ H F _ st fun s R' A' x H1 F1 ⟨e1, e2⟩ st1 m1 r1 ap1 => ?_
  subst e1 e2
  refine ⟨true, r1, iteT ?_⟩
  exact h' en A' σ H1 F1 _ st1 fun s R' A2 v H2 F2 ⟨e1, e2⟩ st2 m2 r2 ap2 => by
    subst e1 e2
    exact k _ _ A2 v H2 F2 ⟨rfl, rfl⟩ st2 (m1.trans m2) r2 trivial
theorem evmd_eqD {r : Nat} {d2 : D} (hu : Room r X.A) (hd : d.Fit) (he : d2.Fit) (ha : EvMd X a G R d R1) (hb : EvMd X b G R1 d2 R2) : EvMd X (.Compare a [.Eq] [b] pos) G R (.bl (D.eq d d2)) R2 := evm_cmpR (op_eqD hu.units) (ro_eqD hd he) ha hb (nomark _)
theorem tvm_neD_f {r : Nat} (hu : Room r X.A) (hd : d.Fit) (ha : EvMd X a G R d R1) (hb : EvMd X b G R1 d R2) : TvMd X (.Compare a [.NotEq] [b] pos) G R false R2 := tvm_eq (tvm_neD hu hd hd ha hb) (by rw [D.eq_true rfl]; rfl)
theorem evmd_eqD_t {r : Nat} (hu : Room r X.A) (hd : d.Fit) (ha : EvMd X a G R d R1) (hb : EvMd X b G R1 d R2) : EvMd X (.Compare a [.Eq] [b] pos) G R (.bl true) R2 := by
  have := evmd_eqD (pos := pos) hu hd hd ha hb
  rw [D.eq_true rfl] at this
  exact this
theorem int_fit (i : Int) : (D.int i).Fit := ⟨rfl, 1, by decide, rfl⟩
end
/-! ### books: what they end with -/
theorem deed_exc {eB cB a : Addr} {b b' : BkS} {w : Str} {ch : D} {r : S} : ∀ oc l', deedP eB cB a b (some (w, ch)) b' r oc l' → oc = .exc (bkE eB w ch) ∧ l' = [bkO a cB b] := fun _ _ h => h
theorem deed_ret {eB cB a : Addr} {b b' : BkS} {d : D} : ∀ oc l', deedP eB cB a b none b' (.d d) oc l' → oc = .ret (.d d) ∧ l' = [bkO a cB b'] := fun _ _ h => h
def addB (b : BkS) (x : Str) (lo hi : Rat) : BkS := ⟨b.nm ++ [x], b.fc ++ [⟨"start", x, lo, hi⟩], b.past ++ [⟨"add", b.nm, b.fc⟩]⟩
theorem BkC.new : BkC ⟨["start"], [], []⟩ := ⟨⟨by decide, fun x hx => by rw [List.mem_singleton.mp hx]; decide +kernel, by decide, fun f hf => (by cases hf), by decide⟩, List.nodup_cons.mpr ⟨List.not_mem_nil, List.nodup_nil⟩, List.mem_singleton.mpr rfl, fun f hf => (by cases hf), fun x hx hn => absurd (List.mem_singleton.mp hx) hn⟩
theorem BkC.add {b : BkS} (h : BkC b) {x : Str} {lo hi : Rat} (hx : x ∉ b.nm) (ho : okS x) (B1 : Bd 20 lo) (B2 : Bd 20 hi) (hn : b.nm.length < 60) (hl : b.fc.length < 60) (hp : b.past.length < 10000) : BkC (addB b x lo hi) := by
  have hf : ∀ f ∈ (addB b x lo hi).fc, f ∈ b.fc ∨ f = ⟨"start", x, lo, hi⟩ := fun f hf => by
    rcases List.mem_append.mp (show f ∈ b.fc ++ [_] from hf) with z | z
    · exact .inl z
    · exact .inr (List.mem_singleton.mp z)
  have hm : ∀ y ∈ (addB b x lo hi).nm, y ∈ b.nm ∨ y = x := fun y hy => by
    rcases List.mem_append.mp (show y ∈ b.nm ++ [_] from hy) with z | z
    · exact .inl z
    · exact .inr (List.mem_singleton.mp z)
  have up : ∀ y ∈ b.nm, y ∈ (addB b x lo hi).nm := fun y hy => List.mem_append_left _ hy
  have nw : x ∈ (addB b x lo hi).nm := List.mem_append_right _ (List.mem_singleton.mpr rfl)
  refine ⟨⟨?_, fun y q => ?_, ?_, fun f q => ?_, ?_⟩, ?_, up _ h.st, fun f q => ?_, fun z hz hn => ?_⟩
  · show (b.nm ++ [_]).length ≤ 60
    rw [List.length_append]
    exact hn
  · rcases hm y q with z | z
    · exact h.ok.n2 y z
    · rw [z]; exact ho
  · show (b.fc ++ [_]).length ≤ 60
    rw [List.length_append]
    exact hl
  · rcases hf f q with z | z
    · exact h.ok.f2 f z
    · rw [z]; exact ⟨h.okx h.st, ho, B1, B2⟩
  · show (b.past ++ [_]).length ≤ _
    rw [List.length_append]
    exact hp
  · exact List.nodup_append.mpr ⟨h.nd, List.nodup_cons.mpr ⟨List.not_mem_nil, List.nodup_nil⟩, fun a ha c hc e => hx (by rw [← List.mem_singleton.mp hc, ← e]; exact ha)⟩
  · rcases hf f q with z | z
    · exact ⟨up _ (h.ends f z).1, up _ (h.ends f z).2⟩
    · rw [z]; exact ⟨up _ h.st, nw⟩
  · rcases hm z hz with q | q
    · obtain ⟨f, q1, q2⟩ := h.hub z q hn
      exact ⟨f, List.mem_append_left _ q1, q2⟩
    · exact ⟨_, List.mem_append_right _ (List.mem_singleton.mpr rfl), rfl, q.symm⟩
end DL

namespace DL
open PySem PySem.Spec L2
structure RowsAt (H : Hp) (ps : List Addr) (rows : List (List Int)) : Prop where
  len : ps.length = rows.length
  at_ : ∀ (i : Nat) (p : Addr) (r : List Int), ps[i]? = some p → rows[i]? = some r → H p = some (.lst (r.map V.int))
def matR (a : Addr) (rows : List (List Int)) : Res where
  holds _ H _ A := ∃ ps : List Addr, H a = some (.lst (ps.map V.ref)) ∧ RowsAt H ps rows ∧ (a :: ps).Nodup ∧ ∀ x, A x ↔ x ∈ a :: ps
  stable := fun ⟨ps, h1, h2, h3, h4⟩ m hA => ⟨ps, by rw [hA a ((h4 a).mpr List.mem_cons_self)]; exact h1, ⟨h2.len, fun i p r hp hr => by rw [hA p ((h4 p).mpr (List.mem_cons_of_mem _ (List.mem_of_getElem? hp)))]; exact h2.at_ i p r hp hr⟩, h3, h4⟩
  nx := fun ⟨ps, h1, h2, h3, h4⟩ b vs hb e => by
    rcases List.mem_cons.mp ((h4 b).mp hb) with rfl | z
    · rw [h1] at e; cases e
    · obtain ⟨i, hi⟩ := List.mem_iff_getElem?.mp z
      have hl : i < rows.length := by
        rw [← h2.len]
        rcases Nat.lt_or_ge i ps.length with y | y
        · exact y
        · rw [List.getElem?_eq_none y] at hi; cases hi
      rw [h2.at_ i b _ hi (List.getElem?_eq_getElem hl)] at e
      cases e
abbrev rowD (r : List Int) : D := .lst (r.map D.int)
abbrev matD (rows : List (List Int)) : D := .lst (rows.map rowD)
theorem row_dn {K : PySem.W.Frag} {F : Fz} {H : Hp} : ∀ r : List Int, DnA K F H (r.map D.int) (r.map V.int)
  | [] => trivial
  | _ :: r => ⟨rfl, row_dn r⟩
theorem row_vs {K : PySem.W.Frag} {F : Fz} {H : Hp} : ∀ {r : List Int} {vs : List V}, DnA K F H (r.map D.int) vs → vs = r.map V.int
  | [], vs, h => h.nil_of
  | i :: r, vs, h => by
    obtain ⟨v, vr, rfl, h1, h2⟩ := h.cons_of
    rw [show v = .int i from h1, row_vs h2]
    rfl
theorem mat_dn {K : PySem.W.Frag} {F : Fz} {H : Hp} : ∀ {ps : List Addr} {rows : List (List Int)}, RowsAt H ps rows → (∀ p ∈ ps, F p) → DnA K F H (rows.map rowD) (ps.map V.ref)
  | [], [], _, _ => trivial
  | [], _ :: _, h, _ => by cases h.len
  | _ :: _, [], h, _ => by cases h.len
  | p :: ps, r :: rows, h, hF => ⟨⟨p, _, rfl, hF p List.mem_cons_self, h.at_ 0 p r rfl rfl, row_dn r⟩, mat_dn ⟨Nat.succ.inj h.len, fun i q s hq hs => h.at_ (i + 1) q s hq hs⟩ fun q hq => hF q (List.mem_cons_of_mem _ hq)⟩
section
variable {P : Program} {w : World} {K : PySem.W.Frag} {mg : Str → Option Value} {base : Heap}
/-- a def keeps its contract -/
theorem fn_mkM {x qual : Str} {params : Arguments} {body : List Stmt} {scope : Scope} {dvs : List V} {kws : List (Str × V)} {f : Addr} {fd : FuncData} {N ps : List Str} {k : Nat} {C : Ct} (F : FunD K x qual params body scope dvs kws f fd) (S' : FnScope N ps scope)
    (hlen : ∀ ss oc, C ss oc → ss.length = ps.length)
    (hbody : ∀ (cdv : Value) (A : Around) (outer : List Env) (s : Shared) (H : Hp) (E : XK), Room k (A.deeper (PyProof.Rows.envOfC qual scope s.heap.objs.size f cdv)) →
      PassesOwn (model P w) (A.deeper (PyProof.Rows.envOfC qual scope s.heap.objs.size f cdv)) (PyProof.Rows.envOfC qual scope s.heap.objs.size f cdv) (cxOf (L2.CX P w) P w K mg base N qual scope f cdv A outer s H E).xe → ∀ ss oc, C ss oc →
      Ex (cxOf (L2.CX P w) P w K mg base N qual scope f cdv A outer s H E) (fun x _ _ => oc = .exc x) body (ss ++ List.replicate (N.length - ps.length) S.any) emp { nx := fun _ _ => oc = .ret (.d .non), rt := fun s R => ∃ a rows, R = matR a rows ∧ s = .d (.obj a) ∧ oc = .ret (.d (matD rows)) }) :
    FnOk P w K mg base (L2.CX P w) (k + 1) f fd ps (spD K C) := by
  have len : ∀ vs H Q E, spD K C vs H Q E → vs.length = ps.length := fun vs H Q E h => by
    obtain ⟨F, ss, oc, h1, h2, h3, h4⟩ := h
    rw [h3.length]
    exact hlen ss oc h1
  refine F.ok S' len fun cdv A outer s H vs Q E hr hsp => ?_
  have hvl := len vs H Q E hsp
  obtain ⟨F, ss, oc, h1, h2, h3, h4⟩ := hsp
  have hl := hlen ss oc h1
  have tk0 : Takes (cxOf (L2.CX P w) P w K mg base N qual scope f cdv A outer s H E) (fun cls d _ H => E cls d H) := takes_of rfl rfl rfl rfl
  have hp : PassesOwn (model P w) (A.deeper (PyProof.Rows.envOfC qual scope s.heap.objs.size f cdv)) (PyProof.Rows.envOfC qual scope s.heap.objs.size f cdv) (cxOf (L2.CX P w) P w K mg base N qual scope f cdv A outer s H E).xe := PassesOwn.leaving
  have st : Sta K ⟨H, F, fun _ => False⟩ (ss ++ List.replicate (N.length - ps.length) S.any) emp (fun _ => False) (start N vs) H F := by
    refine ⟨fun a o h _ => h, fun a h => h, fun a h => h, fun a h => .inl h, h2, fun a h => h.elim, fun a h => h, ?_, fun _ => 0, fun i t ht => ?_⟩
    · unfold L2.start
      rw [List.length_append, List.length_append, List.length_replicate, List.length_replicate, List.length_map, hl, hvl]
    · unfold L2.start
      rw [hvl]
      obtain ⟨o, k1, k2⟩ := slots_start (K := K) (F := F) (fun _ => 0) (N.length - ps.length) 0 h3 i t ht
      refine ⟨o, k1, ?_⟩
      cases t with
      | own ds => obtain ⟨a, vs, z1, z2, z3, z4, z5, z6, z7⟩ := k2; have z7' : H a = none := z7; rw [z7'] at z5; cases z5
      | dic ds => obtain ⟨a, vs, z1, z2, z3, z4, z5, z6, z7⟩ := k2; have z7' : H a = none := z7; rw [z7'] at z5; cases z5
      | any => exact k2
      | d x => exact k2
      | bor x => exact k2
      | scr x => exact k2
      | bdic x => exact k2
      | bob a l => exact k2
      | ldic a l => exact k2
      | exn a dd fs => exact k2
  have fin : ∀ {R A' H' F'}, Fin K ⟨H, F, fun _ => False⟩ R A' H' F' → Grow H F H' F' := fun z => ⟨fun a o h => z.fr a o h fun y => y, z.f0, z.f1, z.ft⟩
  refine ⟨_, pss_t, hbody cdv A outer s H E hr hp ss oc h1 ⟨H, F, fun _ => False⟩ (fun _ => False) (start N vs) H F _ st ⟨tk0.imp fun cls d σ H' hw => ?_, fun G R A' σ H' F' h s' m => ?_, fun s R A' v H' F' h s' r _ => ?_, fun _ _ _ _ _ _ h => h.elim, fun _ _ _ _ _ _ h => h.elim⟩⟩
  · obtain ⟨x, G, R, A', F', rfl, s', hx, _⟩ := hw
    exact h4 cls d H' F' (fin s'.fin) hx
  · have h' : oc = .ret (.d .non) := h
    subst h'
    exact h4 .non H' F' (fin s'.fin) rfl
  · obtain ⟨a, rows, rfl, rfl, rfl⟩ := h
    obtain ⟨ps, k1, k2, k3, k4⟩ := s'.rs
    have ev : v = .ref a := r
    subst ev
    have no : ∀ b, A' b → H b = none := fun b hb => (s'.at_ b hb).2.2.elim (fun z => z.elim) fun z => z
    have gr := fin s'
    have g2 : Grow H F H' (fun b => F' b ∨ A' b) := ⟨gr.h, fun b hb => .inl (gr.f b hb), fun b hb => hb.elim (gr.n b) fun z => .inr (no b z), fun b hb => hb.elim (gr.t b) fun z => (s'.at_ b z).1⟩
    refine h4 (.ref a) H' _ g2 ⟨a, ps.map V.ref, rfl, .inr ((k4 a).mpr List.mem_cons_self), k1, ?_⟩
    exact mat_dn k2 fun p hp => .inr ((k4 p).mpr (List.mem_cons_of_mem _ hp))
end
/-- things that are new become one's own -/
theorem Sta.newA {K : PySem.W.Frag} {en : En} {G : List S} {R' : Res} {A A' : Addr → Prop} {σ : L2.St} {H H' : Hp} {F F' : Fz} (st : Sta K en G DL.emp A σ H F) (g : Grow H F H' F') (hA : ∀ x, A' x → H x = none ∧ H' x ≠ none ∧ ¬ F' x) (hr : R'.holds K H' F' A') : Sta K en G R' A' σ H' F' := by
  have st' := st.grow g
  refine ⟨st'.fr, st'.th, st'.f0, st'.f1, st'.ft, fun b hb => ⟨(hA b hb).2.1, (hA b hb).2.2, .inr (st.nn _ (hA b hb).1)⟩, hr, st'.len, ?_⟩
  obtain ⟨ow, h⟩ := st'.sl
  have old := st.sl
  refine ⟨ow, fun i x hx => ?_⟩
  obtain ⟨o, q1, q2⟩ := h i x hx
  refine ⟨o, q1, ?_⟩
  obtain ⟨ow0, h0⟩ := old
  obtain ⟨o0, y1, y2⟩ := h0 i x hx
  rw [q1] at y1
  cases y1
  cases x with
  | any => trivial
  | d x => exact q2
  | own ds =>
    obtain ⟨b, vs, z1, z2, z3, z4, z5⟩ := q2
    obtain ⟨b', vs', w1, w2, w3, w4, w5, _⟩ := y2
    rw [z1] at w1
    cases w1
    exact ⟨b, vs, z1, z2, z3, fun z => (by rw [(hA b z).1] at w5; cases w5), z5⟩
  | bor ds => exact q2
  | scr ns => exact q2
  | dic ds =>
    obtain ⟨b, vs, z1, z2, z3, z4, z5⟩ := q2
    obtain ⟨b', vs', w1, w2, w3, w4, w5, _⟩ := y2
    rw [z1] at w1
    cases w1
    exact ⟨b, vs, z1, z2, z3, fun z => (by rw [(hA b z).1] at w5; cases w5), z5⟩
  | bdic ds => exact q2
  | bob b l => exact q2
  | ldic b l => exact q2
  | exn b dd fs =>
    obtain ⟨z1, z2, z3⟩ := q2
    obtain ⟨w1, w2, vs', w3, _⟩ := y2
    exact ⟨z1, fun z => (by rw [(hA dd z).1] at w3; cases w3), z3⟩
/-- a row is changed -/
theorem Sta.mutRow {K : PySem.W.Frag} {en : En} {G : List S} {A : Addr → Prop} {σ : L2.St} {H : Hp} {F : Fz} {a p : Addr} {rows : List (List Int)} {ps : List Addr} {i : Nat} {r : List Int} (st : Sta K en G (matR a rows) A σ H F)
    (k1 : H a = some (.lst (ps.map V.ref))) (k2 : RowsAt H ps rows) (k3 : (a :: ps).Nodup) (k4 : ∀ x, A x ↔ x ∈ a :: ps) (hp : ps[i]? = some p) :
    Sta K en G (matR a (rows.set i r)) A σ (upd H p (.lst (r.map V.int))) F ∧ Mon H F (upd H p (.lst (r.map V.int))) F := by
  have hm := List.mem_of_getElem? hp
  have hAp : A p := (k4 p).mpr (List.mem_cons_of_mem _ hm)
  obtain ⟨p1, p2, p3⟩ := st.at_ p hAp
  have hil : i < ps.length := by
    rcases Nat.lt_or_ge i ps.length with y | y
    · exact y
    · rw [List.getElem?_eq_none y] at hp; cases hp
  have hrow := k2.at_ i p _ hp (List.getElem?_eq_getElem (show i < rows.length by rw [← k2.len]; exact hil))
  have m : Mon H F (upd H p (.lst (r.map V.int))) F := mon_upd hrow (fun _ z => nomatch z) (fun _ _ z => nomatch z) p2
  have un : ∀ b o, b ≠ p → H b = some o → upd H p (.lst (r.map V.int)) b = some o := fun b o e h => by rw [upd_ne e]; exact h
  have tr : ∀ b, H b ≠ none → upd H p (.lst (r.map V.int)) b ≠ none := fun b hb => by
    by_cases e : b = p
    · rw [e, upd_same]; exact fun z => nomatch z
    · rw [upd_ne e]; exact hb
  have nd := List.nodup_cons.mp k3
  refine ⟨⟨fun b o hb na => un b o (fun e => by
      rw [e] at hb na
      rcases p3 with z | z
      · exact na z
      · rw [z] at hb; cases hb) (st.fr b o hb na), fun b hb => tr b (st.th b hb), st.f0, st.f1, fun b hb => tr b (st.ft b hb), fun b hb => ?_, ?_, st.len, ?_⟩, m⟩
  · obtain ⟨q1, q2, q3⟩ := st.at_ b hb
    exact ⟨tr b q1, q2, q3⟩
  · refine ⟨ps, un a _ (fun e => nd.1 (by rw [e]; exact hm)) k1, ⟨by rw [List.length_set]; exact k2.len, fun j q s hq hs => ?_⟩, k3, k4⟩
    by_cases e : i = j
    · subst e
      rw [hp] at hq
      cases hq
      rw [List.getElem?_set_self (by rw [← k2.len]; exact hil)] at hs
      cases hs
      exact upd_same
    · rw [List.getElem?_set_ne e] at hs
      refine un q _ (fun z => e ?_) (k2.at_ j q s hq hs)
      rw [z] at hq
      exact (List.getElem?_inj hil nd.2).mp (hp.trans hq.symm)
  · obtain ⟨ow, h⟩ := st.sl
    refine ⟨ow, fun l t ht => ?_⟩
    obtain ⟨o, k1, k2⟩ := h l t ht
    refine ⟨o, k1, ?_⟩
    cases t with
    | any => trivial
    | d x => obtain ⟨v, z1, z2⟩ := k2; exact ⟨v, z1, Dn.mon m _ _ z2⟩
    | own fs =>
      obtain ⟨b, us, z1, z2, z3, z4, z5, z6, z7⟩ := k2
      exact ⟨b, us, z1, z2, z3, z4, un b _ (fun z => z4 (by rw [z]; exact hAp)) z5, DnA.mon m _ _ z6, z7⟩
    | bor fs => obtain ⟨b, us, z1, z2, z3, z4⟩ := k2; exact ⟨b, us, z1, z2, z3, DnA.mon m _ _ z4⟩
    | scr ns => exact k2
    | dic fs =>
      obtain ⟨b, us, z1, z2, z3, z4, z5, z6, z7⟩ := k2
      exact ⟨b, us, z1, z2, z3, z4, un b _ (fun z => z4 (by rw [z]; exact hAp)) z5, DnK.mon m z6, z7⟩
    | bdic fs => obtain ⟨b, us, z1, z2, z3, z4⟩ := k2; exact ⟨b, us, z1, z2, z3, DnK.mon m z4⟩
    | bob b l => obtain ⟨z1, ads, z2, z3⟩ := k2; exact ⟨z1, ads, ObsAt.mon m (fun _ _ _ z => z) z2, z3⟩
    | ldic b l => obtain ⟨z1, vs0, z2, z3, z4⟩ := k2; exact ⟨z1, vs0, z2, z3, DnK.mon m z4⟩
    | exn b dd fs => obtain ⟨z1, z2, us, z3, z4⟩ := k2; exact ⟨z1, z2, us, un dd _ (fun z => z2 (by rw [z]; exact hAp)) z3, DnF.mon m z4⟩
section
variable {X : Cx} {W : Exw} {G : List S} {O : Out} {elt tg iter : Expr} {scope : Scope} {own : List (Str × Nat)} {ds : List D} {pos : Pos} {rest : List Stmt} {row : List Int} {a : Addr} {rows : List (List Int)} {ei ej e : Expr}
def LcM (X : Cx) (scope : Scope) (own : List (Str × Nat)) (tg elt : Expr) (G : List S) (ds : List D) (row : List Int) : Prop :=
  ∀ (k : Nat) (d : D), ds[k]? = some d → ∃ (G' : List S) (ix : List Nat), (∀ j ∈ ix, j ∈ own.map (·.2)) ∧ ∀ (s : Shared) (H : Hp) (C : Addr) (cl : List (Str × Addr)) (fp : List Addr), TgW (blkX X scope s H C cl fp) tg d ix (wipeS G (own.map (·.2))) G' ∧
    Ev (blkX X scope s H C cl fp) elt G' emp (.own (row.map D.int))
theorem mat_read (hi : EvIG X tg iter G emp ds) (hl : ds.length ≤ sizeLine) (hb : LcM X scope own tg elt G ds row) {en : En} {A : Addr → Prop} {σ : L2.St} {H : Hp} {F : Fz} {Q : VK} (st : Sta X.K en G emp A σ H F)
    (k : ∀ D A' H' F', Mon H F H' F' → Sta X.K en G (matR D (List.replicate ds.length row)) A' σ H' F' → Q (.ref D) H') : tLc (tI X tg iter) (gB X scope tg) (pB X scope []) (eB X scope elt) (own.map (·.2)) σ H Q := by
  refine hi en A σ H F _ st fun J H1 F1 g1 feed D hD => ?_
  have st1 := st.grow g1
  have gD : Grow H1 F1 (upd H1 D (.lst [])) F1 := Grow.new hD g1.t
  have gone : ∀ {H2 : Hp} {F2 : Fz} {u : HO}, Grow H1 F1 H2 F2 → Grow H1 F1 (upd H2 D u) F2 := fun {H2 F2 u} g => ⟨fun a o ha => by rw [upd_ne (ne_of_none ha hD)]; exact g.h a o ha, g.f, g.n, fun a ha => by
    by_cases e : a = D
    · rw [e, upd_same]; exact fun z => nomatch z
    · rw [upd_ne e]; exact g.t a ha⟩
  refine ⟨fun i m H2 => m = ds.length - i ∧ i ≤ ds.length ∧ ∃ F2 ps, Grow H1 F1 H2 F2 ∧ H2 D = some (.lst (ps.map V.ref)) ∧ RowsAt H2 ps (List.replicate i row) ∧ (D :: ps).Nodup ∧ ∀ x ∈ D :: ps, H1 x = none ∧ H2 x ≠ none ∧ ¬ F2 x,
    ⟨ds.length, by simp, Nat.zero_le _, F1, [], gD, upd_same, ⟨rfl, fun i p r h => by cases h⟩, List.nodup_cons.mpr ⟨List.not_mem_nil, List.nodup_nil⟩, fun x hx => by
      rw [List.mem_singleton.mp hx]
      exact ⟨hD, (by rw [upd_same]; exact fun z => nomatch z), fresh_nf g1.t hD⟩⟩, ?_⟩
  rintro i m H2 ⟨rfl, hle, F2, ps, g2, h2, h3, h4, h5⟩
  have st2 := st1.grow g2
  obtain ⟨f1, f2⟩ := feed i H2 F2 g2 st2.fr
  rcases Nat.lt_or_ge i ds.length with hlt | hge
  · have hd : ds[i]? = some ds[i] := List.getElem?_eq_getElem hlt
    obtain ⟨f3, f4⟩ := f2 _ hd
    obtain ⟨G', ix, hix, hbb⟩ := hb i _ hd
    refine .inr ⟨f3, fun H' => ∃ F2 ps, Grow H1 F1 H' F2 ∧ H' D = some (.lst (ps.map V.ref)) ∧ RowsAt H' ps (List.replicate (i + 1) row) ∧ (D :: ps).Nodup ∧ ∀ x ∈ D :: ps, H1 x = none ∧ H' x ≠ none ∧ ¬ F2 x, fun H' z => ⟨ds.length - (i + 1), by omega, rfl, hlt, z⟩, fun x H' y => ?_⟩
    obtain ⟨rfl, hx⟩ := f4 x H' y
    intro s0 H0 C0 cl0 fp0
    refine (hbb s0 H0 C0 cl0 fp0).1 en emp A (wipe σ (own.map (·.2))) H' F2 x _ (st2.wipe _) hx fun σ' st' hs' hlen => ?_
    refine ⟨wipe_back hlen hs' hix, ?_⟩
    intro s1 H1' C1 cl1 fp1
    refine pv_nil (G := G') (R := emp) en A σ' H' F2 _ st' fun H3 F3 g3 => ?_
    have g13 := g2.trans g3
    refine iteT ?_
    intro s2 H2' C2 cl2 fp2
    refine (hbb s2 H2' C2 cl2 fp2).2 en A σ' H3 F3 _ (st'.grow g3) fun v H4 F4 g4 r4 => ?_
    obtain ⟨p, vs, rfl, q2, q3, q4, q5⟩ := r4
    have g14 := g13.trans g4
    have g24 := g3.trans g4
    have hp1 : H1 p = none := none_pre g13.h q2
    have hpn : p ∉ D :: ps := fun z => by
      have z2 := (h5 p z).2.1
      cases w : H' p with
      | none => exact z2 w
      | some o => rw [g3.h _ _ w] at q2; cases q2
    have eD : p ≠ D := fun z => hpn (by rw [z]; exact List.mem_cons_self)
    rw [row_vs q5] at q4
    have nF : ∀ x ∈ D :: ps, ¬ F4 x := fun x hx z => (g24.n x z).elim (h5 x hx).2.2 (h5 x hx).2.1
    refine ⟨ps.map V.ref, g24.h _ _ h2, ?_, ?_⟩
    · rw [List.length_map, h3.len, List.length_replicate]
      omega
    · refine ⟨F4, ps ++ [p], gone g14, by rw [List.map_append]; exact upd_same, ⟨by rw [List.length_append, h3.len, List.length_replicate, List.length_replicate]; rfl, fun j q s hq hs => ?_⟩, ?_, fun x hx => ?_⟩
      · rw [List.getElem?_replicate] at hs
        split at hs
        · cases hs
          have hq0 := List.mem_of_getElem? hq
          rcases List.mem_append.mp hq0 with z | z
          · have nD : q ≠ D := fun y => (List.nodup_cons.mp h4).1 (by rw [← y]; exact z)
            rw [upd_ne nD]
            obtain ⟨j', hj'⟩ := List.mem_iff_getElem?.mp z
            have hl' : j' < i := by
              have := h3.len
              rw [List.length_replicate] at this
              rw [← this]
              rcases Nat.lt_or_ge j' ps.length with y | y
              · exact y
              · rw [List.getElem?_eq_none y] at hj'; cases hj'
            exact g24.h _ _ (h3.at_ j' q row hj' (by rw [List.getElem?_replicate, if_pos hl']))
          · rw [List.mem_singleton.mp z, upd_ne eD]
            exact q4
        · cases hs
      · obtain ⟨n1, n2⟩ := List.nodup_cons.mp h4
        refine List.nodup_cons.mpr ⟨fun z => ?_, List.nodup_append.mpr ⟨n2, List.nodup_cons.mpr ⟨List.not_mem_nil, List.nodup_nil⟩, fun x hx y hy e => ?_⟩⟩
        · rcases List.mem_append.mp z with z | z
          · exact n1 z
          · exact eD (List.mem_singleton.mp z).symm
        · rw [List.mem_singleton.mp hy] at e
          exact hpn (by rw [← e]; exact List.mem_cons_of_mem _ hx)
      · have up : ∀ y, H4 y ≠ none → upd H4 D (.lst (ps.map V.ref ++ [V.ref p])) y ≠ none := fun y hy => by
          by_cases e : y = D
          · rw [e, upd_same]; exact fun z => nomatch z
          · rw [upd_ne e]; exact hy
        have old : ∀ y ∈ D :: ps, H1 y = none ∧ H4 y ≠ none ∧ ¬ F4 y := fun y hy => ⟨(h5 y hy).1, (fun z => by
          cases w : H' y with
          | none => exact (h5 y hy).2.1 w
          | some o => rw [g24.h _ _ w] at z; cases z), nF y hy⟩
        rcases List.mem_cons.mp hx with z | z
        · have := old x (by rw [z]; exact List.mem_cons_self)
          exact ⟨this.1, up x this.2.1, this.2.2⟩
        · rcases List.mem_append.mp z with z | z
          · have := old x (List.mem_cons_of_mem _ z)
            exact ⟨this.1, up x this.2.1, this.2.2⟩
          · rw [List.mem_singleton.mp z]
            exact ⟨hp1, up p (by rw [q4]; exact fun z => nomatch z), q3⟩
  · have e : i = ds.length := by omega
    subst e
    exact .inl ⟨f1 hge, k D (fun x => x ∈ D :: ps) H2 F2 (g1.trans g2).mon (st1.newA g2 (fun x hx => h5 x hx) ⟨ps, h2, h3, h4, fun x => Iff.rfl⟩)⟩
/-- name = [[..] * n for ..] on one line -/
theorem ex_setMat (i : Nat) (own : List (Str × Nat)) {y : Str} {py spos : Pos} (hN : X.N.Nodup) (ok : BlkOk X.N X.env.scope scope own) (hi : EvIG X tg iter G emp ds) (hl : ds.length ≤ sizeLine) (hb : LcM X scope own tg elt G ds row) (k : ∀ a, Ex X W rest (G.set i (.d (.obj a))) (matR a (List.replicate ds.length row)) O)
    (ha : (scope.names.any fun (n, k) => n == y && (k == .local || k == .cell)) = false) (hkk : X.env.scope.kind = .function := by rfl) (hll : (py.line == pos.line) = true := by rfl)
    (hc : X.calm = true := by rfl) (hs : ∀ x, foldedSetIterable iter X.env x = pure x := by intro _; rfl) (hy : X.N[i]? = some y := by rfl) (hyl : X.env.scope.names.lookup y = some .local := by rfl) :
    Ex X W (.Assign [.Name y py] (.ListComp elt [⟨tg, iter, [], 0⟩] scope pos) spos :: rest) G emp O := fun en A σ H F D st p => by
  refine ⟨_, pss_cons (ps_setLc hc hN hy hyl (sw_true hkk hyl hll ha) pi_t ok pg_B pts_B pe_B hs) pss_t, ?_⟩
  show tLc (tI X tg iter) (gB X scope tg) (pB X scope []) (eB X scope elt) (own.map (·.2)) σ H fun x H1 => tSs X rest D (σ.set i (some x)) H1
  refine mat_read hi hl hb st fun a A' H' F' m st' => ?_
  exact k a en A' _ H' F' D (st'.put (Grow.refl st'.ft) rfl rfl) (p.from m)
/-- x[i][j] -/
theorem ev_mat (n : Nat) {x : Str} {p0 p1 p2 : Pos} {i j : Nat} {v : Int} (hs : G[n]? = some (.d (.obj a))) (hi : Ev X ei G (matR a rows) (.d (.int i))) (hj : Ev X ej G (matR a rows) (.d (.int j))) (hr : rows[i]? = some row) (hv : row[j]? = some v)
    (hN : X.N[n]? = some x := by rfl) (hx : Vis X.env.scope x := by first | exact Or.inl rfl | exact Or.inr (Or.inl rfl) | exact Or.inr (Or.inr rfl)) (hd : (x == ("__debug__" : Str)) = false := by decide) (hcd : (x == ("__classdict__" : Str)) = false := by decide)
    (hs1 : PlainIx ei := by exact fun _ _ => rfl) (hs2 : PlainIx ej := by exact fun _ _ => rfl) : Ev X (.Subscript (.Subscript (.Name x p0) ei p1) ej p2) G (matR a rows) (.d (.int v)) := by
  intro en A σ H F Q st k
  refine ⟨_, pe_ix ix_list (pe_ix ix_list (pe_var hN hx hd hcd) pe_t hs1) pe_t hs2, ?_⟩
  obtain ⟨ow, o, h1, u, rfl, h2⟩ := slot_at st hs
  have eu : u = .ref a := h2
  subst eu
  refine ⟨_, h1, ?_⟩
  refine hi en A σ H F _ st fun y H1 F1 g1 r1 => ?_
  have ey : y = .int i := r1
  subst ey
  have st1 := st.grow g1
  obtain ⟨ps, k1, k2, k3, k4⟩ := st1.rs
  have hil : i < ps.length := by
    rw [k2.len]
    rcases Nat.lt_or_ge i rows.length with y | y
    · exact y
    · rw [List.getElem?_eq_none y] at hr; cases hr
  have hp : ps[i]? = some ps[i] := List.getElem?_eq_getElem hil
  refine ⟨a, _, i, .ref ps[i], rfl, rfl, SqL.of k1, ?_, ?_⟩
  · exact atI_nat (by rw [List.getElem?_map, hp]; rfl)
  refine hj en A σ H1 F1 _ st1 fun z H2 F2 g2 r2 => ?_
  have ez : z = .int j := r2
  subst ez
  refine ⟨ps[i], row.map V.int, j, .int v, rfl, rfl, SqL.of (g2.h _ _ (k2.at_ i _ row hp hr)), ?_, k _ H2 F2 (g1.trans g2) rfl⟩
  exact atI_nat (by rw [List.getElem?_map, hv]; rfl)
/-- x[i][j] = e -/
theorem ex_setMat2 (n : Nat) {x : Str} {p0 p1 tpos spos : Pos} {i j : Nat} {v : Int} (he : Ev X e G (matR a rows) (.d (.int v))) (hs : G[n]? = some (.d (.obj a))) (hi : Ev X ei G (matR a rows) (.d (.int i))) (hj : Ev X ej G (matR a rows) (.d (.int j))) (hr : rows[i]? = some row) (hjl : j < row.length)
    (k : Ex X W rest G (matR a (rows.set i (row.set j v))) O)
    (hN : X.N[n]? = some x := by rfl) (hx : Vis X.env.scope x := by first | exact Or.inl rfl | exact Or.inr (Or.inl rfl) | exact Or.inr (Or.inr rfl)) (hd : (x == ("__debug__" : Str)) = false := by decide) (hcd : (x == ("__classdict__" : Str)) = false := by decide)
    (hs1 : PlainIx ei := by exact fun _ _ => rfl)
    (ha : ∀ v, assign (.Subscript (.Subscript (.Name x p0) ei p1) ej tpos) X.env v = (do
      let ov ← holding [v] (eval (.Subscript (.Name x p0) ei p1) X.env)
      let iv ← holding [v, ov] (eval ej X.env)
      standAt tpos
      holding [v, ov, iv] (setItem ov iv v)
      release [v, ov, iv] []) := by intro _; rfl)
    (hsw : swapsWithSole [.Subscript (.Subscript (.Name x p0) ei p1) ej tpos] e spos.line X.env = pure false := by rfl) (hw : swappedStores [.Subscript (.Subscript (.Name x p0) ei p1) ej tpos] e X.env = pure none := by rfl)
    (h1 : (assignEach [.Subscript (.Subscript (.Name x p0) ei p1) ej tpos] X.env).map (·.2) = [assign (.Subscript (.Subscript (.Name x p0) ei p1) ej tpos) X.env] := by rfl) : Ex X W (.Assign [.Subscript (.Subscript (.Name x p0) ei p1) ej tpos] e spos :: rest) G (matR a rows) O := fun en A σ H F D st po => by
  refine ⟨_, pss_cons (ps_asg pe_t (pg_sub (pe_ix ix_list (pe_var hN hx hd hcd) pe_t hs1) pe_t set_list ha) hsw hw h1) pss_t, ?_⟩
  refine he en A σ H F _ st fun u H1 F1 g1 r1 => ?_
  have eu : u = .int v := r1
  subst eu
  have st1 := st.grow g1
  obtain ⟨ow, o, s1, u, rfl, s2⟩ := slot_at st1 hs
  have eu : u = .ref a := s2
  subst eu
  refine ⟨_, s1, ?_⟩
  refine hi en A σ H1 F1 _ st1 fun y H2 F2 g2 r2 => ?_
  have ey : y = .int i := r2
  subst ey
  have st2 := st1.grow g2
  obtain ⟨ps, k1, k2, k3, k4⟩ := st2.rs
  have hil : i < ps.length := by
    rw [k2.len]
    rcases Nat.lt_or_ge i rows.length with y | y
    · exact y
    · rw [List.getElem?_eq_none y] at hr; cases hr
  have hp : ps[i]? = some ps[i] := List.getElem?_eq_getElem hil
  refine ⟨a, _, i, .ref ps[i], rfl, rfl, SqL.of k1, ?_, ?_⟩
  · exact atI_nat (by rw [List.getElem?_map, hp]; rfl)
  refine hj en A σ H2 F2 _ st2 fun z H3 F3 g3 r3 => ?_
  have ez : z = .int j := r3
  subst ez
  have st3 := st2.grow g3
  have k2' : RowsAt H3 ps rows := ⟨k2.len, fun i p r h1 h2 => g3.h _ _ (k2.at_ i p r h1 h2)⟩
  obtain ⟨st4, m4⟩ := st3.mutRow (r := row.set j v) (g3.h _ _ k1) k2' k3 k4 hp
  refine ⟨ps[i], row.map V.int, j, j, rfl, rfl, k2'.at_ i _ row hp hr, ?_, ?_⟩
  · rw [List.length_map]; unfold ixN; rw [if_pos (by omega), if_pos (by omega), Int.toNat_natCast]
  · have em : (row.map V.int).set j (.int v) = (row.set j v).map V.int := by rw [List.map_set]
    rw [em]
    exact k en A σ _ F3 D st4 (po.from (((g1.mon.trans g2.mon).trans g3.mon).trans m4))
end
end DL

namespace DL
open PySem PySem.Spec L2
section
variable {fc : List Fc} {u v x : Str} {L L' : Rat} {l l' : List (Nat × Nat)} {vs : List Str} {p : Str → Rat}
theorem Wk.append (w : Wk fc u v L l) (w' : Wk fc v x L' l') : Wk fc u x (L + L') (l ++ l') := by
  induction w' with
  | nil => rw [List.append_nil, show L + 0 = L by grind]; exact w
  | @snoc v' L1 l1 f s w1 hf ht hb ih =>
    rw [← List.append_assoc, show L + (L1 + fL f s.2) = L + L1 + fL f s.2 by grind]
    exact .snoc ih hf ht hb
/-- .. with the moments that it leaves -/
inductive WkT (fc : List Fc) (u : Str) : Str → Rat → List Str → Prop
  | nil : WkT fc u u 0 []
  | snoc {v : Str} {L : Rat} {vs : List Str} {f : Fc} {s : Nat × Nat} : WkT fc u v L vs → fc[s.1]? = some f → s.2 < 2 → fB f s.2 = v → WkT fc u (fE f s.2) (L + fL f s.2) (vs ++ [v])
theorem WkT.wk (w : WkT fc u v L vs) : ∃ l, Wk fc u v L l ∧ l.length = vs.length := by
  induction w with
  | nil => exact ⟨[], .nil, rfl⟩
  | @snoc v L vs f s w hf ht hb ih =>
    obtain ⟨l, h1, h2⟩ := ih
    exact ⟨l ++ [s], .snoc h1 hf ht hb, by rw [List.length_append, List.length_append, h2]; rfl⟩
theorem WkT.mem {nm : List Str} (he : ∀ f ∈ fc, f.a ∈ nm ∧ f.b ∈ nm) (hu : u ∈ nm) (w : WkT fc u v L vs) : v ∈ nm ∧ ∀ y ∈ vs, y ∈ nm := by
  induction w with
  | nil => exact ⟨hu, fun y hy => nomatch hy⟩
  | @snoc v L vs f s w hf ht hb ih =>
    have hm := he f (List.mem_of_getElem? hf)
    refine ⟨?_, fun y hy => ?_⟩
    · unfold fE; split
      · exact hm.2
      · exact hm.1
    · rcases List.mem_append.mp hy with z | z
      · exact ih.2 y z
      · rw [List.mem_singleton.mp z]; exact ih.1
/-- up to a moment that it leaves -/
theorem WkT.upto (hp : Pot p fc) (w : WkT fc u v L vs) : ∀ {v1 : List Str} {r : List Str}, vs = v1 ++ x :: r → ∃ L1, WkT fc u x L1 v1 ∧ L1 + (p v - p x) ≤ L := by
  induction w with
  | nil =>
    intro v1 r e
    cases v1 <;> cases e
  | @snoc v L vs f s w hf ht hb ih =>
    intro v1 r e
    subst hb
    have h0 := pot_step hp (List.mem_of_getElem? hf) s.2
    rcases List.eq_nil_or_concat r with e0 | ⟨r', z, e0⟩
    · subst e0
      obtain ⟨e1, e2⟩ := List.append_inj' e rfl
      cases e2
      subst e1
      exact ⟨L, w, by grind⟩
    · rw [List.concat_eq_append] at e0
      subst e0
      rw [← List.cons_append, ← List.append_assoc] at e
      obtain ⟨e1, e2⟩ := List.append_inj' e rfl
      cases e2
      obtain ⟨L1, h1, h2⟩ := ih e1
      exact ⟨L1, h1, by grind⟩
/-- no moment twice -/
theorem Wk.simple (hp : Pot p fc) (w : Wk fc u v L l) : ∃ L' vs, WkT fc u v L' vs ∧ L' ≤ L ∧ vs.Nodup ∧ v ∉ vs := by
  induction w with
  | nil => exact ⟨0, [], .nil, by grind, List.nodup_nil, List.not_mem_nil⟩
  | @snoc v L l f s w hf ht hb ih =>
    obtain ⟨L', vs, h1, h2, h3, h4⟩ := ih
    have hn : (vs ++ [v]).Nodup := List.nodup_append.mpr ⟨h3, List.nodup_cons.mpr ⟨List.not_mem_nil, List.nodup_nil⟩, fun a ha b hb e => h4 (by rw [← List.mem_singleton.mp hb, ← e]; exact ha)⟩
    have w2 := WkT.snoc h1 hf ht hb
    by_cases hm : fE f s.2 ∈ vs ++ [v]
    · obtain ⟨v1, r, e⟩ := List.append_of_mem hm
      obtain ⟨L1, k1, k2⟩ := w2.upto hp e
      rw [e] at hn
      obtain ⟨n1, n2, n3⟩ := List.nodup_append.mp hn
      exact ⟨L1, v1, k1, by grind, n1, fun z => n3 _ z _ List.mem_cons_self rfl⟩
    · exact ⟨_, _, w2, by grind, hn, hm⟩
end
section
variable {b : BkS} {p : Str → Rat} {x y z : Str} {L : Rat} {l : List (Nat × Nat)}
theorem bst_min (h : BkC b) (hp : Pot p b.fc) (hx : x ∈ b.nm) (hy : y ∈ b.nm) (w : Wk b.fc x y L l) : (bst b x y).1 ≤ L := by
  obtain ⟨L', vs, h1, h2, h3, h4⟩ := w.simple hp
  obtain ⟨h5, h6⟩ := h1.mem h.ends hx
  obtain ⟨l', h7, h8⟩ := h1.wk
  have hl : vs.length ≤ b.nm.length := nodup_le h3 h6
  have := bst_le h hx hy h7 (by omega)
  grind
theorem bst_self (h : BkC b) (hp : Pot p b.fc) (hx : x ∈ b.nm) : (bst b x x).1 = 0 := by
  have h1 := bst_min h hp hx hx .nil
  have h2 := pot_wk hp (bst_wk h hx hx).1
  grind
theorem bst_tri (h : BkC b) (hp : Pot p b.fc) (hx : x ∈ b.nm) (hy : y ∈ b.nm) (hz : z ∈ b.nm) : (bst b x z).1 ≤ (bst b x y).1 + (bst b y z).1 :=
  bst_min h hp hx hz ((bst_wk h hx hy).1.append (bst_wk h hy hz).1)
theorem bst_edge (h : BkC b) (hp : Pot p b.fc) {f : Fc} (hf : f ∈ b.fc) : (bst b f.a f.b).1 ≤ f.hi ∧ (bst b f.b f.a).1 ≤ 0 - f.lo := by
  obtain ⟨i, hi⟩ := fact_at hf
  obtain ⟨h1, h2⟩ := h.ends f hf
  have w1 := Wk.snoc (s := (i, 0)) (.nil (u := f.a)) hi (show (0 : Nat) < 2 by decide) rfl
  have w2 := Wk.snoc (s := (i, 1)) (.nil (u := f.b)) hi (show (1 : Nat) < 2 by decide) rfl
  have k1 := bst_min h hp h1 h2 w1
  have k2 := bst_min h hp h2 h1 w2
  have e1 : fL f (i, 0).2 = f.hi := rfl
  have e2 : fL f (i, 1).2 = 0 - f.lo := rfl
  rw [e1] at k1
  rw [e2] at k2
  constructor <;> grind
/-- a table that is closed and below every step is below every walk -/
theorem tab_le {e : Str → Str → Rat} (h0 : ∀ x ∈ b.nm, e x x ≤ 0) (h1 : ∀ f ∈ b.fc, e f.a f.b ≤ f.hi ∧ e f.b f.a ≤ 0 - f.lo) (h2 : ∀ x ∈ b.nm, ∀ y ∈ b.nm, ∀ z ∈ b.nm, e x z ≤ e x y + e y z) (he : ∀ f ∈ b.fc, f.a ∈ b.nm ∧ f.b ∈ b.nm) (hx : x ∈ b.nm) (w : Wk b.fc x y L l) : y ∈ b.nm ∧ e x y ≤ L := by
  induction w with
  | nil => exact ⟨hx, h0 x hx⟩
  | @snoc v L l f s w hf ht hb ih =>
    obtain ⟨i1, i2⟩ := ih
    have hm := List.mem_of_getElem? hf
    obtain ⟨m1, m2⟩ := he f hm
    obtain ⟨k1, k2⟩ := h1 f hm
    subst hb
    unfold fB at i1 i2
    unfold fE fL
    split
    · next e0 =>
      rw [if_pos e0] at i1 i2
      have := h2 x hx f.a m1 f.b m2
      exact ⟨m2, by grind⟩
    · next e0 =>
      rw [if_neg e0] at i1 i2
      have := h2 x hx f.b m2 f.a m1
      exact ⟨m1, by grind⟩
theorem tab_eq (h : BkC b) (hp : Pot p b.fc) {e : Str → Str → Rat} (h0 : ∀ x ∈ b.nm, e x x ≤ 0) (h1 : ∀ f ∈ b.fc, e f.a f.b ≤ f.hi ∧ e f.b f.a ≤ 0 - f.lo) (h2 : ∀ x ∈ b.nm, ∀ y ∈ b.nm, ∀ z ∈ b.nm, e x z ≤ e x y + e y z) (h3 : ∀ x ∈ b.nm, ∀ y ∈ b.nm, (bst b x y).1 ≤ e x y) (hx : x ∈ b.nm) (hy : y ∈ b.nm) : e x y = (bst b x y).1 := by
  have k1 := (tab_le h0 h1 h2 h.ends hx (bst_wk h hx hy).1).2
  have k2 := h3 x hx y hy
  grind
end
end DL

namespace DL
open PySem PySem.Spec L2
/-! ### sixths -/
def sixR (v : Int) : Rat := Rat.divInt v 6
theorem six_eq (v : Int) : sixR v = (v : Rat) / 6 := by unfold sixR; rw [Rat.divInt_eq_div]; rfl
theorem six_mul (v : Int) : sixR v * 6 = (v : Rat) := by rw [six_eq]; exact Rat.div_mul_cancel (by decide)
theorem six_add (a b : Int) : sixR (a + b) = sixR a + sixR b := by
  have h1 := six_mul (a + b)
  have h2 := six_mul a
  have h3 := six_mul b
  rw [Rat.intCast_add] at h1
  grind
theorem six_neg (a : Int) : sixR (0 - a) = 0 - sixR a := by
  have h1 := six_mul (0 - a)
  have h2 := six_mul a
  rw [Rat.intCast_sub] at h1
  have : ((0 : Int) : Rat) = 0 := rfl
  grind
theorem six_sub (a b : Int) : sixR (a - b) = sixR a - sixR b := by
  have h1 := six_mul (a - b)
  have h2 := six_mul a
  have h3 := six_mul b
  rw [Rat.intCast_sub] at h1
  grind
theorem six_le {a b : Int} : sixR a ≤ sixR b ↔ a ≤ b := by
  have h1 := six_mul a
  have h2 := six_mul b
  constructor
  · intro h
    have : (a : Rat) ≤ (b : Rat) := by grind
    exact Rat.intCast_le_intCast.mp this
  · intro h
    have : (a : Rat) ≤ (b : Rat) := Rat.intCast_le_intCast.mpr h
    grind
theorem six_lt {a b : Int} : sixR a < sixR b ↔ a < b := by
  rw [← Rat.not_le, six_le, Int.not_le]
theorem six_inj {a b : Int} (h : sixR a = sixR b) : a = b := by
  have h1 := six_le.mp (show sixR a ≤ sixR b by grind)
  have h2 := six_le.mp (show sixR b ≤ sixR a by grind)
  omega
theorem six_zero : sixR 0 = 0 := by decide +kernel
theorem six_bd {a : Int} {n : Nat} (h : a.natAbs < 2 ^ n) (hn : 3 ≤ n) : Bd n (sixR a) := bd_divInt h (Nat.lt_of_lt_of_le (show (6 : Int).natAbs < 2 ^ 3 by decide) (Nat.pow_le_pow_right (by decide) hn)) (by omega)
theorem ratD_six_den (v : Int) : ((sixR v).den : Int) ≤ 6 := by
  have h := divInt_pos (t := v) (b := 6) (by decide)
  have h2 : ratD (sixR v) = .tup [.int (v / (Nat.gcd v.natAbs (6 : Int).natAbs : Nat)), .int (6 / (Nat.gcd v.natAbs (6 : Int).natAbs : Nat))] := h
  unfold ratD at h2
  simp only [D.tup.injEq, List.cons.injEq, D.int.injEq, and_true] at h2
  rw [h2.2]
  exact Int.ediv_le_self _ (by decide)
/-! ### tables -/
abbrev Mat := List (List Int)
def at2 (m : Mat) (i j : Nat) : Int := (m.getD i []).getD j 0
def set2 (m : Mat) (i j : Nat) (v : Int) : Mat := m.set i ((m.getD i []).set j v)
structure Sq (n : Nat) (m : Mat) : Prop where
  len : m.length = n
  row : ∀ r ∈ m, r.length = n
section
variable {n : Nat} {m : Mat}
theorem Sq.get (h : Sq n m) {i : Nat} (hi : i < n) : m[i]? = some (m.getD i []) ∧ (m.getD i []).length = n := by
  have hl : i < m.length := by rw [h.len]; exact hi
  have e : m[i]? = some m[i] := List.getElem?_eq_getElem hl
  have e2 : m.getD i [] = m[i] := by rw [List.getD_eq_getElem?_getD, e]; rfl
  rw [e2]
  exact ⟨e, h.row _ (List.getElem_mem hl)⟩
theorem Sq.get2 (h : Sq n m) {i j : Nat} (hi : i < n) (hj : j < n) : (m.getD i [])[j]? = some (at2 m i j) := by
  have hl : j < (m.getD i []).length := by rw [(h.get hi).2]; exact hj
  unfold at2
  rw [List.getD_eq_getElem?_getD (l := m.getD i []), List.getElem?_eq_getElem hl]
  rfl
theorem Sq.set (h : Sq n m) {i : Nat} (hi : i < n) (j : Nat) (v : Int) : Sq n (set2 m i j v) := by
  refine ⟨by unfold set2; rw [List.length_set]; exact h.len, fun r hr => ?_⟩
  unfold set2 at hr
  rcases List.mem_or_eq_of_mem_set hr with z | z
  · exact h.row r z
  · rw [z, List.length_set]; exact (h.get hi).2
theorem at2_set (h : Sq n m) {i j : Nat} (hi : i < n) (hj : j < n) (v : Int) (a b : Nat) : at2 (set2 m i j v) a b = if a = i ∧ b = j then v else at2 m a b := by
  unfold at2 set2
  by_cases e : i = a
  · subst e
    rw [List.getD_eq_getElem?_getD (l := m.set i _), List.getElem?_set_self (by rw [h.len]; exact hi), Option.getD_some]
    by_cases e2 : j = b
    · subst e2
      rw [List.getD_eq_getElem?_getD, List.getElem?_set_self (by rw [(h.get hi).2]; exact hj), if_pos ⟨rfl, rfl⟩]
      rfl
    · rw [List.getD_eq_getElem?_getD, List.getElem?_set_ne e2, if_neg (fun z => e2 z.2.symm), ← List.getD_eq_getElem?_getD]
  · rw [List.getD_eq_getElem?_getD (l := m.set i _), List.getElem?_set_ne e, if_neg (fun z => e z.1.symm), ← List.getD_eq_getElem?_getD]
end
def far0 (n : Nat) : Mat := List.replicate n (List.replicate n (10 ^ 9))
def far1 (n k : Nat) : Mat := (List.range k).foldl (fun m k => set2 m k k 0) (far0 n)
abbrev Fq := Nat × Nat × Int × Int
def facA (m : Mat) (q : Fq) : Mat := set2 m q.1 q.2.1 (min (at2 m q.1 q.2.1) q.2.2.2)
def facS (m : Mat) (q : Fq) : Mat := set2 (facA m q) q.2.1 q.1 (min (at2 (facA m q) q.2.1 q.1) (0 - q.2.2.1))
def far2 (n : Nat) (fs : List Fq) : Mat := fs.foldl facS (far1 n n)
def stepF (mid i : Nat) (m : Mat) (j : Nat) : Mat := set2 m i j (min (at2 m i j) (at2 m i mid + at2 m mid j))
def rowF (n mid : Nat) (m : Mat) (i : Nat) : Mat := (List.range n).foldl (stepF mid i) m
def midF (n : Nat) (m : Mat) (mid : Nat) : Mat := (List.range n).foldl (rowF n mid) m
def farK (n : Nat) (fs : List Fq) (k : Nat) : Mat := (List.range k).foldl (midF n) (far2 n fs)
def farF (n : Nat) (fs : List Fq) : Mat := farK n fs n
def FqIn (n : Nat) (q : Fq) : Prop := q.1 < n ∧ q.2.1 < n
section
variable {n : Nat} {m : Mat}
theorem far0_sq (n : Nat) : Sq n (far0 n) := ⟨List.length_replicate, fun r hr => by rw [(List.mem_replicate.mp hr).2]; exact List.length_replicate⟩
theorem far0_at {i j : Nat} (hi : i < n) (hj : j < n) : at2 (far0 n) i j = 10 ^ 9 := by
  unfold at2 far0
  rw [List.getD_eq_getElem?_getD (l := List.replicate n _), List.getElem?_replicate, if_pos hi, Option.getD_some, List.getD_eq_getElem?_getD, List.getElem?_replicate, if_pos hj]
  rfl
theorem range_snoc {α : Type} (f : α → Nat → α) (a : α) (k : Nat) : (List.range (k + 1)).foldl f a = f ((List.range k).foldl f a) k := by
  rw [List.range_succ, List.foldl_append]
  rfl
theorem far1_ok : ∀ k, k ≤ n → Sq n (far1 n k) ∧ ∀ i j, i < n → j < n → at2 (far1 n k) i j = if i = j ∧ i < k then 0 else 10 ^ 9
  | 0, _ => ⟨far0_sq n, fun i j hi hj => by rw [if_neg (fun z => Nat.not_lt_zero _ z.2)]; exact far0_at hi hj⟩
  | k + 1, h => by
    obtain ⟨h1, h2⟩ := far1_ok k (by omega)
    have e : far1 n (k + 1) = set2 (far1 n k) k k 0 := range_snoc _ _ _
    rw [e]
    refine ⟨h1.set (by omega) k 0, fun i j hi hj => ?_⟩
    rw [at2_set h1 (by omega) (by omega), h2 i j hi hj]
    by_cases z : i = k ∧ j = k
    · rw [if_pos z, if_pos ⟨by omega, by omega⟩]
    · rw [if_neg z]
      by_cases y : i = j ∧ i < k
      · rw [if_pos y, if_pos ⟨y.1, by omega⟩]
      · rw [if_neg y, if_neg (fun w => by omega)]
theorem facA_sq (h : Sq n m) {q : Fq} (hq : FqIn n q) : Sq n (facA m q) := h.set hq.1 _ _
theorem facS_sq (h : Sq n m) {q : Fq} (hq : FqIn n q) : Sq n (facS m q) := (facA_sq h hq).set hq.2 _ _
theorem facS_at (h : Sq n m) {q : Fq} (hq : FqIn n q) {i j : Nat} : at2 (facS m q) i j ≤ at2 m i j ∧ (i = q.1 ∧ j = q.2.1 → at2 (facS m q) i j ≤ q.2.2.2) ∧ (i = q.2.1 ∧ j = q.1 → at2 (facS m q) i j ≤ 0 - q.2.2.1) ∧
    (at2 (facS m q) i j = at2 m i j ∨ (i = q.1 ∧ j = q.2.1 ∧ at2 (facS m q) i j = q.2.2.2) ∨ (i = q.2.1 ∧ j = q.1 ∧ at2 (facS m q) i j = 0 - q.2.2.1)) := by
  have e1 : at2 (facS m q) i j = if i = q.2.1 ∧ j = q.1 then min (at2 (facA m q) q.2.1 q.1) (0 - q.2.2.1) else at2 (facA m q) i j := at2_set (facA_sq h hq) hq.2 hq.1 _ i j
  have e2 : ∀ a b, at2 (facA m q) a b = if a = q.1 ∧ b = q.2.1 then min (at2 m q.1 q.2.1) q.2.2.2 else at2 m a b := fun a b => at2_set h hq.1 hq.2 _ a b
  rw [e1]
  rw [e2, e2]
  by_cases z1 : i = q.2.1 ∧ j = q.1
  · obtain ⟨rfl, rfl⟩ := z1
    rw [if_pos ⟨rfl, rfl⟩]
    by_cases z2 : q.2.1 = q.1 ∧ q.1 = q.2.1
    · rw [if_pos z2]
      have e3 : at2 m q.1 q.2.1 = at2 m q.2.1 q.1 := by rw [← z2.2]
      rw [e3]
      refine ⟨by omega, fun _ => by omega, fun _ => by omega, ?_⟩
      have := z2.1
      have := z2.2
      omega
    · rw [if_neg z2]
      refine ⟨by omega, fun z => absurd z z2, fun _ => by omega, by omega⟩
  · rw [if_neg z1]
    by_cases z2 : i = q.1 ∧ j = q.2.1
    · rw [if_pos z2]
      obtain ⟨rfl, rfl⟩ := z2
      exact ⟨by omega, fun _ => by omega, fun z => absurd z z1, by omega⟩
    · rw [if_neg z2]
      exact ⟨by omega, fun z => absurd z z2, fun z => absurd z z1, .inl rfl⟩
theorem facs_ok : ∀ {fs : List Fq} {m : Mat}, Sq n m → (∀ q ∈ fs, FqIn n q) → Sq n (fs.foldl facS m) ∧ (∀ i j, at2 (fs.foldl facS m) i j ≤ at2 m i j) ∧ (∀ q ∈ fs, at2 (fs.foldl facS m) q.1 q.2.1 ≤ q.2.2.2 ∧ at2 (fs.foldl facS m) q.2.1 q.1 ≤ 0 - q.2.2.1) ∧
    ∀ i j, at2 (fs.foldl facS m) i j = at2 m i j ∨ ∃ q ∈ fs, (i = q.1 ∧ j = q.2.1 ∧ at2 (fs.foldl facS m) i j = q.2.2.2) ∨ (i = q.2.1 ∧ j = q.1 ∧ at2 (fs.foldl facS m) i j = 0 - q.2.2.1)
  | [], m, h, _ => ⟨h, fun _ _ => Int.le_refl _, (fun q hq => nomatch hq), fun _ _ => .inl rfl⟩
  | q :: fs, m, h, hf => by
    have hq := hf q List.mem_cons_self
    obtain ⟨k1, k2, k3, k4⟩ := facs_ok (fs := fs) (facS_sq h hq) fun r hr => hf r (List.mem_cons_of_mem _ hr)
    rw [List.foldl_cons]
    refine ⟨k1, fun i j => Int.le_trans (k2 i j) (facS_at h hq).1, fun r hr => ?_, fun i j => ?_⟩
    · rcases List.mem_cons.mp hr with rfl | z
      · exact ⟨Int.le_trans (k2 _ _) ((facS_at h hq).2.1 ⟨rfl, rfl⟩), Int.le_trans (k2 _ _) ((facS_at h hq).2.2.1 ⟨rfl, rfl⟩)⟩
      · exact k3 r z
    · rcases k4 i j with z | ⟨r, z1, z2⟩
      · rw [z]
        rcases (facS_at h hq (i := i) (j := j)).2.2.2 with y | y | y
        · exact .inl y
        · exact .inr ⟨q, List.mem_cons_self, .inl y⟩
        · exact .inr ⟨q, List.mem_cons_self, .inr y⟩
      · exact .inr ⟨r, List.mem_cons_of_mem _ z1, z2⟩
theorem stepF_sq (h : Sq n m) {mid i : Nat} (hi : i < n) (j : Nat) : Sq n (stepF mid i m j) := h.set hi _ _
/-- one middle: each pair once -/
theorem rowF_ok {m0 : Mat} {mid : Nat} (hm : mid < n) (hz : at2 m0 mid mid = 0) {i : Nat} (hi : i < n) : ∀ k, k ≤ n → Sq n m → (∀ a b, a < n → b < n → at2 m a b = if a < i then min (at2 m0 a b) (at2 m0 a mid + at2 m0 mid b) else at2 m0 a b) →
    Sq n ((List.range k).foldl (stepF mid i) m) ∧ ∀ a b, a < n → b < n → at2 ((List.range k).foldl (stepF mid i) m) a b = if a < i ∨ (a = i ∧ b < k) then min (at2 m0 a b) (at2 m0 a mid + at2 m0 mid b) else at2 m0 a b
  | 0, _, h, h2 => ⟨h, fun a b ha hb => by
      rw [show (List.range 0).foldl (stepF mid i) m = m from rfl, h2 a b ha hb]
      by_cases z : a < i
      · rw [if_pos z, if_pos (.inl z)]
      · rw [if_neg z, if_neg (by omega)]⟩
  | k + 1, hk, h, h2 => by
    obtain ⟨k1, k2⟩ := rowF_ok hm hz hi k (by omega) h h2
    rw [range_snoc]
    generalize (List.range k).foldl (stepF mid i) m = c at k1 k2
    refine ⟨stepF_sq k1 hi k, fun a b ha hb => ?_⟩
    have e := at2_set k1 hi (show k < n by omega) (min (at2 c i k) (at2 c i mid + at2 c mid k)) a b
    have e' : at2 (stepF mid i c k) a b = if a = i ∧ b = k then min (at2 c i k) (at2 c i mid + at2 c mid k) else at2 c a b := e
    rw [e']
    have r1 : at2 c i k = at2 m0 i k := by rw [k2 i k hi (by omega), if_neg (by omega)]
    have r2 : at2 c i mid = at2 m0 i mid := by
      rw [k2 i mid hi hm, hz]
      split <;> omega
    have r3 : at2 c mid k = at2 m0 mid k := by
      rw [k2 mid k hm (by omega), hz]
      split <;> omega
    rw [r1, r2, r3]
    by_cases z : a = i ∧ b = k
    · obtain ⟨rfl, rfl⟩ := z
      rw [if_pos ⟨rfl, rfl⟩, if_pos (.inr ⟨rfl, by omega⟩)]
    · rw [if_neg z, k2 a b ha hb]
      by_cases y : a < i ∨ (a = i ∧ b < k)
      · rw [if_pos y, if_pos (by omega)]
      · rw [if_neg y, if_neg (by omega)]
theorem midF_ok {mid : Nat} (hm : mid < n) (hs : Sq n m) (hz : at2 m mid mid = 0) : ∀ k, k ≤ n → Sq n ((List.range k).foldl (rowF n mid) m) ∧ ∀ a b, a < n → b < n → at2 ((List.range k).foldl (rowF n mid) m) a b = if a < k then min (at2 m a b) (at2 m a mid + at2 m mid b) else at2 m a b
  | 0, _ => ⟨hs, fun a b _ _ => by rw [if_neg (Nat.not_lt_zero _)]; rfl⟩
  | k + 1, hk => by
    obtain ⟨k1, k2⟩ := midF_ok hm hs hz k (by omega)
    rw [range_snoc]
    obtain ⟨j1, j2⟩ := rowF_ok hm hz (show k < n by omega) n (Nat.le_refl n) k1 k2
    refine ⟨j1, fun a b ha hb => ?_⟩
    have := j2 a b ha hb
    have this' : at2 (rowF n mid ((List.range k).foldl (rowF n mid) m) k) a b = _ := this
    rw [this']
    by_cases z : a < k ∨ (a = k ∧ b < n)
    · rw [if_pos z, if_pos (by omega)]
    · rw [if_neg z, if_neg (by omega)]
/-- what holds behind k middles -/
structure FarI (n : Nat) (δ : Nat → Nat → Rat) (k : Nat) (m0 m : Mat) : Prop where
  sq : Sq n m
  low : ∀ i j, i < n → j < n → δ i j ≤ sixR (at2 m i j)
  up : ∀ i j, i < n → j < n → at2 m i j ≤ at2 m0 i j
  cl : ∀ i j t, i < n → j < n → t < k → at2 m i j ≤ at2 m i t + at2 m t j
theorem far_step {δ : Nat → Nat → Rat} {m0 : Mat} {mid : Nat} (d0 : ∀ i, i < n → δ i i = 0) (d1 : ∀ i j t, i < n → j < n → t < n → δ i j ≤ δ i t + δ t j) (z0 : ∀ i, i < n → at2 m0 i i ≤ 0) (hm : mid < n) (h : FarI n δ mid m0 m) : FarI n δ (mid + 1) m0 (midF n m mid) := by
  have hz : at2 m mid mid = 0 := by
    have h1 := h.low mid mid hm hm
    rw [d0 mid hm, ← six_zero] at h1
    have h2 := six_le.mp h1
    have h3 := h.up mid mid hm hm
    have h4 := z0 mid hm
    omega
  obtain ⟨k1, k2⟩ := midF_ok hm h.sq hz n (Nat.le_refl n)
  have e : ∀ a b, a < n → b < n → at2 (midF n m mid) a b = min (at2 m a b) (at2 m a mid + at2 m mid b) := fun a b ha hb => by
    have := k2 a b ha hb
    rw [if_pos ha] at this
    exact this
  refine ⟨k1, fun i j hi hj => ?_, fun i j hi hj => ?_, fun i j t hi hj ht => ?_⟩
  · rw [e i j hi hj]
    have h1 := h.low i j hi hj
    rcases Int.le_total (at2 m i j) (at2 m i mid + at2 m mid j) with z | z
    · rw [Int.min_eq_left z]; exact h1
    · rw [Int.min_eq_right z, six_add]
      have h2 := h.low i mid hi hm
      have h3 := h.low mid j hm hj
      have h4 := d1 i j mid hi hj hm
      grind
  · rw [e i j hi hj]
    have := h.up i j hi hj
    omega
  · have htn : t < n := by omega
    rw [e i j hi hj, e i t hi htn, e t j htn hj]
    by_cases q : t = mid
    · subst q
      rw [hz]
      omega
    · have ht' : t < mid := by omega
      have c1 := h.cl i j t hi hj ht'
      have c2 := h.cl i mid t hi hm ht'
      have c3 := h.cl mid j t hm hj ht'
      have c4 := h.cl mid mid t hm hm ht'
      omega
theorem farK_ok {δ : Nat → Nat → Rat} {fs : List Fq} (d0 : ∀ i, i < n → δ i i = 0) (d1 : ∀ i j t, i < n → j < n → t < n → δ i j ≤ δ i t + δ t j) (hs : Sq n (far2 n fs)) (z0 : ∀ i, i < n → at2 (far2 n fs) i i ≤ 0) (hl : ∀ i j, i < n → j < n → δ i j ≤ sixR (at2 (far2 n fs) i j)) : ∀ k, k ≤ n → FarI n δ k (far2 n fs) (farK n fs k)
  | 0, _ => ⟨hs, hl, fun _ _ _ _ => Int.le_refl _, fun _ _ t _ _ ht => absurd ht (Nat.not_lt_zero _)⟩
  | k + 1, hk => by
    have ih := farK_ok d0 d1 hs z0 hl k (by omega)
    have e : farK n fs (k + 1) = midF n (farK n fs k) k := range_snoc _ _ _
    rw [e]
    exact far_step d0 d1 z0 (by omega) ih
theorem rowsq {mid i : Nat} (hi : i < n) : ∀ (k : Nat) {m : Mat}, Sq n m → Sq n ((List.range k).foldl (stepF mid i) m)
  | 0, m, h => h
  | k + 1, m, h => by rw [range_snoc]; exact stepF_sq (rowsq hi k h) hi k
theorem midsq {mid : Nat} : ∀ (k : Nat), k ≤ n → ∀ {m : Mat}, Sq n m → Sq n ((List.range k).foldl (rowF n mid) m)
  | 0, _, m, h => h
  | k + 1, hk, m, h => by rw [range_snoc]; exact rowsq (by omega) n (midsq k (by omega) h)
theorem farK_sq {fs : List Fq} (hf : ∀ q ∈ fs, FqIn n q) : ∀ k, Sq n (farK n fs k)
  | 0 => (facs_ok (far1_ok n (Nat.le_refl n)).1 hf).1
  | k + 1 => by
    have e : farK n fs (k + 1) = midF n (farK n fs k) k := range_snoc _ _ _
    rw [e]
    exact midsq n (Nat.le_refl n) (farK_sq hf k)
end
/-! ### the books of the laws -/
def nmL : List Str := ["start", "a", "dawn", "b2", "x_1", "end", "q", "noon", "zz"]
def nmAt (i : Nat) : Str := nmL.getD i ""
theorem nmL_nd : nmL.Nodup := by decide +kernel
theorem nmL_ok : ∀ x ∈ nmL, okS x := by decide +kernel
def ixS (x : Str) : Nat := nmL.idxOf x
theorem ixS_at : ∀ i < 9, ixS (nmAt i) = i := by decide +kernel
theorem nmAt_none : ∀ i < 9, nmAt i ≠ "none" := by decide +kernel
theorem nmAt_inj {i j : Nat} (hi : i < 9) (hj : j < 9) (h : nmAt i = nmAt j) : i = j := by rw [← ixS_at i hi, ← ixS_at j hj, h]
theorem nmAt_get {i n : Nat} (hi : i < n) (hn : n ≤ 9) : (nmL.take n)[i]? = some (nmAt i) := by
  rw [List.getElem?_take_of_lt hi, List.getElem?_eq_getElem (show i < nmL.length from Nat.lt_of_lt_of_le hi hn)]
  unfold nmAt
  rw [List.getD_eq_getElem?_getD, List.getElem?_eq_getElem (show i < nmL.length from Nat.lt_of_lt_of_le hi hn)]
  rfl
theorem nmAt_mem {i n : Nat} (hi : i < n) (hn : n ≤ 9) : nmAt i ∈ nmL.take n := List.mem_of_getElem? (nmAt_get hi hn)
theorem mem_nmAt {x : Str} {n : Nat} (hn : n ≤ 9) (h : x ∈ nmL.take n) : ∃ i, i < n ∧ x = nmAt i := by
  obtain ⟨i, hi⟩ := List.mem_iff_getElem?.mp h
  have hl : i < n := by
    rcases Nat.lt_or_ge i n with z | z
    · exact z
    · rw [List.getElem?_eq_none (by rw [List.length_take]; omega)] at hi; cases hi
  rw [nmAt_get hl hn] at hi
  exact ⟨i, hl, (Option.some.inj hi).symm⟩
abbrev fcQ (q : Fq) : Fc := ⟨nmAt q.1, nmAt q.2.1, sixR q.2.2.1, sixR q.2.2.2⟩
abbrev fqD (q : Fq) : D := .tup [.int (q.1 : Nat), .int (q.2.1 : Nat), .int q.2.2.1, .int q.2.2.2]
/-- a book that holds the moments and facts of a law -/
structure LawB (n : Nat) (fs : List Fq) (p : Str → Rat) (b : BkS) : Prop where
  bk : BkC b
  n1 : 2 ≤ n
  n2 : n ≤ 9
  nm : b.nm = nmL.take n
  fc : b.fc = fs.map fcQ
  inn : ∀ q ∈ fs, FqIn n q
  f0 : ∀ i, i < n → (bst b "start" (nmAt i)).1 ≤ sixR 1000 ∧ (bst b (nmAt i) "start").1 ≤ sixR 1000
  pot : Pot p b.fc
section
variable {n : Nat} {fs : List Fq} {p : Str → Rat} {b : BkS}
theorem LawB.mem (h : LawB n fs p b) {i : Nat} (hi : i < n) : nmAt i ∈ b.nm := by rw [h.nm]; exact nmAt_mem hi h.n2
theorem LawB.of (bk : BkC b) (n1 : 2 ≤ n) (n2 : n ≤ 9) (nm : b.nm = nmL.take n) (fc : b.fc = fs.map fcQ) (inn : ∀ q ∈ fs, FqIn n q) (sm : ∀ q ∈ fs, q.2.2.1.natAbs < 1000 ∧ q.2.2.2.natAbs < 1000) (pot : Pot p b.fc) : LawB n fs p b := by
  refine ⟨bk, n1, n2, nm, fc, inn, fun i hi => ?_, pot⟩
  have hm : nmAt i ∈ b.nm := by rw [nm]; exact nmAt_mem hi n2
  by_cases e : nmAt i = "start"
  · rw [e, bst_self bk pot bk.st, ← six_zero]
    exact ⟨six_le.mpr (by decide), six_le.mpr (by decide)⟩
  · obtain ⟨f, hf, h1, h2⟩ := bk.hub _ hm e
    obtain ⟨k1, k2⟩ := bst_edge bk pot hf
    rw [h1, h2] at k1 k2
    rw [fc] at hf
    obtain ⟨q, hq, rfl⟩ := List.mem_map.mp hf
    obtain ⟨s1, s2⟩ := sm q hq
    have e1 : sixR q.2.2.2 ≤ sixR 1000 := six_le.mpr (by omega)
    have e2 : sixR (0 - q.2.2.1) ≤ sixR 1000 := six_le.mpr (by omega)
    rw [six_neg] at e2
    have k1' : (bst b "start" (nmAt i)).1 ≤ sixR q.2.2.2 := k1
    have k2' : (bst b (nmAt i) "start").1 ≤ 0 - sixR q.2.2.1 := k2
    constructor <;> grind
theorem LawB.small (h : LawB n fs p b) {i j : Nat} (hi : i < n) (hj : j < n) : (bst b (nmAt i) (nmAt j)).1 ≤ sixR 2000 := by
  have h1 := (h.f0 i hi).2
  have h2 := (h.f0 j hj).1
  have h3 := bst_tri h.bk h.pot (h.mem hi) h.bk.st (h.mem hj)
  have h4 := six_add 1000 1000
  have h5 : (1000 : Int) + 1000 = 2000 := rfl
  rw [h5] at h4
  grind
/-- the table tells the spans -/
theorem LawB.far (h : LawB n fs p b) {i j : Nat} (hi : i < n) (hj : j < n) : sixR (at2 (farF n fs) i j) = (bst b (nmAt i) (nmAt j)).1 := by
  obtain ⟨s1, s2⟩ := far1_ok (n := n) n (Nat.le_refl n)
  obtain ⟨f1, f2, f3, f4⟩ := facs_ok s1 h.inn
  have n9 := h.n2
  have z0 : ∀ i, i < n → at2 (far2 n fs) i i ≤ 0 := fun i hi => by
    have := f2 i i
    rw [s2 i i hi hi, if_pos ⟨rfl, hi⟩] at this
    exact this
  have hI := farK_ok (δ := fun i j => (bst b (nmAt i) (nmAt j)).1) (fs := fs) (fun i hi => bst_self h.bk h.pot (h.mem hi)) (fun i j t hi hj ht => bst_tri h.bk h.pot (h.mem hi) (h.mem ht) (h.mem hj)) f1 z0 (fun i j hi hj => by
    show _ ≤ sixR (at2 (fs.foldl facS (far1 n n)) i j)
    rcases f4 i j with z | ⟨q, hq, z | z⟩
    · rw [z, s2 i j hi hj]
      split
      · next e =>
        rw [e.1, bst_self h.bk h.pot (h.mem hj), six_zero]
        grind
      · have h1 := h.small hi hj
        have h2 : sixR 2000 ≤ sixR (10 ^ 9) := six_le.mpr (by decide)
        grind
    · obtain ⟨rfl, rfl, e⟩ := z
      rw [e]
      exact (bst_edge h.bk h.pot (f := fcQ q) (by rw [h.fc]; exact List.mem_map_of_mem hq)).1
    · obtain ⟨rfl, rfl, e⟩ := z
      rw [e, six_neg]
      exact (bst_edge h.bk h.pot (f := fcQ q) (by rw [h.fc]; exact List.mem_map_of_mem hq)).2) n (Nat.le_refl n)
  have := tab_eq h.bk h.pot (e := fun x y => sixR (at2 (farF n fs) (ixS x) (ixS y))) (fun x hx => ?_) (fun f hf => ?_) (fun x hx y hy z hz => ?_) (fun x hx y hy => ?_) (h.mem hi) (h.mem hj)
  · rw [ixS_at i (by omega), ixS_at j (by omega)] at this
    exact this
  · rw [h.nm] at hx
    obtain ⟨i, hi, rfl⟩ := mem_nmAt n9 hx
    rw [ixS_at i (by omega), ← six_zero]
    exact six_le.mpr (Int.le_trans (hI.up i i hi hi) (z0 i hi))
  · rw [h.fc] at hf
    obtain ⟨q, hq, rfl⟩ := List.mem_map.mp hf
    obtain ⟨q1, q2⟩ := h.inn q hq
    obtain ⟨k1, k2⟩ := f3 q hq
    show sixR (at2 _ (ixS (nmAt q.1)) (ixS (nmAt q.2.1))) ≤ sixR q.2.2.2 ∧ sixR (at2 _ (ixS (nmAt q.2.1)) (ixS (nmAt q.1))) ≤ 0 - sixR q.2.2.1
    rw [ixS_at _ (by omega), ixS_at _ (by omega), ← six_neg]
    exact ⟨six_le.mpr (Int.le_trans (hI.up _ _ q1 q2) k1), six_le.mpr (Int.le_trans (hI.up _ _ q2 q1) k2)⟩
  · rw [h.nm] at hx hy hz
    obtain ⟨i, hi, rfl⟩ := mem_nmAt n9 hx
    obtain ⟨j, hj, rfl⟩ := mem_nmAt n9 hy
    obtain ⟨t, ht, rfl⟩ := mem_nmAt n9 hz
    rw [ixS_at i (by omega), ixS_at j (by omega), ixS_at t (by omega), ← six_add]
    exact six_le.mpr (hI.cl i t j hi ht hj)
  · rw [h.nm] at hx hy
    obtain ⟨i, hi, rfl⟩ := mem_nmAt n9 hx
    obtain ⟨j, hj, rfl⟩ := mem_nmAt n9 hy
    rw [ixS_at i (by omega), ixS_at j (by omega)]
    exact hI.low i j hi hj
end
end DL

namespace DL
open PySem PySem.Spec L2
section
variable {X : Cx} {G : List S} {R : Res} {e e1 e2 : Expr} {pos p cp p1 : Pos} {ds : List D} {n i j : Nat} {m : Mat}
theorem ev_isT (hm : X.mg "isinstance" = none) (ht : X.mg "tuple" = none) (ha : Ev X e G R (.d (.tup ds))) (hg : Gl X "isinstance" := by rfl) (hg2 : Gl X "tuple" := by rfl)
    (he : starEach [e, .Name "tuple" cp] X.env = (false, eval e X.env) :: starEach [.Name "tuple" cp] X.env := by rfl) (he2 : starEach [.Name "tuple" cp] X.env = [(false, eval (.Name "tuple" cp) X.env)] := by rfl) (hpl : (backTo pos (starEach [.Name "tuple" cp] X.env)).any (·.1) = false := by rfl) :
    Ev X (.Call (.Name "isinstance" p) [e, .Name "tuple" cp] [] pos) G R (.d (.bl true)) := by
  intro en A σ H F Q st q
  refine ⟨_, pe_callB call_isi hg hm (by decide +kernel) (pa_cons pe_t (pa_cons (pe_bltn hg2 ht (v := .ty "tuple") (u := .type "tuple") (by decide +kernel) rfl) pa_nil he2) he) (by decide) (by decide) he hpl, ?_⟩
  refine ha en A σ H F _ st fun v H1 F1 g1 r1 => ?_
  obtain ⟨a, vs, rfl, h1, h2⟩ := r1
  refine ⟨.ref a, .ty "tuple", .type "tuple", .type "tuple", true, rfl, .ty _, ?_, kit_ty (by decide +kernel), q _ H1 F1 g1 rfl⟩
  rcases h1 with h1 | ⟨o, its, k, z1, z2, _⟩
  · rcases h1 with h1 | ⟨o, h1⟩
    · exact .base (.tup h1)
    · exact .fTuple h1
  · exact .kTuple z1 z2
theorem ev_isL (hm : X.mg "isinstance" = none) (ht : X.mg "list" = none) (ha : Ev X e G R (.bor ds)) (hg : Gl X "isinstance" := by rfl) (hg2 : Gl X "list" := by rfl)
    (he : starEach [e, .Name "list" cp] X.env = (false, eval e X.env) :: starEach [.Name "list" cp] X.env := by rfl) (he2 : starEach [.Name "list" cp] X.env = [(false, eval (.Name "list" cp) X.env)] := by rfl) (hpl : (backTo pos (starEach [.Name "list" cp] X.env)).any (·.1) = false := by rfl) :
    Ev X (.Call (.Name "isinstance" p) [e, .Name "list" cp] [] pos) G R (.d (.bl true)) := by
  intro en A σ H F Q st q
  refine ⟨_, pe_callB call_isi hg hm (by decide +kernel) (pa_cons pe_t (pa_cons (pe_bltn hg2 ht (v := .ty "list") (u := .type "list") (by decide +kernel) rfl) pa_nil he2) he) (by decide) (by decide) he hpl, ?_⟩
  refine ha en A σ H F _ st fun v H1 F1 g1 r1 => ?_
  obtain ⟨a, vs, rfl, h1, h2⟩ := r1
  exact ⟨.ref a, .ty "list", .type "list", .type "list", true, rfl, .ty _, .base (.lst h1), kit_ty (by decide +kernel), q _ H1 F1 g1 rfl⟩
/-- t[i][j], t a table -/
theorem ev_tab (hs : Sq n m) (hi : i < n) (hj : j < n) (h : Ev X e G R (.d (matD m))) (h1 : Ev X e1 G R (.d (.int (i : Nat)))) (h2 : Ev X e2 G R (.d (.int (j : Nat)))) (p1' : PlainIx e1 := by exact fun _ _ => rfl) (p2' : PlainIx e2 := by exact fun _ _ => rfl) :
    Ev X (.Subscript (.Subscript e e1 p1) e2 pos) G R (.d (.int (at2 m i j))) :=
  ev_ixB (ev_lb (ev_ixB (d := rowD (m.getD i [])) (ev_lb h) h1 (map_at (f := rowD) (hs.get hi).1) p1')) h2 (map_at (f := D.int) (hs.get2 hi hj)) p2'
/-- names[i] -/
theorem ev_nm (hi : i < n) (hn : n ≤ 9) (h : Ev X e G R (.bor (strDs (nmL.take n)))) (h1 : Ev X e1 G R (.d (.int (i : Nat)))) (p1' : PlainIx e1 := by exact fun _ _ => rfl) : Ev X (.Subscript e e1 pos) G R (.d (.str (nmAt i))) :=
  ev_ixB h h1 (map_at (f := D.str) (nmAt_get hi hn)) p1'
end
theorem nms_len {n : Nat} (hn : n ≤ 9) : (strDs (nmL.take n)).length = n := by rw [strDs_len, List.length_take]; show min n 9 = n; omega
theorem none_nm {n : Nat} (hn : n ≤ 9) : ("none" : Str) ∉ nmL.take n := fun z => by
  obtain ⟨i, h1, h2⟩ := mem_nmAt hn z
  exact nmAt_none i (by omega) h2.symm
end DL

namespace DL
open PySem PySem.Spec L2
def obD : Option Bool → D
  | some q => .bl q
  | none => .non
section
variable {X : Cx} {G : List S} {R : Res} {a b : Expr} {pos : Pos} {p q : Bool} {o : Option Bool} {d : D}
theorem tv_neO_f (ha : Ev X a G R (.d (obD o))) (hb : Ev X b G R (.d (obD o))) : Tv X (.Compare a [.NotEq] [b] pos) G R false := by
  cases o with
  | some q => exact tv_eq (tv_neB ha hb) (by cases q <;> rfl)
  | none =>
    refine tv_cmpR (s1 := .d .non) (s2 := .d .non) op_ne (fun H0 x y H F Q ft hx hy k => ?_) ha hb (nomark _)
    have hx' : x = .non := hx
    have hy' : y = .non := hy
    subst hx' hy'
    exact ⟨rfl, k _ H F (Grow.refl ft) rfl⟩
theorem ev_isN (ha : Ev X a G R (.d d)) (hb : Ev X b G R (.d .non)) (hm : behindInMarks .Is b = false := by rfl) : Ev X (.Compare a [.Is] [b] pos) G R (.d (.bl d.isN)) := ev_cmpR op_isN (s1 := .d d) (s2 := .d .non) (fun H0 x y H F Q ft hx hy k => ⟨hy, k _ H F (Grow.refl ft) (by rw [isN_V hx]; exact rfl)⟩) ha hb hm
theorem tv_isnotB (ha : Ev X a G R (.d (.bl p))) (hb : Ev X b G R (.d (.bl q))) (hm : behindInMarks .IsNot b = false := by rfl) : Tv X (.Compare a [.IsNot] [b] pos) G R (p != q) := tv_cmpR op_isnot_bl (s1 := .d (.bl p)) (s2 := .d (.bl q)) (fun H0 x y H F Q ft hx hy k => ⟨p, q, hx, hy, k _ H F (Grow.refl ft) (by cases p <;> cases q <;> rfl)⟩) ha hb hm
end
noncomputable def saysF (b : BkS) (x y : Str) (lo hi : Rat) : Option Bool := if lo ≤ (spanF b x y).1 ∧ (spanF b x y).2 ≤ hi then some true else if (spanF b x y).2 < lo ∨ hi < (spanF b x y).1 then some false else none
theorem Wk.mono {fc gc : List Fc} (h : ∀ (i : Nat) f, fc[i]? = some f → gc[i]? = some f) {u v : Str} {L : Rat} {l : List (Nat × Nat)} (w : Wk fc u v L l) : Wk gc u v L l := by
  induction w with
  | nil => exact .nil
  | snoc w hf ht hb ih => exact .snoc ih (h _ _ hf) ht hb
theorem get_app {fc : List Fc} {g : List Fc} (i : Nat) (f : Fc) (h : fc[i]? = some f) : (fc ++ g)[i]? = some f := by
  rw [List.getElem?_append_left]
  · exact h
  · rcases Nat.lt_or_ge i fc.length with z | z
    · exact z
    · rw [List.getElem?_eq_none z] at h; cases h
section
variable {b b' : BkS} {p p' : Str → Rat} {x y : Str} {lo hi d : Rat}
/-- with more facts no chain grows -/
theorem bst_more (h : BkC b) (h' : BkC b') (hp' : Pot p' b'.fc) (hn : b'.nm = b.nm) {g : List Fc} (hg : b'.fc = b.fc ++ g) (hx : x ∈ b.nm) (hy : y ∈ b.nm) : (bst b' x y).1 ≤ (bst b x y).1 := by
  refine bst_min h' hp' (by rw [hn]; exact hx) (by rw [hn]; exact hy) ?_ (l := (bst b x y).2)
  rw [hg]
  exact (bst_wk h hx hy).1.mono get_app
/-- times with a number of the span between two moments -/
theorem pot_with (h : BkC b) (hp : Pot p b.fc) (hx : x ∈ b.nm) (hy : y ∈ b.nm) (h1 : (spanF b x y).1 ≤ d) (h2 : d ≤ (spanF b x y).2) : ∃ p', Pot p' b.fc ∧ p' y - p' x = d := by
  unfold spanF at h1 h2
  refine ⟨fun v => if (bst b x v).1 ≤ d + (bst b y v).1 then (bst b x v).1 else d + (bst b y v).1, fun f hf => ?_, ?_⟩
  · obtain ⟨m1, m2⟩ := h.ends f hf
    obtain ⟨e1, e2⟩ := bst_edge h hp hf
    have t1 := bst_tri h hp hx m1 m2
    have t2 := bst_tri h hp hx m2 m1
    have t3 := bst_tri h hp hy m1 m2
    have t4 := bst_tri h hp hy m2 m1
    dsimp only
    constructor <;> split <;> split <;> grind
  · have z1 := bst_self h hp hx
    have z2 := bst_self h hp hy
    dsimp only
    rw [z1, z2]
    split <;> split <;> grind
/-- a fact that is not said False can be told -/
theorem pot_tell (h : BkC b) (hp : Pot p b.fc) (hx : x ∈ b.nm) (hy : y ∈ b.nm) (h0 : lo ≤ hi) (h1 : lo ≤ (spanF b x y).2) (h2 : (spanF b x y).1 ≤ hi) : ∃ p', Pot p' (b.fc ++ [⟨x, y, lo, hi⟩]) := by
  have hs := span_pot h hp hx hy
  obtain ⟨d, d1, d2, d3, d4⟩ : ∃ d, (spanF b x y).1 ≤ d ∧ d ≤ (spanF b x y).2 ∧ lo ≤ d ∧ d ≤ hi := by
    by_cases z : lo ≤ (spanF b x y).1
    · exact ⟨(spanF b x y).1, by grind, by grind, z, h2⟩
    · exact ⟨lo, by grind, h1, by grind, h0⟩
  obtain ⟨p', k1, k2⟩ := pot_with h hp hx hy d1 d2
  refine ⟨p', fun f hf => ?_⟩
  rcases List.mem_append.mp hf with z | z
  · exact k1 f z
  · rw [List.mem_singleton.mp z]
    show lo ≤ p' y - p' x ∧ p' y - p' x ≤ hi
    rw [k2]
    exact ⟨d3, d4⟩
end
/-- the ends of a span by the table -/
theorem LawB.ends {n : Nat} {fs : List Fq} {p : Str → Rat} {b : BkS} (h : LawB n fs p b) {i j : Nat} (hi : i < n) (hj : j < n) : (at2 (farF n fs) i j).natAbs ≤ 2000 := by
  have h1 := h.far hi hj
  have h2 := h.far hj hi
  have s1 := h.small hi hj
  have s2 := h.small hj hi
  have t := bst_tri h.bk h.pot (h.mem hi) (h.mem hj) (h.mem hi)
  rw [bst_self h.bk h.pot (h.mem hi)] at t
  rw [← h1] at s1 t
  rw [← h2] at s2 t
  rw [← six_add, ← six_zero] at t
  have a1 := six_le.mp s1
  have a2 := six_le.mp s2
  have a3 := six_le.mp t
  omega
end DL

namespace DL
open PySem PySem.Spec L2
def mergeD (acc ds : List (Key × D)) : List (Key × D) := ds.foldl (fun acc kv => putD acc kv.1 kv.2) acc
section
variable {k k' : Key} {d : D}
theorem valD_cons (p : Key × D) (l : List (Key × D)) (k : Key) : valD (p :: l) k = if p.1 = k then some p.2 else valD l k := by
  unfold valD
  by_cases h : p.1 = k
  · rw [List.find?_cons_of_pos (by exact decide_eq_true h), if_pos h]
    rfl
  · rw [List.find?_cons_of_neg (by simpa using h), if_neg h]
theorem valD_map_ne (h : k' ≠ k) : ∀ l : List (Key × D), valD (l.map fun kv => if kv.1 = k then (kv.1, d) else kv) k' = valD l k'
  | [] => rfl
  | p :: l => by
    rw [List.map_cons, valD_cons, valD_cons, valD_map_ne h l]
    by_cases e : p.1 = k
    · rw [if_pos e, if_neg (show ¬ p.1 = k' from fun z => h (z.symm.trans e)), if_neg (fun z => h (z.symm.trans e))]
    · rw [if_neg e]
theorem valD_map_eq : ∀ l : List (Key × D), (l.any fun kv => decide (kv.1 = k)) = true → valD (l.map fun kv => if kv.1 = k then (kv.1, d) else kv) k = some d
  | [], h => nomatch h
  | p :: l, h => by
    rw [List.map_cons, valD_cons]
    by_cases e : p.1 = k
    · rw [if_pos e, if_pos (show p.1 = k from e)]
    · rw [if_neg e, if_neg e]
      refine valD_map_eq l ?_
      rw [List.any_cons, decide_eq_false e, Bool.false_or] at h
      exact h
theorem valD_snoc : ∀ l : List (Key × D), (l.any fun kv => decide (kv.1 = k)) = false → valD (l ++ [(k, d)]) k' = if k' = k then some d else valD l k'
  | [], _ => by
    rw [List.nil_append, valD_cons]
    by_cases e : k' = k
    · rw [if_pos e.symm, if_pos e]
    · rw [if_neg (fun z => e z.symm), if_neg e]
  | p :: l, h => by
    rw [List.any_cons, Bool.or_eq_false_iff] at h
    rw [List.cons_append, valD_cons, valD_cons, valD_snoc l h.2]
    by_cases e : p.1 = k'
    · rw [if_pos e, if_pos e, if_neg (fun z => of_decide_eq_false h.1 (e.trans z))]
    · rw [if_neg e, if_neg e]
theorem valD_put (l : List (Key × D)) : valD (putD l k d) k' = if k' = k then some d else valD l k' := by
  unfold putD
  split
  · next h =>
    by_cases e : k' = k
    · rw [if_pos e, e]; exact valD_map_eq l h
    · rw [if_neg e]; exact valD_map_ne e l
  · next h =>
    refine valD_snoc l ?_
    cases q : l.any fun kv => decide (kv.1 = k) with
    | false => rfl
    | true => exact absurd q h
end
theorem DnK.merge {K : PySem.W.Frag} {F : Fz} {H : Hp} : ∀ {ds : List (Key × D)} {vs : List (Key × V)} {acc : List (Key × D)} {acc' : List (Key × V)}, DnK K F H acc acc' → DnK K F H ds vs → DnK K F H (mergeD acc ds) (mergeK acc' vs)
  | [], [], _, _, h, _ => h
  | p :: ds, q :: vs, acc, acc', h, h2 => by
    obtain ⟨e1, e2, e3⟩ := h2
    unfold mergeD mergeK
    rw [List.foldl_cons, List.foldl_cons, ← e1]
    exact DnK.merge (DnK.put e2 h) e3
  | [], _ :: _, _, _, _, h => h.elim
  | _ :: _, [], _, _, _, h => h.elim
abbrev ftD (p : Str × Rat) : D := .tup [.str p.1, ratD p.2]
abbrev ftK (p : Str × Rat) : Key × D := (.inr p.1, ratD p.2)
theorem ftD_inj (a b : Str × Rat) (h : ftD a = ftD b) : a = b := by
  simp only [ftD, D.tup.injEq, List.cons.injEq, D.str.injEq, and_true] at h
  obtain ⟨h1, h2⟩ := h
  exact Prod.ext h1 (ratD_inj (by unfold ratD; rw [D.tup.injEq]; simp only [List.cons.injEq, and_true]; exact h2))
theorem ft_pairs {K : PySem.W.Frag} {F : Fz} {H : Hp} : ∀ {ft : List (Str × Rat)} {vs : List V}, DnA K F H (ft.map ftD) vs → ∃ (ps : List Addr) (kvs : List (Key × V)), vs = ps.map V.ref ∧ Paired (fun p kv => SqT K H p [kV kv.1, kv.2]) ps kvs ∧ DnK K F H (ft.map ftK) kvs
  | [], vs, h => ⟨[], [], h.nil_of, .nil, trivial⟩
  | p :: ft, vs, h => by
    obtain ⟨v, r, rfl, h1, h2⟩ := h.cons_of
    obtain ⟨ps, kvs, rfl, h4, h5⟩ := ft_pairs h2
    obtain ⟨a, ws, rfl, h6, h7⟩ := h1
    obtain ⟨w1, r1, rfl, k1, k2⟩ := h7.cons_of
    obtain ⟨w2, r2, rfl, k3, k4⟩ := k2.cons_of
    have e := k4.nil_of
    subst e
    have e1 : w1 = .str p.1 := k1
    subst e1
    exact ⟨a :: ps, (.inr p.1, w2) :: kvs, rfl, .cons h6 h4, rfl, k3, h5⟩
section
variable {X : Cx} {G : List S} {R : Res} {e : Expr} {p pos : Pos} {ft : List (Str × Rat)}
theorem ev_dictP (hm : X.mg "dict" = none) (hc : X.calm = true) (ha : Ev X e G R (.bor (ft.map ftD))) (hg : Gl X "dict" := by rfl) (he : starEach [e] X.env = [(false, eval e X.env)] := by rfl) : Ev X (.Call (.Name "dict" p) [e] [] pos) G R (.dic (mergeD [] (ft.map ftK))) := by
  refine ev_callTy (call_dictP hc) hm (by decide +kernel) ?_ (eva_cons ha eva_nil he) hg (by decide) (by decide) he (by rfl)
  intro H0 xs H F Q fz h k
  obtain ⟨v, rfl, r1⟩ := srs1 h
  obtain ⟨a, vs, rfl, h1, h2⟩ := r1
  obtain ⟨ps, kvs, rfl, h3, h4⟩ := ft_pairs h2
  refine ⟨a, ps, kvs, rfl, SqL.of h1, h3, fun q hq => ?_⟩
  have g : Grow H F (upd H q (.dK (mergeK [] kvs))) F := Grow.new hq fz
  exact k _ _ F g ⟨q, _, rfl, hq, fresh_nf fz hq, upd_same, DnK.mon g.mon (DnK.merge trivial h4)⟩
end
/-! ### fits -/
def tmAt (ft : List (Str × Rat)) (x : Str) : Rat := ((ft.find? fun p => decide (p.1 = x)).map (·.2)).getD 0
theorem tmAt_cons (p : Str × Rat) (ft : List (Str × Rat)) (x : Str) : tmAt (p :: ft) x = if p.1 = x then p.2 else tmAt ft x := by
  unfold tmAt
  by_cases h : p.1 = x
  · rw [List.find?_cons_of_pos (by exact decide_eq_true h), if_pos h]; rfl
  · rw [List.find?_cons_of_neg (by simpa using h), if_neg h]
theorem merge_keep {x : Str} : ∀ (ft : List (Str × Rat)) (acc : List (Key × D)), x ∉ ft.map (·.1) → valD (mergeD acc (ft.map ftK)) (.inr x) = valD acc (.inr x)
  | [], _, _ => rfl
  | p :: ft, acc, h => by
    have h1 : x ≠ p.1 := fun z => h (by rw [z]; exact List.mem_cons_self)
    have h2 : x ∉ ft.map (·.1) := fun z => h (List.mem_cons_of_mem _ z)
    show valD (mergeD (putD acc (.inr p.1) (ratD p.2)) (ft.map ftK)) (.inr x) = _
    rw [merge_keep ft _ h2, valD_put, if_neg (fun z => h1 (Sum.inr.inj z))]
theorem merge_val {x : Str} : ∀ (ft : List (Str × Rat)) (acc : List (Key × D)), (ft.map (·.1)).Nodup → x ∈ ft.map (·.1) → valD (mergeD acc (ft.map ftK)) (.inr x) = some (ratD (tmAt ft x))
  | [], _, _, h => nomatch h
  | p :: ft, acc, hn, h => by
    obtain ⟨n1, n2⟩ := List.nodup_cons.mp (show (p.1 :: ft.map (·.1)).Nodup from hn)
    show valD (mergeD (putD acc (.inr p.1) (ratD p.2)) (ft.map ftK)) (.inr x) = _
    rw [tmAt_cons]
    by_cases e : p.1 = x
    · subst e
      rw [if_pos rfl, merge_keep ft _ n1, valD_put, if_pos rfl]
    · rw [if_neg e]
      refine merge_val ft _ n2 ?_
      rcases List.mem_cons.mp h with z | z
      · exact absurd z.symm e
      · exact z
theorem tmAt_bd {ft : List (Str × Rat)} {n : Nat} (h : ∀ p ∈ ft, Bd n p.2) {x : Str} (hx : x ∈ ft.map (·.1)) : Bd n (tmAt ft x) := by
  induction ft with
  | nil => cases hx
  | cons p ft ih =>
    rw [tmAt_cons]
    split
    · exact h p List.mem_cons_self
    · next e =>
      refine ih (fun q hq => h q (List.mem_cons_of_mem _ hq)) ?_
      rcases List.mem_cons.mp hx with z | z
      · exact absurd z.symm e
      · exact z
def trueAt (ft : List (Str × Rat)) (f : Fc) : Bool := decide (f.lo ≤ tmAt ft f.b - tmAt ft f.a) && decide (tmAt ft f.b - tmAt ft f.a ≤ f.hi)
def fitF (b : BkS) (ft : List (Str × Rat)) : Bool := decide (ft.map (·.1) = b.nm) && (decide ((ft.headD ("", 0)).2 = 0) && b.fc.all (trueAt ft))
def earlyF (b : BkS) : List (Str × Rat) := b.nm.map fun x => (x, 0 - (bst b x "start").1)
def lateF (b : BkS) : List (Str × Rat) := b.nm.map fun x => (x, (bst b "start" x).1)
/-- a fit by its times, the moments in their order -/
def ftN (n : Nat) (t : Nat → Rat) : List (Str × Rat) := (List.range n).map fun k => (nmAt k, t k)
theorem range_take {n : Nat} (hn : n ≤ 9) : nmL.take n = (List.range n).map nmAt := by
  refine List.ext_getElem? fun i => ?_
  rcases Nat.lt_or_ge i n with z | z
  · rw [nmAt_get z hn, List.getElem?_map, List.getElem?_range z]; rfl
  · rw [List.getElem?_eq_none (by rw [List.length_take]; omega), List.getElem?_eq_none (by rw [List.length_map, List.length_range]; exact z)]
theorem ftN_nm {n : Nat} (hn : n ≤ 9) (t : Nat → Rat) : (ftN n t).map (·.1) = nmL.take n := by
  unfold ftN
  rw [range_take hn, List.map_map]
  rfl
theorem tm_map {t : Nat → Rat} {k : Nat} (hk : k < 9) : ∀ l : List Nat, (∀ i ∈ l, i < 9) → k ∈ l → tmAt (l.map fun k => (nmAt k, t k)) (nmAt k) = t k
  | [], _, h => nomatch h
  | i :: l, hl, h => by
    rw [List.map_cons, tmAt_cons]
    by_cases e : i = k
    · subst e; rw [if_pos rfl]
    · rw [if_neg (fun z => e (nmAt_inj (hl i List.mem_cons_self) hk z))]
      refine tm_map hk l (fun j hj => hl j (List.mem_cons_of_mem _ hj)) ?_
      rcases List.mem_cons.mp h with z | z
      · exact absurd z.symm e
      · exact z
theorem ftN_tm {n : Nat} (hn : n ≤ 9) (t : Nat → Rat) {k : Nat} (hk : k < n) : tmAt (ftN n t) (nmAt k) = t k := tm_map (by omega) _ (fun i hi => by have := List.mem_range.mp hi; omega) (List.mem_range.mpr hk)
theorem ftN_head {n : Nat} (h : 0 < n) (t : Nat → Rat) : ((ftN n t).headD ("", 0)).2 = t 0 := by
  unfold ftN
  cases n with
  | zero => cases h
  | succ n => rw [List.range_succ_eq_map]; rfl
section
variable {n : Nat} {fs : List Fq} {p : Str → Rat} {b : BkS} {t : Nat → Rat}
theorem LawB.fit (h : LawB n fs p b) (t0 : t 0 = 0) (ht : ∀ q ∈ fs, sixR q.2.2.1 ≤ t q.2.1 - t q.1 ∧ t q.2.1 - t q.1 ≤ sixR q.2.2.2) : fitF b (ftN n t) = true := by
  have n1 := h.n1
  unfold fitF
  rw [ftN_nm h.n2, h.nm, decide_eq_true rfl, ftN_head (by omega), decide_eq_true t0, h.fc, Bool.true_and, Bool.true_and, List.all_eq_true]
  intro f hf
  obtain ⟨q, hq, rfl⟩ := List.mem_map.mp hf
  obtain ⟨i1, i2⟩ := h.inn q hq
  obtain ⟨k1, k2⟩ := ht q hq
  unfold trueAt
  dsimp only
  rw [ftN_tm h.n2 t i1, ftN_tm h.n2 t i2, decide_eq_true k1, decide_eq_true k2]
  rfl
theorem LawB.fit_pot (h : LawB n fs p b) (hf : fitF b (ftN n t) = true) {i j : Nat} (hi : i < n) (hj : j < n) : t j - t i ≤ (bst b (nmAt i) (nmAt j)).1 := by
  unfold fitF at hf
  rw [Bool.and_eq_true, Bool.and_eq_true, List.all_eq_true] at hf
  have hp : Pot (tmAt (ftN n t)) b.fc := fun f hm => by
    have := hf.2.2 f hm
    unfold trueAt at this
    rw [Bool.and_eq_true] at this
    exact ⟨of_decide_eq_true this.1, of_decide_eq_true this.2⟩
  have := pot_wk hp (bst_wk h.bk (h.mem hi) (h.mem hj)).1
  rw [ftN_tm h.n2 t hi, ftN_tm h.n2 t hj] at this
  grind
theorem LawB.fit_zero (h : LawB n fs p b) (t0 : t 0 ≠ 0) : fitF b (ftN n t) = false := by
  have n1 := h.n1
  unfold fitF
  rw [ftN_head (by omega), decide_eq_false t0, Bool.false_and, Bool.and_false]
theorem fit_nm {ft : List (Str × Rat)} (h : ft.map (·.1) ≠ b.nm) : fitF b ft = false := by
  unfold fitF
  rw [decide_eq_false h, Bool.false_and]
end
theorem map_upd {α : Type} (g : Nat → α) (v : α) {n k : Nat} (hk : k < n) : ((List.range n).map g).take k ++ [v] ++ ((List.range n).map g).drop (k + 1) = (List.range n).map fun i => if i = k then v else g i := by
  refine List.ext_getElem? fun i => ?_
  have hl : (((List.range n).map g).take k).length = k := by rw [List.length_take, List.length_map, List.length_range]; omega
  rcases Nat.lt_trichotomy i k with z | z | z
  · rw [List.append_assoc, List.getElem?_append_left (by rw [hl]; exact z), List.getElem?_take_of_lt z, List.getElem?_map, List.getElem?_map, List.getElem?_range (by omega)]
    show some (g i) = some (if i = k then v else g i)
    rw [if_neg (by omega)]
  · subst z
    rw [List.getElem?_append_left (by rw [List.length_append, hl]; exact Nat.lt_succ_self _), List.getElem?_append_right (by rw [hl]; exact Nat.le_refl _), hl, Nat.sub_self, List.getElem?_map, List.getElem?_range hk]
    show some v = some (if i = i then v else g i)
    rw [if_pos rfl]
  · rw [List.getElem?_append_right (by rw [List.length_append, hl]; exact z), List.length_append, hl, List.getElem?_drop, List.length_singleton, show k + 1 + (i - (k + 1)) = i by omega, List.getElem?_map, List.getElem?_map]
    rcases Nat.lt_or_ge i n with y | y
    · rw [List.getElem?_range y]
      show some (g i) = some (if i = k then v else g i)
      rw [if_neg (by omega)]
    · rw [List.getElem?_eq_none (by rw [List.length_range]; exact y)]
      rfl
end DL

namespace DL
open PySem PySem.Spec L2
def EvMA (X : Cx) (es : List Expr) (G : List S) (R : Res) (P : List D → Res → Prop) : Prop :=
  ∀ (en : En) (A : Addr → Prop) (σ : L2.St) (H : Hp) (F : Fz) (Q : List V → Hp → Prop), Sta X.K en G R A σ H F → (∀ ds R' A' vs H' F', P ds R' → Sta X.K en G R' A' σ H' F' → Mon H F H' F' → DnA X.K F' H' ds vs → Q vs H') → tA X es σ H Q
section
variable {X : Cx} {G : List S} {R : Res} {e : Expr} {es : List Expr} {pos : Pos} {P : List D → Res → Prop} {P1 : S → Res → Prop}
theorem evma_nil (h : P [] R) : EvMA X [] G R P := fun en A σ H F Q st k => ⟨_, pa_nil, k [] R A [] H F h st Mon.refl trivial⟩
theorem evma_cons (h : EvM X e G R P1) (hr : ∀ s R1, P1 s R1 → ∃ d, s = .d d ∧ EvMA X es G R1 (fun ds R2 => P (d :: ds) R2)) (hs : starEach (e :: es) X.env = (false, eval e X.env) :: starEach es X.env := by rfl) : EvMA X (e :: es) G R P := by
  intro en A σ H F Q st k
  refine ⟨_, pa_cons pe_t pa_t hs, ?_⟩
  refine h en A σ H F _ st fun s R1 A1 v H1 F1 p st1 m1 r1 ap1 => ?_
  obtain ⟨d, rfl, h2⟩ := hr s R1 p
  refine h2 en A1 σ H1 F1 _ st1 fun ds R2 A2 vs H2 F2 p2 st2 m2 r2 => ?_
  exact k (d :: ds) R2 A2 (v :: vs) H2 F2 p2 st2 (m1.trans m2) ⟨Dn.mon m2 _ _ r1, r2⟩
/-- .. as data: nobody writes into the list later -/
theorem evm_lst (h : EvMA X es G R (fun ds R' => ds.length ≤ sizeLine ∧ P ds R')) : EvM X (.List es pos) G R (fun s R' => ∃ ds, s = .d (.lst ds) ∧ P ds R') := by
  intro en A σ H F Q st k
  refine ⟨_, pe_lst pa_t, ?_⟩
  refine h en A σ H F _ st fun ds R1 A1 vs H1 F1 ⟨hl, p⟩ st1 m1 r1 => ?_
  refine ⟨by rw [r1.length]; exact hl, fun q hq => ?_⟩
  have g2 : Grow H1 F1 (upd H1 q (.lst vs)) (fun b => F1 b ∨ b = q) := ⟨fun a o ha => by rw [upd_ne (ne_of_none ha hq)]; exact ha, fun a ha => .inl ha, fun a ha => ha.elim .inl fun z => .inr (by rw [z]; exact hq), fun a ha => by
    by_cases z : a = q
    · rw [z, upd_same]; exact fun y => nomatch y
    · rw [upd_ne z]
      rcases ha with ha | ha
      · exact st1.ft a ha
      · exact absurd ha z⟩
  exact k (.d (.lst ds)) R1 A1 _ _ _ ⟨ds, rfl, p⟩ (st1.grow g2) (m1.trans g2.mon) ⟨q, vs, rfl, .inr rfl, upd_same, DnA.mon g2.mon _ _ r1⟩ trivial
end
theorem Wk.mem {fc gc : List Fc} (h : ∀ f ∈ fc, f ∈ gc) {u v : Str} {L : Rat} {l : List (Nat × Nat)} (w : Wk fc u v L l) : ∃ l', Wk gc u v L l' := by
  induction w with
  | nil => exact ⟨[], .nil⟩
  | @snoc v L l f s w hf ht hb ih =>
    obtain ⟨l', h1⟩ := ih
    obtain ⟨i, hi⟩ := fact_at (h f (List.mem_of_getElem? hf))
    exact ⟨l' ++ [(i, s.2)], .snoc (s := (i, s.2)) h1 hi ht hb⟩
section
variable {b b' : BkS} {p p' : Str → Rat} {x y u v : Str}
theorem bst_mem (h : BkC b) (h' : BkC b') (hp' : Pot p' b'.fc) (hn : b'.nm = b.nm) (hg : ∀ f ∈ b.fc, f ∈ b'.fc) (hx : x ∈ b.nm) (hy : y ∈ b.nm) : (bst b' x y).1 ≤ (bst b x y).1 := by
  obtain ⟨l', w⟩ := (bst_wk h hx hy).1.mem hg
  exact bst_min h' hp' (by rw [hn]; exact hx) (by rw [hn]; exact hy) w
/-- a fact that follows changes no span -/
theorem bst_follow (h : BkC b) (hp : Pot p b.fc) (hu : u ∈ b.nm) (hv : v ∈ b.nm) {lo hi : Rat} (hlo : lo ≤ (spanF b u v).1) (hhi : (spanF b u v).2 ≤ hi) (hx : x ∈ b.nm) {L : Rat} {l : List (Nat × Nat)} (w : Wk (b.fc ++ [⟨u, v, lo, hi⟩]) x y L l) : y ∈ b.nm ∧ (bst b x y).1 ≤ L := by
  have s1 : (bst b u v).1 ≤ hi := hhi
  have s2 : (bst b v u).1 ≤ 0 - lo := by unfold spanF at hlo; dsimp only at hlo; grind
  induction w with
  | nil => exact ⟨hx, by rw [bst_self h hp hx]; grind⟩
  | @snoc v' L l f s w hf ht hb ih =>
    obtain ⟨i1, i2⟩ := ih
    subst hb
    have hm := List.mem_of_getElem? hf
    have key : ∀ a c : Str, a ∈ b.nm → c ∈ b.nm → ∀ W : Rat, (bst b a c).1 ≤ W → (bst b x a).1 ≤ L → (bst b x c).1 ≤ L + W := fun a c ha hc W h1 h2 => by
      have := bst_tri h hp hx ha hc
      grind
    rcases List.mem_append.mp hm with z | z
    · obtain ⟨m1, m2⟩ := h.ends f z
      obtain ⟨e1, e2⟩ := bst_edge h hp z
      unfold fB at i1 i2
      unfold fE fL
      split
      · next q => rw [if_pos q] at i1 i2; exact ⟨m2, key _ _ m1 m2 _ e1 i2⟩
      · next q => rw [if_neg q] at i1 i2; exact ⟨m1, key _ _ m2 m1 _ e2 i2⟩
    · have e := List.mem_singleton.mp z
      subst e
      unfold fB at i1 i2
      unfold fE fL
      split
      · next q => rw [if_pos q] at i1 i2; exact ⟨hv, key _ _ hu hv _ s1 i2⟩
      · next q => rw [if_neg q] at i1 i2; exact ⟨hu, key _ _ hv hu _ s2 i2⟩
end
end DL

namespace DL
open PySem PySem.Spec L2
section
variable {X : Cx} {E : L2.St → XK} {CX : CXT} {C f a b : Addr} {fd : FuncData} {ps : List Str} {k : Nat} {sp : Sp}
def rEqO (C : Addr) (sp : Sp) (E : XK) : L2.R2 := fun x y H Q => ∃ a b dx dy fs gs, x = V.ref a ∧ y = V.ref b ∧ H a = some (.ins C dx fs) ∧ H b = some (.ins C dy gs) ∧ sp [.ref a, .ref b] H (fun z H' => ∃ q : Bool, z = .bl q ∧ Q (.bl q) H') E
theorem op_eqO {E : XK} (hm : Meth X.K C "__eq__" f) (F : FnOk X.prog X.w X.K X.mg X.base CX k f fd ps sp) (hr : Room k X.A) (hb : Binds X.K fd ps []) (hx : Passes CX X E) : OpR X (compareOp .Eq) (rEqO C sp E) := by
  intro pins s σ H x y v u Q I rx ry h
  obtain ⟨a, b, dx, dy, fs, gs, rfl, rfl, ea, eb, q⟩ := h
  obtain rfl : v = Value.ref a := rx
  obtain ⟨ox, od, J⟩ := inst_of I ea
  obtain ⟨oy, od', J'⟩ := inst_of I eb
  obtain ⟨m, hF⟩ := I.fr
  have rb : RelV (V.ref b) u := ry
  obtain rfl : u = Value.ref b := ry
  refine PySem.W.cmp_K (op := .Eq) (tb := .ref C) hr.units0 hF I.ok.mod.kin J J'.type (by simp [PySem.W.notFirst]) hm.at_ hm.fn (wpAny_mono (run_two F hr hb hx I rb q) (fun w s' z => ?_) fun _ _ z => z)
  obtain ⟨v', H', I3, rv, qq, e1, q3⟩ := z
  subst e1
  obtain rfl : w = Value.bool qq := rv
  exact ⟨.bl qq, H', I3, rfl, q3⟩
end
section
variable {X : Cx} {G : List S} {R : Res} {e o : Expr} {pos p cp : Pos} {l l1 l2 : List Ob} {a b C : Addr} {fs gs : List (Str × FV)} {Ct : Ct} {k j n : Nat} {q : Bool} {cn : Str}
theorem ro_eqO {sp : Sp} {K : PySem.W.Frag} (hsp : sp = spD K Ct) (ho : ⟨a, some C, fs⟩ ∈ l) (ho2 : ⟨b, some C, gs⟩ ∈ l) (hC : Ct [.bob a l1, .bob b l2] (.ret (.d (.bl q)))) (h1 : ∀ o ∈ l1, o ∈ l) (h2 : ∀ o ∈ l2, o ∈ l) :
    RO K (rEqO C sp fun _ _ _ => False) (.bob a l) (.bob b l) (.d (.bl q)) := by
  subst hsp
  intro H0 x y H F Q ft ⟨hx, ads, r1⟩ ⟨hy, ads2, r2⟩ k
  subst hx hy
  obtain ⟨_, _, vs, as, rfl, _, dx, h6⟩ := r1.mem ho
  obtain ⟨_, _, ws, bs, rfl, _, dy, h7⟩ := r2.mem ho2
  obtain ⟨as', _, r3⟩ := r1.sub h1
  obtain ⟨bs', _, r4⟩ := r2.sub h2
  exact ⟨a, b, dx, dy, vs, ws, rfl, rfl, h6, h7, F, [.bob a l1, .bob b l2], _, hC, ft, ⟨⟨rfl, as', r3⟩, ⟨rfl, bs', r4⟩, trivial⟩, fun v H' F' g r => ⟨q, r, k _ H' F' g rfl⟩⟩
theorem tv_eqO (M : Mtd X.prog X.w X.K X.mg X.base C "__eq__" k Ct) (hr : Room j X.A) (hk : k ≤ j) (h : Ev X e G R (.bob a l)) (h' : Ev X o G R (.bob b l)) (ho : ⟨a, some C, fs⟩ ∈ l) (ho2 : ⟨b, some C, gs⟩ ∈ l) (hC : Ct [.bob a l1, .bob b l2] (.ret (.d (.bl q)))) (h1 : ∀ o ∈ l1, o ∈ l) (h2 : ∀ o ∈ l2, o ∈ l) :
    Tv X (.Compare e [.Eq] [o] pos) G R q := by
  obtain ⟨f, fd, ps, m1, m2, m3⟩ := M.ex
  exact tv_cmpR (op_eqO (E := fun _ _ _ => False) m2 m1 (hr.mono hk) m3 passL) (ro_eqO rfl ho ho2 hC h1 h2) h h' (nomark _)
/-- isinstance(o, C) -/
theorem ev_isC (c : C8.InsC X.K C) (hm : X.mg "isinstance" = none) (hD : X.mg cn = some (.ref C)) (h : Ev X e G R (.bob a l)) (ho : ⟨a, some C, fs⟩ ∈ l) (hg : Gl X "isinstance" := by rfl) (hg2 : Gl X cn := by rfl) (hd2 : (cn == ("__debug__" : Str)) = false := by decide)
    (he : starEach [e, .Name cn cp] X.env = (false, eval e X.env) :: starEach [.Name cn cp] X.env := by rfl) (he2 : starEach [.Name cn cp] X.env = [(false, eval (.Name cn cp) X.env)] := by rfl) (hpl : (backTo pos (starEach [.Name cn cp] X.env)).any (·.1) = false := by rfl) :
    Ev X (.Call (.Name "isinstance" p) [e, .Name cn cp] [] pos) G R (.d (.bl true)) := by
  intro en A σ H F Q st k
  refine ⟨_, pe_callB (C8.call_isC c) hg hm (by decide +kernel) (pa_cons pe_t (pa_cons (pe_glob hg2 hD (v := .ref C) rfl hd2) pa_nil he2) he) (by decide) (by decide) he hpl, ?_⟩
  refine h en A σ H F _ st fun v H1 F1 g1 ⟨r, ads, r1⟩ => ?_
  subst r
  obtain ⟨_, _, vs, as, rfl, _, dx, h6⟩ := r1.mem ho
  exact ⟨a, dx, vs, rfl, h6, k _ H1 F1 g1 rfl⟩
end
/-- what isinstance asks of an own class, read off -/
def insB (K : PySem.W.Frag) (x : Str) : Bool :=
  He.eqO (PySem.W.findIn K (.ref (He.ga K x)) "__class__") (some (some (.builtin "object.__class__"))) && (He.eqO (PySem.W.specialIn K (.builtin "object.__class__") "__get__") (some (some (.builtin "getset_descriptor.__get__"))) &&
  (decide (PySem.W.takesIn K (.builtin "object.__class__") = some true) && (decide (PySem.W.mroIn K (He.ga K x) (.type "object") = some true) && decide (PySem.W.kitOne K (.ref (He.ga K x)) (.ref (He.ga K x)) = some true))))
theorem insB_ok {K : PySem.W.Frag} {x : Str} (cl : Cls K (He.ga K x)) (c : insB K x = true) : C8.InsC K (He.ga K x) := by
  unfold insB at c
  obtain ⟨c1, c⟩ := He.ba c
  obtain ⟨c2, c⟩ := He.ba c
  obtain ⟨c3, c⟩ := He.ba c
  obtain ⟨c4, c5⟩ := He.ba c
  exact ⟨cl, He.eqO_ok c1, He.eqO_ok c2, of_decide_eq_true c3, of_decide_eq_true c4, of_decide_eq_true c5⟩
end DL

namespace DL
open PySem PySem.Spec L2
def downD (i : Int) (n : Nat) : List D := (List.range n).map fun k : Nat => D.int (i + (k : Nat) * (-1))
theorem downD_len {i : Int} {n : Nat} : (downD i n).length = n := by unfold downD; rw [List.length_map, List.length_range]
theorem downD_at {i : Int} {n k : Nat} {d : D} (h : (downD i n)[k]? = some d) : k < n ∧ d = .int (i - (k : Int)) := by
  unfold downD at h
  rw [List.getElem?_map] at h
  rcases Nat.lt_or_ge k n with z | z
  · rw [List.getElem?_range z] at h
    refine ⟨z, ?_⟩
    have := Option.some.inj h
    rw [← this]
    show D.int (i + (k : Nat) * (-1)) = D.int (i - (k : Int))
    congr 1
    omega
  · rw [List.getElem?_eq_none (by rw [List.length_range]; exact z)] at h
    cases h
theorem feed_down {K : PySem.W.Frag} {i : Int} {n : Nat} {en : En} {H1 : Hp} {F1 : Fz} : Feed K (Itc i (-1) n) (downD i n) en H1 F1 := fun k H F m fr => by
  refine ⟨fun hi => by rw [downD_len] at hi; exact hi, fun d hd => ?_⟩
  obtain ⟨h1, rfl⟩ := downD_at hd
  refine ⟨h1, fun x H' y => ⟨y.1, ?_⟩⟩
  have e : x = .int (i + (k : Nat) * (-1)) := y.2
  show x = .int (i - (k : Int))
  rw [e]
  congr 1
  omega
section
variable {X : Cx} {G : List S} {R : Res} {a b c tg : Expr} {pos p : Pos}
theorem evi_down {i j : Int} (hm : X.mg "range" = none) (ha : EvA X [a, b, c] G R [.d (.int i), .d (.int j), .d (.int (-1))]) (hn : -(2 ^ 62) ≤ i ∧ i < 2 ^ 62 ∧ -(2 ^ 62) ≤ j ∧ j < 2 ^ 62) (hg : Gl X "range" := by rfl)
    (hs : starEach [a, b, c] X.env = (false, eval a X.env) :: starEach [b, c] X.env := by rfl) (hpl : (backTo pos (starEach [b, c] X.env)).any (·.1) = false := by rfl) : EvI X tg (.Call (.Name "range" p) [a, b, c] [] pos) G R (downD i (i - j).toNat) := by
  intro en A σ H F Q st k
  refine ⟨_, pi_range3 hg hm pa_t hs hpl, ?_⟩
  refine ha en A σ H F _ st fun vs H1 F1 g r => ?_
  match vs, r with
  | [v1, v2, v3], ⟨r1, r2, r3, _⟩ =>
    have e1 : v1 = .int i := r1
    have e2 : v2 = .int j := r2
    have e3 : v3 = .int (-1) := r3
    exact ⟨i, j, -1, (i - j).toNat, by rw [e1, e2, e3], RgC.neg hn.1 hn.2.1 hn.2.2.1 hn.2.2.2, k _ H1 F1 g feed_down⟩
  | [], r => exact r.elim
  | [_], r => exact r.2.elim
  | [_, _], r => exact r.2.2.elim
  | _ :: _ :: _ :: _ :: _, r => exact r.2.2.2.elim
end
end DL

namespace DL
open PySem PySem.Spec L2
section
variable {X : Cx} {G : List S} {R : Res} {e o : Expr} {es : List Expr} {pos apos : Pos} {a C : Addr} {Ct : Ct} {k j : Nat} {P : S → Res → Prop} {Z : Bool → Res → Prop} {Y : S → Res → Prop} {m : Str} {pl : Sem Bool}
theorem tvm_eqO (M : Mtd X.prog X.w X.K X.mg X.base C "__eq__" k Ct) (hr : Room j X.A) (hk : k ≤ j) (h : Ev X e G R (.d (.obj a))) (hb : EvM X o G R P)
    (hP : ∀ s R', P s R' → ∃ (b : Addr) (l l1 l2 : List Ob) (fs gs : List (Str × FV)) (q : Bool), s = .d (.obj b) ∧ R' = obsR l ∧ ⟨a, some C, fs⟩ ∈ l ∧ ⟨b, some C, gs⟩ ∈ l ∧ Ct [.bob a l1, .bob b l2] (.ret (.d (.bl q))) ∧ (∀ o ∈ l1, o ∈ l) ∧ (∀ o ∈ l2, o ∈ l) ∧ Z q R') : TvM X (.Compare e [.Eq] [o] pos) G R Z := by
  intro en A σ H F Q st k'
  obtain ⟨f, fd, ps, m1, m2, m3⟩ := M.ex
  refine ⟨_, pt_cmpR (op_eqO (E := fun _ _ _ => False) m2 m1 (hr.mono hk) m3 passL) pe_t pe_t (nomark _), ?_⟩
  refine h en A σ H F _ st fun x H1 F1 g1 r1 => ?_
  have ex : x = .ref a := r1
  subst ex
  refine hb en A σ H1 F1 _ (st.grow g1) fun s R' A' y H2 F2 p st2 mm r2 ap => ?_
  obtain ⟨b, l, l1, l2, fs, gs, q, rfl, rfl, ho, ho2, hC, h1, h2, z⟩ := hP s R' p
  have ey : y = .ref b := r2
  subst ey
  obtain ⟨ads, r, _, _⟩ := id st2.rs
  obtain ⟨_, _, vs, as, rfl, _, dx, h6⟩ := r.mem ho
  obtain ⟨_, _, ws, bs, rfl, _, dy, h7⟩ := r.mem ho2
  obtain ⟨as', _, r3⟩ := r.sub h1
  obtain ⟨bs', _, r4⟩ := r.sub h2
  exact ⟨a, b, dx, dy, vs, ws, rfl, rfl, h6, h7, F2, [.bob a l1, .bob b l2], _, hC, st2.ft, ⟨⟨rfl, as', r3⟩, ⟨rfl, bs', r4⟩, trivial⟩, fun v H' F' g rr => ⟨q, rr, q, rfl, k' q _ A' H' F' z (st2.grow g) ((g1.mon.trans mm).trans g.mon)⟩⟩
/-- o.m(..), o made in the expression, the method only asks -/
theorem evm_methN {Z : D → Res → Prop} (M : Mtd X.prog X.w X.K X.mg X.base C m k Ct) (hr : Room j X.A) (hk : k ≤ j) (h : EvM X o G R P)
    (hP : ∀ s R', P s R' → ∃ (b : Addr) (l l' : List Ob) (fs : List (Str × FV)) (ss : List S) (d : D), s = .d (.obj b) ∧ R' = obsR l ∧ ⟨b, some C, fs⟩ ∈ l ∧ fs.lookup m = none ∧ EvA X (e :: es) G R' ss ∧ ss.all S.arg = true ∧ Ct (.bob b l' :: ss) (.ret (.d d)) ∧ (∀ o ∈ l', o ∈ l) ∧ Z d R')
    (hst : starEach (e :: es) X.env = (false, eval e X.env) :: starEach es X.env := by rfl) (hpl : (backTo pos (starEach es X.env)).any (·.1) = false := by rfl)
    (ht : eval (.Call (.Attribute o m apos) (e :: es) [] pos) X.env = (do
      let ov ← eval o X.env
      standAt apos.atName
      let (f, first) ← holding [ov] (getMethod ov m pl)
      callWith pos f first (backTo pos (starEach (e :: es) X.env)) (backToKw pos (keywordEach [] X.env))) := by rfl) : EvM X (.Call (.Attribute o m apos) (e :: es) [] pos) G R (fun s R' => ∃ d, s = .d d ∧ Z d R') := by
  intro en A σ H F Q st q
  obtain ⟨f, fd, ps, h1, h2, h3⟩ := M.ex
  refine ⟨_, pe_meth pe_t M.cl h2 h1 (hr.mono hk) h3 .nil passL pa_t hst hpl ht, ?_⟩
  refine h en A σ H F _ st fun s R' A' v H1 F1 p st1 m1 r1 ap => ?_
  obtain ⟨b, l, l', fs, ss, d, rfl, rfl, ho, hno, ha, hss, hC, hl, z⟩ := hP s R' p
  have ev : v = .ref b := r1
  subst ev
  obtain ⟨ads, r, _, _⟩ := id st1.rs
  obtain ⟨a1, _, vs, as, rfl, h5, h6⟩ := r.mem ho
  obtain ⟨dx, h6⟩ := h6
  refine ⟨b, dx, vs, rfl, h6, h5.none hno, ?_⟩
  refine ha en A' σ H1 F1 _ st1 fun us H2 F2 g2 r2 => ?_
  rw [List.append_nil]
  obtain ⟨as', _, r3⟩ := (ObsAt.mon g2.mon (fun a _ o z => g2.h a o z) r).sub hl
  refine ⟨F2, .bob b l' :: ss, .ret (.d d), hC, g2.t, ⟨⟨rfl, as', r3⟩, srs_here hss r2⟩, fun v H3 F3 g3 r3 => q _ _ A' v H3 F3 ⟨d, rfl, z⟩ ((st1.grow g2).grow g3) ((m1.trans g2.mon).trans g3.mon) r3 trivial⟩
/-- x is not True, x read of a deed -/
theorem tvm_isnotB {e1 e2 : Expr} {R1 R2 : Res} {p q : Bool} (ha : EvMd X e1 G R (.bl p) R1) (hb : EvMd X e2 G R1 (.bl q) R2) (hm : behindInMarks .IsNot e2 = false := by rfl) : TvMd X (.Compare e1 [.IsNot] [e2] pos) G R (p != q) R2 := tvm_cmpR (d := .bl p) (d2 := .bl q) op_isnot_bl (fun H0 x y H F Q ft hx hy k => ⟨p, q, hx, hy, k _ H F (Grow.refl ft) (by cases p <;> cases q <;> rfl)⟩) ha hb hm
end
end DL

namespace DL
open PySem PySem.Spec L2
section
variable {X : Cx} {W : Exw} {G : List S} {R R1 : Res} {O : Out} {a b c e : Expr} {es : List Expr} {rest body : List Stmt} {pos : Pos} {P Pa : Bool → Res → Prop} {Pb : S → Res → Prop} {Z : Res → Prop} {d : D}
theorem tvm_tw (h : TwM X e G R P) : TvM X e G R P := fun en A σ H F Q st k => ⟨_, pw_t.pt, h en A σ H F Q st k⟩
theorem twmm_or1 (h : TvM X a G R P) : TwM X (.BoolOp .Or [a] pos) G R P := fun en A σ H F Q st k => ⟨_, pw_or1 pt_t, h en A σ H F Q st k⟩
theorem twmm_orF (h : TvM X a G R Pa) (h' : ∀ q R1, Pa q R1 → q = false ∧ TwM X (.BoolOp .Or (b :: es) pos) G R1 P) : TwM X (.BoolOp .Or (a :: b :: es) pos) G R P := by
  intro en A σ H F Q st k
  refine ⟨_, pw_or pt_t pw_t, ?_⟩
  refine h en A σ H F _ st fun q R' A' H1 F1 p st1 m1 => ?_
  obtain ⟨rfl, h2⟩ := h' q R' p
  exact iteF (h2 en A' σ H1 F1 _ st1 fun q2 R2 A2 H2 F2 p2 st2 m2 => k q2 R2 A2 H2 F2 p2 st2 (m1.trans m2))
theorem tvmm_not (h : TvM X a G R (fun q R' => P (!q) R')) : TvM X (.UnaryOp .Not a pos) G R P := by
  intro en A σ H F Q st k
  refine ⟨_, pt_not pt_t, ?_⟩
  exact h en A σ H F _ st fun q R' A' H1 F1 p st1 m1 => k (!q) R' A' H1 F1 p st1 m1
theorem tvmm_imp (h : TvM X a G R Pa) (w : ∀ q R', Pa q R' → P q R') : TvM X a G R P := fun en A σ H F Q st k => h en A σ H F Q st fun q R' A' H1 F1 p => k q R' A' H1 F1 (w q R' p)
theorem ex_ifMM (hc : TvM X c G R P) (h : ∀ q R', P q R' → q = false ∧ Ex X W rest G R' O) : Ex X W (.If c body [] pos :: rest) G R O := fun en A σ H F D st po => by
  refine ⟨_, pss_cons (ps_if pt_t pss_t pss_t) pss_t, ?_⟩
  refine hc en A σ H F _ st fun q R' A' H' F' p st' m => ?_
  obtain ⟨rfl, h2⟩ := h q R' p
  exact iteF (ex_nil (X := X) (W := W) (O := O.thn X W rest) h2 en A' σ H' F' _ st' (po.thn m))
theorem tvmm_neD {r : Nat} (hu : Room r X.A) (hd : d.Fit) (ha : EvMd X a G R d R1) (hb : EvM X b G R1 Pb) (hP : ∀ s R', Pb s R' → s = .d d ∧ Z R') : TvM X (.Compare a [.NotEq] [b] pos) G R (fun q R' => q = false ∧ Z R') := by
  intro en A σ H F Q st k
  refine ⟨_, pt_cmpR (op_neD hu.units) pe_t pe_t (nomark _), ?_⟩
  refine ha en A σ H F _ st fun s R' A' x H1 F1 ⟨e1, e2⟩ st1 m1 r1 ap1 => ?_
  subst e1 e2
  refine hb en A' σ H1 F1 _ st1 fun s' R'' A'' y H2 F2 p st2 m2 r2 ap2 => ?_
  obtain ⟨rfl, z⟩ := hP s' R'' p
  exact (ro_neD hd hd) H1 x y H2 F2 _ st2.ft (Dn.mon m2 _ _ r1) r2 fun v H3 F3 g3 r3 => ⟨false, (by rw [D.eq_true rfl] at r3; exact r3), k _ _ A'' H3 F3 ⟨rfl, z⟩ (st2.grow g3) ((m1.trans m2).trans g3.mon)⟩
end
theorem cutD_last (ds : List D) (h : ds ≠ []) : cutD ds none (some (-1)) = ds.take (ds.length - 1) := by
  have hl : 0 < ds.length := List.length_pos_iff.mpr h
  unfold cutD
  have e1 : HT.sIx ds.length 0 none = 0 := rfl
  have e2 : HT.sIx ds.length ds.length (some (-1)) = ds.length - 1 := by
    show (if (-1 : Int) < 0 then ((-1 : Int) + (ds.length : Int)).toNat else min (-1 : Int).toNat ds.length) = _
    rw [if_pos (by decide)]
    omega
  rw [e1, e2, List.drop_zero, Nat.sub_zero]
end DL

namespace DL
open PySem PySem.Spec L2
mutual
theorem D.eqv_refl : ∀ d : D, d.pure = true → PyData.eqv d.py d.py = true
  | .non, _ => rfl
  | .bl b, _ => by cases b <;> rfl
  | .int i, _ => by show (i == i) = true; exact beq_self_eq_true i
  | .str x, _ => by show (x == x) = true; exact beq_self_eq_true x
  | .obj _, h => nomatch h
  | .tup ds, h => D.eqvs_refl ds h
  | .lst ds, h => D.eqvs_refl ds h
theorem D.eqvs_refl : ∀ ds : List D, D.pures ds = true → PyData.eqvAll (D.pys ds) (D.pys ds) = true
  | [], _ => rfl
  | d :: ds, h => by
    obtain ⟨h1, h2⟩ := Bool.and_eq_true_iff.mp (show (d.pure && D.pures ds) = true from h)
    show (PyData.eqv d.py d.py && PyData.eqvAll (D.pys ds) (D.pys ds)) = true
    rw [D.eqv_refl d h1, D.eqvs_refl ds h2]
    rfl
end
/-- fit to be compared with itself -/
structure D.Sh (d : D) : Prop where
  pu : d.pure = true
  sh : ∃ n, n ≤ 64 ∧ d.shp n = true
theorem pures_all : ∀ {l : List D}, (∀ x ∈ l, x.pure = true) → D.pures l = true
  | [], _ => rfl
  | d :: l, h => by
    show (d.pure && D.pures l) = true
    rw [h d List.mem_cons_self, pures_all fun x hx => h x (List.mem_cons_of_mem _ hx)]
    rfl
/-- at most n deep and pure -/
def D.Sp (n : Nat) (d : D) : Prop := d.pure = true ∧ d.shp n = true
theorem D.Sp.sh {n : Nat} {d : D} (h : D.Sp n d) (hn : n ≤ 64) : d.Sh := ⟨h.1, n, hn, h.2⟩
theorem sp_tup {n : Nat} {l : List D} (h : ∀ x ∈ l, D.Sp n x) : D.Sp (n + 1) (.tup l) := ⟨pures_all fun x hx => (h x hx).1, tup_shp fun x hx => (h x hx).2⟩
theorem sp_lst {n : Nat} {l : List D} (h : ∀ x ∈ l, D.Sp n x) : D.Sp (n + 1) (.lst l) := ⟨pures_all fun x hx => (h x hx).1, shps_all fun x hx => (h x hx).2⟩
theorem sp_str {x : Str} (h : okS x) (n : Nat) : D.Sp n (.str x) := ⟨rfl, str_shp h n⟩
theorem sp_int (i : Int) (n : Nat) : D.Sp n (.int i) := ⟨rfl, by cases n <;> rfl⟩
theorem sp_bl (b : Bool) (n : Nat) : D.Sp n (.bl b) := ⟨rfl, by cases n <;> rfl⟩
theorem sp_rat (r : Rat) (n : Nat) : D.Sp (n + 1) (ratD r) := ⟨rfl, ratD_shp r n⟩
theorem all1 {p : D → Prop} {a : D} (h : p a) : ∀ x ∈ [a], p x := fun x hx => by rw [List.mem_singleton.mp hx]; exact h
theorem all_cons {p : D → Prop} {a : D} {l : List D} (h : p a) (hl : ∀ x ∈ l, p x) : ∀ x ∈ a :: l, p x := fun x hx => (List.mem_cons.mp hx).elim (fun z => z ▸ h) (hl x)
theorem all_nil {p : D → Prop} : ∀ x ∈ ([] : List D), p x := fun x hx => nomatch hx
section
variable {X : Cx} {G : List S} {R R1 R2 : Res} {a b : Expr} {pos : Pos} {d : D} {s1 s2 : S} {r : Nat}
theorem ro_eqR {K : PySem.W.Frag} (hd : d.Sh) (h1 : s1.asD = some d) (h2 : s2.asD = some d) : RO K (rEqD K) s1 s2 (.d (.bl true)) := fun H0 x y H F Q ft hx hy k => by
  obtain ⟨n, e1, e2⟩ := hd.sh
  exact ⟨d.py, d.py, sr_dp h1 hd.pu hx, sr_dp h2 hd.pu hy, D.shaped e2 e1, D.shaped e2 e1, k _ H F (Grow.refl ft) (by rw [D.eqv_refl d hd.pu]; rfl)⟩
theorem ro_neR {K : PySem.W.Frag} (hd : d.Sh) (h1 : s1.asD = some d) (h2 : s2.asD = some d) : RO K (rNeD K) s1 s2 (.d (.bl false)) := fun H0 x y H F Q ft hx hy k => by
  obtain ⟨n, e1, e2⟩ := hd.sh
  exact ⟨d.py, d.py, sr_dp h1 hd.pu hx, sr_dp h2 hd.pu hy, D.shaped e2 e1, D.shaped e2 e1, k _ H F (Grow.refl ft) (by rw [D.eqv_refl d hd.pu]; rfl)⟩
/-- both are the same data (truth values within, too) -/
theorem tv_neR (hu : Room r X.A) (hd : d.Sh) (ha : Ev X a G R s1) (hb : Ev X b G R s2) (h1 : s1.asD = some d := by rfl) (h2 : s2.asD = some d := by rfl) : Tv X (.Compare a [.NotEq] [b] pos) G R false := tv_cmpR (op_neD hu.units) (ro_neR hd h1 h2) ha hb (nomark _)
theorem tv_eqR (hu : Room r X.A) (hd : d.Sh) (ha : Ev X a G R s1) (hb : Ev X b G R s2) (h1 : s1.asD = some d := by rfl) (h2 : s2.asD = some d := by rfl) : Tv X (.Compare a [.Eq] [b] pos) G R true := tv_cmpR (op_eqD hu.units) (ro_eqR hd h1 h2) ha hb (nomark _)
end
theorem cmpR_le {a b : Rat} : cmpR a b ≤ 0 ↔ a ≤ b := by rw [← Rat.not_lt, ← cmpR_gt]; omega
theorem cmpR_ge {a b : Rat} : 0 ≤ cmpR a b ↔ b ≤ a := by rw [← Rat.not_lt, ← cmpR_lt]; omega
/-! ### scenes -/
structure Sh where
  nm : Str
  clip : Clip
  prop : Str
  cue : Str
abbrev shD (s : Sh) : D := .tup [.str s.nm, clipD s.clip, .str s.prop, .str s.cue]
abbrev scF (b : Addr) (shs : List Sh) : List (Str × FV) := [("_book", .d (.obj b)), ("_shows", .own (shs.map shD))]
abbrev scO (a C b : Addr) (shs : List Sh) : Ob := ⟨a, some C, scF b shs⟩
abbrev scFl : List Str := ["_book", "_shows"]
/-! ### questions -/
abbrev spanQ (f : Fc) : D := .tup [.str "span", fcD f]
abbrev valQ (nm moment : Str) (lo hi : Rat) : D := .tup [.str "value", .str nm, .str moment, ratD lo, ratD hi]
theorem unkF_none {b : BkS} {x y : Str} (h : unkF b x y = none) : x ∈ b.nm ∧ y ∈ b.nm := by
  unfold unkF at h
  split at h
  · assumption
  · cases h
theorem unkF_of {b : BkS} {x y : Str} (hx : x ∈ b.nm) (hy : y ∈ b.nm) : unkF b x y = none := by unfold unkF; rw [if_pos ⟨hx, hy⟩]
end DL

namespace DL
open PySem PySem.Spec L2
def lfV : Value → Option Leaf
  | .none => some .none
  | .bool b => some (.num (if b = true then 1 else 0))
  | _ => none
def lfD : D → Option Leaf
  | .non => some .none
  | .bl b => some (.num (if b = true then 1 else 0))
  | _ => none
def hashB : Leaf → Option Int
  | .none => some (reduceHash 0xFCA86420)
  | .num i => some (hashInt i)
  | .text _ => none
theorem lfV_is {v : Value} {k : Leaf} (h : lfV v = some k) : Leaf.isOf k v = true := by
  cases v <;> first | (cases h; done) | skip
  · cases h; rfl
  · cases h; exact decide_eq_true rfl
theorem hashB_eq {k : Leaf} {i : Int} (h : hashB k = some i) (w : World) : k.key.hash w = i := by
  cases k <;> first | (cases h; done) | exact Option.some.inj h
def entB (e : DictEntry) : Bool := match lfV e.key with
  | some k => decide (hashB k = some e.hash)
  | none => false
theorem entB_ok {e : DictEntry} (h : entB e = true) : ∃ k, lfV e.key = some k ∧ hashB k = some e.hash := by
  unfold entB at h
  cases q : lfV e.key with
  | none => rw [q] at h; cases h
  | some k => rw [q] at h; exact ⟨k, rfl, of_decide_eq_true h⟩
def strB (o : Option Value) (x : Str) : Bool := match o with
  | some (.str y _) => decide (y = x)
  | _ => false
theorem strB_ok {o : Option Value} {x : Str} (h : strB o x = true) : ∃ t, o = some (.str x t) := by
  unfold strB at h
  split at h
  · next y t => exact ⟨t, by rw [of_decide_eq_true h]⟩
  · cases h
def wdB (K : PySem.W.Frag) (x : Str) (tab : List (Leaf × Str)) : Bool := match K.lookup (He.ga K x) with
  | some ⟨.type c, none, .dict es _, sl⟩ => decide (c = "dict") && (sl.toList.isEmpty && (es.toList.all entB && tab.all fun p => strB (findBy Leaf.isOf es p.1) p.2))
  | _ => false
/-- the dict at the name x -/
structure WdC (P : Program) (w : World) (K : PySem.W.Frag) (mg : Str → Option Value) (x : Str) (tab : List (Leaf × Str)) : Prop where
  ex : ∃ d, mg x = some (.ref d) ∧ ∀ h : Heap, K.In h → ∃ g, h.MapOf (leafKind P w) d g ∧ ∀ p ∈ tab, ∃ t, g p.1 = some (.str p.2 t)
theorem wd_ok {P : Program} {w : World} {K : PySem.W.Frag} {mg : Str → Option Value} {x : Str} {tab : List (Leaf × Str)} (hg : mg x = some (.ref (He.ga K x))) (c : wdB K x tab = true) : WdC P w K mg x tab := by
  refine ⟨He.ga K x, hg, fun h X => ?_⟩
  unfold wdB at c
  split at c
  · next cn es ep sl lk =>
    obtain ⟨c1, c⟩ := Bool.and_eq_true_iff.mp c
    obtain ⟨c2, c⟩ := Bool.and_eq_true_iff.mp c
    obtain ⟨c3, c4⟩ := Bool.and_eq_true_iff.mp c
    have e1 : cn = "dict" := of_decide_eq_true c1
    subst e1
    have e2 : sl = #[] := by
      have := List.isEmpty_iff.mp c2
      exact Array.toList_inj.mp (by rw [this])
    subst e2
    refine ⟨fun k => findBy Leaf.isOf es k, ⟨_, es, ep, X _ _ lk, ⟨rfl, rfl, rfl⟩, rfl, fun e he => ?_, fun k => rfl⟩, fun p hp => strB_ok (List.all_eq_true.mp c4 p hp)⟩
    obtain ⟨k, h1, h2⟩ := entB_ok (List.all_eq_true.mp c3 e (Array.mem_toList_iff.mpr he))
    exact ⟨k, lfV_is h1, (hashB_eq h2 w).symm⟩
  · cases c
theorem lfD_is {K : PySem.W.Frag} {F : Fz} {H : Hp} {d : D} {y : V} {u : Value} {k : Leaf} (h : lfD d = some k) (hy : Dn K F H d y) (r : RelV y u) : Leaf.isOf k u = true := by
  cases d <;> first | (cases h; done) | skip
  · cases h
    have e : y = V.non := hy
    subst e
    have e2 : u = Value.none := r
    subst e2
    rfl
  · next b =>
    cases h
    have e : y = V.bl b := hy
    subst e
    have e2 : u = Value.bool b := r
    subst e2
    exact decide_eq_true rfl
def tWd (ti : TE) (s : Str) (C : V → Hp → Prop) : TE := fun σ H Q => ti σ H fun y H1 => C y H1 ∧ Q (.str s) H1
variable {X : Cx} {G : List S} {R : Res} {i : Expr} {pos p1 : Pos} {d : D} {x s : Str} {k : Leaf} {tab : List (Leaf × Str)}
theorem pe_wd {ti : TE} (T : WdC X.prog X.w X.K X.mg x tab) (hi : PE X i ti) (hk : (k, s) ∈ tab) (hg : Gl X x) (hd : (x == ("__debug__" : Str)) = false) (hs : NoSl i) :
    PE X (.Subscript (.Name x p1) i pos) (tWd ti s fun y _ => ∀ u, RelV y u → Leaf.isOf k u = true) := by
  obtain ⟨a, ha, hm⟩ := T.ex
  refine ⟨fun pins sh σ H Q I h => ?_⟩
  refine subD_of PySem.F.slot_dict_getitem.lookup hs (ld_glob I hg ha (thn (hi.run pins sh σ H _ I h) fun iv s2 ⟨y, H2, I2, ry, c, q2⟩ => ?_) hd)
  obtain ⟨g, hM, hT⟩ := hm _ I2.kIn
  obtain ⟨t, ht⟩ := hT _ hk
  exact ⟨hM.typeIs, wpAny_getItem_of (c _ ry) hM ht ⟨.str s, H2, I2.tok _, ⟨t, rfl⟩, q2⟩⟩
/-- NAME[e], e a truth value or None -/
theorem ev_wd (T : WdC X.prog X.w X.K X.mg x tab) (hi : Ev X i G R (.d d)) (hd : lfD d = some k) (hk : (k, s) ∈ tab) (hg : Gl X x := by rfl) (hdb : (x == ("__debug__" : Str)) = false := by decide) (hs : NoSl i := by exact fun _ _ => rfl) : Ev X (.Subscript (.Name x p1) i pos) G R (.d (.str s)) := by
  intro en A σ H F Q st kk
  refine ⟨_, pe_wd T pe_t hk hg hdb hs, ?_⟩
  exact hi en A σ H F _ st fun y H1 F1 g1 r1 => ⟨fun u ru => lfD_is hd r1 ru, kk _ H1 F1 g1 rfl⟩
end DL

namespace DL
open PySem PySem.Spec L2
abbrev stD (s : Int × Bool) : D := .tup [.int s.1, .bl s.2]
def tB (b : Bool) : Nat := if b = true then 0 else 1
def chainF (fc : List Fc) : Str → Rat → List (Int × Bool) → Option (Str × Rat)
  | x, L, [] => some (x, L)
  | x, L, s :: r => if s.1 < 0 then none else match fc[s.1.toNat]? with
    | none => none
    | some f => if fB f (tB s.2) = x then chainF fc (fE f (tB s.2)) (L + fL f (tB s.2)) r else none
def chainO (fc : List Fc) (x y : Str) (ch : List (Int × Bool)) : Option Rat := match chainF fc x 0 ch with
  | some (z, L) => if z = y then some L else none
  | none => none
def oratD : Option Rat → D
  | some r => ratD r
  | none => .non
def ibL (l : List (Nat × Nat)) : List (Int × Bool) := l.map fun s => ((s.1 : Int), decide (s.2 = 0))
theorem chD_ib (l : List (Nat × Nat)) : chD l = .lst ((ibL l).map stD) := by unfold chD ibL; rw [List.map_map]; rfl
theorem chainF_cons (fc : List Fc) (x : Str) (L : Rat) (s : Int × Bool) (r : List (Int × Bool)) : chainF fc x L (s :: r) = if s.1 < 0 then none else match fc[s.1.toNat]? with
    | none => none
    | some f => if fB f (tB s.2) = x then chainF fc (fE f (tB s.2)) (L + fL f (tB s.2)) r else none := rfl
theorem chainF_nil (fc : List Fc) (x : Str) (L : Rat) : chainF fc x L [] = some (x, L) := rfl
theorem chainF_app (fc : List Fc) : ∀ (l r : List (Int × Bool)) (x : Str) (L : Rat), chainF fc x L (l ++ r) = match chainF fc x L l with
    | some (z, M) => chainF fc z M r
    | none => none
  | [], r, x, L => rfl
  | s :: l, r, x, L => by
    rw [List.cons_append, chainF_cons, chainF_cons]
    by_cases h : s.1 < 0
    · rw [if_pos h, if_pos h]
    · rw [if_neg h, if_neg h]
      cases fc[s.1.toNat]? with
      | none => rfl
      | some f =>
        dsimp only
        by_cases q : fB f (tB s.2) = x
        · rw [if_pos q, if_pos q]; exact chainF_app fc l r _ _
        · rw [if_neg q, if_neg q]
/-- a walk, told -/
theorem chainF_wk {fc : List Fc} {u v : Str} {L : Rat} {l : List (Nat × Nat)} (w : Wk fc u v L l) : chainF fc u 0 (ibL l) = some (v, L) := by
  induction w with
  | nil => rfl
  | @snoc v L l f s w h1 h2 h3 ih =>
    unfold ibL at ih ⊢
    rw [List.map_append, chainF_app, ih]
    dsimp only [List.map]
    rw [chainF_cons]
    have e : tB (decide (s.2 = 0)) = s.2 := by
      unfold tB
      by_cases q : s.2 = 0
      · rw [decide_eq_true q, if_pos rfl, q]
      · rw [decide_eq_false q, if_neg (fun z => nomatch z)]; omega
    rw [if_neg (by show ¬ ((s.1 : Int) < 0); omega), Int.toNat_natCast, h1]
    dsimp only
    rw [e, if_pos h3, chainF_nil]
theorem chainO_wk {fc : List Fc} {u v : Str} {L : Rat} {l : List (Nat × Nat)} (w : Wk fc u v L l) : chainO fc u v (ibL l) = some L := by
  unfold chainO
  rw [chainF_wk w]
  exact if_pos rfl
abbrev fitD (ft : List (Str × Rat)) : D := .lst (ft.map ftD)
/-- a claim with the word always or never holds -/
def sureF (w : Str) (g l lo hi : Rat) : Bool := if w = "always" then decide (g ≤ hi) && decide (lo ≤ l) else decide (g < lo) || decide (hi < l)
def holdF (fc : List Fc) (w : Str) (q : Fc) (ah ba : List (Int × Bool)) : Bool := match chainO fc q.a q.b ah with
  | none => false
  | some g => match chainO fc q.b q.a ba with
    | none => false
    | some l => sureF w g (0 - l) q.lo q.hi
/-- the two numbers of an open question about a span -/
def opN (lo : Rat) (sp : Rat × Rat) : Rat × Rat := if sp.1 < lo then (lo, sp.1) else (sp.1, sp.2)
noncomputable def ansD (bk : BkS) (q : Fc) : D := match saysF bk q.a q.b q.lo q.hi with
  | some s => .tup [.str (if s = true then "always" else "never"), spanQ q, .tup [chD (bst bk q.a q.b).2, chD (bst bk q.b q.a).2]]
  | none => .tup [.str "open", spanQ q, .tup [fitD (earlyF (tellB bk q.a q.b (opN q.lo (spanF bk q.a q.b)).1 (opN q.lo (spanF bk q.a q.b)).1)), fitD (earlyF (tellB bk q.a q.b (opN q.lo (spanF bk q.a q.b)).2 (opN q.lo (spanF bk q.a q.b)).2))]]
end DL

namespace DL
open PySem PySem.Spec L2
variable {n : Nat} {fs : List Fq} {p : Str → Rat} {b b' : BkS}
theorem early_ftN (hnm : b'.nm = nmL.take n) (hn : n ≤ 9) : earlyF b' = ftN n fun k => 0 - (bst b' (nmAt k) "start").1 := by
  unfold earlyF ftN
  rw [hnm, range_take hn, List.map_map]
  rfl
theorem LawB.fitw (h : LawB n fs p b) {i j : Nat} (hi : i < n) (hj : j < n) {d : Rat} (hd : Bd 20 d) (hl : b.fc.length < 60) (hp : b.past.length < 10000) (h1 : (spanF b (nmAt i) (nmAt j)).1 ≤ d) (h2 : d ≤ (spanF b (nmAt i) (nmAt j)).2) :
    fitF b (earlyF (tellB b (nmAt i) (nmAt j) d d)) = true ∧ tmAt (earlyF (tellB b (nmAt i) (nmAt j) d d)) (nmAt j) - tmAt (earlyF (tellB b (nmAt i) (nmAt j) d d)) (nmAt i) = d := by
  obtain ⟨p', hp1, hp2⟩ := pot_with h.bk h.pot (h.mem hi) (h.mem hj) h1 h2
  have hbk : BkC (tellB b (nmAt i) (nmAt j) d d) := h.bk.tell (h.mem hi) (h.mem hj) hd hd hl hp
  have hpot : Pot p' (tellB b (nmAt i) (nmAt j) d d).fc := fun f hf => by
    rcases List.mem_append.mp hf with z | z
    · exact hp1 f z
    · rw [List.mem_singleton.mp z]
      show d ≤ p' (nmAt j) - p' (nmAt i) ∧ p' (nmAt j) - p' (nmAt i) ≤ d
      rw [hp2]
      exact ⟨Rat.le_refl, Rat.le_refl⟩
  have hnm : (tellB b (nmAt i) (nmAt j) d d).nm = nmL.take n := h.nm
  have hfc : (tellB b (nmAt i) (nmAt j) d d).fc = b.fc ++ [⟨nmAt i, nmAt j, d, d⟩] := rfl
  have n1 := h.n1
  have h0n : 0 < n := by omega
  generalize tellB b (nmAt i) (nmAt j) d d = c at hbk hpot hnm hfc ⊢
  have mem : ∀ {k : Nat}, k < n → nmAt k ∈ c.nm := fun hk => by rw [hnm]; exact nmAt_mem hk h.n2
  rw [early_ftN hnm h.n2]
  have key : ∀ {f : Fc}, f ∈ c.fc → ∀ {a e : Nat}, a < n → e < n → f.a = nmAt a → f.b = nmAt e → f.lo ≤ (0 - (bst c (nmAt e) "start").1) - (0 - (bst c (nmAt a) "start").1) ∧ (0 - (bst c (nmAt e) "start").1) - (0 - (bst c (nmAt a) "start").1) ≤ f.hi := by
    intro f hf a e ha he ea ee
    obtain ⟨g1, g2⟩ := bst_edge hbk hpot hf
    rw [ea, ee] at g1 g2
    have t1 := bst_tri hbk hpot (mem ha) (mem he) (mem h0n)
    have t2 := bst_tri hbk hpot (mem he) (mem ha) (mem h0n)
    rw [show nmAt 0 = "start" from rfl] at t1 t2
    constructor <;> grind
  refine ⟨h.fit ?_ fun q hq => ?_, ?_⟩
  · have := bst_self hbk hpot (mem h0n)
    rw [show nmAt 0 = "start" from rfl] at this ⊢
    rw [this]
    grind
  · obtain ⟨i1, i2⟩ := h.inn q hq
    exact key (f := fcQ q) (by rw [hfc]; refine List.mem_append_left _ ?_; rw [h.fc]; exact List.mem_map_of_mem hq) i1 i2 rfl rfl
  · rw [ftN_tm h.n2 _ hj, ftN_tm h.n2 _ hi]
    obtain ⟨k1, k2⟩ := key (f := ⟨nmAt i, nmAt j, d, d⟩) (by rw [hfc]; exact List.mem_append_right _ (List.mem_singleton.mpr rfl)) hi hj rfl rfl
    dsimp only at k1 k2
    grind
theorem nx_ne {x m n : Nat} (hx : x < n) (hm : m < n - 1) : (x + 1 + m) % n ≠ x := by
  rcases Nat.lt_or_ge (x + 1 + m) n with h | h
  · rw [Nat.mod_eq_of_lt h]; omega
  · rw [Nat.mod_eq_sub_mod h, Nat.mod_eq_of_lt (by omega)]; omega
end DL

namespace DL
open PySem PySem.Spec L2
/-! ### quadratics -/
theorem rlt_or_le (a b : Rat) : a < b ∨ b ≤ a := by rw [← Rat.not_lt]; exact Classical.em _
def Mono (h : Rat → Rat) (l x r : Rat) : Prop := (h l ≤ h x ∧ h x ≤ h r) ∨ (h r ≤ h x ∧ h x ≤ h l)
theorem mul_nn {a b : Rat} (ha : 0 ≤ a) (hb : 0 ≤ b) : 0 ≤ a * b := Rat.mul_nonneg ha hb
theorem mul_np {a b : Rat} (ha : 0 ≤ a) (hb : b ≤ 0) : a * b ≤ 0 := by
  have := Rat.mul_nonneg ha (show 0 ≤ 0 - b by grind)
  grind
theorem quad_diff (p : Pc) (u v : Rat) : valIn p v - valIn p u = (v - u) * (p.b + p.c * (u + v)) := by unfold valIn; grind
theorem quad_up {p : Pc} {u v : Rat} (h : u ≤ v) (hs : 0 ≤ p.b + p.c * (u + v)) : valIn p u ≤ valIn p v := by
  have := mul_nn (show 0 ≤ v - u by grind) hs
  rw [← quad_diff] at this
  grind
theorem quad_dn {p : Pc} {u v : Rat} (h : u ≤ v) (hs : p.b + p.c * (u + v) ≤ 0) : valIn p v ≤ valIn p u := by
  have := mul_np (show 0 ≤ v - u by grind) hs
  rw [← quad_diff] at this
  grind
/-- where the slope is 0 -/
theorem zero_in {b c m1 m2 : Rat} (h : m1 < m2) (h1 : 0 < b + c * m1) (h2 : b + c * m2 < 0) : ∃ z, m1 < z ∧ z < m2 ∧ b + c * z = 0 ∧ c ≠ 0 := by
  have hc : c < 0 := by
    rcases rlt_or_le c 0 with z | z
    · exact z
    · have := mul_nn z (show 0 ≤ m2 - m1 by grind)
      grind
  have hc0 : c ≠ 0 := by grind
  have hz : b + c * ((0 - b) / c) = 0 := by grind
  refine ⟨(0 - b) / c, ?_, ?_, hz, hc0⟩
  · rcases rlt_or_le m1 ((0 - b) / c) with y | y
    · exact y
    · have := mul_nn (show 0 ≤ 0 - c by grind) (show 0 ≤ m1 - (0 - b) / c by grind)
      grind
  · rcases rlt_or_le ((0 - b) / c) m2 with y | y
    · exact y
    · have := mul_nn (show 0 ≤ 0 - c by grind) (show 0 ≤ (0 - b) / c - m2 by grind)
      grind
theorem zero_in' {b c m1 m2 : Rat} (h : m1 < m2) (h1 : b + c * m1 < 0) (h2 : 0 < b + c * m2) : ∃ z, m1 < z ∧ z < m2 ∧ b + c * z = 0 ∧ c ≠ 0 := by
  obtain ⟨z, e1, e2, e3, e4⟩ := zero_in (b := 0 - b) (c := 0 - c) h (by grind) (by grind)
  exact ⟨z, e1, e2, by grind, by grind⟩
theorem quad_mono {p : Pc} {l x r : Rat} (h1 : l < x) (h2 : x < r) (hn : ∀ z, l < z → z < r → p.c ≠ 0 → p.b + 2 * p.c * z ≠ 0) : Mono (valIn p) l x r := by
  have key : ∀ z, l < z → z < r → (p.c ≠ 0 → p.b + 2 * p.c * z ≠ 0) := hn
  rcases rlt_or_le (p.b + p.c * (l + x)) 0 with a | a
  · rcases rlt_or_le 0 (p.b + p.c * (x + r)) with b | b
    · exfalso
      obtain ⟨z, e1, e2, e3, e4⟩ := zero_in' (show l + x < x + r by grind) a b
      exact hn (z / 2) (by grind) (by grind) e4 (by grind)
    · exact .inr ⟨quad_dn (Rat.le_of_lt h2) b, quad_dn (Rat.le_of_lt h1) (Rat.le_of_lt a)⟩
  · rcases rlt_or_le (p.b + p.c * (x + r)) 0 with b | b
    · by_cases a0 : p.b + p.c * (l + x) = 0
      · -- flat up to x in the middle: decreasing behind
        exact .inr ⟨quad_dn (Rat.le_of_lt h2) (Rat.le_of_lt b), quad_dn (Rat.le_of_lt h1) (by grind)⟩
      · exfalso
        obtain ⟨z, e1, e2, e3, e4⟩ := zero_in (show l + x < x + r by grind) (show 0 < p.b + p.c * (l + x) by grind) b
        exact hn (z / 2) (by grind) (by grind) e4 (by grind)
    · exact .inl ⟨quad_up (Rat.le_of_lt h1) a, quad_up (Rat.le_of_lt h2) b⟩
/-! ### turning places -/
def turnP (p : Pc) : Option Rat := if p.c = 0 then none else if 0 < (0 - p.b) / (2 * p.c) ∧ (0 - p.b) / (2 * p.c) < p.l then some ((0 - p.b) / (2 * p.c)) else none
theorem turnP_of {p : Pc} {z : Rat} (hc : p.c ≠ 0) (hz : p.b + 2 * p.c * z = 0) (h0 : 0 < z) (h1 : z < p.l) : turnP p = some z := by
  have e : (0 - p.b) / (2 * p.c) = z := by grind
  unfold turnP
  rw [if_neg hc, e, if_pos ⟨h0, h1⟩]
theorem turnP_some {p : Pc} {z : Rat} (h : turnP p = some z) : p.c ≠ 0 ∧ p.b + 2 * p.c * z = 0 ∧ 0 < z ∧ z < p.l := by
  unfold turnP at h
  split at h
  · cases h
  · next hc =>
    split at h
    · next hz =>
      cases h
      exact ⟨hc, by grind, hz.1, hz.2⟩
    · cases h
def turnsT : Rat → List Pc → List Rat
  | _, [] => []
  | s, p :: t => (match turnP p with | some u => [s + u] | none => []) ++ turnsT (s + p.l) t
theorem turns_head {s : Rat} {p : Pc} {t : List Pc} {u : Rat} (h : turnP p = some u) : s + u ∈ turnsT s (p :: t) := by
  unfold turnsT
  rw [h]
  exact List.mem_append_left _ (List.mem_singleton.mpr rfl)
theorem turns_tail {s : Rat} {p : Pc} {t : List Pc} {x : Rat} (h : x ∈ turnsT (s + p.l) t) : x ∈ turnsT s (p :: t) := List.mem_append_right _ h
/-- between two places where no pieces meet one piece tells the values -/
theorem piece_of : ∀ (t : List Pc) (s l r : Rat), (∀ p ∈ t, 0 < p.l) → Cont t → l < r → s ≤ l → r ≤ s + tlen t → (∀ k, k ≤ t.length → ¬ (l < s + off t k ∧ s + off t k < r)) →
    ∃ p s', p ∈ t ∧ s' ≤ l ∧ r ≤ s' + p.l ∧ (∀ y, l ≤ y → y ≤ r → valF s y t = valIn p (y - s')) ∧ (∀ u, turnP p = some u → s' + u ∈ turnsT s t) ∧ ∃ k, k < t.length ∧ s' = s + off t k
  | [], s, l, r, _, _, h1, h2, h3, _ => by rw [tlen_nil] at h3; grind
  | p :: t, s, l, r, hp, hc, h1, h2, h3, hj => by
    rcases rlt_or_le (s + p.l) r with z | z
    · have hl : s + p.l ≤ l := by
        have := hj 1 (by rw [List.length_cons]; omega)
        have e : off (p :: t) 1 = p.l := by show p.l + off t 0 = p.l; rw [off_zero]; grind
        rw [e] at this
        rcases rlt_or_le l (s + p.l) with y | y
        · exact absurd ⟨y, z⟩ this
        · exact y
      have t0 : t ≠ [] := fun e => by subst e; rw [tlen_cons, tlen_nil] at h3; grind
      have hc' : Cont t := by
        cases t with
        | nil => exact absurd rfl t0
        | cons q t' => exact hc.2
      obtain ⟨q, s', m1, m2, m3, m4, m5, k, m6, m7⟩ := piece_of t (s + p.l) l r (fun q hq => hp q (List.mem_cons_of_mem _ hq)) hc' h1 hl (by rw [tlen_cons] at h3; grind) fun k hk => by
        have := hj (k + 1) (by rw [List.length_cons]; omega)
        have e : off (p :: t) (k + 1) = p.l + off t k := rfl
        rw [e] at this
        intro y
        exact this ⟨by grind, by grind⟩
      refine ⟨q, s', List.mem_cons_of_mem _ m1, m2, m3, fun y y1 y2 => ?_, fun u hu => turns_tail (m5 u hu), k + 1, by rw [List.length_cons]; omega, by rw [m7]; show s + p.l + off t k = s + (p.l + off t k); grind⟩
      rcases rlt_or_le (s + p.l) y with w | w
      · rw [valF_past t0 w]; exact m4 y y1 y2
      · have e : y = s + p.l := by grind
        rw [← m4 y y1 y2, valF_in w, e]
        cases t with
        | nil => exact absurd rfl t0
        | cons q t' =>
          rw [valF_zero (v := q.a) (cont_cn hc.2) (fun q hq => hp q (List.mem_cons_of_mem _ hq)) t0, hc.1]
          congr 1
          grind
    · refine ⟨p, s, List.mem_cons_self, h2, z, fun y y1 y2 => valF_in (by grind), fun u hu => turns_head hu, 0, by rw [List.length_cons]; omega, by rw [off_zero]; grind⟩
/-! ### covers -/
def clR (L x : Rat) : Rat := if x < 0 then 0 else if L < x then L else x
def hatF (t : List Pc) (L x : Rat) : Rat := valF 0 (clR L x) t
theorem clR_rng {L x : Rat} (h : 0 ≤ L) : 0 ≤ clR L x ∧ clR L x ≤ L := by
  unfold clR
  split
  · exact ⟨Rat.le_refl, h⟩
  · split
    · exact ⟨h, Rat.le_refl⟩
    · constructor <;> grind
theorem clR_in {L x : Rat} (h1 : 0 ≤ x) (h2 : x ≤ L) : clR L x = x := by unfold clR; rw [if_neg (by grind), if_neg (by grind)]
theorem clR_lo {L x : Rat} (hL : 0 ≤ L) (h : x ≤ 0) : clR L x = 0 := by
  unfold clR
  by_cases z : x < 0
  · rw [if_pos z]
  · rw [if_neg z, if_neg (by grind)]; grind
theorem clR_hi {L x : Rat} (hL : 0 ≤ L) (h : L ≤ x) : clR L x = L := by
  unfold clR
  rw [if_neg (by grind)]
  by_cases z : L < x
  · rw [if_pos z]
  · rw [if_neg z]; grind
theorem last_le (lo x : Rat) (hx : lo ≤ x) : ∀ C : List Rat, ∃ l, (l = lo ∨ l ∈ C) ∧ lo ≤ l ∧ l ≤ x ∧ ∀ c ∈ C, ¬ (l < c ∧ c ≤ x)
  | [] => ⟨lo, .inl rfl, Rat.le_refl, hx, fun c hc => nomatch hc⟩
  | c :: C => by
    obtain ⟨l, h1, h2, h3, h4⟩ := last_le lo x hx C
    by_cases h : l < c ∧ c ≤ x
    · refine ⟨c, .inr List.mem_cons_self, by grind, h.2, fun d hd => ?_⟩
      rcases List.mem_cons.mp hd with rfl | hd
      · grind
      · have := h4 d hd; grind
    · refine ⟨l, h1.imp id (List.mem_cons_of_mem _), h2, h3, fun d hd => ?_⟩
      rcases List.mem_cons.mp hd with rfl | hd
      · exact h
      · exact h4 d hd
theorem first_ge (hi x : Rat) (hx : x ≤ hi) : ∀ C : List Rat, ∃ r, (r = hi ∨ r ∈ C) ∧ r ≤ hi ∧ x ≤ r ∧ ∀ c ∈ C, ¬ (x ≤ c ∧ c < r)
  | [] => ⟨hi, .inl rfl, Rat.le_refl, hx, fun c hc => nomatch hc⟩
  | c :: C => by
    obtain ⟨r, h1, h2, h3, h4⟩ := first_ge hi x hx C
    by_cases h : x ≤ c ∧ c < r
    · refine ⟨c, .inr List.mem_cons_self, by grind, h.1, fun d hd => ?_⟩
      rcases List.mem_cons.mp hd with rfl | hd
      · grind
      · have := h4 d hd; grind
    · refine ⟨r, h1.imp id (List.mem_cons_of_mem _), h2, h3, fun d hd => ?_⟩
      rcases List.mem_cons.mp hd with rfl | hd
      · exact h
      · exact h4 d hd
/-- the critical places of a track -/
def critT (t : List Pc) (L : Rat) : List Rat := 0 :: L :: (joints t ++ turnsT 0 t)
theorem crit_joint {t : List Pc} {L : Rat} {k : Nat} (h : k ≤ t.length) : off t k ∈ critT t L := List.mem_cons_of_mem _ (List.mem_cons_of_mem _ (List.mem_append_left _ (List.mem_map.mpr ⟨k, List.mem_range.mpr (by omega), rfl⟩)))
theorem crit_turn {t : List Pc} {L x : Rat} (h : x ∈ turnsT 0 t) : x ∈ critT t L := List.mem_cons_of_mem _ (List.mem_cons_of_mem _ (List.mem_append_right _ h))
def Cov (h : Rat → Rat) (lo hi : Rat) (P : Rat → Prop) : Prop := ∀ x, lo ≤ x → x ≤ hi → ∃ l r, P l ∧ P r ∧ lo ≤ l ∧ l ≤ x ∧ x ≤ r ∧ r ≤ hi ∧ Mono h l x r
structure TrkOk (t : List Pc) (L : Rat) : Prop where
  pos : ∀ p ∈ t, 0 < p.l
  ne : t ≠ []
  len : tlen t = L
  cont : Cont t
theorem TrkOk.L0 {t : List Pc} {L : Rat} (h : TrkOk t L) : 0 < L := by rw [← h.len]; exact tlen_pos h.pos h.ne
/-- with no critical place between, the values go one way -/
theorem mono_crit {t : List Pc} {L l x r : Rat} (h : TrkOk t L) (h1 : l < x) (h2 : x < r) (hn : ∀ c ∈ critT t L, ¬ (l < c ∧ c < r)) : Mono (hatF t L) l x r := by
  have L0 := Rat.le_of_lt h.L0
  rcases rlt_or_le 0 r with a | a
  · have a0 : 0 ≤ l := by
      have := hn 0 List.mem_cons_self
      rcases rlt_or_le l 0 with y | y
      · exact absurd ⟨y, a⟩ this
      · exact y
    rcases rlt_or_le l L with b | b
    · have b0 : r ≤ L := by
        have := hn L (List.mem_cons_of_mem _ List.mem_cons_self)
        rcases rlt_or_le L r with y | y
        · exact absurd ⟨b, y⟩ this
        · exact y
      obtain ⟨p, s', m1, m2, m3, m4, m5, _⟩ := piece_of t 0 l r h.pos h.cont (by grind) a0 (by rw [h.len]; grind) fun k hk y => hn (off t k) (crit_joint hk) ⟨by grind, by grind⟩
      have q := quad_mono (p := p) (l := l - s') (x := x - s') (r := r - s') (by grind) (by grind) fun z z1 z2 hc hz => by
        have := m5 z (turnP_of hc hz (by grind) (by grind))
        exact hn _ (crit_turn this) ⟨by grind, by grind⟩
      have e : ∀ y, l ≤ y → y ≤ r → hatF t L y = valIn p (y - s') := fun y y1 y2 => by
        unfold hatF
        rw [clR_in (by grind) (by grind)]
        exact m4 y y1 y2
      unfold Mono at q ⊢
      rw [e l Rat.le_refl (by grind), e x (by grind) (by grind), e r (by grind) Rat.le_refl]
      exact q
    · left
      unfold hatF
      rw [clR_hi L0 b, clR_hi L0 (show L ≤ x by grind), clR_hi L0 (show L ≤ r by grind)]
      exact ⟨Rat.le_refl, Rat.le_refl⟩
  · left
    unfold hatF
    rw [clR_lo L0 a, clR_lo L0 (show x ≤ 0 by grind), clR_lo L0 (show l ≤ 0 by grind)]
    exact ⟨Rat.le_refl, Rat.le_refl⟩
theorem cov_crit {t : List Pc} {L lo hi : Rat} (h : TrkOk t L) {P : Rat → Prop} (hlo : P lo) (hhi : P hi) (hc : ∀ x ∈ critT t L, lo < x → x < hi → P x) : Cov (hatF t L) lo hi P := fun x x1 x2 => by
  obtain ⟨l, l1, l2, l3, l4⟩ := last_le lo x x1 (critT t L)
  obtain ⟨r, r1, r2, r3, r4⟩ := first_ge hi x x2 (critT t L)
  have Pl : P l := by
    rcases rlt_or_le lo l with z | z
    · rcases l1 with rfl | l1
      · exact hlo
      · rcases rlt_or_le l hi with y | y
        · exact hc l l1 z y
        · have : l = hi := by grind
          rw [this]; exact hhi
    · have : l = lo := by grind
      rw [this]; exact hlo
  have Pr : P r := by
    rcases rlt_or_le r hi with z | z
    · rcases r1 with rfl | r1
      · exact hhi
      · rcases rlt_or_le lo r with y | y
        · exact hc r r1 y z
        · have : r = lo := by grind
          rw [this]; exact hlo
    · have : r = hi := by grind
      rw [this]; exact hhi
  refine ⟨l, r, Pl, Pr, l2, l3, r3, r2, ?_⟩
  by_cases e1 : l = x
  · subst e1
    by_cases e2 : r = l
    · subst e2; exact .inl ⟨Rat.le_refl, Rat.le_refl⟩
    · rcases rlt_or_le (hatF t L r) (hatF t L l) with y | y
      · exact .inr ⟨Rat.le_of_lt y, Rat.le_refl⟩
      · exact .inl ⟨Rat.le_refl, y⟩
  · by_cases e2 : r = x
    · subst e2
      rcases rlt_or_le (hatF t L r) (hatF t L l) with y | y
      · exact .inr ⟨Rat.le_refl, Rat.le_of_lt y⟩
      · exact .inl ⟨y, Rat.le_refl⟩
    · exact mono_crit h (by grind) (by grind) fun c hc' y => by
        have q1 := l4 c hc'
        have q2 := r4 c hc'
        rcases rlt_or_le x c with w | w
        · exact q2 ⟨Rat.le_of_lt w, y.2⟩
        · exact q1 ⟨y.1, w⟩
/-! ### least and greatest -/
structure LeastOn (h : Rat → Rat) (lo hi m : Rat) : Prop where
  at_ : ∃ x, lo ≤ x ∧ x ≤ hi ∧ h x = m
  le : ∀ x, lo ≤ x → x ≤ hi → m ≤ h x
structure GreatOn (h : Rat → Rat) (lo hi m : Rat) : Prop where
  at_ : ∃ x, lo ≤ x ∧ x ≤ hi ∧ h x = m
  ge : ∀ x, lo ≤ x → x ≤ hi → h x ≤ m
theorem LeastOn.uniq {h : Rat → Rat} {lo hi m m' : Rat} (a : LeastOn h lo hi m) (b : LeastOn h lo hi m') : m = m' := by
  obtain ⟨x, x1, x2, rfl⟩ := a.at_
  obtain ⟨y, y1, y2, rfl⟩ := b.at_
  have := a.le y y1 y2
  have := b.le x x1 x2
  grind
theorem GreatOn.uniq {h : Rat → Rat} {lo hi m m' : Rat} (a : GreatOn h lo hi m) (b : GreatOn h lo hi m') : m = m' := by
  obtain ⟨x, x1, x2, rfl⟩ := a.at_
  obtain ⟨y, y1, y2, rfl⟩ := b.at_
  have := a.ge y y1 y2
  have := b.ge x x1 x2
  grind
def lsF (x : Rat) (l : List Rat) : Rat := l.foldl (fun b v => if v < b then v else b) x
def grF (x : Rat) (l : List Rat) : Rat := l.foldl (fun b v => if b < v then v else b) x
theorem lsF_ok : ∀ (l : List Rat) (x : Rat), lsF x l ∈ x :: l ∧ ∀ y ∈ x :: l, lsF x l ≤ y
  | [], x => ⟨List.mem_cons_self, fun y hy => by rw [List.mem_singleton.mp hy]; exact Rat.le_refl⟩
  | v :: l, x => by
    show lsF (if v < x then v else x) l ∈ _ ∧ ∀ y ∈ x :: v :: l, lsF (if v < x then v else x) l ≤ y
    obtain ⟨h1, h2⟩ := lsF_ok l (if v < x then v else x)
    have h0 := h2 _ List.mem_cons_self
    refine ⟨?_, fun y hy => ?_⟩
    · rcases List.mem_cons.mp h1 with e | e
      · rw [e]
        split
        · exact List.mem_cons_of_mem _ List.mem_cons_self
        · exact List.mem_cons_self
      · exact List.mem_cons_of_mem _ (List.mem_cons_of_mem _ e)
    · rcases List.mem_cons.mp hy with rfl | hy
      · split at h0 <;> grind
      · rcases List.mem_cons.mp hy with rfl | hy
        · split at h0 <;> grind
        · exact h2 y (List.mem_cons_of_mem _ hy)
theorem grF_ok : ∀ (l : List Rat) (x : Rat), grF x l ∈ x :: l ∧ ∀ y ∈ x :: l, y ≤ grF x l
  | [], x => ⟨List.mem_cons_self, fun y hy => by rw [List.mem_singleton.mp hy]; exact Rat.le_refl⟩
  | v :: l, x => by
    show grF (if x < v then v else x) l ∈ _ ∧ ∀ y ∈ x :: v :: l, y ≤ grF (if x < v then v else x) l
    obtain ⟨h1, h2⟩ := grF_ok l (if x < v then v else x)
    have h0 := h2 _ List.mem_cons_self
    refine ⟨?_, fun y hy => ?_⟩
    · rcases List.mem_cons.mp h1 with e | e
      · rw [e]
        split
        · exact List.mem_cons_of_mem _ List.mem_cons_self
        · exact List.mem_cons_self
      · exact List.mem_cons_of_mem _ (List.mem_cons_of_mem _ e)
    · rcases List.mem_cons.mp hy with rfl | hy
      · split at h0 <;> grind
      · rcases List.mem_cons.mp hy with rfl | hy
        · split at h0 <;> grind
        · exact h2 y (List.mem_cons_of_mem _ hy)
theorem cov_least {h : Rat → Rat} {lo hi : Rat} {ps : List Rat} (hc : Cov h lo hi (· ∈ ps)) (hr : ∀ x ∈ ps, lo ≤ x ∧ x ≤ hi) {x : Rat} {l : List Rat} (e : ps.map h = x :: l) : LeastOn h lo hi (lsF x l) := by
  obtain ⟨h1, h2⟩ := lsF_ok l x
  rw [← e] at h1 h2
  obtain ⟨y, hy, e2⟩ := List.mem_map.mp h1
  obtain ⟨y1, y2⟩ := hr y hy
  refine ⟨⟨y, y1, y2, e2⟩, fun z z1 z2 => ?_⟩
  obtain ⟨a, b, pa, pb, _, _, _, _, m⟩ := hc z z1 z2
  have k1 := h2 _ (List.mem_map_of_mem (f := h) pa)
  have k2 := h2 _ (List.mem_map_of_mem (f := h) pb)
  rcases m with m | m <;> grind
theorem cov_great {h : Rat → Rat} {lo hi : Rat} {ps : List Rat} (hc : Cov h lo hi (· ∈ ps)) (hr : ∀ x ∈ ps, lo ≤ x ∧ x ≤ hi) {x : Rat} {l : List Rat} (e : ps.map h = x :: l) : GreatOn h lo hi (grF x l) := by
  obtain ⟨h1, h2⟩ := grF_ok l x
  rw [← e] at h1 h2
  obtain ⟨y, hy, e2⟩ := List.mem_map.mp h1
  obtain ⟨y1, y2⟩ := hr y hy
  refine ⟨⟨y, y1, y2, e2⟩, fun z z1 z2 => ?_⟩
  obtain ⟨a, b, pa, pb, _, _, _, _, m⟩ := hc z z1 z2
  have k1 := h2 _ (List.mem_map_of_mem (f := h) pa)
  have k2 := h2 _ (List.mem_map_of_mem (f := h) pb)
  rcases m with m | m <;> grind
end DL

namespace DL
open PySem PySem.Spec L2
/-- a clip's property, as scenes need it -/
structure ClOk (c : Clip) (p : Str) : Prop where
  bd : TrB 22 80 (trkOf c.tr p)
  l12 : (trkOf c.tr p).length ≤ 12
  len : Bd 22 c.len
  ok : TrkOk (trkOf c.tr p) c.len
  nms : ∀ x ∈ c.tr, okS x.1
  nl : c.tr.length ≤ 6
  pr : okS p
theorem clR_bd {L x : Rat} {n : Nat} (h1 : Bd 22 L) (h2 : Bd n x) (hn : 22 ≤ n) : Bd n (clR L x) := by
  unfold clR
  split
  · exact Bd.zero.mono (by omega)
  · split
    · exact h1.mono hn
    · exact h2
theorem ClOk.tb {c : Clip} {p : Str} (h : ClOk c p) {x : Rat} {n : Nat} (hx : Bd n x) (hn : n ≤ 1500) : TB 22 80 n (trkOf c.tr p) x := ⟨h.bd, hx, by have := h.l12; omega, by have := h.l12; omega⟩
theorem ClOk.val {c : Clip} {p : Str} (h : ClOk c p) (x : Rat) : valAt false (trkOf c.tr p) x = valF 0 x (trkOf c.tr p) := valAt_back h.ok.cont h.ok.pos h.ok.ne
theorem hat_bd {t : List Pc} {L x : Rat} {n : Nat} (hb : TrB 22 80 t) (h12 : t.length ≤ 12) (ok : TrkOk t L) (hL : Bd 22 L) (hx : Bd n x) (hn : 22 ≤ n) : Bd (3 * 80 + 2 * (n + (1 + 23 * 12) + 1) + 2) (hatF t L x) := by
  obtain ⟨p, u, e⟩ := pieceAt_some (back := true) (t := t) (s := 0) (x := clR L x) ok.ne
  obtain ⟨hp, hu⟩ := pieceAt_bd (clR_bd hL hx hn) hb Bd.zero e
  unfold hatF valF
  rw [e]
  exact bd_valIn (hb p hp) (hu.mono (by have : 23 * t.length ≤ 23 * 12 := Nat.mul_le_mul_left _ h12; omega))
structure ShOk (s : Sh) : Prop where
  c : ClOk s.clip s.prop
  n : okS s.nm
  q : okS s.cue
def findS (shs : List Sh) (nm : Str) : Option Sh := shs.foldl (fun f s => if s.nm = nm then some s else f) none
def osD : Option Sh → D
  | some s => shD s
  | none => .non
def unshF (bk : BkS) (shs : List Sh) (nm mo : Str) : Option Str := match findS shs nm with
  | none => some "unknown show"
  | some s => if mo ∈ bk.nm ∧ s.cue ∈ bk.nm then none else some "unknown moment"
theorem findS_snoc (shs : List Sh) (s : Sh) (nm : Str) : findS (shs ++ [s]) nm = if s.nm = nm then some s else findS shs nm := by unfold findS; rw [List.foldl_append]; rfl
theorem findS_mem {shs : List Sh} {nm : Str} {s : Sh} (h : findS shs nm = some s) : s ∈ shs ∧ s.nm = nm := by
  have key : ∀ (l : List Sh) (f : Option Sh), (∀ s, f = some s → s ∈ shs ∧ s.nm = nm) → (∀ s ∈ l, s ∈ shs) → ∀ s, l.foldl (fun f s => if s.nm = nm then some s else f) f = some s → s ∈ shs ∧ s.nm = nm := by
    intro l
    induction l with
    | nil => intro f hf _ s e; exact hf s e
    | cons a l ih =>
      intro f hf hl s e
      refine ih (if a.nm = nm then some a else f) (fun s' e' => ?_) (fun s' h' => hl s' (List.mem_cons_of_mem _ h')) s e
      split at e'
      · next q => cases e'; exact ⟨hl a List.mem_cons_self, q⟩
      · exact hf s' e'
  exact key shs none (fun s e => nomatch e) (fun s h => h) s h
/-- what a scene's error tells -/
abbrev scE (eS : Addr) (w : Str) : Exn := ⟨eS, some [("what", .str w)]⟩
def askS (eS : Addr) : Option Str → S → Oc
  | some w, _ => .exc (scE eS w)
  | none, s => .ret s
def showF (bk : BkS) (shs : List Sh) (s : Sh) : Option Str :=
  if s.nm ∈ shs.map (·.nm) then some "named twice" else if s.prop ∉ s.clip.tr.map (·.1) then some "unknown property" else if s.cue ∉ bk.nm then some "unknown moment" else if 6 ≤ shs.length then some "too many shows" else none
theorem shD_inj {a b : Sh} (h : shD a = shD b) : a.nm = b.nm ∧ a.prop = b.prop ∧ a.cue = b.cue := by
  simp only [shD, D.tup.injEq, List.cons.injEq, D.str.injEq, and_true] at h
  exact ⟨h.1, h.2.2.1, h.2.2.2⟩
end DL

namespace DL
open PySem PySem.Spec L2
section
variable {X : Cx} {W : Exw} {rest : List Stmt} {G : List S} {R : Res} {O : Out} {e tg : Expr} {pos : Pos} {P : S → Res → Prop}
theorem ex_asgM (he : EvM X e G R P) (k : ∀ s R', P s R' → ∃ d G', s = .d d ∧ Tg X tg d G G' ∧ Ex X W rest G' R' O) (hs : swapsWithSole [tg] e pos.line X.env = pure false := by rfl) (hw : swappedStores [tg] e X.env = pure none := by rfl)
    (h1 : (assignEach [tg] X.env).map (·.2) = [assign tg X.env] := by rfl) : Ex X W (.Assign [tg] e pos :: rest) G R O := fun en A σ H F D st po => by
  refine ⟨_, pss_cons (ps_asg pe_t pg_t hs hw h1) pss_t, ?_⟩
  refine he en A σ H F _ st fun s R' A' v H' F' p st' m r ap => ?_
  obtain ⟨d, G', rfl, hg, kk⟩ := k s R' p
  exact hg en R' A' σ H' F' v _ st' r fun σ' st2 => kk en A' σ' H' F' D st2 (po.from m)
end
end DL

namespace DL
open PySem PySem.Spec L2
theorem ratD_eqB (a b : Rat) : D.eq (ratD a) (ratD b) = decide (a = b) := by
  by_cases h : a = b
  · rw [h, D.eq_true rfl, decide_eq_true rfl]
  · rw [D.eq_false (fun z => h (ratD_inj z)), decide_eq_false h]
theorem ratD_neB (a b : Rat) : (!D.eq (ratD a) (ratD b)) = decide (a ≠ b) := by
  rw [ratD_eqB]
  by_cases h : a = b
  · rw [decide_eq_true h, decide_eq_false (fun z => z h)]; rfl
  · rw [decide_eq_false h, decide_eq_true h]; rfl
def optD : Option Rat → D
  | some x => ratD x
  | none => .non
theorem turns_iff : ∀ {t : List Pc} {s x : Rat}, x ∈ turnsT s t ↔ ∃ k p u, t[k]? = some p ∧ turnP p = some u ∧ x = s + off t k + u
  | [], s, x => ⟨fun h => absurd h List.not_mem_nil, fun ⟨k, p, u, h, _⟩ => absurd h (by simp)⟩
  | q :: t, s, x => by
    unfold turnsT
    rw [List.mem_append, turns_iff (t := t)]
    constructor
    · rintro (h | ⟨k, p, u, h1, h2, rfl⟩)
      · cases e : turnP q with
        | none => rw [e] at h; cases h
        | some u =>
          rw [e] at h
          exact ⟨0, q, u, rfl, e, by rw [List.mem_singleton.mp h, off_zero]; grind⟩
      · exact ⟨k + 1, p, u, h1, h2, by show _ = s + (q.l + off t k) + u; grind⟩
    · rintro ⟨k, p, u, h1, h2, rfl⟩
      cases k with
      | zero =>
        left
        have : q = p := Option.some.inj h1
        rw [this, h2, off_zero]
        exact List.mem_singleton.mpr (by grind)
      | succ k =>
        right
        exact ⟨k, p, u, h1, h2, by show s + (q.l + off t k) + u = _; grind⟩
def tuAt (t : List Pc) (k : Nat) : List Rat := match t[k]? with
  | some p => (match turnP p with | some u => [off t k + u] | none => [])
  | none => []
def tpAt (t : List Pc) (k : Nat) : List Rat := (if off t k = 0 then [] else [off t k]) ++ tuAt t k
def tpsK (t : List Pc) : Nat → List Rat
  | 0 => []
  | n + 1 => tpsK t n ++ tpAt t n
def tps (t : List Pc) : List Rat := tpsK t t.length
theorem mem_tpsK {t : List Pc} {x : Rat} : ∀ {n : Nat}, x ∈ tpsK t n ↔ ∃ k, k < n ∧ x ∈ tpAt t k
  | 0 => ⟨fun h => absurd h List.not_mem_nil, fun ⟨k, h, _⟩ => absurd h (Nat.not_lt_zero _)⟩
  | n + 1 => by
    show x ∈ tpsK t n ++ tpAt t n ↔ _
    rw [List.mem_append, mem_tpsK (n := n)]
    constructor
    · rintro (⟨k, h1, h2⟩ | h)
      · exact ⟨k, by omega, h2⟩
      · exact ⟨n, by omega, h⟩
    · rintro ⟨k, h1, h2⟩
      by_cases e : k = n
      · exact .inr (e ▸ h2)
      · exact .inl ⟨k, by omega, h2⟩
theorem tuAt_len (t : List Pc) (k : Nat) : (tuAt t k).length ≤ 1 := by
  unfold tuAt
  split
  · split
    · exact Nat.le_refl _
    · exact Nat.zero_le _
  · exact Nat.zero_le _
theorem tpsK_len (t : List Pc) : ∀ n, (tpsK t n).length ≤ 2 * n
  | 0 => Nat.le_refl _
  | n + 1 => by
    have h1 := tpsK_len t n
    have h2 := tuAt_len t n
    have h3 : (if off t n = 0 then [] else [off t n]).length ≤ 1 := by split <;> first | exact Nat.le_refl _ | exact Nat.zero_le _
    show (tpsK t n ++ ((if off t n = 0 then [] else [off t n]) ++ tuAt t n)).length ≤ _
    rw [List.length_append, List.length_append]
    omega
theorem mem_tuAt {t : List Pc} {k : Nat} {x : Rat} : x ∈ tuAt t k ↔ ∃ p u, t[k]? = some p ∧ turnP p = some u ∧ x = off t k + u := by
  unfold tuAt
  cases e : t[k]? with
  | none => exact ⟨fun h => absurd h List.not_mem_nil, fun ⟨p, u, h, _⟩ => nomatch h⟩
  | some p =>
    dsimp only
    cases e2 : turnP p with
    | none => exact ⟨fun h => absurd h List.not_mem_nil, fun ⟨p', u, h, h2, _⟩ => (by cases h; rw [e2] at h2; cases h2)⟩
    | some u => exact ⟨fun h => ⟨p, u, rfl, e2, List.mem_singleton.mp h⟩, fun ⟨p', u', h, h2, h3⟩ => by cases h; rw [e2] at h2; cases h2; exact List.mem_singleton.mpr h3⟩
/-- a place between the ends is critical as the program says -/
theorem tps_iff {t : List Pc} {L x : Rat} (h : TrkOk t L) (h0 : 0 < x) (h1 : x < L) : x ∈ tps t ↔ x ∈ critT t L := by
  unfold tps
  rw [mem_tpsK]
  constructor
  · rintro ⟨k, hk, hx⟩
    rcases List.mem_append.mp hx with z | z
    · split at z
      · cases z
      · rw [List.mem_singleton.mp z]; exact crit_joint (by omega)
    · obtain ⟨p, u, e1, e2, rfl⟩ := mem_tuAt.mp z
      exact crit_turn (turns_iff.mpr ⟨k, p, u, e1, e2, by grind⟩)
  · intro hx
    rcases List.mem_cons.mp hx with z | hx
    · grind
    · rcases List.mem_cons.mp hx with z | hx
      · grind
      · rcases List.mem_append.mp hx with z | z
        · obtain ⟨k, hk, rfl⟩ := List.mem_map.mp z
          have hk := List.mem_range.mp hk
          by_cases e : k = t.length
          · exfalso
            have : off t k = L := by rw [e]; exact h.len
            grind
          · refine ⟨k, by omega, List.mem_append_left _ ?_⟩
            rw [if_neg (by grind)]
            exact List.mem_singleton.mpr rfl
        · obtain ⟨k, p, u, e1, e2, rfl⟩ := turns_iff.mp z
          have hk : k < t.length := (List.getElem?_eq_some_iff.mp e1).1
          exact ⟨k, hk, List.mem_append_right _ (mem_tuAt.mpr ⟨p, u, e1, e2, by grind⟩)⟩
theorem turnP_bd {nl na : Nat} {p : Pc} {u : Rat} (h : PcB nl na p) (e : turnP p = some u) : Bd (2 * na + 4) u := by
  have hb := h.b
  have hc := h.c
  have h1 : Bd (1 + na + 1) (0 - p.b) := Bd.sub
  have h2 : Bd (2 + na) (2 * p.c) := Bd.mul
  have h3 : Bd (1 + na + 1 + (2 + na)) ((0 - p.b) / (2 * p.c)) := @Bd.div _ _ _ _ h1 h2
  unfold turnP at e
  split at e
  · cases e
  · split at e
    · rw [← Option.some.inj e]; exact h3.mono (by omega)
    · cases e
theorem tu_bd {nl na : Nat} {t : List Pc} {k : Nat} {x : Rat} (h : TrB nl na t) (hk : k ≤ t.length) (hx : x ∈ tuAt t k) : Bd ((nl + 1) * t.length + 2 * na + 6) x := by
  obtain ⟨p, u, e1, e2, rfl⟩ := mem_tuAt.mp hx
  have b1 : Bd ((nl + 1) * k + 1) (off t k) := bd_off k fun p hp => (h p hp).l
  have b2 := turnP_bd (h p (List.mem_of_getElem? e1)) e2
  have : Bd ((nl + 1) * k + 1 + (2 * na + 4) + 1) (off t k + u) := Bd.add
  have hm : (nl + 1) * k ≤ (nl + 1) * t.length := Nat.mul_le_mul_left _ hk
  exact this.mono (by omega)
theorem tps_bd {nl na : Nat} {t : List Pc} {x : Rat} (h : TrB nl na t) (hx : x ∈ tps t) : Bd ((nl + 1) * t.length + 2 * na + 6) x := by
  obtain ⟨k, hk, hx⟩ := mem_tpsK.mp hx
  rcases List.mem_append.mp hx with z | z
  · split at z
    · cases z
    · rw [List.mem_singleton.mp z]
      have b1 : Bd ((nl + 1) * k + 1) (off t k) := bd_off k fun p hp => (h p hp).l
      have hm : (nl + 1) * k ≤ (nl + 1) * t.length := Nat.mul_le_mul_left _ (by omega)
      exact b1.mono (by omega)
  · exact tu_bd h (by omega) z
theorem up_ext : ∀ {l m : List Rat}, Up l → Up m → (∀ x, x ∈ l ↔ x ∈ m) → l = m
  | [], [], _, _, _ => rfl
  | [], b :: m, _, _, h => by have := (h b).mpr List.mem_cons_self; cases this
  | a :: l, [], _, _, h => by have := (h a).mp List.mem_cons_self; cases this
  | a :: l, b :: m, u, v, h => by
    obtain ⟨u1, u2⟩ := List.pairwise_cons.mp u
    obtain ⟨v1, v2⟩ := List.pairwise_cons.mp v
    have e : a = b := by
      rcases List.mem_cons.mp ((h a).mp List.mem_cons_self) with z | z
      · exact z
      · rcases List.mem_cons.mp ((h b).mpr List.mem_cons_self) with y | y
        · exact y.symm
        · have := u1 b y; have := v1 a z; grind
    subst e
    have : l = m := up_ext u2 v2 fun x => ⟨fun hx => by
      rcases List.mem_cons.mp ((h x).mp (List.mem_cons_of_mem _ hx)) with z | z
      · have := u1 x hx; grind
      · exact z, fun hx => by
      rcases List.mem_cons.mp ((h x).mpr (List.mem_cons_of_mem _ hx)) with z | z
      · have := v1 x hx; grind
      · exact z⟩
    rw [this]
theorem sortU_ext {l m : List Rat} (h : ∀ x, x ∈ l ↔ x ∈ m) : sortU l = sortU m := up_ext (sortU_up _) (sortU_up _) fun x => by rw [sortU_mem, sortU_mem]; exact h x
/-- the places between two that matter -/
def critB (t : List Pc) (L lo hi : Rat) : List Rat := sortU (lo :: hi :: (critT t L).filter fun x => decide (lo < x) && decide (x < hi))
theorem critB_mem {t : List Pc} {L lo hi x : Rat} : x ∈ critB t L lo hi ↔ x = lo ∨ x = hi ∨ (x ∈ critT t L ∧ lo < x ∧ x < hi) := by
  unfold critB
  rw [sortU_mem, List.mem_cons, List.mem_cons, List.mem_filter, Bool.and_eq_true, decide_eq_true_iff, decide_eq_true_iff]
theorem critB_rng {t : List Pc} {L lo hi x : Rat} (h : lo ≤ hi) (hx : x ∈ critB t L lo hi) : lo ≤ x ∧ x ≤ hi := by
  rcases critB_mem.mp hx with rfl | rfl | ⟨_, h1, h2⟩ <;> grind
theorem critB_cov {t : List Pc} {L lo hi : Rat} (h : TrkOk t L) : Cov (hatF t L) lo hi (· ∈ critB t L lo hi) :=
  cov_crit h (critB_mem.mpr (.inl rfl)) (critB_mem.mpr (.inr (.inl rfl))) fun x hx h1 h2 => critB_mem.mpr (.inr (.inr ⟨hx, h1, h2⟩))
def lsL : List Rat → Rat
  | [] => 0
  | x :: l => lsF x l
def grL : List Rat → Rat
  | [] => 0
  | x :: l => grF x l
def lstB (t : List Pc) (L lo hi : Rat) : Rat := lsL ((critB t L lo hi).map (hatF t L))
def grtB (t : List Pc) (L lo hi : Rat) : Rat := grL ((critB t L lo hi).map (hatF t L))
theorem least_L {h : Rat → Rat} {lo hi : Rat} {ps : List Rat} (hc : Cov h lo hi (· ∈ ps)) (hr : ∀ x ∈ ps, lo ≤ x ∧ x ≤ hi) (h0 : lo ∈ ps) : LeastOn h lo hi (lsL (ps.map h)) := by
  cases e : ps.map h with
  | nil => have := List.mem_map_of_mem (f := h) h0; rw [e] at this; cases this
  | cons x l => exact cov_least hc hr e
theorem great_L {h : Rat → Rat} {lo hi : Rat} {ps : List Rat} (hc : Cov h lo hi (· ∈ ps)) (hr : ∀ x ∈ ps, lo ≤ x ∧ x ≤ hi) (h0 : lo ∈ ps) : GreatOn h lo hi (grL (ps.map h)) := by
  cases e : ps.map h with
  | nil => have := List.mem_map_of_mem (f := h) h0; rw [e] at this; cases this
  | cons x l => exact cov_great hc hr e
theorem lstB_ok {t : List Pc} {L lo hi : Rat} (h : TrkOk t L) (hl : lo ≤ hi) : LeastOn (hatF t L) lo hi (lstB t L lo hi) := least_L (critB_cov h) (fun x hx => critB_rng hl hx) (critB_mem.mpr (.inl rfl))
theorem grtB_ok {t : List Pc} {L lo hi : Rat} (h : TrkOk t L) (hl : lo ≤ hi) : GreatOn (hatF t L) lo hi (grtB t L lo hi) := great_L (critB_cov h) (fun x hx => critB_rng hl hx) (critB_mem.mpr (.inl rfl))
theorem clR_mono {L a b : Rat} (h0 : 0 ≤ L) (h : a ≤ b) : clR L a ≤ clR L b := by
  unfold clR
  split <;> split <;> grind
theorem hat_clR {t : List Pc} {L : Rat} (h0 : 0 ≤ L) (x : Rat) : hatF t L (clR L x) = hatF t L x := by
  have r := clR_rng (L := L) (x := x) h0
  unfold hatF
  rw [clR_in r.1 r.2]
theorem back_in {t : List Pc} {L lo hi : Rat} (h0 : 0 ≤ L) (h : lo ≤ hi) {x : Rat} (h1 : clR L lo ≤ x) (h2 : x ≤ clR L hi) : ∃ y, lo ≤ y ∧ y ≤ hi ∧ hatF t L y = hatF t L x := by
  have r1 := clR_rng (L := L) (x := lo) h0
  have r2 := clR_rng (L := L) (x := hi) h0
  rcases rlt_or_le x lo with a | a
  · refine ⟨lo, Rat.le_refl, h, ?_⟩
    have : x = clR L lo := by
      unfold clR at h1 r1 ⊢
      split at h1 <;> rename_i z1
      · grind
      · split at h1 <;> rename_i z2
        · rw [if_neg z1, if_pos z2]; grind
        · grind
    rw [this, hat_clR h0]
  · rcases rlt_or_le hi x with b | b
    · refine ⟨hi, h, Rat.le_refl, ?_⟩
      have : x = clR L hi := by
        unfold clR at h2 r2 ⊢
        split at h2 <;> rename_i z1
        · rw [if_pos z1]; grind
        · split at h2 <;> rename_i z2
          · grind
          · grind
      rw [this, hat_clR h0]
    · exact ⟨x, a, b, rfl⟩
theorem lst_cl {t : List Pc} {L lo hi : Rat} (h : TrkOk t L) (hl : lo ≤ hi) : lstB t L (clR L lo) (clR L hi) = lstB t L lo hi := by
  have h0 := Rat.le_of_lt h.L0
  refine LeastOn.uniq (h := hatF t L) (lo := lo) (hi := hi) ?_ (lstB_ok h hl)
  obtain ⟨⟨x, x1, x2, x3⟩, le⟩ := lstB_ok h (clR_mono h0 hl)
  refine ⟨?_, fun y y1 y2 => ?_⟩
  · obtain ⟨y, y1, y2, y3⟩ := back_in (t := t) h0 hl x1 x2
    exact ⟨y, y1, y2, y3.trans x3⟩
  · rw [← hat_clR h0 y]
    exact le _ (clR_mono h0 y1) (clR_mono h0 y2)
theorem grt_cl {t : List Pc} {L lo hi : Rat} (h : TrkOk t L) (hl : lo ≤ hi) : grtB t L (clR L lo) (clR L hi) = grtB t L lo hi := by
  have h0 := Rat.le_of_lt h.L0
  refine GreatOn.uniq (h := hatF t L) (lo := lo) (hi := hi) ?_ (grtB_ok h hl)
  obtain ⟨⟨x, x1, x2, x3⟩, ge⟩ := grtB_ok h (clR_mono h0 hl)
  refine ⟨?_, fun y y1 y2 => ?_⟩
  · obtain ⟨y, y1, y2, y3⟩ := back_in (t := t) h0 hl x1 x2
    exact ⟨y, y1, y2, y3.trans x3⟩
  · rw [← hat_clR h0 y]
    exact ge _ (clR_mono h0 y1) (clR_mono h0 y2)
/-- the bounds are of a size -/
theorem hat_bd' {c : Clip} {p : Str} (h : ClOk c p) {n : Nat} {x : Rat} (hx : Bd n x) (hn : 22 ≤ n) : Bd (2 * n + 798) (hatF (trkOf c.tr p) c.len x) := (hat_bd h.bd h.l12 h.ok h.len hx hn).mono (by omega)
theorem crit_bd {c : Clip} {p : Str} (h : ClOk c p) {x : Rat} (hx : x ∈ critT (trkOf c.tr p) c.len) : Bd 442 x := by
  have hl := h.l12
  have hm : 23 * (trkOf c.tr p).length ≤ 23 * 12 := Nat.mul_le_mul_left _ hl
  rcases List.mem_cons.mp hx with rfl | hx
  · exact Bd.zero.mono (by decide)
  · rcases List.mem_cons.mp hx with rfl | hx
    · exact h.len.mono (by decide)
    · rcases List.mem_append.mp hx with z | z
      · exact (joints_bd (nl := 22) (fun p hp => (h.bd p hp).l) z).mono (by omega)
      · obtain ⟨k, q, u, e1, e2, rfl⟩ := turns_iff.mp z
        have hk : k < (trkOf c.tr p).length := (List.getElem?_eq_some_iff.mp e1).1
        have := tu_bd h.bd (Nat.le_of_lt hk) (mem_tuAt.mpr ⟨q, u, e1, e2, rfl⟩)
        rw [show (0 : Rat) + off (trkOf c.tr p) k + u = off (trkOf c.tr p) k + u by grind]
        exact this.mono (by omega)
theorem critB_bd {c : Clip} {p : Str} (h : ClOk c p) {n : Nat} {lo hi x : Rat} (h1 : Bd n lo) (h2 : Bd n hi) (hn : 442 ≤ n) (hx : x ∈ critB (trkOf c.tr p) c.len lo hi) : Bd n x := by
  rcases critB_mem.mp hx with rfl | rfl | ⟨z, _, _⟩
  · exact h1
  · exact h2
  · exact (crit_bd h z).mono hn
theorem lsL_mem {l : List Rat} (h : l ≠ []) : lsL l ∈ l := by
  cases l with
  | nil => exact absurd rfl h
  | cons x l => exact (lsF_ok l x).1
theorem grL_mem {l : List Rat} (h : l ≠ []) : grL l ∈ l := by
  cases l with
  | nil => exact absurd rfl h
  | cons x l => exact (grF_ok l x).1
theorem critB_ne (t : List Pc) (L lo hi : Rat) (h : Rat → Rat) : (critB t L lo hi).map h ≠ [] := fun z => by
  have := List.mem_map_of_mem (f := h) (critB_mem.mpr (.inl rfl) : lo ∈ critB t L lo hi)
  rw [z] at this
  cases this
theorem lstB_bd {c : Clip} {p : Str} (h : ClOk c p) {n : Nat} {lo hi : Rat} (h1 : Bd n lo) (h2 : Bd n hi) (hn : 442 ≤ n) : Bd (2 * n + 798) (lstB (trkOf c.tr p) c.len lo hi) := by
  obtain ⟨x, hx, e⟩ := List.mem_map.mp (lsL_mem (critB_ne (trkOf c.tr p) c.len lo hi (hatF (trkOf c.tr p) c.len)))
  unfold lstB
  rw [← e]
  exact hat_bd' h (critB_bd h h1 h2 hn hx) (by omega)
theorem grtB_bd {c : Clip} {p : Str} (h : ClOk c p) {n : Nat} {lo hi : Rat} (h1 : Bd n lo) (h2 : Bd n hi) (hn : 442 ≤ n) : Bd (2 * n + 798) (grtB (trkOf c.tr p) c.len lo hi) := by
  obtain ⟨x, hx, e⟩ := List.mem_map.mp (grL_mem (critB_ne (trkOf c.tr p) c.len lo hi (hatF (trkOf c.tr p) c.len)))
  unfold grtB
  rw [← e]
  exact hat_bd' h (critB_bd h h1 h2 hn hx) (by omega)
theorem critT_len (t : List Pc) (L : Rat) : (critT t L).length ≤ 3 + 2 * t.length := by
  have h1 : (joints t).length = t.length + 1 := by unfold joints; rw [List.length_map, List.length_range]
  have h2 : ∀ (t : List Pc) (s : Rat), (turnsT s t).length ≤ t.length := by
    intro t
    induction t with
    | nil => intro s; exact Nat.le_refl _
    | cons p t ih =>
      intro s
      unfold turnsT
      rw [List.length_append, List.length_cons]
      have := ih (s + p.l)
      cases turnP p with
      | none => show 0 + _ ≤ _; omega
      | some u => show 1 + _ ≤ _; omega
  have := h2 t 0
  unfold critT
  rw [List.length_cons, List.length_cons, List.length_append]
  omega
theorem critB_len (t : List Pc) (L lo hi : Rat) : (critB t L lo hi).length ≤ 5 + 2 * t.length := by
  have h1 := critT_len t L
  have h2 := List.length_filter_le (fun x => decide (lo < x) && decide (x < hi)) (critT t L)
  have h3 := sortU_len (lo :: hi :: (critT t L).filter fun x => decide (lo < x) && decide (x < hi))
  rw [List.length_cons, List.length_cons] at h3
  unfold critB
  omega
end DL

namespace DL
open PySem PySem.Spec L2
section
variable {X : Cx} {G : List S} {R : Res} {e : Expr} {a : Addr} {l : List Ob}
theorem ev_obD (h : Ev X e G R (.bob a l)) : Ev X e G R (.d (.obj a)) := by
  intro en A σ H F Q st k
  exact h en A σ H F _ st fun v H' F' g r => k v H' F' g r.1
end
theorem ftN_at (n : Nat) (t : Nat → Rat) {k : Nat} (hk : k < n) : (ftN n t)[k]? = some (nmAt k, t k) := by
  unfold ftN
  rw [List.getElem?_map, List.getElem?_range hk]
  rfl
theorem ftN_mem {n : Nat} {t : Nat → Rat} {p : Str × Rat} (h : p ∈ ftN n t) : ∃ k, k < n ∧ p = (nmAt k, t k) := by
  obtain ⟨k, hk, rfl⟩ := List.mem_map.mp h
  exact ⟨k, List.mem_range.mp hk, rfl⟩
section
variable {n : Nat} {fs : List Fq} {p : Str → Rat} {b : BkS} {t u : Nat → Rat}
/-- what a fit tells of the facts -/
theorem LawB.fit_facts (h : LawB n fs p b) (hf : fitF b (ftN n t) = true) : t 0 = 0 ∧ ∀ q ∈ fs, sixR q.2.2.1 ≤ t q.2.1 - t q.1 ∧ t q.2.1 - t q.1 ≤ sixR q.2.2.2 := by
  have n1 := h.n1
  unfold fitF at hf
  rw [Bool.and_eq_true, Bool.and_eq_true, List.all_eq_true, ftN_head (by omega)] at hf
  refine ⟨of_decide_eq_true hf.2.1, fun q hq => ?_⟩
  have h2 := hf.2.2 (fcQ q) (by rw [h.fc]; exact List.mem_map_of_mem hq)
  obtain ⟨i1, i2⟩ := h.inn q hq
  unfold trueAt fcQ at h2
  dsimp only at h2
  rw [ftN_tm h.n2 t i1, ftN_tm h.n2 t i2, Bool.and_eq_true] at h2
  exact ⟨of_decide_eq_true h2.1, of_decide_eq_true h2.2⟩
/-- between two fits are fits -/
theorem LawB.fit_mix (h : LawB n fs p b) (h1 : fitF b (ftN n t) = true) (h2 : fitF b (ftN n u) = true) {s : Rat} (s0 : 0 ≤ s) (s1 : s ≤ 1) : fitF b (ftN n fun k => t k + s * (u k + (0 - t k))) = true := by
  obtain ⟨a0, a⟩ := h.fit_facts h1
  obtain ⟨b0, b⟩ := h.fit_facts h2
  have r0 : 0 ≤ 1 - s := by grind
  refine h.fit (by rw [a0, b0]; grind) fun q hq => ?_
  obtain ⟨x1, x2⟩ := a q hq
  obtain ⟨y1, y2⟩ := b q hq
  have m1 := mul_nn r0 (show 0 ≤ (t q.2.1 - t q.1) - sixR q.2.2.1 by grind)
  have m2 := mul_nn s0 (show 0 ≤ (u q.2.1 - u q.1) - sixR q.2.2.1 by grind)
  have m3 := mul_nn r0 (show 0 ≤ sixR q.2.2.2 - (t q.2.1 - t q.1) by grind)
  have m4 := mul_nn s0 (show 0 ≤ sixR q.2.2.2 - (u q.2.1 - u q.1) by grind)
  constructor <;> grind
/-- a fit lies in every span -/
theorem LawB.fit_span (h : LawB n fs p b) (hf : fitF b (ftN n t) = true) {i j : Nat} (hi : i < n) (hj : j < n) : (spanF b (nmAt i) (nmAt j)).1 ≤ t j - t i ∧ t j - t i ≤ (spanF b (nmAt i) (nmAt j)).2 := by
  have h1 := h.fit_pot hf hi hj
  have h2 := h.fit_pot hf hj hi
  unfold spanF
  exact ⟨by grind, h1⟩
end
end DL

namespace DL
open PySem PySem.Spec L2
section
variable {prog : Program} {w : World} {A : Around} {E : Value → Shared → Prop} {s : Shared} {l : Addr}
theorem minL2_num {Q : Value → Shared → Prop} {a b : Value} (hh : A.handled = none) (hl : s.heap.IsList l #[a, b]) (ha : Flt.NumV a) (hb : Flt.NumV b)
    (h : ∀ h' tk, (∀ d o, s.heap.get? d = some o → h'.get? d = some o) → Q (if Flt.ltV b a = true then b else a) { s with heap := h', toks := tk }) :
    wpAny (model prog w) A (call (.builtin "min") [.ref l]) Q E s := by
  refine call_min_walk (iter_anyList hl fun s₂ e st hfp hlI => ?_)
  subst e
  refine ⟨_, _, _, _, _, _, _, rfl, Walks.list (A := A.in1) hh _ l hlI #[a, b], st, hfp, by simp, Flt.cmpOf_lt #[a, b] (by simp [ha, hb]), fun v h' tk hP hk => ?_⟩
  have := h h' tk (PySem.old_kept hk)
  have hv : (if Flt.ltV b a = true then b else a) = v := by
    cases h1 : Flt.ltV b a <;> simp [argBest, h1] at hP <;> simp <;> exact hP
  rw [hv] at this
  exact this
theorem maxL2_num {Q : Value → Shared → Prop} {a b : Value} (hh : A.handled = none) (hl : s.heap.IsList l #[a, b]) (ha : Flt.NumV a) (hb : Flt.NumV b)
    (h : ∀ h' tk, (∀ d o, s.heap.get? d = some o → h'.get? d = some o) → Q (if Flt.ltV a b = true then b else a) { s with heap := h', toks := tk }) :
    wpAny (model prog w) A (call (.builtin "max") [.ref l]) Q E s := by
  refine call_max_walk (iter_anyList hl fun s₂ e st hfp hlI => ?_)
  subst e
  refine ⟨_, _, _, _, _, _, _, rfl, Walks.list (A := A.in1) hh _ l hlI #[a, b], st, hfp, by simp, Flt.cmpOf_gt #[a, b] (by simp [ha, hb]), fun v h' tk hP hk => ?_⟩
  have := h h' tk (PySem.old_kept hk)
  have hv : (if Flt.ltV a b = true then b else a) = v := by
    cases h1 : Flt.ltV a b <;> simp [argBest, h1] at hP <;> simp <;> exact hP
  rw [hv] at this
  exact this
end
section
variable {X : Cx} {G : List S} {R : Res} {e : Expr} {p pos : Pos} {i j : Int}
theorem call_minL2 (hc : X.calm = true) : CallR X (.builtin "min") (fun vs H Q => ∃ (p : Addr) (i j : Int), vs = [.ref p] ∧ SqL X.K H p [.int i, .int j] ∧ Q (.int (min i j)) H) := by
  intro pins s σ H vs us Q I r h
  obtain ⟨p, i, j, rfl, hs, q⟩ := h
  obtain ⟨its, rv, hl, _⟩ := I.list hs
  rw [Vals.ref1 r]
  obtain ⟨u1, u2, rfl, r1, r2⟩ := vals2 rv
  obtain ⟨n2, n1, hl1⟩ := lt_nu r2 r1 (show nuLt (.int j) (.int i) = some (decide (j < i)) from rfl)
  refine minL2_num (I.ok.hd hc) hl.isList n1 n2 fun h' tk k => ⟨_, H, I.kept k, ?_, q⟩
  rw [hl1, show (V.int (min i j)) = (if decide (j < i) = true then V.int j else V.int i) by
    by_cases z : j < i
    · rw [if_pos (decide_eq_true z)]; congr 1; omega
    · rw [if_neg (by rw [decide_eq_false z]; decide)]; congr 1; omega]
  exact pick_nu r1 r2
theorem call_maxL2 (hc : X.calm = true) : CallR X (.builtin "max") (fun vs H Q => ∃ (p : Addr) (i j : Int), vs = [.ref p] ∧ SqL X.K H p [.int i, .int j] ∧ Q (.int (max i j)) H) := by
  intro pins s σ H vs us Q I r h
  obtain ⟨p, i, j, rfl, hs, q⟩ := h
  obtain ⟨its, rv, hl, _⟩ := I.list hs
  rw [Vals.ref1 r]
  obtain ⟨u1, u2, rfl, r1, r2⟩ := vals2 rv
  obtain ⟨n1, n2, hl1⟩ := lt_nu r1 r2 (show nuLt (.int i) (.int j) = some (decide (i < j)) from rfl)
  refine maxL2_num (I.ok.hd hc) hl.isList n1 n2 fun h' tk k => ⟨_, H, I.kept k, ?_, q⟩
  rw [hl1, show (V.int (max i j)) = (if decide (i < j) = true then V.int j else V.int i) by
    by_cases z : i < j
    · rw [if_pos (decide_eq_true z)]; congr 1; omega
    · rw [if_neg (by rw [decide_eq_false z]; decide)]; congr 1; omega]
  exact pick_nu r1 r2
theorem bor2 {K : PySem.W.Frag} {H H' : Hp} {F' : Fz} {v : V} (h : SR K (.bor [.int i, .int j]) H v H' F') : ∃ p, v = .ref p ∧ H' p = some (.lst [.int i, .int j]) := by
  obtain ⟨p, vs, rfl, h1, h2⟩ := h
  match vs, h2 with
  | [a, b], h2 =>
    obtain ⟨z1, z2, _⟩ := h2
    cases z1
    cases z2
    exact ⟨p, rfl, h1⟩
theorem ev_minL (hc : X.calm = true) (hm : X.mg "min" = none) (ha : Ev X e G R (.bor [.int i, .int j])) (hg : Gl X "min" := by rfl) (he : starEach [e] X.env = [(false, eval e X.env)] := by rfl) : Ev X (.Call (.Name "min" p) [e] [] pos) G R (.d (.int (min i j))) := by
  refine ev_callB (call_minL2 hc) hm (by decide +kernel) ?_ (eva_cons ha eva_nil he) hg (by decide) (by decide) he (by rfl)
  intro H0 xs H F Q ft h k
  obtain ⟨v, e, h'⟩ := srs1 h
  subst e
  obtain ⟨p, rfl, hp⟩ := bor2 h'
  exact ⟨p, i, j, rfl, .inl (.inl hp), k _ H F (Grow.refl ft) rfl⟩
theorem ev_maxL (hc : X.calm = true) (hm : X.mg "max" = none) (ha : Ev X e G R (.bor [.int i, .int j])) (hg : Gl X "max" := by rfl) (he : starEach [e] X.env = [(false, eval e X.env)] := by rfl) : Ev X (.Call (.Name "max" p) [e] [] pos) G R (.d (.int (max i j))) := by
  refine ev_callB (call_maxL2 hc) hm (by decide +kernel) ?_ (eva_cons ha eva_nil he) hg (by decide) (by decide) he (by rfl)
  intro H0 xs H F Q ft h k
  obtain ⟨v, e, h'⟩ := srs1 h
  subst e
  obtain ⟨p, rfl, hp⟩ := bor2 h'
  exact ⟨p, i, j, rfl, .inl (.inl hp), k _ H F (Grow.refl ft) rfl⟩
end
end DL

namespace DL
open PySem PySem.Spec L2
/-- a def of the module with the keyword-only parameter kw (default b), behind n others -/
structure FnK (P : Program) (w : World) (K : PySem.W.Frag) (mg : Str → Option Value) (base : Heap) (x : Str) (n : Nat) (kw : Str) (b : Bool) (k : Nat) (C : Ct) : Prop where
  ex : ∃ (f : Addr) (fd : FuncData) (ps : List Str), FnOk P w K mg base (L2.CX P w) k f fd ps (spD K C) ∧ mg x = some (.ref f) ∧ PySem.W.keepIn K (.ref f) = true ∧ (∃ ds, Vals [.bl b] ds ∧ Binds K fd ps ds) ∧ KBn K fd ps n [kw] (fun us ws => us ++ ws) (fun vs zs => vs ++ zs)
abbrev FnPk (K : PySem.W.Frag) (x : Str) (st : Stmt) (kw : Str) (b : Bool) (f : Addr) (fd : FuncData) : Prop := FunD K x x (defArgs st) (defBody st) (defScope st) [] [(kw, .bl b)] f fd
theorem vals_app {vs zs : List V} {us ws : List Value} (h : Vals vs us) (h2 : Vals zs ws) : Vals (vs ++ zs) (us ++ ws) := h.append h2
theorem kbn_of {K : PySem.W.Frag} {x qual : Str} {params : Arguments} {body : List Stmt} {scope : Scope} {kws : List (Str × V)} {f : Addr} {fd : FuncData} {ps : List Str} (F : FunD K x qual params body scope [] kws f fd) (n : Nat) (kw : Str)
    (h : ∀ (kV doc pm : Value) (an : Option Addr) (cdv ct : Value) (us ws : List Value), us.length = n → ws.length = 1 → bindArgs (PySem.W.fnOf x qual params body scope .none kV doc pm an cdv ct) ⟨us, [kw].zip ws⟩ = pure (ps.zip (us ++ ws))) :
    KBn K fd ps n [kw] (fun us ws => us ++ ws) (fun vs zs => vs ++ zs) := by
  obtain ⟨oc, od, dV, kV, doc, pm, an, cdv, ct, osl, rfl, lk, hcd, hD, hK⟩ := F.ex
  rcases hD with ⟨_, rfl⟩ | ⟨e, _⟩
  · exact ⟨fun s us ws _ l1 l2 => .of_eq (h kV doc pm an cdv ct us ws l1 l2), fun r1 r2 => vals_app r1 r2⟩
  · exact absurd rfl e
theorem srs_app {K : PySem.W.Frag} {H H' : Hp} {F' : Fz} {s : S} {v : V} : ∀ {ss : List S} {vs : List V}, SRs K ss H vs H' F' → SR K s H v H' F' → SRs K (ss ++ [s]) H (vs ++ [v]) H' F'
  | [], [], _, r => ⟨r, trivial⟩
  | _ :: ss, _ :: vs, h, r => ⟨h.1, srs_app h.2 r⟩
  | [], _ :: _, h, _ => h.elim
  | _ :: _, [], h, _ => h.elim
section
variable {X : Cx} {G : List S} {R : Res} {e e2 : Expr} {es : List Expr} {pos p kpos : Pos} {s : S} {ss : List S} {x kw : Str} {n k j : Nat} {b q : Bool} {C : Ct}
theorem ev_callD (f : FnK X.prog X.w X.K X.mg X.base x n kw b k C) (hr : Room j X.A) (hk : k ≤ j) (ha : EvA X (e :: es) G R ss) (h : C (ss ++ [.d (.bl b)]) (.ret s)) (hss : ss.all S.arg = true := by rfl) (hg : Gl X x := by rfl) (hdb : (x == ("__debug__" : Str)) = false := by decide)
    (he : starEach (e :: es) X.env = (false, eval e X.env) :: starEach es X.env := by rfl) (hpl : (backTo pos (starEach es X.env)).any (·.1) = false := by rfl) : Ev X (.Call (.Name x p) (e :: es) [] pos) G R s := by
  intro en A σ H F Q st q
  obtain ⟨f, fd, ps, h1, h2, h3, ⟨ds, hd, h4⟩, _⟩ := f.ex
  refine ⟨_, pe_call h1 (hr.mono hk) hg h2 h3 h4 hd passL pa_t hdb he hpl, ?_⟩
  refine ha en A σ H F _ st fun vs H1 F1 g1 r1 => ?_
  refine ⟨F1, ss ++ [.d (.bl b)], .ret s, h, g1.t, ?_, fun v H2 F2 g2 r2 => q v H2 F2 (g1.trans g2) (SR.pre g1.nn r2)⟩
  exact srs_app (srs_here hss r1) rfl
theorem ev_callK (f : FnK X.prog X.w X.K X.mg X.base x n kw b k C) (hr : Room j X.A) (hk : k ≤ j) (ha : EvA X (e :: es) G R ss) (h5 : Ev X e2 G R (.d (.bl q))) (hn : ss.length = n) (h : C (ss ++ [.d (.bl q)]) (.ret s)) (hss : ss.all S.arg = true := by rfl) (hg : Gl X x := by rfl) (hdb : (x == ("__debug__" : Str)) = false := by decide)
    (he : starEach (e :: es) X.env = (false, eval e X.env) :: starEach es X.env := by rfl)
    (hall : (backToKw pos (keywordEach [⟨some kw, e2, kpos⟩] X.env)).all (·.1.isSome) = true := by rfl) (hks : (backToKw pos (keywordEach [⟨some kw, e2, kpos⟩] X.env)).filterMap (·.1) = [kw] := by rfl)
    (hpl : ((backTo pos (starEach (e :: es) X.env)).any (·.1) || (backToKw pos (keywordEach [⟨some kw, e2, kpos⟩] X.env)).any (·.1.isNone)) = false := by rfl) : Ev X (.Call (.Name x p) (e :: es) [⟨some kw, e2, kpos⟩] pos) G R s := by
  intro en A σ H F Q st k'
  obtain ⟨f, fd, ps, h1, h2, h3, _, h4⟩ := f.ex
  refine ⟨_, pe_callN h1 (hr.mono hk) hg h2 h3 h4 passL pa_t (pk_cons pe_t pk_nil) hall hks hdb he hpl, ?_⟩
  refine ha en A σ H F _ st fun vs H1 F1 g1 r1 => ?_
  refine h5 en A σ H1 F1 _ (st.grow g1) fun v H2 F2 g2 r2 => ?_
  have e2 : v = .bl q := r2
  subst e2
  refine ⟨by rw [r1.length]; exact hn, rfl, F2, ss ++ [.d (.bl q)], .ret s, h, (g1.trans g2).t, ?_, fun v H3 F3 g3 r3 => k' v H3 F3 ((g1.trans g2).trans g3) (SR.pre (g1.trans g2).nn r3)⟩
  exact srs_app (srs_here hss (SRs.grow r1 g2)) rfl
end
end DL

namespace DL
open PySem PySem.Spec L2
section
variable {X : Cx} {G : List S} {R0 : Res} {e : Expr} {pos p : Pos} {x : Str} {C : Addr} {k j : Nat} {Ct : CtR} {P Z : S → Res → Prop}
theorem evm_mkM (M : MkC X.prog X.w X.K X.mg X.base x C k Ct) (hr : Room j X.A) (hk : k + 1 ≤ j) (he0 : EvM X e G R0 P)
    (hP : ∀ s R', P s R' → ∃ (b : Addr) (l : List Ob) (pst : Addr → Oc → List Ob → Prop), s = .d (.obj b) ∧ R' = obsR l ∧ (∀ a, Ct [.d (.obj a), .d (.obj b)] [⟨a, some C, []⟩] (pst a)) ∧ (∀ a oc l', pst a oc l' → oc = .ret (.d .non)) ∧ (∀ a l', pst a (.ret (.d .non)) l' → Z (.d (.obj a)) (obsR (l' ++ l))))
    (hg : Gl X x := by rfl) (hdb : (x == ("__debug__" : Str)) = false := by decide) (he : starEach [e] X.env = (false, eval e X.env) :: starEach [] X.env := by rfl) (hpl : (backTo pos (starEach [] X.env)).any (·.1) = false := by rfl) :
    EvM X (.Call (.Name x p) [e] [] pos) G R0 Z := by
  intro en A σ H F Q st q
  obtain ⟨f, fd, ps, h1, h2, h3⟩ := M.ex
  refine ⟨_, pe_make h2 h1 (hr.mono hk) hg M.g h3 .nil passL (pa_cons pe_t pa_t he) hdb he hpl, ?_⟩
  refine he0 en A σ H F _ st fun s R' A1 v H1 F1 hp st1 m1 r1 ap => ?_
  obtain ⟨b, l, pst, rfl, rfl, hC, hno, hZ⟩ := hP s R' hp
  refine eva_nil en A1 σ H1 F1 _ st1 fun vs H2 F2 g2 r2 => ?_
  have ev : vs = [] := List.eq_nil_of_length_eq_zero r2.length
  subst ev
  intro a dx ha hd ne
  obtain ⟨g, st'⟩ := (st1.grow g2).newOb (C := C) ha hd ne
  have r3 : SRs X.K [.d (.obj b)] (upd (upd H2 dx (.own a)) a (.ins C dx [])) [v] (upd (upd H2 dx (.own a)) a (.ins C dx [])) F2 := ⟨r1, trivial⟩
  refine call_end st' Mon.refl (fun _ h => h) (hC a) (.inl rfl) ⟨rfl, r3⟩ (fun s l' hp A' v H' F' s2 m r ap => ?_) (fun xn l' hp => nomatch (hno a _ l' hp))
  have es : s = .d .non := by have := hno a _ l' hp; cases this; rfl
  subst es
  exact ⟨r, q _ _ A' _ H' F' (hZ a l' hp) s2 (m1.trans ((g2.trans g).mon.trans m)) rfl trivial⟩
end
end DL

namespace DL
open PySem PySem.Spec L2
section
variable {X : Cx} {W : Exw} {G : List S} {R : Res} {O : Out} {e : Expr} {rest : List Stmt} {pos pos' : Pos} {a b : Int}
theorem ex_augI (i : Nat) {x : Str} (hN : X.N.Nodup) (h0 : G[i]? = some (.d (.int a))) (he : Ev X e G R (.d (.int b))) (k : Ex X W rest (G.set i (.d (.int (a + b)))) R O) (hi : X.N[i]? = some x := by rfl) (hx : Loc X.env.scope x := by first | exact Or.inl rfl | exact Or.inr rfl)
    (hf : X.fn x = true ∨ X.env.scope.names.lookup x = some .local := by first | exact .inl rfl | exact .inr rfl) : Ex X W (.AugAssign (.Name x pos') .Add e pos :: rest) G R O := fun en A σ H F D st p => by
  refine ⟨_, pss_cons (ps_aug hN hi hx pe_t ip_add hf) pss_t, ?_⟩
  obtain ⟨ow, o, h1, v, h2, h3⟩ := slot_at st h0
  subst h2
  have e1 : v = .int a := h3
  subst e1
  refine ⟨_, h1, ?_⟩
  refine he en A σ H F _ st fun w H' F' g r => ?_
  have e2 : w = .int b := r
  subst e2
  exact ⟨a, b, rfl, rfl, k en A _ H' F' D (st.put g (s := .d (.int (a + b))) rfl rfl) (p.from g.mon)⟩
end
end DL

namespace DL
open PySem PySem.Spec L2
theorem TrkOk.nrm {t : List Pc} {L : Rat} (h : TrkOk t L) : TrkOk (nrmT t) L := ⟨nrmT_pos h.pos, nrmT_ne h.ne, (nrmT_tlen t).trans h.len, cont_nrm h.cont⟩
theorem hat_nrm {t : List Pc} {L : Rat} (h : TrkOk t L) : hatF (nrmT t) L = hatF t L := funext fun x => nrmT_val (fun p hp => Rat.le_of_lt (h.pos p hp)) (clR L x)
theorem off_nrm : ∀ (t : List Pc) (p : Pc) (k : Nat), k ≤ (nrm p t).length → ∃ j, j ≤ t.length + 1 ∧ off (nrm p t) k = off (p :: t) j
  | [], p, k, h => ⟨k, h, rfl⟩
  | q :: t, p, k, h => by
    unfold nrm at h ⊢
    split at h
    · next z =>
      rw [if_pos z]
      obtain ⟨j, h1, h2⟩ := off_nrm t (joinP p q) k h
      cases j with
      | zero => exact ⟨0, Nat.zero_le _, by rw [h2, off_zero, off_zero]⟩
      | succ j =>
        refine ⟨j + 2, by rw [List.length_cons]; omega, h2.trans ?_⟩
        show (p.l + q.l) + off t j = p.l + (q.l + off t j)
        grind
    · next z =>
      rw [if_neg z]
      cases k with
      | zero => exact ⟨0, Nat.zero_le _, by rw [off_zero, off_zero]⟩
      | succ k =>
        obtain ⟨j, h1, h2⟩ := off_nrm t q k (by rw [List.length_cons] at h; omega)
        refine ⟨j + 1, by rw [List.length_cons]; omega, ?_⟩
        show p.l + off (nrm q t) k = p.l + off (q :: t) j
        rw [h2]
theorem off_nrmT {t : List Pc} {k : Nat} (h : k ≤ (nrmT t).length) : ∃ j, j ≤ t.length ∧ off (nrmT t) k = off t j := by
  cases t with
  | nil => exact ⟨k, h, rfl⟩
  | cons p t =>
    obtain ⟨j, h1, h2⟩ := off_nrm t p k h
    exact ⟨j, by rw [List.length_cons]; exact h1, h2⟩
/-- with no critical place between, two equal values say: all are equal -/
theorem const_of {t : List Pc} {L l x y r : Rat} (h : TrkOk t L) (h1 : l ≤ x) (h2 : x < y) (h3 : y ≤ r) (hn : ∀ c ∈ critT t L, ¬ (l < c ∧ c < r)) (e : hatF t L x = hatF t L y) : hatF t L l = hatF t L x := by
  have L0 := Rat.le_of_lt h.L0
  have lr : l < r := by grind
  rcases rlt_or_le 0 r with a | a
  · have a0 : 0 ≤ l := by
      have := hn 0 List.mem_cons_self
      rcases rlt_or_le l 0 with w | w
      · exact absurd ⟨w, a⟩ this
      · exact w
    rcases rlt_or_le l L with b | b
    · have b0 : r ≤ L := by
        have := hn L (List.mem_cons_of_mem _ List.mem_cons_self)
        rcases rlt_or_le L r with w | w
        · exact absurd ⟨b, w⟩ this
        · exact w
      obtain ⟨p, s', m1, m2, m3, m4, m5, _⟩ := piece_of t 0 l r h.pos h.cont lr a0 (by rw [h.len]; grind) fun k hk w => hn (off t k) (crit_joint hk) ⟨by grind, by grind⟩
      have ev : ∀ z, l ≤ z → z ≤ r → hatF t L z = valIn p (z - s') := fun z y1 y2 => by
        unfold hatF
        rw [clR_in (by grind) (by grind)]
        exact m4 z y1 y2
      rw [ev x h1 (by grind), ev y (by grind) h3] at e
      rw [ev l Rat.le_refl (by grind), ev x h1 (by grind)]
      have hd := quad_diff p (x - s') (y - s')
      have hs : p.b + p.c * ((x - s') + (y - s')) = 0 := by
        have hz : (y - s' - (x - s')) * (p.b + p.c * ((x - s') + (y - s'))) = 0 := by rw [← hd, e]; grind
        have hne : y - s' - (x - s') ≠ 0 := by grind
        rcases Rat.mul_eq_zero.mp hz with w | w
        · exact absurd w hne
        · exact w
      by_cases hc : p.c = 0
      · have hb : p.b = 0 := by rw [hc] at hs; grind
        unfold valIn
        rw [hc, hb]
        grind
      · exfalso
        have ht := m5 (((x - s') + (y - s')) / 2) (turnP_of hc (by grind) (by grind) (by grind))
        exact hn _ (crit_turn ht) ⟨by grind, by grind⟩
    · unfold hatF
      rw [clR_hi L0 b, clR_hi L0 (show L ≤ x by grind)]
  · unfold hatF
    rw [clR_lo L0 (show l ≤ 0 by grind), clR_lo L0 (show x ≤ 0 by grind)]
/-- an extreme value stands at a critical place not behind -/
theorem first_le {t : List Pc} {L lo hi m x : Rat} (h : TrkOk t L) (hm : (∀ y, lo ≤ y → y ≤ hi → m ≤ hatF t L y) ∨ (∀ y, lo ≤ y → y ≤ hi → hatF t L y ≤ m)) (x1 : lo ≤ x) (x2 : x ≤ hi) (hx : hatF t L x = m) : ∃ l, l ∈ critB t L lo hi ∧ l ≤ x ∧ hatF t L l = m := by
  by_cases ex : x ∈ critB t L lo hi
  · exact ⟨x, ex, Rat.le_refl, hx⟩
  have nlo : x ≠ lo := fun z => ex (critB_mem.mpr (.inl z))
  have nhi : x ≠ hi := fun z => ex (critB_mem.mpr (.inr (.inl z)))
  have lx : lo < x := by grind
  have xh : x < hi := by grind
  have nc : x ∉ critT t L := fun z => ex (critB_mem.mpr (.inr (.inr ⟨z, lx, xh⟩)))
  obtain ⟨l, l1, l2, l3, l4⟩ := last_le lo x x1 (critT t L)
  obtain ⟨r, r1, r2, r3, r4⟩ := first_ge hi x x2 (critT t L)
  have ll : l < x := by
    rcases rlt_or_le l x with z | z
    · exact z
    · have e : l = x := by grind
      rcases l1 with w | w
      · grind
      · rw [e] at w; exact absurd w nc
  have rr : x < r := by
    rcases rlt_or_le x r with z | z
    · exact z
    · have e : r = x := by grind
      rcases r1 with w | w
      · grind
      · rw [e] at w; exact absurd w nc
  have lm : l ∈ critB t L lo hi := by
    rcases l1 with w | w
    · exact critB_mem.mpr (.inl w)
    · by_cases e : l = lo
      · exact critB_mem.mpr (.inl e)
      · exact critB_mem.mpr (.inr (.inr ⟨w, by grind, by grind⟩))
  have hn : ∀ c ∈ critT t L, ¬ (l < c ∧ c < r) := fun c hc w => by
    rcases rlt_or_le x c with z | z
    · exact r4 c hc ⟨Rat.le_of_lt z, w.2⟩
    · exact l4 c hc ⟨w.1, z⟩
  refine ⟨l, lm, Rat.le_of_lt ll, ?_⟩
  have mo := mono_crit h ll rr hn
  have co := const_of (x := x) (y := r) h (Rat.le_of_lt ll) rr Rat.le_refl hn
  rcases hm with hm | hm
  · have m1 := hm l l2 (by grind)
    have m2 := hm r (by grind) r2
    rcases mo with ⟨g1, g2⟩ | ⟨g1, g2⟩
    · grind
    · rw [co (by grind)]; exact hx
  · have m1 := hm l l2 (by grind)
    have m2 := hm r (by grind) r2
    rcases mo with ⟨g1, g2⟩ | ⟨g1, g2⟩
    · rw [co (by grind)]; exact hx
    · grind
theorem findU_up {l : List Rat} {p : Rat → Bool} (h : Up l) {x : Rat} (e : l.find? p = some x) : x ∈ l ∧ p x = true ∧ ∀ y ∈ l, p y = true → x ≤ y := by
  induction l with
  | nil => cases e
  | cons a l ih =>
    obtain ⟨u1, u2⟩ := List.pairwise_cons.mp h
    by_cases pa : p a = true
    · rw [List.find?_cons_of_pos pa] at e
      cases e
      refine ⟨List.mem_cons_self, pa, fun y hy _ => ?_⟩
      rcases List.mem_cons.mp hy with rfl | hy
      · exact Rat.le_refl
      · exact Rat.le_of_lt (u1 y hy)
    · rw [List.find?_cons_of_neg pa] at e
      obtain ⟨i1, i2, i3⟩ := ih u2 e
      refine ⟨List.mem_cons_of_mem _ i1, i2, fun y hy hp => ?_⟩
      rcases List.mem_cons.mp hy with rfl | hy
      · exact absurd hp pa
      · exact i3 y hy hp
theorem find_same {t : List Pc} {L lo hi m : Rat} (h : TrkOk t L) (hl : lo ≤ hi) (hm : (∀ y, lo ≤ y → y ≤ hi → m ≤ hatF t L y) ∨ (∀ y, lo ≤ y → y ≤ hi → hatF t L y ≤ m)) (ha : ∃ x, lo ≤ x ∧ x ≤ hi ∧ hatF t L x = m) :
    ∃ x, (critB t L lo hi).find? (fun x => decide (hatF t L x = m)) = some x ∧ (critB (nrmT t) L lo hi).find? (fun x => decide (hatF t L x = m)) = some x ∧ x ∈ critB t L lo hi ∧ hatF t L x = m := by
  obtain ⟨x0, a1, a2, a3⟩ := ha
  have hN := h.nrm
  have hm' : (∀ y, lo ≤ y → y ≤ hi → m ≤ hatF (nrmT t) L y) ∨ (∀ y, lo ≤ y → y ≤ hi → hatF (nrmT t) L y ≤ m) := by rw [hat_nrm h]; exact hm
  have R1 := fun x x1 x2 hx => first_le (x := x) h hm x1 x2 hx
  have R2 : ∀ x, lo ≤ x → x ≤ hi → hatF t L x = m → ∃ l, l ∈ critB (nrmT t) L lo hi ∧ l ≤ x ∧ hatF t L l = m := fun x x1 x2 hx => by
    have := first_le (x := x) hN hm' x1 x2 (by rw [hat_nrm h]; exact hx)
    rw [hat_nrm h] at this
    exact this
  have U1 : Up (critB t L lo hi) := sortU_up _
  have U2 : Up (critB (nrmT t) L lo hi) := sortU_up _
  obtain ⟨l1, b1, _, b3⟩ := R1 x0 a1 a2 a3
  obtain ⟨l2, c1, _, c3⟩ := R2 x0 a1 a2 a3
  cases e1 : (critB t L lo hi).find? (fun x => decide (hatF t L x = m)) with
  | none => exact absurd (decide_eq_true b3) (List.find?_eq_none.mp e1 l1 b1)
  | some x =>
    cases e2 : (critB (nrmT t) L lo hi).find? (fun x => decide (hatF t L x = m)) with
    | none => exact absurd (decide_eq_true c3) (List.find?_eq_none.mp e2 l2 c1)
    | some y =>
      obtain ⟨f1, f2, f3⟩ := findU_up U1 e1
      obtain ⟨g1, g2, g3⟩ := findU_up U2 e2
      obtain ⟨rx1, rx2⟩ := critB_rng hl f1
      obtain ⟨ry1, ry2⟩ := critB_rng hl g1
      obtain ⟨u, u1, u2, u3⟩ := R1 y ry1 ry2 (of_decide_eq_true g2)
      obtain ⟨v, v1, v2, v3⟩ := R2 x rx1 rx2 (of_decide_eq_true f2)
      have k1 := f3 u u1 (decide_eq_true u3)
      have k2 := g3 v v1 (decide_eq_true v3)
      have e : x = y := by grind
      subst e
      exact ⟨x, rfl, rfl, f1, of_decide_eq_true f2⟩
end DL

namespace DL
open PySem PySem.Spec L2
/-- a method with the keyword-only parameter kw (default b), behind n others (self among them) -/
structure MtdK (P : Program) (w : World) (K : PySem.W.Frag) (mg : Str → Option Value) (base : Heap) (C : Addr) (m : Str) (n : Nat) (kw : Str) (b : Bool) (k : Nat) (Ct : Ct) : Prop where
  ex : ∃ (f : Addr) (fd : FuncData) (ps : List Str), FnOk P w K mg base (L2.CX P w) k f fd ps (spD K Ct) ∧ Meth K C m f ∧ (∃ ds, Vals [.bl b] ds ∧ Binds K fd ps ds) ∧ KBn K fd ps n [kw] (fun us ws => us ++ ws) (fun vs zs => vs ++ zs)
  cl : Cls K C
abbrev FnQk (K : PySem.W.Frag) (x q : Str) (st : Stmt) (kw : Str) (b : Bool) (f : Addr) (fd : FuncData) : Prop := FunD K x q (defArgs st) (defBody st) (defScope st) [] [(kw, .bl b)] f fd
section
variable {X : Cx} {CX : CXT} {k n : Nat} {f C : Addr} {fd : FuncData} {ps ks : List Str} {sp : Sp} {E : L2.St → XK} {m : Str} {pos apos : Pos} {e o : Expr} {es : List Expr} {kws : List Keyword} {ta : TE} {t tk : TA} {g : List Value → List Value → List Value} {gV : List V → List V → List V} {dvs : List V} {ds : List Value}
theorem run_fnNS {pins : List (Addr × Obj)} {σ : L2.St} {H : Hp} {s : Shared} {Q : VK} {us ws : List Value} {vs zs : List V} (F : FnOk X.prog X.w X.K X.mg X.base CX k f fd ps sp) (hr : Room k X.A) (hb : KBn X.K fd ps n ks g gV) (hx : PassesAt CX X σ (E σ))
    (I : Inv X pins σ H s) (r : Vals vs us) (rz : Vals zs ws) (l1 : vs.length = n) (l2 : zs.length = ks.length) (h : sp (gV vs zs) H Q (E σ)) : wpAny (model X.prog X.w) X.A (call (.ref f) us (ks.zip ws)) (EP X pins σ Q) X.xe s := by
  have r2 := hb.rel r rz
  refine wpAny_call (codeAny_mono (F.run X.A X.stack s H ⟨us, ks.zip ws⟩ (g us ws) (gV vs zs) Q (E σ) hr I.env0 (hb.to s us ws I.kIn (r.length.symm.trans l1) (rz.length.symm.trans l2)) r2 h) fun r s' hq => ?_)
  cases r with
  | error e => exact hx pins H s e s' I hq
  | ok fl =>
    cases fl with
    | ret u => exact I.after hq
    | next => exact False.elim hq
    | brk => exact False.elim hq
    | cont => exact False.elim hq
theorem run_fnDS {pins : List (Addr × Obj)} {σ : L2.St} {H : Hp} {s : Shared} {Q : VK} {us : List Value} {vs : List V} (F : FnOk X.prog X.w X.K X.mg X.base CX k f fd ps sp) (hr : Room k X.A) (hb : Binds X.K fd ps ds) (hd : Vals dvs ds) (hx : PassesAt CX X σ (E σ))
    (I : Inv X pins σ H s) (r : Vals vs us) (h : sp (vs ++ dvs) H Q (E σ)) : wpAny (model X.prog X.w) X.A (call (.ref f) us) (EP X pins σ Q) X.xe s := by
  have r2 : Vals (vs ++ dvs) (us ++ ds) := r.append hd
  have hl : (us ++ ds).length = ps.length := by rw [← r2.length]; exact F.len _ _ _ _ h
  refine wpAny_call (codeAny_mono (F.run X.A X.stack s H ⟨us, []⟩ (us ++ ds) (vs ++ dvs) Q (E σ) hr I.env0 (hb s us I.kIn hl) r2 h) fun r s' hq => ?_)
  cases r with
  | error e => exact hx pins H s e s' I hq
  | ok fl =>
    cases fl with
    | ret u => exact I.after hq
    | next => exact False.elim hq
    | brk => exact False.elim hq
    | cont => exact False.elim hq
def tMethN (C : Addr) (m : Str) (n l : Nat) (sp : Sp) (gV : List V → List V → List V) (E : L2.St → XK) (ta : TE) (t tk : TA) : TE := fun σ H Q => ta σ H fun x H1 => ∃ a dx fs, x = .ref a ∧ H1 a = some (.ins C dx fs) ∧ fs.lookup m = none ∧ t σ H1 fun vs H2 => tk σ H2 fun zs H3 => (x :: vs).length = n ∧ zs.length = l ∧ sp (gV (x :: vs) zs) H3 Q (E σ)
theorem pe_methN {pl : Sem Bool} (he : PE X o ta) (c : Cls X.K C) (hm : Meth X.K C m f) (F : FnOk X.prog X.w X.K X.mg X.base CX k f fd ps sp) (hr : Room k X.A) (hb : KBn X.K fd ps n ks g gV) (hx : ∀ σ, PassesAt CX X σ (E σ)) (ha : PA X (e :: es) t) (hkw : PK X kws tk)
    (hall : (backToKw pos (keywordEach kws X.env)).all (·.1.isSome) = true) (hks : (backToKw pos (keywordEach kws X.env)).filterMap (·.1) = ks)
    (hst : starEach (e :: es) X.env = (false, eval e X.env) :: starEach es X.env)
    (hpl : ((backTo pos (starEach (e :: es) X.env)).any (·.1) || (backToKw pos (keywordEach kws X.env)).any (·.1.isNone)) = false)
    (ht : eval (.Call (.Attribute o m apos) (e :: es) kws pos) X.env = (do
      let ov ← eval o X.env
      standAt apos.atName
      let (f, first) ← holding [ov] (getMethod ov m pl)
      callWith pos f first (backTo pos (starEach (e :: es) X.env)) (backToKw pos (keywordEach kws X.env)))) :
    PE X (.Call (.Attribute o m apos) (e :: es) kws pos) (tMethN C m n ks.length sp gV E ta t tk) := by
  refine ⟨fun pins s σ H Q I h => ?_⟩
  refine PySem.W.methodCall_KW (pl := pl) (thn (he.run pins s σ H _ I h) fun u s1 ⟨x, H1, I1, rx, a, dx, fs, ex, ea, l, q⟩ => ?_) ht
  subst ex
  obtain rfl : u = Value.ref a := rx
  refine getmeth_ok I1 ea c hm l ?_
  refine PySem.W.callWith_KW (first := [.ref a]) (h₀ := X.base) I.ok.mod.kin hm.kp hall (thn (ha.run pos pins s1 σ H1 _ I1 q) fun us s2 ⟨vs, H2, I2, r, q2⟩ => ?_) hpl hst
  refine thn (hkw.run pos pins s2 σ H2 _ I2 q2) fun ws s3 ⟨zs, H3, I3, rz, l1, l2, q3⟩ => ⟨I3.kIn, ?_⟩
  rw [hks]
  exact run_fnNS (us := .ref a :: us) (vs := .ref a :: vs) F hr hb (hx σ) I3 (.cons rfl r) rz l1 l2 q3
def tMethDS (C : Addr) (m : Str) (sp : Sp) (dvs : List V) (E : L2.St → XK) (ta : TE) (t : TA) : TE := fun σ H Q => ta σ H fun x H1 => ∃ a dx fs, x = .ref a ∧ H1 a = some (.ins C dx fs) ∧ fs.lookup m = none ∧ t σ H1 fun vs H2 => sp (x :: vs ++ dvs) H2 Q (E σ)
theorem pe_methDS {pl : Sem Bool} (he : PE X o ta) (c : Cls X.K C) (hm : Meth X.K C m f) (F : FnOk X.prog X.w X.K X.mg X.base CX k f fd ps sp) (hr : Room k X.A) (hb : Binds X.K fd ps ds) (hd : Vals dvs ds) (hx : ∀ σ, PassesAt CX X σ (E σ)) (ha : PA X (e :: es) t)
    (hst : starEach (e :: es) X.env = (false, eval e X.env) :: starEach es X.env) (hpl : (backTo pos (starEach es X.env)).any (·.1) = false)
    (ht : eval (.Call (.Attribute o m apos) (e :: es) [] pos) X.env = (do
      let ov ← eval o X.env
      standAt apos.atName
      let (f, first) ← holding [ov] (getMethod ov m pl)
      callWith pos f first (backTo pos (starEach (e :: es) X.env)) (backToKw pos (keywordEach [] X.env)))) :
    PE X (.Call (.Attribute o m apos) (e :: es) [] pos) (tMethDS C m sp dvs E ta t) := by
  refine ⟨fun pins s σ H Q I h => ?_⟩
  refine PySem.W.methodCall_KW (pl := pl) (thn (he.run pins s σ H _ I h) fun u s1 ⟨x, H1, I1, rx, a, dx, fs, ex, ea, l, q⟩ => ?_) ht
  subst ex
  obtain rfl : u = Value.ref a := rx
  refine getmeth_ok I1 ea c hm l ?_
  refine PySem.W.callWith_K (first := [.ref a]) (h₀ := X.base) I.ok.mod.kin hm.kp (thn (ha.run pos pins s1 σ H1 _ I1 q) fun us s2 ⟨vs, H2, I2, r, q2⟩ => ⟨I2.kIn, ?_⟩) hst hpl
  exact run_fnDS (us := .ref a :: us) (vs := .ref a :: vs) F hr hb hd (hx σ) I2 (.cons rfl r) q2
end
section
variable {X : Cx} {W : Exw} {G : List S} {R : Res} {O : Out} {e e2 o tg : Expr} {es : List Expr} {pos apos kpos : Pos} {s : S} {ss : List S} {l l' : List Ob} {a C : Addr} {fs : List (Str × FV)} {m kw : Str} {xn : Exn} {Ct : Ct} {k j n : Nat} {b q : Bool} {pl : Sem Bool}
theorem passN {X : Cx} : ∀ σ : L2.St, PassesAt (L2.CX X.prog X.w) X σ (fun _ _ _ => False) := fun _ _ _ _ _ _ _ h => passL _ _ _ _ _ _ ‹_› h
theorem ev_methD (M : MtdK X.prog X.w X.K X.mg X.base C m n kw b k Ct) (hr : Room j X.A) (hk : k ≤ j) (h : Ev X o G R (.bob a l)) (ho : ⟨a, some C, fs⟩ ∈ l) (hno : fs.lookup m = none) (ha : EvA X (e :: es) G R ss) (hC : Ct (.bob a l' :: (ss ++ [.d (.bl b)])) (.ret s)) (hl : ∀ o ∈ l', o ∈ l)
    (hss : ss.all S.arg = true := by rfl)
    (hst : starEach (e :: es) X.env = (false, eval e X.env) :: starEach es X.env := by rfl) (hpl : (backTo pos (starEach es X.env)).any (·.1) = false := by rfl)
    (ht : eval (.Call (.Attribute o m apos) (e :: es) [] pos) X.env = (do
      let ov ← eval o X.env
      standAt apos.atName
      let (f, first) ← holding [ov] (getMethod ov m pl)
      callWith pos f first (backTo pos (starEach (e :: es) X.env)) (backToKw pos (keywordEach [] X.env))) := by rfl) : Ev X (.Call (.Attribute o m apos) (e :: es) [] pos) G R s := by
  intro en A σ H F Q st q
  obtain ⟨f, fd, ps, h1, h2, ⟨ds, hd, h3⟩, _⟩ := M.ex
  refine ⟨_, pe_meth pe_t M.cl h2 h1 (hr.mono hk) h3 hd passL pa_t hst hpl ht, ?_⟩
  refine h en A σ H F _ st fun v H1 F1 g1 ⟨r, ads, r1⟩ => ?_
  subst r
  obtain ⟨a1, _, vs, as, rfl, h5, h6⟩ := r1.mem ho
  obtain ⟨dx, h6⟩ := h6
  refine ⟨a, dx, vs, rfl, h6, h5.none hno, ?_⟩
  refine ha en A σ H1 F1 _ (st.grow g1) fun us H2 F2 g2 r2 => ?_
  obtain ⟨as', _, r3⟩ := (ObsAt.mon g2.mon (fun a _ o z => g2.h a o z) r1).sub hl
  have r4 : SRs X.K (ss ++ [S.d (.bl b)]) H2 (us ++ [.bl b]) H2 F2 := srs_app (srs_here hss r2) rfl
  exact ⟨F2, .bob a l' :: (ss ++ [.d (.bl b)]), .ret s, hC, g2.t, ⟨⟨rfl, as', r3⟩, r4⟩, fun v H3 F3 g3 r3 => q v H3 F3 ((g1.trans g2).trans g3) (SR.pre (g1.trans g2).nn r3)⟩
theorem evx_methD (M : MtdK X.prog X.w X.K X.mg X.base C m n kw b k Ct) (hr : Room j X.A) (hk : k ≤ j) (h : Ev X o G R (.bob a l)) (ho : ⟨a, some C, fs⟩ ∈ l) (hno : fs.lookup m = none) (ha : EvA X (e :: es) G R ss) (hC : Ct (.bob a l' :: (ss ++ [.d (.bl b)])) (.exc xn)) (hl : ∀ o ∈ l', o ∈ l)
    (hss : ss.all S.arg = true := by rfl)
    (hst : starEach (e :: es) X.env = (false, eval e X.env) :: starEach es X.env := by rfl) (hpl : (backTo pos (starEach es X.env)).any (·.1) = false := by rfl)
    (ht : eval (.Call (.Attribute o m apos) (e :: es) [] pos) X.env = (do
      let ov ← eval o X.env
      standAt apos.atName
      let (f, first) ← holding [ov] (getMethod ov m pl)
      callWith pos f first (backTo pos (starEach (e :: es) X.env)) (backToKw pos (keywordEach [] X.env))) := by rfl) : EvX X (.Call (.Attribute o m apos) (e :: es) [] pos) G R xn := by
  intro W en A σ H H0 F F0 Q tk mn st hw
  obtain ⟨f, fd, ps, h1, h2, ⟨ds, hd, h3⟩, _⟩ := M.ex
  refine ⟨_, pe_methDS pe_t M.cl h2 h1 (hr.mono hk) h3 hd (fun σ => passAt tk σ) pa_t hst hpl ht, ?_⟩
  refine h en A σ H F _ st fun v H1 F1 g1 ⟨r, ads, r1⟩ => ?_
  subst r
  obtain ⟨a1, _, vs, as, rfl, h5, h6⟩ := r1.mem ho
  obtain ⟨dx, h6⟩ := h6
  refine ⟨a, dx, vs, rfl, h6, h5.none hno, ?_⟩
  refine ha en A σ H1 F1 _ (st.grow g1) fun us H2 F2 g2 r2 => ?_
  obtain ⟨as', _, r3⟩ := (ObsAt.mon g2.mon (fun a _ o z => g2.h a o z) r1).sub hl
  have r4 : SRs X.K (ss ++ [S.d (.bl b)]) H2 (us ++ [.bl b]) H2 F2 := srs_app (srs_here hss r2) rfl
  refine ⟨F2, .bob a l' :: (ss ++ [.d (.bl b)]), .exc xn, hC, g2.t, ⟨⟨rfl, as', r3⟩, r4⟩, fun cls d H3 F3 g3 hx => ?_⟩
  have g := (g1.trans g2).trans g3
  exact ⟨xn, G, R, A, F3, hw, st.grow g, hx, mn.trans g.mon⟩
theorem ev_methK (M : MtdK X.prog X.w X.K X.mg X.base C m n kw b k Ct) (hr : Room j X.A) (hk : k ≤ j) (h : Ev X o G R (.bob a l)) (ho : ⟨a, some C, fs⟩ ∈ l) (hno : fs.lookup m = none) (ha : EvA X (e :: es) G R ss) (h5 : Ev X e2 G R (.d (.bl q))) (hn : ss.length + 1 = n) (hC : Ct (.bob a l' :: (ss ++ [.d (.bl q)])) (.ret s)) (hl : ∀ o ∈ l', o ∈ l)
    (hss : ss.all S.arg = true := by rfl)
    (hst : starEach (e :: es) X.env = (false, eval e X.env) :: starEach es X.env := by rfl)
    (hall : (backToKw pos (keywordEach [⟨some kw, e2, kpos⟩] X.env)).all (·.1.isSome) = true := by rfl) (hks : (backToKw pos (keywordEach [⟨some kw, e2, kpos⟩] X.env)).filterMap (·.1) = [kw] := by rfl)
    (hpl : ((backTo pos (starEach (e :: es) X.env)).any (·.1) || (backToKw pos (keywordEach [⟨some kw, e2, kpos⟩] X.env)).any (·.1.isNone)) = false := by rfl)
    (ht : eval (.Call (.Attribute o m apos) (e :: es) [⟨some kw, e2, kpos⟩] pos) X.env = (do
      let ov ← eval o X.env
      standAt apos.atName
      let (f, first) ← holding [ov] (getMethod ov m pl)
      callWith pos f first (backTo pos (starEach (e :: es) X.env)) (backToKw pos (keywordEach [⟨some kw, e2, kpos⟩] X.env))) := by rfl) : Ev X (.Call (.Attribute o m apos) (e :: es) [⟨some kw, e2, kpos⟩] pos) G R s := by
  intro en A σ H F Q st k'
  obtain ⟨f, fd, ps, h1, h2, _, h3⟩ := M.ex
  refine ⟨_, pe_methN pe_t M.cl h2 h1 (hr.mono hk) h3 (E := fun _ _ _ _ => False) (fun σ pins H s e s' I h => passL pins σ H s e s' I h) pa_t (pk_cons pe_t pk_nil) hall hks hst hpl ht, ?_⟩
  refine h en A σ H F _ st fun v H1 F1 g1 ⟨r, ads, r1⟩ => ?_
  subst r
  obtain ⟨a1, _, vs, as, rfl, q5, h6⟩ := r1.mem ho
  obtain ⟨dx, h6⟩ := h6
  refine ⟨a, dx, vs, rfl, h6, q5.none hno, ?_⟩
  refine ha en A σ H1 F1 _ (st.grow g1) fun us H2 F2 g2 r2 => ?_
  refine h5 en A σ H2 F2 _ (st.grow (g1.trans g2)) fun v H3 F3 g3 r3 => ?_
  have e2 : v = .bl q := r3
  subst e2
  obtain ⟨as', _, r4⟩ := (ObsAt.mon (g2.trans g3).mon (fun a _ o z => (g2.trans g3).h a o z) r1).sub hl
  have r5 : SRs X.K (ss ++ [S.d (.bl q)]) H3 (us ++ [.bl q]) H3 F3 := srs_app (srs_here hss (SRs.grow r2 g3)) rfl
  refine ⟨by rw [List.length_cons, r2.length]; exact hn, rfl, F3, .bob a l' :: (ss ++ [.d (.bl q)]), .ret s, hC, g3.t, ⟨⟨rfl, as', r4⟩, r5⟩, fun v H4 F4 g4 r6 => k' v H4 F4 (((g1.trans g2).trans g3).trans g4) (SR.pre ((g1.trans g2).trans g3).nn r6)⟩
end
end DL

namespace DL
open PySem PySem.Spec L2
/-- a clip all of whose tracks are of a size, no name twice -/
structure ClAll (c : Clip) : Prop where
  nd : (c.tr.map (·.1)).Nodup
  bd : ∀ x ∈ c.tr, TrB 22 80 x.2 ∧ x.2.length ≤ 12
  ms : c.tr.length ≤ 6
  ne : ∀ x ∈ c.tr, x.2 ≠ []
/-- .. and the critical places of the lamp are small -/
structure ClW (c : Clip) : Prop where
  all : ClAll c
  cr : ∀ x ∈ critT (trkOf c.tr "lamp") c.len, Bd 20 x
theorem bst_bdn {b : BkS} (h : BkC b) {x y : Str} (hx : x ∈ b.nm) (hy : y ∈ b.nm) : Bd (23 * b.nm.length + 1) (bst b x y).1 := (goB_bsb h.ok.f2 x b.nm.length).1.bd _ (getA_mem (bst_ok h hx hy))
theorem early_bdn {b : BkS} (h : BkC b) (h0 : ("start" : Str) ∈ b.nm) {p : Str × Rat} (hp : p ∈ earlyF b) : okS p.1 ∧ Bd (23 * b.nm.length + 3) p.2 := by
  obtain ⟨x, hx, rfl⟩ := List.mem_map.mp hp
  refine ⟨h.okx hx, ?_⟩
  have := bst_bdn h hx h0
  exact (Bd.sub : Bd (1 + (23 * b.nm.length + 1) + 1) (0 - (bst b x "start").1)).mono (by omega)
theorem early_nm (b : BkS) : (earlyF b).map (·.1) = b.nm := by unfold earlyF; rw [List.map_map]; exact List.map_id _
end DL

namespace DL
open PySem PySem.Spec L2
def TvXM (X : Cx) (e : Expr) (G : List S) (R : Res) (P : Exn → Res → Prop) : Prop :=
  ∀ (W : Exw) (en : En) (A : Addr → Prop) (σ : L2.St) (H H0 : Hp) (F F0 : Fz) (Q : Bool → Hp → Prop), Takes X (Wd X.K en H0 F0 W) → Mon H0 F0 H F → Sta X.K en G R A σ H F → (∀ xn R', P xn R' → W xn G R') → tT X e σ H Q
def TwXM (X : Cx) (e : Expr) (G : List S) (R : Res) (P : Exn → Res → Prop) : Prop :=
  ∀ (W : Exw) (en : En) (A : Addr → Prop) (σ : L2.St) (H H0 : Hp) (F F0 : Fz) (Q : Bool → Hp → Prop), Takes X (Wd X.K en H0 F0 W) → Mon H0 F0 H F → Sta X.K en G R A σ H F → (∀ xn R', P xn R' → W xn G R') → ∃ t, PW X e t ∧ t σ H Q
section
variable {X : Cx} {W : Exw} {G : List S} {R R1 R2 : Res} {O : Out} {a b c e e2 o : Expr} {es : List Expr} {rest body orelse : List Stmt} {pos apos kpos : Pos} {P Z : Exn → Res → Prop} {d d2 : D} {s : S} {ss : List S} {l l' : List Ob} {ad C : Addr} {fs : List (Str × FV)} {m kw : Str} {xn : Exn} {Ct : Ct} {k j n : Nat} {q : Bool} {pl : Sem Bool}
theorem tvxm_cmp {op : CmpOp} {r : L2.R2} (ho : OpR X (compareOp op) r) (ha : EvXM X a G R P) (hm : behindInMarks op b = false) : TvXM X (.Compare a [op] [b] pos) G R P := fun W en A σ H H0 F F0 Q tk mn st hw =>
  ⟨_, pt_cmpR ho pe_t pe_t hm, ha W en A σ H H0 F F0 _ tk mn st hw⟩
theorem tvxm_notN (ha : EvXM X a G R P) (hm : behindInMarks .IsNot b = false := by rfl) : TvXM X (.Compare a [.IsNot] [b] pos) G R P := tvxm_cmp op_notN ha hm
theorem twxm_or (h : TvXM X a G R P) : TwXM X (.BoolOp .Or (a :: b :: es) pos) G R P := fun W en A σ H H0 F F0 Q tk mn st hw => ⟨_, pw_or pt_t pw_t, h W en A σ H H0 F F0 _ tk mn st hw⟩
theorem tvxm_tw (h : TwXM X e G R P) : TvXM X e G R P := fun W en A σ H H0 F F0 Q tk mn st hw => ⟨_, pw_t.pt, h W en A σ H H0 F F0 _ tk mn st hw⟩
theorem ex_ifXM (hc : TvXM X c G R Z) (h : ∀ xn R', Z xn R' → W xn G R') : Ex X W (.If c body orelse pos :: rest) G R O := fun en A σ H F D st po =>
  ⟨_, pss_cons (ps_if pt_t pss_t pss_t) pss_t, hc W en A σ H H F F _ po.tk Mon.refl st h⟩
theorem tvm_notN (ha : EvMd X a G R d R1) (hb : EvMd X b G R1 .non R2) (hm : behindInMarks .IsNot b = false := by rfl) : TvMd X (.Compare a [.IsNot] [b] pos) G R (!d.isN) R2 :=
  tvm_cmpR op_notN (d := d) (d2 := .non) (fun H0 x y H F Q ft hx hy k => ⟨hy, k _ H F (Grow.refl ft) (by rw [isN_V hx]; exact rfl)⟩) ha hb hm
theorem evx_methK (M : MtdK X.prog X.w X.K X.mg X.base C m n kw q k Ct) {b' : Bool} (hr : Room j X.A) (hk : k ≤ j) (h : Ev X o G R (.bob ad l)) (ho : ⟨ad, some C, fs⟩ ∈ l) (hno : fs.lookup m = none) (ha : EvA X (e :: es) G R ss) (h5 : Ev X e2 G R (.d (.bl b'))) (hn : ss.length + 1 = n) (hC : Ct (.bob ad l' :: (ss ++ [.d (.bl b')])) (.exc xn)) (hl : ∀ o ∈ l', o ∈ l)
    (hss : ss.all S.arg = true := by rfl)
    (hst : starEach (e :: es) X.env = (false, eval e X.env) :: starEach es X.env := by rfl)
    (hall : (backToKw pos (keywordEach [⟨some kw, e2, kpos⟩] X.env)).all (·.1.isSome) = true := by rfl) (hks : (backToKw pos (keywordEach [⟨some kw, e2, kpos⟩] X.env)).filterMap (·.1) = [kw] := by rfl)
    (hpl : ((backTo pos (starEach (e :: es) X.env)).any (·.1) || (backToKw pos (keywordEach [⟨some kw, e2, kpos⟩] X.env)).any (·.1.isNone)) = false := by rfl)
    (ht : eval (.Call (.Attribute o m apos) (e :: es) [⟨some kw, e2, kpos⟩] pos) X.env = (do
      let ov ← eval o X.env
      standAt apos.atName
      let (f, first) ← holding [ov] (getMethod ov m pl)
      callWith pos f first (backTo pos (starEach (e :: es) X.env)) (backToKw pos (keywordEach [⟨some kw, e2, kpos⟩] X.env))) := by rfl) : EvX X (.Call (.Attribute o m apos) (e :: es) [⟨some kw, e2, kpos⟩] pos) G R xn := by
  intro W en A σ H H0 F F0 Q tk mn st hw
  obtain ⟨f, fd, ps, h1, h2, _, h3⟩ := M.ex
  refine ⟨_, pe_methN pe_t M.cl h2 h1 (hr.mono hk) h3 (fun σ => passAt tk σ) pa_t (pk_cons pe_t pk_nil) hall hks hst hpl ht, ?_⟩
  refine h en A σ H F _ st fun v H1 F1 g1 ⟨r, ads, r1⟩ => ?_
  subst r
  obtain ⟨a1, _, vs, as, rfl, q5, h6⟩ := r1.mem ho
  obtain ⟨dx, h6⟩ := h6
  refine ⟨ad, dx, vs, rfl, h6, q5.none hno, ?_⟩
  refine ha en A σ H1 F1 _ (st.grow g1) fun us H2 F2 g2 r2 => ?_
  refine h5 en A σ H2 F2 _ (st.grow (g1.trans g2)) fun v H3 F3 g3 r3 => ?_
  have e2 : v = .bl b' := r3
  subst e2
  obtain ⟨as', _, r4⟩ := (ObsAt.mon (g2.trans g3).mon (fun a _ o z => (g2.trans g3).h a o z) r1).sub hl
  have r5 : SRs X.K (ss ++ [S.d (.bl b')]) H3 (us ++ [.bl b']) H3 F3 := srs_app (srs_here hss (SRs.grow r2 g3)) rfl
  refine ⟨by rw [List.length_cons, r2.length]; exact hn, rfl, F3, .bob ad l' :: (ss ++ [.d (.bl b')]), .exc xn, hC, g3.t, ⟨⟨rfl, as', r4⟩, r5⟩, fun cls d H4 F4 g4 hx => ?_⟩
  have g := ((g1.trans g2).trans g3).trans g4
  exact ⟨xn, G, R, A, F4, hw, st.grow g, hx, mn.trans g.mon⟩
end
/-- all numbers of a book are sixths -/
def SixB (fc : List Fc) : Prop := ∀ f ∈ fc, ∃ a b : Int, f.lo = sixR a ∧ f.hi = sixR b ∧ a.natAbs ≤ 1000 ∧ b.natAbs ≤ 1000
theorem wk_six {fc : List Fc} (h : SixB fc) {u v : Str} {L : Rat} {l : List (Nat × Nat)} (w : Wk fc u v L l) : ∃ m : Int, m.natAbs ≤ 1000 * l.length ∧ L = sixR m := by
  induction w with
  | nil => exact ⟨0, Nat.le_refl _, six_zero.symm⟩
  | snoc w hf ht hb ih =>
    rename_i s
    obtain ⟨m, h1, h2⟩ := ih
    obtain ⟨a, b, e1, e2, a1, b1⟩ := h _ (List.mem_of_getElem? hf)
    unfold fL
    by_cases z : s.2 = 0
    · refine ⟨m + b, by rw [List.length_append]; show _ ≤ 1000 * (_ + 1); omega, ?_⟩
      rw [if_pos z, e2, six_add, h2]
    · refine ⟨m + (0 - a), by rw [List.length_append]; show _ ≤ 1000 * (_ + 1); omega, ?_⟩
      rw [if_neg z, e1, six_add, six_neg, h2]
theorem bst_six {b : BkS} (h : BkC b) (hs : SixB b.fc) (hl : b.nm.length ≤ 8) {x y : Str} (hx : x ∈ b.nm) (hy : y ∈ b.nm) : ∃ m : Int, m.natAbs ≤ 8000 ∧ (bst b x y).1 = sixR m := by
  obtain ⟨w, wl⟩ := bst_wk h hx hy
  obtain ⟨m, h1, h2⟩ := wk_six hs w
  exact ⟨m, by omega, h2⟩
theorem span_bd14 {b : BkS} (h : BkC b) (hs : SixB b.fc) (hl : b.nm.length ≤ 8) {x y : Str} (hx : x ∈ b.nm) (hy : y ∈ b.nm) : Bd 14 (spanF b x y).1 ∧ Bd 14 (spanF b x y).2 := by
  obtain ⟨m, m1, m2⟩ := bst_six h hs hl hy hx
  obtain ⟨k, k1, k2⟩ := bst_six h hs hl hx hy
  unfold spanF
  rw [m2, k2, ← six_neg]
  exact ⟨six_bd (by omega) (by decide), six_bd (by omega) (by decide)⟩
end DL

namespace DL
open PySem PySem.Spec L2
theorem ch_irr : ∀ l : List (Nat × Nat), chLt l l = false
  | [] => rfl
  | x :: l => by
    unfold chLt
    rw [if_pos rfl]
    exact ch_irr l
theorem ch_total : ∀ l m : List (Nat × Nat), chLt l m = false → chLt m l = false → l = m
  | [], [], _, _ => rfl
  | [], _ :: _, h, _ => nomatch h
  | _ :: _, [], _, h => nomatch h
  | x :: l, y :: m, h1, h2 => by
    unfold chLt at h1 h2
    by_cases e : x = y
    · rw [if_pos e] at h1
      rw [if_pos e.symm] at h2
      rw [e, ch_total l m h1 h2]
    · rw [if_neg e] at h1
      rw [if_neg (fun z => e z.symm)] at h2
      exfalso
      apply e
      obtain ⟨a, b⟩ := x
      obtain ⟨c, d⟩ := y
      simp only [Bool.or_eq_false_iff, Bool.and_eq_false_iff, decide_eq_false_iff_not] at h1 h2
      have e1 : a = c := by omega
      have e2 : b = d := by omega
      rw [e1, e2]
/-- what is not after, is not after what is not after -/
theorem ch_trans : ∀ l m k : List (Nat × Nat), chLt m l = false → chLt k m = false → chLt k l = false
  | [], _, [], _, _ => rfl
  | [], _, _ :: _, _, _ => rfl
  | _ :: _, [], _, h, _ => nomatch h
  | _ :: _, _ :: _, [], _, h => nomatch h
  | x :: l, y :: m, z :: k, h1, h2 => by
    unfold chLt at h1 h2 ⊢
    by_cases e1 : y = x
    · subst e1
      rw [if_pos rfl] at h1
      by_cases e2 : z = y
      · subst e2
        rw [if_pos rfl] at h2 ⊢
        exact ch_trans l m k h1 h2
      · rw [if_neg e2] at h2 ⊢
        exact h2
    · rw [if_neg e1] at h1
      by_cases e2 : z = y
      · subst e2
        rw [if_neg e1]
        exact h1
      · rw [if_neg e2] at h2
        obtain ⟨a, b⟩ := x
        obtain ⟨c, d⟩ := y
        obtain ⟨e, f⟩ := z
        simp only [Bool.or_eq_false_iff, Bool.and_eq_false_iff, decide_eq_false_iff_not, Prod.mk.injEq] at h1 h2 e1 e2
        rw [if_neg (by simp only [Prod.mk.injEq]; omega)]
        simp only [Bool.or_eq_false_iff, Bool.and_eq_false_iff, decide_eq_false_iff_not]
        omega
theorem ch_asym {l m : List (Nat × Nat)} (h : chLt l m = true) : chLt m l = false := by
  cases z : chLt m l with
  | false => rfl
  | true =>
    cases y : chLt l l with
    | true => rw [ch_irr] at y; cases y
    | false =>
      exfalso
      have key : ∀ l m : List (Nat × Nat), chLt l m = true → chLt m l = true → False := by
        intro l
        induction l with
        | nil => intro m h1 h2; cases m <;> cases h2
        | cons x l ih =>
          intro m h1 h2
          cases m with
          | nil => cases h1
          | cons w m =>
            unfold chLt at h1 h2
            by_cases e : x = w
            · rw [if_pos e] at h1
              rw [if_pos e.symm] at h2
              exact ih m h1 h2
            · rw [if_neg e] at h1
              rw [if_neg (fun z => e z.symm)] at h2
              simp only [Bool.or_eq_true, Bool.and_eq_true, decide_eq_true_iff] at h1 h2
              omega
      exact key l m h z
theorem ch_snoc (s : Nat × Nat) : ∀ l m : List (Nat × Nat), l.length = m.length → chLt (l ++ [s]) (m ++ [s]) = chLt l m
  | [], [], _ => ch_irr [s]
  | x :: l, y :: m, h => by
    show (if x = y then chLt (l ++ [s]) (m ++ [s]) else _) = if x = y then chLt l m else _
    rw [ch_snoc s l m (Nat.succ.inj h)]
  | [], _ :: _, h => nomatch h
  | _ :: _, [], h => nomatch h
theorem ch_pre : ∀ p l m : List (Nat × Nat), chLt (p ++ l) (p ++ m) = chLt l m
  | [], _, _ => rfl
  | x :: p, l, m => by
    show (if x = x then chLt (p ++ l) (p ++ m) else _) = _
    rw [if_pos rfl, ch_pre p l m]
/-- a is no worse than b -/
def cle (a b : Chn) : Prop := better b a = false
theorem cle_iff {a b : Chn} : cle a b ↔ a.1 < b.1 ∨ (a.1 = b.1 ∧ chLt b.2 a.2 = false) := by
  unfold cle better
  by_cases e : b.1 = a.1
  · rw [if_pos e]
    constructor
    · exact fun h => .inr ⟨e.symm, h⟩
    · rintro (h | h)
      · rw [e] at h; exact absurd h (by grind)
      · exact h.2
  · rw [if_neg e, decide_eq_false_iff_not]
    constructor
    · intro h; left; grind
    · rintro (h | h)
      · grind
      · exact absurd h.1.symm e
theorem cle_refl (a : Chn) : cle a a := cle_iff.mpr (.inr ⟨rfl, ch_irr _⟩)
theorem cle_trans {a b c : Chn} (h1 : cle a b) (h2 : cle b c) : cle a c := by
  rw [cle_iff] at *
  rcases h1 with h1 | ⟨h1, g1⟩
  · rcases h2 with h2 | ⟨h2, g2⟩
    · left; grind
    · left; grind
  · rcases h2 with h2 | ⟨h2, g2⟩
    · left; grind
    · exact .inr ⟨h1.trans h2, ch_trans _ _ _ g1 g2⟩
theorem cle_of {a b : Chn} (h : better a b = true) : cle a b := by
  rw [cle_iff]
  unfold better at h
  split at h
  · next e => exact .inr ⟨e, ch_asym h⟩
  · next e => exact .inl (of_decide_eq_true h)
def HasC (b : Ly) (x : Str) (d : Chn) : Prop := ∃ c, getA b x = some c ∧ cle c d
section
variable {fc : List Fc} {u v x y : Str} {L : Rat} {l : List (Nat × Nat)} {ly lt : Ly} {n : Nat}
theorem hasC_put {b : Ly} {d : Chn} (h : HasC b x d) {z : Str} {c : Chn} (hc : ∀ o, getA b z = some o → cle c o) : HasC (putA z c b) x d := by
  obtain ⟨o, h1, h2⟩ := h
  unfold HasC
  rw [getA_put]
  split
  · next e =>
    subst e
    exact ⟨c, rfl, cle_trans (hc o h1) h2⟩
  · exact ⟨o, h1, h2⟩
theorem hasC_new {b : Ly} {c : Chn} : HasC (putA x c b) x c := ⟨c, by rw [getA_put, if_pos rfl], cle_refl c⟩
theorem ext1_hasC {d : Chn} (h : HasC lt x d) (s : Nat × Nat) : HasC (ext1 fc ly lt s) x d := by
  unfold ext1
  split
  · exact h
  · split
    · exact h
    · split
      · next e => exact hasC_put h fun o ho => by rw [e] at ho; cases ho
      · next o e =>
        split
        · next hb => exact hasC_put h fun o' ho => by rw [e] at ho; cases ho; exact cle_of hb
        · exact h
theorem ext1_newC {c : Chn} {f : Fc} {s : Nat × Nat} (hf : fc[s.1]? = some f) (hc : getA ly (fB f s.2) = some c) : HasC (ext1 fc ly lt s) (fE f s.2) (c.1 + fL f s.2, c.2 ++ [s]) := by
  unfold ext1
  rw [hf]
  dsimp only
  rw [hc]
  dsimp only
  split
  · exact hasC_new
  · next o e =>
    split
    · exact hasC_new
    · next hb => exact ⟨o, e, by unfold cle; simpa using hb⟩
theorem fold_hasC {d : Chn} : ∀ (l : List (Nat × Nat)) {lt : Ly}, HasC lt x d → HasC (l.foldl (ext1 fc ly) lt) x d
  | [], _, h => h
  | s :: l, _, h => fold_hasC l (ext1_hasC h s)
theorem fold_newC {c : Chn} {f : Fc} {s : Nat × Nat} (hf : fc[s.1]? = some f) (hc : getA ly (fB f s.2) = some c) : ∀ (l : List (Nat × Nat)) (lt : Ly), s ∈ l → HasC (l.foldl (ext1 fc ly) lt) (fE f s.2) (c.1 + fL f s.2, c.2 ++ [s])
  | [], _, h => nomatch h
  | q :: l, lt, h => by
    rcases List.mem_cons.mp h with e | h
    · subst e
      exact fold_hasC l (ext1_newC hf hc)
    · exact fold_newC hf hc l _ h
theorem goB_hasC (w : Wk fc u v L l) : HasC (goB fc u l.length).1 v (L, l) := by
  induction w with
  | nil => exact ⟨(0, []), by show getA [(u, (0, []))] u = _; unfold getA; simp, cle_refl _⟩
  | @snoc v L l f s w hf ht hb ih =>
    obtain ⟨c, h1, h2⟩ := ih
    subst hb
    rw [List.length_append]
    have hl : s.1 < fc.length := by
      rcases Nat.lt_or_ge s.1 fc.length with z | z
      · exact z
      · rw [List.getElem?_eq_none z] at hf; cases hf
    obtain ⟨c', g1, g2⟩ := fold_newC (ly := (goB fc u l.length).1) hf h1 (stepsOf fc.length) [] (stepsOf_mem.mpr ⟨hl, ht⟩)
    refine ⟨c', g1, cle_trans g2 ?_⟩
    have hcl := (goB_wk fc u l.length _ (getA_mem h1)).2
    rw [cle_iff] at h2 ⊢
    dsimp only at h2 ⊢
    rcases h2 with h2 | ⟨h2, h3⟩
    · left; grind
    · exact .inr ⟨by rw [h2], by rw [ch_snoc s l c.2 hcl.symm]; exact h3⟩
/-- shorter, or of fewer steps, or of as many and not behind -/
def ole (a b : Chn) : Prop := a.1 < b.1 ∨ (a.1 = b.1 ∧ (a.2.length < b.2.length ∨ (a.2.length = b.2.length ∧ chLt b.2 a.2 = false)))
def HasO (b : Ly) (x : Str) (d : Chn) : Prop := ∃ c, getA b x = some c ∧ ole c d
theorem keepB_hasO {b : Ly} {d : Chn} (h : HasO b x d) (q : Str × Chn) : HasO (keepB b q) x d := by
  obtain ⟨c, h1, h2⟩ := h
  unfold keepB HasO
  split
  · next e =>
    rw [getA_put]
    split
    · next z => rw [z] at h1; rw [e] at h1; cases h1
    · exact ⟨c, h1, h2⟩
  · next o e =>
    split
    · next hb =>
      rw [getA_put]
      split
      · next z =>
        rw [z, e] at h1
        cases h1
        refine ⟨q.2, rfl, .inl ?_⟩
        rcases h2 with h2 | h2
        · grind
        · grind
      · exact ⟨c, h1, h2⟩
    · exact ⟨c, h1, h2⟩
theorem mergeB_hasO {d : Chn} : ∀ {ly : Ly} {b : Ly}, HasO b x d → HasO (mergeB b ly) x d
  | [], _, h => h
  | q :: ly, _, h => mergeB_hasO (ly := ly) (keepB_hasO h q)
theorem keepB_ne {b : Ly} {q : Str × Chn} (h : q.1 ≠ x) : getA (keepB b q) x = getA b x := by
  unfold keepB
  split
  · rw [getA_put, if_neg (fun z => h z.symm)]
  · split
    · rw [getA_put, if_neg (fun z => h z.symm)]
    · rfl
theorem mergeB_ne : ∀ {ly : Ly} {b : Ly}, x ∉ ly.map (·.1) → getA (mergeB b ly) x = getA b x
  | [], _, _ => rfl
  | q :: ly, b, h => by
    rw [List.map_cons, List.mem_cons, not_or] at h
    show getA (mergeB (keepB b q) ly) x = _
    rw [mergeB_ne (ly := ly) h.2, keepB_ne (fun z => h.1 z.symm)]
theorem bestOf_hasO (hf : ∀ f ∈ fc, FcOk f) : ∀ (n : Nat) {v : Str} {L : Rat} {l : List (Nat × Nat)}, Wk fc u v L l → l.length ≤ n → HasO (goB fc u n).2 v (L, l)
  | 0, v, L, l, w, hl => by
    have e : l = [] := List.length_eq_zero_iff.mp (by omega)
    subst e
    obtain ⟨c, h1, h2⟩ := goB_hasC w
    have hc := (goB_wk fc u 0 _ (getA_mem h1)).2
    refine ⟨c, h1, ?_⟩
    rcases cle_iff.mp h2 with h2 | ⟨h2, h3⟩
    · exact .inl h2
    · exact .inr ⟨h2, .inr ⟨hc, h3⟩⟩
  | n + 1, v, L, l, w, hl => by
    show HasO (mergeB (goB fc u n).2 (oneMore fc (goB fc u n).1)) v (L, l)
    by_cases hln : l.length ≤ n
    · exact mergeB_hasO (bestOf_hasO hf n w hln)
    · have hle : l.length = n + 1 := by omega
      obtain ⟨c, h1, h2⟩ := goB_hasC w
      rw [hle] at h1
      have h1' : getA (oneMore fc (goB fc u n).1) v = some c := h1
      have hcl := (goB_wk fc u (n + 1) _ (getA_mem h1)).2
      have hnd : NdA (oneMore fc (goB fc u n).1) := (goB_lyb hf u (n + 1)).nd
      have hm := getA_mem h1'
      obtain ⟨l1, l2, el⟩ := List.append_of_mem hm
      have hn1 : v ∉ l1.map (·.1) := by
        unfold NdA at hnd
        rw [el, List.map_append] at hnd
        obtain ⟨_, _, h3⟩ := List.nodup_append.mp hnd
        exact fun z => h3 v z v (List.mem_cons_self) rfl
      have key : HasO (keepB (mergeB (goB fc u n).2 l1) (v, c)) v (L, l) := by
        have h2' := cle_iff.mp h2
        unfold keepB
        rw [mergeB_ne hn1]
        dsimp only
        split
        · refine ⟨c, by rw [getA_put, if_pos rfl], ?_⟩
          rcases h2' with h3 | ⟨h3, h4⟩
          · exact .inl h3
          · exact .inr ⟨h3, .inr ⟨by rw [hcl, hle], h4⟩⟩
        · next o e =>
          split
          · refine ⟨c, by rw [getA_put, if_pos rfl], ?_⟩
            rcases h2' with h3 | ⟨h3, h4⟩
            · exact .inl h3
            · exact .inr ⟨h3, .inr ⟨by rw [hcl, hle], h4⟩⟩
          · next hb =>
            refine ⟨o, by rw [mergeB_ne hn1]; exact e, ?_⟩
            have hol := (bestOf_wk fc u n _ (getA_mem e)).2
            have hol' : o.2.length ≤ n := hol
            rcases h2' with h3 | ⟨h3, h4⟩
            · left; dsimp only at *; grind
            · by_cases q : o.1 < L
              · exact .inl q
              · refine .inr ⟨by dsimp only at *; grind, .inl ?_⟩
                show o.2.length < l.length
                omega
      rw [el]
      unfold mergeB
      rw [List.foldl_append]
      show HasO (mergeB (keepB (mergeB (goB fc u n).2 l1) (v, c)) l2) v (L, l)
      exact mergeB_hasO key
end
/-- the chain from a moment to another one -/
def OptC (fc : List Fc) (u v : Str) (c : Chn) : Prop := Wk fc u v c.1 c.2 ∧ ∀ L l, Wk fc u v L l → ole c (L, l)
theorem bst_opt {b : BkS} (h : BkC b) {p : Str → Rat} (hp : Pot p b.fc) {x y : Str} (hx : x ∈ b.nm) (hy : y ∈ b.nm) : OptC b.fc x y (bst b x y) := by
  obtain ⟨w, wl⟩ := bst_wk h hx hy
  refine ⟨w, fun L l w' => ?_⟩
  by_cases hl : l.length ≤ b.nm.length
  · obtain ⟨c, h1, h2⟩ := bestOf_hasO h.ok.f2 b.nm.length w' hl
    have h1' : getA (bestOf b.fc b.nm.length x) y = some c := h1
    rw [bst_ok h hx hy] at h1'
    cases h1'
    exact h2
  · have hm := bst_min h hp hx hy w'
    by_cases q : (bst b x y).1 < L
    · exact .inl q
    · exact .inr ⟨by grind, .inl (by show _ < l.length; omega)⟩
end DL

namespace DL
open PySem PySem.Spec L2
section
variable {X : Cx} {W : Exw} {G : List S} {R : Res} {O : Out} {e0 e2 ej : Expr} {rest : List Stmt} {x : Str} {r : List Int} {v : Int} {j : Nat}
theorem ex_nest (i : Nat) {p0 p1 p2 p3 p4 sp1 sp2 tpos : Pos} {kk : Nat} (hN : X.N.Nodup) (h0 : Ev X e0 G R (.own (r.map D.int))) (he : Ev X e2 (G.set i .any) R (.d (.int v))) (hj : Ev X ej (G.set i .any) R (.d (.int j))) (hjl : j < r.length) (hil : i < G.length)
    (k : Ex X W rest (G.set i (.own [rowD (r.set j v)])) R O)
    (hi : X.N[i]? = some x := by rfl) (hx : Loc X.env.scope x := by first | exact Or.inl rfl | exact Or.inr rfl)
    (hf : X.fn x = true ∨ X.env.scope.names.lookup x = some .local := by first | exact .inl rfl | exact .inr rfl) (hw : swapsWith (.List [e0] p1) (some (.Name x p0)) sp1.line X.env = pure false := by rfl)
    (hse : starEach [e0] X.env = [(false, eval e0 X.env)] := by rfl)
    (hv : Vis X.env.scope x := by first | exact Or.inl rfl | exact Or.inr (Or.inl rfl) | exact Or.inr (Or.inr rfl)) (hd : (x == ("__debug__" : Str)) = false := by decide) (hcd : (x == ("__classdict__" : Str)) = false := by decide)
    (ha : ∀ v, assign (.Subscript (.Subscript (.Name x p2) (.Constant (.int 0) kk p3) p4) ej tpos) X.env v = (do
      let ov ← holding [v] (eval (.Subscript (.Name x p2) (.Constant (.int 0) kk p3) p4) X.env)
      let iv ← holding [v, ov] (eval ej X.env)
      standAt tpos
      holding [v, ov, iv] (setItem ov iv v)
      release [v, ov, iv] []) := by intro _; rfl)
    (hsw : swapsWithSole [.Subscript (.Subscript (.Name x p2) (.Constant (.int 0) kk p3) p4) ej tpos] e2 sp2.line X.env = pure false := by rfl) (hw2 : swappedStores [.Subscript (.Subscript (.Name x p2) (.Constant (.int 0) kk p3) p4) ej tpos] e2 X.env = pure none := by rfl)
    (h1 : (assignEach [.Subscript (.Subscript (.Name x p2) (.Constant (.int 0) kk p3) p4) ej tpos] X.env).map (·.2) = [assign (.Subscript (.Subscript (.Name x p2) (.Constant (.int 0) kk p3) p4) ej tpos) X.env] := by rfl) :
    Ex X W (.Assign [.Name x p0] (.List [e0] p1) sp1 :: .Assign [.Subscript (.Subscript (.Name x p2) (.Constant (.int 0) kk p3) p4) ej tpos] e2 sp2 :: rest) G R O := fun en A σ H F DD st po => by
  refine ⟨_, pss_cons (ps_set hN hi hx (pe_lst pa_t) hw hf) (pss_cons (ps_asg pe_t (pg_sub (pe_ix ix_list (pe_var hi hv hd hcd) pe_int (fun _ _ => rfl)) pe_t set_list ha) hsw hw2 h1) pss_t), ?_⟩
  refine eva_cons h0 eva_nil hse en A σ H F _ st fun ws H1 F1 g1 r1 => ?_
  obtain ⟨v0, e1, r9⟩ := srs1 r1
  subst e1
  obtain ⟨p0, vs, hv0, q1, q2, q3, q4⟩ := (show ∃ a vs, v0 = .ref a ∧ H a = none ∧ ¬ F1 a ∧ H1 a = some (.lst vs) ∧ DnA X.K F1 H1 (r.map D.int) vs from r9)
  subst hv0
  have evs := row_vs q4
  subst evs
  refine ⟨Nat.le_of_ble_eq_true rfl, fun p1 hp1 => ?_⟩
  have g2 : Grow H1 F1 (upd H1 p1 (.lst [.ref p0])) F1 := Grow.new hp1 g1.t
  have st2 : Sta X.K en (G.set i .any) R A (σ.set i (some (.ref p1))) (upd H1 p1 (.lst [.ref p0])) F1 := st.put (g1.trans g2) rfl trivial
  have ne01 : p0 ≠ p1 := fun z => by rw [z, hp1] at q3; cases q3
  have c0 : upd H1 p1 (.lst [.ref p0]) p0 = some (.lst (r.map V.int)) := by rw [upd_ne ne01]; exact q3
  have c1 : upd H1 p1 (.lst [.ref p0]) p1 = some (.lst [.ref p0]) := upd_same
  generalize upd H1 p1 (.lst [.ref p0]) = H2 at g2 st2 c0 c1
  refine he en A _ H2 F1 _ st2 fun u H3 F3 g3 r3 => ?_
  have eu : u = .int v := r3
  subst eu
  refine ⟨_, by rw [List.getElem?_set_self (by rw [← st.len]; exact hil)], ?_⟩
  refine ⟨p1, [.ref p0], 0, .ref p0, rfl, rfl, SqL.of (g3.h _ _ c1), rfl, ?_⟩
  refine hj en A _ H3 F3 _ (st2.grow g3) fun z H4 F4 g4 r4 => ?_
  have ez : z = .int j := r4
  subst ez
  have d0 := g4.h _ _ (g3.h _ _ c0)
  have d1 := g4.h _ _ (g3.h _ _ c1)
  have g : Grow H F H4 F4 := ((g1.trans g2).trans g3).trans g4
  have nf : ¬ F4 p0 := fun z => by
    rcases (g2.trans (g3.trans g4)).n p0 z with y | y
    · exact q2 y
    · rw [y] at q3; cases q3
  have hp1H : H p1 = none := none_pre g1.h hp1
  refine ⟨p0, r.map V.int, j, j, rfl, rfl, d0, ?_, ?_⟩
  · rw [List.length_map]; unfold ixN; rw [if_pos (by omega), if_pos (by omega), Int.toNat_natCast]
  · have em : (r.map V.int).set j (.int v) = (r.set j v).map V.int := by rw [List.map_set]
    rw [em]
    have g5 : Grow H F (upd H4 p0 (.lst ((r.set j v).map V.int))) (fun a => F4 a ∨ a = p0) := by
      refine ⟨fun a o h => ?_, fun a h => .inl (g.f a h), fun a h => ?_, fun a h => ?_⟩
      · rw [upd_ne (fun z => by rw [z, q1] at h; cases h)]
        exact g.h a o h
      · rcases h with h | h
        · exact g.n a h
        · rw [h]; exact .inr q1
      · by_cases z : a = p0
        · rw [z, upd_same]; exact fun y => nomatch y
        · rw [upd_ne z]
          rcases h with h | h
          · exact g.t a h
          · exact absurd h z
    have r5 : SR X.K (.own [rowD (r.set j v)]) H (.ref p1) (upd H4 p0 (.lst ((r.set j v).map V.int))) (fun a => F4 a ∨ a = p0) := by
      refine ⟨p1, [.ref p0], rfl, hp1H, fun z => ?_, by rw [upd_ne (fun z => ne01 z.symm)]; exact d1, ⟨p0, _, rfl, .inr rfl, upd_same, row_dn _⟩, trivial⟩
      rcases z with z | z
      · rcases (g3.trans g4).n p1 z with y | y
        · rcases g1.n p1 y with w | w
          · exact st.ft p1 w hp1H
          · exact g1.t p1 y hp1
        · rw [y] at c1; cases c1
      · exact ne01 z.symm
    exact k en A _ _ _ DD (st.put g5 rfl r5) (po.from g5.mon)
end
end DL

namespace DL
open PySem PySem.Spec L2
section
variable {X : Cx} {G : List S} {R : Res} {e : Expr} {pos p cp : Pos} {ds : List D} {x : Str}
theorem ev_isSS (hm : X.mg "isinstance" = none) (ht : X.mg "str" = none) (ha : Ev X e G R (.d (.str x))) (hg : Gl X "isinstance" := by rfl) (hg2 : Gl X "str" := by rfl)
    (he : starEach [e, .Name "str" cp] X.env = (false, eval e X.env) :: starEach [.Name "str" cp] X.env := by rfl) (he2 : starEach [.Name "str" cp] X.env = [(false, eval (.Name "str" cp) X.env)] := by rfl) (hpl : (backTo pos (starEach [.Name "str" cp] X.env)).any (·.1) = false := by rfl) :
    Ev X (.Call (.Name "isinstance" p) [e, .Name "str" cp] [] pos) G R (.d (.bl true)) := by
  intro en A σ H F Q st q
  refine ⟨_, pe_callB call_isi hg hm (by decide +kernel) (pa_cons pe_t (pa_cons (pe_bltn hg2 ht (v := .ty "str") (u := .type "str") (by decide +kernel) rfl) pa_nil he2) he) (by decide) (by decide) he hpl, ?_⟩
  refine ha en A σ H F _ st fun v H1 F1 g1 r1 => ?_
  have ev : v = .str x := r1
  subst ev
  exact ⟨.str x, .ty "str", .type "str", .type "str", true, rfl, .ty _, .base (.str x), kit_ty (by decide +kernel), q _ H1 F1 g1 rfl⟩
theorem ev_isTS (hm : X.mg "isinstance" = none) (ht : X.mg "str" = none) (ha : Ev X e G R (.d (.tup ds))) (hg : Gl X "isinstance" := by rfl) (hg2 : Gl X "str" := by rfl)
    (he : starEach [e, .Name "str" cp] X.env = (false, eval e X.env) :: starEach [.Name "str" cp] X.env := by rfl) (he2 : starEach [.Name "str" cp] X.env = [(false, eval (.Name "str" cp) X.env)] := by rfl) (hpl : (backTo pos (starEach [.Name "str" cp] X.env)).any (·.1) = false := by rfl) :
    Ev X (.Call (.Name "isinstance" p) [e, .Name "str" cp] [] pos) G R (.d (.bl false)) := by
  intro en A σ H F Q st q
  refine ⟨_, pe_callB call_isi hg hm (by decide +kernel) (pa_cons pe_t (pa_cons (pe_bltn hg2 ht (v := .ty "str") (u := .type "str") (by decide +kernel) rfl) pa_nil he2) he) (by decide) (by decide) he hpl, ?_⟩
  refine ha en A σ H F _ st fun v H1 F1 g1 r1 => ?_
  obtain ⟨a, vs, rfl, h1, h2⟩ := r1
  refine ⟨.ref a, .ty "str", .type "tuple", .type "str", false, rfl, .ty _, ?_, kit_ty (by decide +kernel), q _ H1 F1 g1 rfl⟩
  rcases h1 with h1 | ⟨o, its, k, z1, z2, _⟩
  · rcases h1 with h1 | ⟨o, h1⟩
    · exact .base (.tup h1)
    · exact .fTuple h1
  · exact .kTuple z1 z2
end
end DL

namespace DL
open PySem PySem.Spec L2
/-- the table at P -/
abbrev tbO (P : Addr) : Ob := ⟨P, none, []⟩
section
variable {K : PySem.W.Frag} {H H' : Hp} {F : Fz} {P : Addr} {ps : Array Value}
theorem tab_mon (h : H P = some (.tbl ps)) (t : GxR.Tabbed P H H') : Mon H F H' F := by
  have ne : ∀ {a : Addr} {o : HO}, H a = some o → (∀ q, o ≠ .tbl q) → H' a = some o := fun {a o} e n => by
    have : a ≠ P := fun z => by rw [z, h] at e; exact n _ (Option.some.inj e).symm
    rw [t.2 a this]; exact e
  refine ⟨fun _ h => h, fun a xs r => ?_, fun a xs _ e => ne e fun q z => by cases z⟩
  rcases r with r | ⟨o, r⟩
  · exact .inl (ne r fun q z => by cases z)
  · exact .inr ⟨o, ne r fun q z => by cases z⟩
section
variable (h : H P = some (.tbl ps)) (t : GxR.Tabbed P H H')
include h t
theorem tab_ne {a : Addr} {o : HO} (e : H a = some o) (n : ∀ q, o ≠ .tbl q) : H' a = some o := by
  have : a ≠ P := fun z => by rw [z, h] at e; exact n _ (Option.some.inj e).symm
  rw [t.2 a this]; exact e
theorem FvAt.tab : ∀ {x : FV} {v : V} {ads : List Addr}, FvAt K F H H x v ads → FvAt K F H' H' x v ads
  | .d _, _, _, ⟨h1, h2⟩ => ⟨h1, Dn.mon (tab_mon h t) _ _ h2⟩
  | .own _, _, _, ⟨p, vs, h1, h2, h3, h4⟩ => ⟨p, vs, h1, h2, tab_ne h t h3 (fun q z => by cases z), DnA.mon (tab_mon h t) _ _ h4⟩
  | .dic _, _, _, ⟨p, vs, h1, h2, h3, h4⟩ => ⟨p, vs, h1, h2, tab_ne h t h3 (fun q z => by cases z), DnK.mon (tab_mon h t) h4⟩
theorem FsAt.tab : ∀ {fs : List (Str × FV)} {vs : List (Str × V)} {ads : List Addr}, FsAt K F H H fs vs ads → FsAt K F H' H' fs vs ads
  | [], [], _, z => z
  | _ :: _, _ :: _, _, ⟨h1, a1, a2, h2, h3, h4⟩ => ⟨h1, a1, a2, h2, FvAt.tab h t h3, FsAt.tab h4⟩
  | [], _ :: _, _, z => z.elim
  | _ :: _, [], _, z => z.elim
theorem ObAt.tab {o : Ob} {ads : List Addr} (g : ObAt K F H H o ads) : ObAt K F H' H' o ads := by
  obtain ⟨vs, as, rfl, h2, h3⟩ := g
  refine ⟨vs, as, rfl, FsAt.tab h t h2, ?_⟩
  obtain ⟨a0, C, fs⟩ := o
  cases C with
  | some C =>
    obtain ⟨dx, h3⟩ := h3
    exact ⟨dx, tab_ne h t h3 fun q z => by cases z⟩
  | none =>
    cases fs with
    | nil =>
      by_cases e : a0 = P
      · subst e; exact t.1
      · obtain ⟨ps, h4, h5⟩ := h3
        exact ⟨ps, by rw [show H' a0 = H a0 from t.2 a0 e]; exact h4, h5⟩
    | cons f fs => exact tab_ne h t h3 fun q z => by cases z
theorem ObsAt.tab : ∀ {os : List Ob} {ads : List Addr}, ObsAt K F H H os ads → ObsAt K F H' H' os ads
  | [], _, z => z
  | _ :: _, _, ⟨a1, a2, h2, h3, h4⟩ => ⟨a1, a2, h2, ObAt.tab h t h3, ObsAt.tab h4⟩
end
end
section
variable {K : PySem.W.Frag} {en : En} {G : List S} {A : Addr → Prop} {σ : L2.St} {H H' : Hp} {F : Fz} {l : List Ob} {P : Addr}
theorem sta_tabG (st : Sta K en G (obsR l) A σ H F) (ho : tbO P ∈ l) : GxR.TabG H P ∧ A P := by
  obtain ⟨ads, h1, h2, h3⟩ := st.rs
  obtain ⟨a1, h4, vs, as, h5, h6, h7⟩ := h1.mem ho
  exact ⟨h7, (h3 P).mpr (h4 P (by rw [h5]; exact List.mem_cons_self))⟩
theorem sta_tab (st : Sta K en G (obsR l) A σ H F) (ho : tbO P ∈ l) (t : GxR.Tabbed P H H') : Sta K en G (obsR l) A σ H' F ∧ Mon H F H' F := by
  obtain ⟨⟨ps, hP, hok⟩, aP⟩ := sta_tabG st ho
  have m : Mon H F H' F := tab_mon hP t
  have nn : ∀ a, H a ≠ none → H' a ≠ none := fun a z => by
    by_cases e : a = P
    · subst e
      obtain ⟨ps', h1, _⟩ := t.1
      rw [h1]; exact fun z => nomatch z
    · rw [t.2 a e]; exact z
  refine ⟨⟨fun a o h na => ?_, fun a h => nn a (st.th a h), st.f0, st.f1, fun a h => nn a (st.ft a h), fun a h => ⟨nn a (st.at_ a h).1, (st.at_ a h).2⟩, ?_, st.len, ?_⟩, m⟩
  · have e : a ≠ P := fun z => by
      subst z
      rcases (st.at_ a aP).2.2 with q | q
      · exact na q
      · rw [q] at h; cases h
    rw [t.2 a e]
    exact st.fr a o h na
  · obtain ⟨ads, h1, h2, h3⟩ := st.rs
    exact ⟨ads, h1.tab hP t, h2, h3⟩
  · obtain ⟨ow, hs⟩ := st.sl
    refine ⟨ow, fun i s hi => ?_⟩
    obtain ⟨o, h1, h2⟩ := hs i s hi
    refine ⟨o, h1, ?_⟩
    cases s with
    | any => trivial
    | d x => obtain ⟨v, h3, h4⟩ := h2; exact ⟨v, h3, Dn.mon m _ _ h4⟩
    | own ds => obtain ⟨a, vs, h3, h4, h5, h6, h7, h8, h9⟩ := h2; exact ⟨a, vs, h3, h4, h5, h6, tab_ne hP t h7 (fun q z => by cases z), DnA.mon m _ _ h8, h9⟩
    | bor ds => obtain ⟨a, vs, h3, h4, h5, h6⟩ := h2; exact ⟨a, vs, h3, h4, h5, DnA.mon m _ _ h6⟩
    | scr ns => exact h2
    | dic ds => obtain ⟨a, vs, h3, h4, h5, h6, h7, h8, h9⟩ := h2; exact ⟨a, vs, h3, h4, h5, h6, tab_ne hP t h7 (fun q z => by cases z), DnK.mon m h8, h9⟩
    | bdic ds => obtain ⟨a, vs, h3, h4, h5, h6⟩ := h2; exact ⟨a, vs, h3, h4, h5, DnK.mon m h6⟩
    | bob a l => obtain ⟨h3, ads, h4, h5⟩ := h2; exact ⟨h3, ads, ObsAt.mon m (fun _ _ _ z => z) h4, h5⟩
    | ldic a ds => obtain ⟨h3, vs, h4, h5, h6⟩ := h2; exact ⟨h3, vs, h4, h5, DnK.mon m h6⟩
    | exn a dd fs => obtain ⟨h3, h4, vs, h5, h6⟩ := h2; exact ⟨h3, h4, vs, tab_ne hP t h5 (fun q z => by cases z), DnF.mon m h6⟩
end
section
variable {X : Cx} {G : List S} {l : List Ob} {P c : Addr} {elt iter : Expr} {x : Str} {px p pos gpos : Pos} {scope : Scope} {pb : Nat → Bool} {r : Nat} {a : Str}
theorem evm_allS (TB : GxR.TabB X.base X.mg c P) (hcode : X.env.code = .ref c) (hr : Room r X.A) (hm : X.mg "all" = none) (ho : tbO P ∈ l) (S : GxR.GenS X.env scope x) (hi : Ev X iter G (obsR l) (.d (.str a))) (hel : GxR.EltP X.prog X.w scope x elt pb)
    (hs : ∀ v, genFold iter X.env v = pure v := by intro _; rfl) (hg : Gl X "all" := by rfl) : EvMd X (.Call (.Name "all" p) [.GeneratorExp elt [⟨.Name x px, iter, [], 0⟩] scope gpos] [] pos) G (obsR l) (.bl (a.cps.toList.all pb)) (obsR l) := by
  intro en A σ H F Q st k
  refine ⟨_, GxR.pe_allS hr hg hm (by decide +kernel) TB hcode S pe_t hel hs, ?_⟩
  refine hi en A σ H F _ st fun v H1 F1 g1 r1 => ?_
  have st1 := st.grow g1
  have r1' : v = .str a := r1
  subst r1'
  refine ⟨a, rfl, (sta_tabG st1 ho).1, fun H2 t => ?_⟩
  obtain ⟨st2, m2⟩ := sta_tab st1 ho t
  exact k _ _ A _ H2 F1 ⟨rfl, rfl⟩ st2 (g1.mon.trans m2) rfl trivial
end
/-- one of the signs of a text -/
theorem elt_in {prog : Program} {w : World} {scope : Scope} {x k : Str} {j : Nat} {p1 p2 p3 : Pos} (hk : scope.kind = .function) (hl : scope.names.lookup x = some .local) (hd : (x == ("__debug__" : Str)) = false := by decide) :
    GxR.EltP prog w scope x (.Compare (.Name x p1) [.In] [.Constant (.str k) j p2] p3) (fun c => decide (c ∈ k.cps.toList)) := by
  intro cenv A' E' c t s₂ m₂ hs hn hm
  refine wpAny_Compare1 ?_
  refine wpAny_Name (wpAny_loadName_local (by rw [hs]; exact hk) (show cenv.scope.names.lookup x = some .local by rw [hs]; exact hl) hn hm ?_) hd
  refine Calls.Constant_str ?_
  refine PyProof.Rows.in_str ⟨?_, GxR.keeps_tok _ _⟩
  rw [PySem.StrLaws.found_one]
end DL

namespace DL
open PySem PySem.Spec L2
abbrev sgD (c : Nat) : D := .str ⟨#[c]⟩
abbrev stD' (x : Str) : D := .str x
section
variable {X : Cx} {G : List S} {R : Res} {e a b o iter tg : Expr} {es : List Expr} {pos p p2 apos : Pos} {x y z : Str} {i n : Int} {c : Nat} {lo hi : Option Expr} {ol oh : Option Int}
theorem ev_lenS (hm : X.mg "len" = none) (hl : x.length ≤ sizeLine) (ha : Ev X e G R (.d (.str x))) (hg : Gl X "len" := by rfl) (he : starEach [e] X.env = [(false, eval e X.env)] := by rfl) : Ev X (.Call (.Name "len" p) [e] [] pos) G R (.d (.int (x.length : Nat))) := by
  refine ev_callB call_len_str hm boot_len ?_ (eva_cons ha eva_nil he) hg (by decide) (by decide) he (by rfl)
  intro H0 xs H F Q ft h k
  obtain ⟨v, e1, h'⟩ := srs1 h
  subst e1
  have h2 : v = .str x := h'
  subst h2
  exact ⟨x, rfl, hl, k _ H F (Grow.refl ft) rfl⟩
theorem ev_slS {p2 : Pos} (hl' : x.length ≤ sizeLine) (ha : Ev X e G R (.d (.str x))) (hl : EvO X lo G R ol) (hu : EvO X hi G R oh) : Ev X (.Subscript e (.Slice lo hi none p2) pos) G R (.d (.str (cutS x ol oh))) := by
  intro en A σ H F Q st k
  refine ⟨_, pe_slice sl_str pe_t po_t po_t, ?_⟩
  refine ha en A σ H F _ st fun v H1 F1 g1 r1 => ?_
  refine hl en A σ H1 F1 _ (st.grow g1) fun H2 F2 g2 => ?_
  refine hu en A σ H2 F2 _ ((st.grow g1).grow g2) fun H3 F3 g3 => ?_
  have h2 : v = .str x := r1
  subst h2
  exact ⟨x, rfl, hl', k _ H3 F3 ((g1.trans g2).trans g3) rfl⟩
theorem ev_ixSg (hl : x.length ≤ sizeLine) (ha : Ev X a G R (.d (.str x))) (hb : Ev X b G R (.d (.int i))) (h : atI x.cps.toList i = some c) (hs : PlainIx b := by exact fun _ _ => rfl) : Ev X (.Subscript a b pos) G R (.d (sgD c)) := by
  intro en A σ H F Q st k
  refine ⟨_, pe_ix ix_str pe_t pe_t hs, ?_⟩
  refine ha en A σ H F _ st fun v H1 F1 g1 r1 => ?_
  refine hb en A σ H1 F1 _ (st.grow g1) fun u H2 F2 g2 r2 => ?_
  have h2 : v = .str x := r1
  subst h2
  exact ⟨x, i, c, rfl, r2, hl, h, k _ H2 F2 (g1.trans g2) rfl⟩
theorem ev_startswith (ha : Ev X o G R (.d (.str x))) (hb : Ev X e G R (.d (.str y))) (hs : starEach [e] X.env = [(false, eval e X.env)] := by rfl) (hbase : attributeBase o "startswith" X.env (eval o X.env) = eval o X.env := by rfl) (hline : (apos.endLine == pos.line) = true := by rfl) : Ev X (.Call (.Attribute o "startswith" apos) [e] [] pos) G R (.d (.bl (Txt.startswith x y))) := by
  intro en A σ H F Q st k
  refine ⟨_, pe_m1 PySem.F.slot_str_startswith PySem.F.type_str_startswith mt_startswith pe_t pe_t hs hbase hline, ?_⟩
  refine ha en A σ H F _ st fun v H1 F1 g1 r1 => ?_
  have h2 : v = .str x := r1
  subst h2
  refine ⟨⟨x, rfl⟩, hb en A σ H1 F1 _ (st.grow g1) fun u H2 F2 g2 r2 => ?_⟩
  have h3 : u = .str y := r2
  subst h3
  exact ⟨x, y, rfl, rfl, k _ H2 F2 (g1.trans g2) rfl⟩
theorem dns_str {K : PySem.W.Frag} {F : Fz} {H : Hp} : ∀ l : List Str, DnA K F H (l.map D.str) (l.map V.str)
  | [] => trivial
  | x :: l => ⟨rfl, dns_str l⟩
theorem dns_strI {K : PySem.W.Frag} {F : Fz} {H : Hp} : ∀ {l : List Str} {vs : List V}, DnA K F H (l.map D.str) vs → vs = l.map V.str
  | [], [], _ => rfl
  | [], _ :: _, h => h.elim
  | _ :: _, [], h => h.elim
  | x :: l, v :: vs, h => by
    have h1 : v = .str x := h.1
    rw [h1, dns_strI h.2]
    rfl
theorem ev_split (hy : (y.length == 0) = false) (hl : x.length + 2 ≤ sizeLine) (ha : Ev X o G R (.d (.str x))) (hb : Ev X e G R (.d (.str y))) (hs : starEach [e] X.env = [(false, eval e X.env)] := by rfl) (hbase : attributeBase o "split" X.env (eval o X.env) = eval o X.env := by rfl) (hline : (apos.endLine == pos.line) = true := by rfl) : Ev X (.Call (.Attribute o "split" apos) [e] [] pos) G R (.own ((Txt.split x y).map D.str)) := by
  intro en A σ H F Q st k
  refine ⟨_, pe_split pe_t pe_t hs hbase hline, ?_⟩
  refine ha en A σ H F _ st fun v H1 F1 g1 r1 => ?_
  have h2 : v = .str x := r1
  subst h2
  refine ⟨⟨x, rfl⟩, hb en A σ H1 F1 _ (st.grow g1) fun u H2 F2 g2 r2 => ?_⟩
  have h3 : u = .str y := r2
  subst h3
  refine ⟨x, y, rfl, rfl, hy, hl, fun q hq => ?_⟩
  obtain ⟨g, s⟩ := sr_new (ds := (Txt.split x y).map D.str) g2.t hq (dns_str _)
  exact k _ _ F2 ((g1.trans g2).trans g) (SR.pre (g1.trans g2).nn s)
theorem ev_intS (hm : X.mg "int" = none) (hn : PySem.intText? x = some n) (hl : x.length ≤ 640) (ha : Ev X e G R (.d (.str x))) (hg : Gl X "int" := by rfl) (he : starEach [e] X.env = [(false, eval e X.env)] := by rfl) : Ev X (.Call (.Name "int" p) [e] [] pos) G R (.d (.int n)) := by
  refine ev_callTy call_int_str hm (by decide +kernel) ?_ (eva_cons ha eva_nil he) hg (by decide) (by decide) he (by rfl)
  intro H0 xs H F Q ft h k
  obtain ⟨v, rfl, r1⟩ := srs1 h
  have h2 : v = .str x := r1
  subst h2
  exact ⟨x, n, rfl, hn, hl, k _ H F (Grow.refl ft) rfl⟩
theorem tv_inSg (ha : Ev X a G R (.d (sgD c))) (hb : Ev X b G R (.d (.str z))) (hm : behindInMarks .In b = false := by rfl) : Tv X (.Compare a [.In] [b] pos) G R (decide (c ∈ z.cps.toList)) :=
  tv_cmpR (s1 := .d (sgD c)) (s2 := .d (.str z)) op_in_sign (fun H0 x y H F Q ft hx hy k => ⟨c, z, (show x = .str ⟨#[c]⟩ from hx), (show y = .str z from hy), k _ H F (Grow.refl ft) rfl⟩) ha hb hm
theorem tv_notInSg (ha : Ev X a G R (.d (sgD c))) (hb : Ev X b G R (.d (.str z))) (hm : behindInMarks .NotIn b = false := by rfl) : Tv X (.Compare a [.NotIn] [b] pos) G R (!decide (c ∈ z.cps.toList)) :=
  tv_cmpR (s1 := .d (sgD c)) (s2 := .d (.str z)) op_notIn_sign (fun H0 x y H F Q ft hx hy k => ⟨c, z, (show x = .str ⟨#[c]⟩ from hx), (show y = .str z from hy), k _ H F (Grow.refl ft) rfl⟩) ha hb hm
theorem evi_str (h : Ev X iter G R (.d (.str x))) : EvI X tg iter G R (x.cps.toList.map sgD) := by
  intro en A σ H F Q st k
  refine ⟨_, pi_str pe_t, ?_⟩
  refine h en A σ H F _ st fun v H1 F1 g r => ?_
  have h2 : v = .str x := r
  subst h2
  refine ⟨x, rfl, k _ H1 F1 g fun i H2 F2 m _ => ⟨fun hi => by rw [List.length_map, Array.length_toList] at hi; exact hi, fun d hd => ?_⟩⟩
  rw [List.getElem?_map] at hd
  cases e : x.cps.toList[i]? with
  | none => rw [e] at hd; cases hd
  | some c =>
    rw [e] at hd
    cases hd
    have e' : x.cps[i]? = some c := by rw [← Array.getElem?_toList]; exact e
    refine ⟨?_, fun u H' yy => ?_⟩
    · have := (Array.getElem?_eq_some_iff.mp e').1
      exact this
    · obtain ⟨e1, c', e2, e3⟩ := yy
      rw [e'] at e2
      cases e2
      exact ⟨e1, e3⟩
theorem ev_join {l : List Str} (hl : (l.map (·.length)).sum + l.length * x.length ≤ 16777216) (ha : Ev X o G R (.d (.str x))) (hb : Ev X e G R (.bor (l.map D.str))) (hs : starEach [e] X.env = [(false, eval e X.env)] := by rfl) (hbase : attributeBase o "join" X.env (eval o X.env) = eval o X.env := by rfl) (hline : (apos.endLine == pos.line) = true := by rfl) : Ev X (.Call (.Attribute o "join" apos) [e] [] pos) G R (.d (.str (Txt.join x l))) := by
  intro en A σ H F Q st k
  refine ⟨_, pe_join pe_t pe_t hs hbase hline, ?_⟩
  refine ha en A σ H F _ st fun v H1 F1 g1 r1 => ?_
  have h2 : v = .str x := r1
  subst h2
  refine ⟨⟨x, rfl⟩, hb en A σ H1 F1 _ (st.grow g1) fun u H2 F2 g2 r2 => ?_⟩
  obtain ⟨q, vs, rfl, h3, h4⟩ := r2
  have ev : vs = l.map V.str := dns_strI h4
  subst ev
  exact ⟨x, q, l, rfl, rfl, .inl (SqL.of h3), hl, k _ H2 F2 (g1.trans g2) rfl⟩
end
end DL

namespace DL
open PySem PySem.Spec L2
section
variable {P : Program} {w : World} {K : PySem.W.Frag} {mg : Str → Option Value} {base : Heap}
theorem FunD.okC {CX : CXT} {N ps : List Str} {k : Nat} {sp : Sp} {x qual : Str} {params : Arguments} {body : List Stmt} {scope : Scope} {dvs : List V} {kws : List (Str × V)} {f : Addr} {fd : FuncData} (F : FunD K x qual params body scope dvs kws f fd) (S : FnScope N ps scope) (len : ∀ vs H Q E, sp vs H Q E → vs.length = ps.length)
    (hbody : ∀ (cdv : Value), fd.code = cdv → ∀ (A : Around) (outer : List Env) (s : Shared) (H : Hp) (vs : List V) (Q : VK) (E : XK), Room k (A.deeper (PyProof.Rows.envOfC qual scope s.heap.objs.size f cdv)) → sp vs H Q E →
      ∃ t, PSs (cxOf CX P w K mg base N qual scope f cdv A outer s H E) body t ∧ t { nx := fun _ H' => Q .non H', rt := Q } (start N vs) H) : FnOk P w K mg base CX (k + 1) f fd ps sp := by
  obtain ⟨oc, od, dV, kV, doc, pm, an, cdv, ct, osl, rfl, lk, hcd, _, _⟩ := F.ex
  exact fn_of lk hcd S len fun A outer s H vs Q E hr hsp => hbody cdv rfl A outer s H vs Q E hr hsp
theorem fn_mkRc {x qual : Str} {params : Arguments} {body : List Stmt} {scope : Scope} {dvs : List V} {kws : List (Str × V)} {f : Addr} {fd : FuncData} {N ps : List Str} {k : Nat} {C : CtR} (F : FunD K x qual params body scope dvs kws f fd) (S' : FnScope N ps scope)
    (hlen : ∀ ss l post, C ss l post → ss.length = ps.length)
    (hbody : ∀ (cdv : Value), fd.code = cdv → ∀ (A : Around) (outer : List Env) (s : Shared) (H : Hp) (E : XK), Room k (A.deeper (PyProof.Rows.envOfC qual scope s.heap.objs.size f cdv)) →
      PassesOwn (model P w) (A.deeper (PyProof.Rows.envOfC qual scope s.heap.objs.size f cdv)) (PyProof.Rows.envOfC qual scope s.heap.objs.size f cdv) (cxOf (L2.CX P w) P w K mg base N qual scope f cdv A outer s H E).xe → ∀ ss l post, C ss l post → okArgs ss l →
      Ex (cxOf (L2.CX P w) P w K mg base N qual scope f cdv A outer s H E) (fun x _ R => ∃ l', R = obsR l' ∧ post (.exc x) l') body (ss ++ List.replicate (N.length - ps.length) S.any) (obsR l)
        { nx := fun _ R => ∃ l', R = obsR l' ∧ post (.ret (.d .non)) l', rt := fun s R => ∃ l', R = obsR l' ∧ post (.ret s) l' }) :
    FnOk P w K mg base (L2.CX P w) (k + 1) f fd ps (spR K C) := by
  have len : ∀ vs H Q E, spR K C vs H Q E → vs.length = ps.length := fun vs H Q E h => by
    obtain ⟨F, A, ss, l, post, h1, h2, h3, h4, h5, h6⟩ := h
    rw [h5.length]
    exact hlen ss l post h1
  refine FunD.okC F S' len fun cdv hcdv A outer s H vs Q E hr hsp => ?_
  have hvl := len vs H Q E hsp
  obtain ⟨F, A0, ss, l, post, h1, h2, h3, h4, h5, h6⟩ := hsp
  have hl := hlen ss l post h1
  have tk0 : Takes (cxOf (L2.CX P w) P w K mg base N qual scope f cdv A outer s H E) (fun cls d _ H => E cls d H) := takes_of rfl rfl rfl rfl
  have hp : PassesOwn (model P w) (A.deeper (PyProof.Rows.envOfC qual scope s.heap.objs.size f cdv)) (PyProof.Rows.envOfC qual scope s.heap.objs.size f cdv) (cxOf (L2.CX P w) P w K mg base N qual scope f cdv A outer s H E).xe := PassesOwn.leaving
  have st : Sta K ⟨H, F, A0⟩ (ss ++ List.replicate (N.length - ps.length) S.any) (obsR l) A0 (start N vs) H F := by
    refine ⟨fun a o h _ => h, fun a h => h, fun a h => h, fun a h => .inl h, h2.ft, fun a h => ⟨(h2.at_ a h).1, (h2.at_ a h).2, .inl h⟩, h3, ?_, fun _ => 0, fun i t ht => ?_⟩
    · unfold L2.start
      rw [List.length_append, List.length_append, List.length_replicate, List.length_replicate, List.length_map, hl, hvl]
    · unfold L2.start
      rw [hvl]
      rcases h4 with h4' | ⟨rfl, h4'⟩
      · obtain ⟨o, k1, k2⟩ := slots_startR (K := K) (F := F) (A := A0) (fun _ => 0) (N.length - ps.length) 0 h4' h5 i t ht
        refine ⟨o, k1, ?_⟩
        have ts : t = .any ∨ ∃ x, t = .d x := by
          have := List.mem_of_getElem? ht
          rcases List.mem_append.mp this with z | z
          · have q := List.all_eq_true.mp h4' t z
            cases t with
            | any => exact .inl rfl
            | d x => exact .inr ⟨x, rfl⟩
            | _ => cases q
          · exact .inl (List.eq_of_mem_replicate z)
        rcases ts with rfl | ⟨x, rfl⟩
        · trivial
        · exact k2
      · obtain ⟨ads, e1, _, e2⟩ := h3
        have e1' : ads = [] := e1
        subst e1'
        have eA : A0 = fun _ => False := funext fun x => propext ⟨fun z => (List.not_mem_nil ((e2 x).mp z)).elim, fun z => z.elim⟩
        subst eA
        obtain ⟨o, k1, k2⟩ := slots_start (K := K) (F := F) (fun _ => 0) (N.length - ps.length) 0 h5 i t ht
        refine ⟨o, k1, ?_⟩
        cases t with
        | own ds => obtain ⟨a, vs, z1, z2, z3, z4, z5, z6, z7⟩ := k2; have z7' : H a = none := z7; rw [z7'] at z5; cases z5
        | dic ds => obtain ⟨a, vs, z1, z2, z3, z4, z5, z6, z7⟩ := k2; have z7' : H a = none := z7; rw [z7'] at z5; cases z5
        | any => exact k2
        | d x => exact k2
        | bor x => exact k2
        | scr x => exact k2
        | bdic x => exact k2
        | bob a l => exact k2
        | ldic a l => exact k2
        | exn a dd fs => exact k2
  refine ⟨_, pss_t, hbody cdv hcdv A outer s H E hr hp ss l post h1 h4 ⟨H, F, A0⟩ A0 (start N vs) H F _ st ⟨tk0.imp fun cls d σ H' hw => ?_, fun G R A σ H' F' h s' m => ?_, fun s R A' v H' F' h s' r ap => ?_, fun _ _ _ _ _ _ h => h.elim, fun _ _ _ _ _ _ h => h.elim⟩⟩
  · obtain ⟨x, G, R, A', F', ⟨l', rfl, hw⟩, s', hx, _⟩ := hw
    exact h6 _ l' hw cls d H' F' A' s'.fin hx
  · obtain ⟨l', rfl, hw⟩ := h
    exact h6 _ l' hw .non H' F' A s'.fin rfl trivial
  · obtain ⟨l', rfl, hw⟩ := h
    exact h6 _ l' hw v H' F' A' s' r ap
/-- the law, its tables -/
def spL (K : PySem.W.Frag) (tabs : List Addr) : Sp := fun vs H Q E => ∃ (a : Addr) (ns : List Int), ns.length ≤ 63 ∧ vs = [.ref a] ∧ SqL K H a (ns.map V.int) ∧ (∀ P ∈ tabs, K.lookup P = none) ∧ tabs.Nodup ∧ (∀ P ∈ tabs, H P = some (.tbl #[])) ∧ ∀ H', Q (.bl true) H'
theorem obs_tabs {K : PySem.W.Frag} {F : Fz} {H : Hp} : ∀ {tabs : List Addr}, (∀ P ∈ tabs, H P = some (.tbl #[])) → ObsAt K F H H (tabs.map tbO) tabs
  | [], _ => rfl
  | P :: tabs, h => ⟨[P], tabs, rfl, ⟨[], [], rfl, rfl, #[], h P List.mem_cons_self, trivial⟩, obs_tabs fun Q hQ => h Q (List.mem_cons_of_mem _ hQ)⟩
theorem fn_mkL {tabs : List Addr} {x qual : Str} {params : Arguments} {body : List Stmt} {scope : Scope} {dvs : List V} {kws : List (Str × V)} {f : Addr} {fd : FuncData} {N : List Str} {y : Str} {k : Nat} (F : FunD K x qual params body scope dvs kws f fd) (S' : FnScope N [y] scope)
    (hbody : ∀ (cdv : Value) (A : Around) (outer : List Env) (s : Shared) (H : Hp) (E : XK), Room k (A.deeper (PyProof.Rows.envOfC qual scope s.heap.objs.size f cdv)) →
      PassesOwn (model P w) (A.deeper (PyProof.Rows.envOfC qual scope s.heap.objs.size f cdv)) (PyProof.Rows.envOfC qual scope s.heap.objs.size f cdv) (cxOf (L2.CX P w) P w K mg base N qual scope f cdv A outer s H E).xe → ∀ ns : List Int, ns.length ≤ 63 →
      Ex (cxOf (L2.CX P w) P w K mg base N qual scope f cdv A outer s H E) (fun _ _ _ => False) body ([.scr ns] ++ List.replicate (N.length - 1) S.any) (obsR (tabs.map tbO))
        { nx := fun _ _ => False, rt := fun s R => s = .d (.bl true) }) :
    FnOk P w K mg base (L2.CX P w) (k + 1) f fd [y] (spL K tabs) := by
  refine F.ok S' (fun vs H Q E h => by obtain ⟨a, ns, _, rfl, _⟩ := h; rfl) fun cdv A outer s H vs Q E hr hsp => ?_
  obtain ⟨a, ns, h1, rfl, h2, hkl, h3, h4, h5⟩ := hsp
  have tk0 : Takes (cxOf (L2.CX P w) P w K mg base N qual scope f cdv A outer s H E) (fun cls d _ H => E cls d H) := takes_of rfl rfl rfl rfl
  have hp : PassesOwn (model P w) (A.deeper (PyProof.Rows.envOfC qual scope s.heap.objs.size f cdv)) (PyProof.Rows.envOfC qual scope s.heap.objs.size f cdv) (cxOf (L2.CX P w) P w K mg base N qual scope f cdv A outer s H E).xe := PassesOwn.leaving
  have na : a ∉ tabs := fun z => by
    have e := h4 a z
    rcases h2 with q | ⟨o, its, n, q, _⟩
    · rcases q with q | ⟨o, q⟩
      · rw [e] at q; cases q
      · rw [e] at q; cases q
    · rw [hkl a z] at q; cases q
  have st : Sta K ⟨H, fun _ => False, fun x => x ∈ tabs⟩ ([.scr ns] ++ List.replicate (N.length - 1) S.any) (obsR (tabs.map tbO)) (fun x => x ∈ tabs) (start N [.ref a]) H (fun _ => False) := by
    refine ⟨fun a o h _ => h, fun a h => h, fun a h => h, fun a h => .inl h, fun a h => h.elim, fun a h => ⟨(by rw [h4 a h]; exact fun z => nomatch z), (fun z => z), .inl h⟩, ⟨tabs, obs_tabs h4, h3, fun x => Iff.rfl⟩, ?_, fun _ => 0, fun i t ht => ?_⟩
    · unfold L2.start
      rw [List.length_append, List.length_append, List.length_replicate, List.length_replicate, List.length_map]
      rfl
    · unfold L2.start
      cases i with
      | zero =>
        cases ht
        exact ⟨_, rfl, a, rfl, h2, na⟩
      | succ i =>
        have ht' : (List.replicate (N.length - 1) S.any)[i]? = some t := ht
        rw [List.getElem?_replicate] at ht'
        split at ht'
        · next hi =>
          cases ht'
          refine ⟨none, ?_, trivial⟩
          show (List.replicate (N.length - 1) none)[i]? = some none
          rw [List.getElem?_replicate, if_pos hi]
        · cases ht'
  refine ⟨_, pss_t, hbody cdv A outer s H E hr hp ns h1 ⟨H, fun _ => False, fun x => x ∈ tabs⟩ _ (start N [.ref a]) H _ _ st ⟨tk0.imp fun cls d σ H' hw => ?_, fun G R A σ H' F' h s' m => h.elim, fun s R A' v H' F' h s' r ap => ?_, fun _ _ _ _ _ _ h => h.elim, fun _ _ _ _ _ _ h => h.elim⟩⟩
  · obtain ⟨x, G, R, A', F', hw, _⟩ := hw
    exact hw.elim
  · subst h
    have r' : v = .bl true := r
    subst r'
    exact h5 H'
end
section
variable {X : Cx} {G : List S} {R R1 R2 : Res} {a b : Expr} {es : List Expr} {pos : Pos} {d : D}
theorem evm_one {op} {P : S → Res → Prop} (h : EvM X a G R P) : EvM X (.BoolOp op [a] pos) G R P := fun en A σ H F Q st k => ⟨_, pe_one pe_t, h en A σ H F Q st k⟩
theorem evm_andT (h : EvMd X a G R (.bl true) R1) (h' : EvMd X (.BoolOp .And (b :: es) pos) G R1 d R2) : EvMd X (.BoolOp .And (a :: b :: es) pos) G R d R2 := by
  intro en A σ H F Q st k
  refine ⟨_, pe_and pe_t pe_t, ?_⟩
  refine h en A σ H F _ st fun s R' A' x H1 F1 ⟨e1, e2⟩ st1 m1 r1 ap1 => ?_
  subst e1 e2
  refine ⟨true, r1, iteT (h' en A' σ H1 F1 _ st1 fun s R'' A'' v H2 F2 hz st2 m2 r2 ap2 => ?_)⟩
  obtain ⟨rfl, rfl⟩ := hz
  exact k _ _ A'' v H2 F2 ⟨rfl, rfl⟩ st2 (m1.trans m2) r2 ap2
theorem evm_isN (ha : EvMd X a G R d R1) (hb : EvMd X b G R1 .non R2) (hm : behindInMarks .Is b = false := by rfl) : EvMd X (.Compare a [.Is] [b] pos) G R (.bl d.isN) R2 := evm_cmpR op_isN (d := d) (d2 := .non) (d3 := .bl d.isN) (fun H0 x y H F Q ft hx hy k => ⟨hy, k _ H F (Grow.refl ft) (by rw [isN_V hx]; exact rfl)⟩) ha hb hm
end
end DL

namespace DL
open PySem PySem.Spec L2
section
variable {X : Cx} {G : List S} {R : Res} {a b c : Expr} {pos : Pos} {i j k : Int}
theorem tv_lele (ha : Ev X a G R (.d (.int i))) (hb : Ev X b G R (.d (.int j))) (hc : Ev X c G R (.d (.int k))) (hm : lastMarks [.LtE, .LtE] [b, c] = false := by with_unfolding_all rfl) : Tv X (.Compare a [.LtE, .LtE] [b, c] pos) G R (decide (i ≤ j) && decide (j ≤ k)) := by
  intro en A σ H F Q st q
  refine ⟨_, pt_chain op_le op_le pe_t pe_t pe_t hm, ?_⟩
  refine ha en A σ H F _ st fun x H1 F1 g1 r1 => ?_
  refine hb en A σ H1 F1 _ (st.grow g1) fun y H2 F2 g2 r2 => ?_
  refine ro_B0 (f := fun i j => decide (i ≤ j)) (i := i) (j := j) H2 x y H2 F2 _ ((st.grow g1).grow g2).ft (SR.grow r1 g2) r2 fun z H3 F3 g3 r3 => ⟨decide (i ≤ j), r3, ?_⟩
  by_cases h : i ≤ j
  · rw [if_pos (decide_eq_true h)]
    refine hc en A σ H3 F3 _ (((st.grow g1).grow g2).grow g3) fun u H4 F4 g4 r4 => ?_
    refine ro_B0 (f := fun i j => decide (i ≤ j)) (i := j) (j := k) H4 y u H4 F4 _ ((((st.grow g1).grow g2).grow g3).grow g4).ft (SR.grow (SR.grow r2 g3) g4) r4 fun z H5 F5 g5 r5 => ⟨_, r5, ?_⟩
    have e : (decide (i ≤ j) && decide (j ≤ k)) = decide (j ≤ k) := by rw [decide_eq_true h]; rfl
    rw [e] at q
    exact q H5 F5 ((((g1.trans g2).trans g3).trans g4).trans g5)
  · rw [if_neg (by rw [decide_eq_false h]; simp)]
    refine ⟨false, rfl, ?_⟩
    have e : (decide (i ≤ j) && decide (j ≤ k)) = false := by rw [decide_eq_false h]; rfl
    rw [e] at q
    exact q H3 F3 ((g1.trans g2).trans g3)
end
/-! ### numbers as texts -/
abbrev txI (i : Int) : Str := toString i
def fmtR (r : Rat) : Str := if r.den = 1 then txI r.num else txI r.num ++ ("/" : Str) ++ txI (r.den : Nat)
theorem log2_bd {x n : Nat} (h : x < 2 ^ n) (hn : n < 1920) : x.log2 < 1920 := by
  refine Nat.lt_of_lt_of_le (PySem.Flt.log2_lt_of (k := n + 1) (by omega) (Nat.lt_of_lt_of_le h (Nat.pow_le_pow_right (by decide) (by omega)))) (by omega)
def digsS : Str := "0123456789"
theorem mem_digs {c : Nat} : c ∈ digsS.cps.toList ↔ 48 ≤ c ∧ c ≤ 57 := by
  have e : digsS.cps.toList = [48, 49, 50, 51, 52, 53, 54, 55, 56, 57] := by decide +kernel
  rw [e]
  simp only [List.mem_cons, List.not_mem_nil, or_false]
  omega
def digB (c : Nat) : Bool := decide (c ∈ digsS.cps.toList)
/-- what natural reads -/
def natF (w : Str) : Option Int := if (1 ≤ w.length ∧ w.length ≤ 9) ∧ w.cps.toList.all digB = true ∧ ¬ (1 < w.length ∧ w.cps.toList[0]? = some 48) then some (NumText.digitsVal w.cps.toList : Nat) else none
def optI : Option Int → D
  | none => .non
  | some i => .int i
theorem all_dig {l : List Nat} (h : l.all digB = true) : NumText.AllDigits l := fun c hc => mem_digs.mp (of_decide_eq_true (List.all_eq_true.mp h c hc))
theorem dv_lt : ∀ (l : List Nat) (acc : Nat), NumText.AllDigits l → l.foldl (fun acc c => acc * 10 + (c - 48)) acc < (acc + 1) * 10 ^ l.length
  | [], acc, _ => by simp
  | c :: l, acc, h => by
    have h1 := dv_lt l (acc * 10 + (c - 48)) h.tail
    have h2 := h.head
    rw [List.foldl_cons]
    refine Nat.lt_of_lt_of_le h1 ?_
    rw [List.length_cons, Nat.pow_succ, Nat.mul_comm (10 ^ l.length) 10, ← Nat.mul_assoc]
    exact Nat.mul_le_mul_right _ (by omega)
theorem natF_lt {w : Str} {n : Int} (h : natF w = some n) : n < 10 ^ 9 := by
  unfold natF at h
  split at h
  · next c =>
    obtain ⟨⟨c1, c2⟩, c3, c4⟩ := c
    cases h
    have h1 := dv_lt w.cps.toList 0 (all_dig c3)
    have e : w.length = w.cps.toList.length := by simp [Str.length]
    have h2 : 10 ^ w.cps.toList.length ≤ 10 ^ 9 := Nat.pow_le_pow_right (by decide) (by omega)
    have h3 : NumText.digitsVal w.cps.toList < 10 ^ 9 := by
      have h1 : NumText.digitsVal w.cps.toList < (0 + 1) * 10 ^ w.cps.toList.length := h1
      omega
    omega
  · cases h
theorem natF_nn {w : Str} {n : Int} (h : natF w = some n) : 0 ≤ n ∧ PySem.intText? w = some n ∧ w.length ≤ 9 := by
  unfold natF at h
  split at h
  · next c =>
    obtain ⟨⟨c1, c2⟩, c3, c4⟩ := c
    cases h
    refine ⟨by omega, PySem.intText_digits (all_dig c3) (fun z => ?_) (by omega), c2⟩
    have : w.cps.toList.length = 0 := by rw [z]; rfl
    have e : w.length = w.cps.toList.length := by simp [Str.length]
    omega
  · cases h
/-- what read_number reads -/
def negF (w : Str) : Bool := Txt.startswith w "-"
def partsF (w : Str) : List Str := Txt.split (if negF w = true then cutS w (some 1) none else w) "/"
def sgnI (q : Bool) (t : Int) : Int := if q then -t else t
def readR (w : Str) : Option Rat := match natF ((partsF w).getD 0 "") with
  | none => none
  | some t => if 2 < (partsF w).length ∨ (negF w = true ∧ t = 0) then none
    else if (partsF w).length = 2 then (match natF ((partsF w).getD 1 "") with
      | none => none
      | some b => if b < 2 ∨ Int.gcd t b ≠ 1 then none else some (Rat.divInt (sgnI (negF w) t) b))
    else some (Rat.divInt (sgnI (negF w) t) 1)
def optR : Option Rat → D
  | none => .non
  | some r => ratD r
theorem ratD_cop {t b : Int} (hb : 0 < b) (h : Int.gcd t b = 1) : ratD (Rat.divInt t b) = .tup [.int t, .int b] := by
  have hn : b.natAbs ≠ 0 := by omega
  have e1 : ((b.natAbs : Nat) : Int) = b := by omega
  have e : Rat.divInt t b = ⟨t, b.natAbs, hn, h⟩ := by
    have := Rat.num_divInt_den (⟨t, b.natAbs, hn, h⟩ : Rat)
    rw [← this]
    show _ = Rat.divInt t ((b.natAbs : Nat) : Int)
    rw [e1]
  rw [e]
  show D.tup [.int t, .int ((b.natAbs : Nat) : Int)] = _
  rw [e1]
theorem cop_ratD {t b : Int} (h : ratD (Rat.divInt t b) = .tup [.int t, .int b]) : Int.gcd t b = 1 := by
  injection h with h
  injection h with h1 h2
  injection h2 with h2 _
  injection h1 with h1
  injection h2 with h2
  have := (Rat.divInt t b).reduced
  revert this h1 h2
  generalize Rat.divInt t b = r
  intro h1 h2 this
  subst h1
  subst h2
  exact this
theorem gcd_sgn (q : Bool) (t b : Int) : Int.gcd (sgnI q t) b = Int.gcd t b := by
  cases q
  · rfl
  · exact Int.neg_gcd
theorem txsplit_ne (x y : Str) : Txt.split x y ≠ [] := by
  unfold Txt.split
  split
  · intro z; cases z
  · split
    · intro z; cases z
    · intro z
      have z := congrArg List.length z
      revert z
      generalize Builtin.Str.occurrences x y 0 x.length (x.length + 1) = cs
      intro z
      have z : (((0 :: cs.map (· + y.length)).zip (cs ++ [x.length])).map fun (i, j) => Builtin.Str.strSub x i j).length = 0 := z
      rw [List.length_map, List.length_zip, List.length_cons, List.length_append, List.length_map] at z
      simp at z
theorem strSub_len (x : Str) (i j : Nat) : (Builtin.Str.strSub x i j).length ≤ x.length := by
  unfold Builtin.Str.strSub
  simp [Str.length]
  omega
theorem txsplit_lens (x y : Str) : ∀ p ∈ Txt.split x y, p.length ≤ x.length := by
  intro p hp
  unfold Txt.split at hp
  split at hp
  · rw [List.mem_singleton.mp hp]; exact Nat.le_refl _
  · split at hp
    · rw [List.mem_singleton.mp hp]; exact Nat.le_refl _
    · unfold Builtin.Str.partsBetween at hp
      obtain ⟨⟨i, j⟩, _, rfl⟩ := List.mem_map.mp hp
      exact strSub_len _ _ _
theorem sg0 : (⟨#[48]⟩ : Str) = "0" := by decide +kernel
theorem sg_inj {a b : Nat} (h : (⟨#[a]⟩ : Str) = ⟨#[b]⟩) : a = b := by
  have := congrArg (fun s : Str => s.cps.toList) h
  exact (List.cons.inj this).1
theorem sg_zero {c : Nat} (h : (⟨#[c]⟩ : Str) = "0") : c = 48 := sg_inj (h.trans sg0.symm)
theorem neg_cut (w : Str) : decide (cutS w none (some 1) = "-") = negF w := by
  obtain ⟨⟨l⟩⟩ := w
  have em : ("-" : Str) = ⟨#[45]⟩ := by decide +kernel
  unfold negF
  rw [em]
  cases l with
  | nil => decide +kernel
  | cons c t =>
    have e1 : cutS ⟨⟨c :: t⟩⟩ none (some 1) = ⟨#[c]⟩ := by
      unfold cutS
      congr 1
    have e2 : Txt.startswith ⟨⟨c :: t⟩⟩ ⟨#[45]⟩ = (c == 45) := by
      unfold Txt.startswith Builtin.Str.subAt
      have h3 : decide (0 + Str.length ⟨#[45]⟩ ≤ Str.length ⟨⟨c :: t⟩⟩) = true := decide_eq_true (show 0 + 1 ≤ t.length + 1 by omega)
      rw [h3, Bool.true_and]
      show (Array.extract ⟨c :: t⟩ 0 1 == #[45]) = _
      have h4 : Array.extract ⟨c :: t⟩ 0 1 = #[c] := by simp
      rw [h4]
      simp
    rw [e1, e2]
    by_cases h : c = 45
    · subst h; rfl
    · rw [decide_eq_false fun z => h (sg_inj z)]
      simp [h]
theorem parts_ne (w : Str) : partsF w ≠ [] := txsplit_ne _ _
theorem txI_len {i : Int} (h : i.natAbs.log2 < 1920) : (txI i).length ≤ 1921 := PyProof.Rows.int_text_len_1921 h
def okK : NameKind → Bool
  | .cell => false
  | .free => false
  | _ => true
theorem genS_of {env : Env} {scope : Scope} {x : Str} (hk : scope.kind = .function) (hc : scope.isCoroutine = false) (hn : scope.names.all (fun y => okK y.2) = true) (hd : scope.names.lookup (".0" : Str) = some NameKind.local) (hl : scope.names.lookup x = some .local) : GxR.GenS env scope x :=
by
  have key : ∀ y ∈ scope.names, okK y.2 = true := List.all_eq_true.mp hn
  refine ⟨hk, hc, fun y hy z => ?_, hd, hl, fun y hy z => ?_⟩
  · have h := key y hy
    rw [z] at h
    cases h
  · have h := key y hy
    rw [z] at h
    cases h
end DL

namespace DL
open PySem PySem.Spec L2
abbrev sT (l : List Nat) : Str := SX.S l
theorem S_app (a b : List Nat) : sT a ++ sT b = sT (a ++ b) := SX.S_cat a b
theorem txI_nat (n : Nat) : txI (n : Int) = sT (TL.numL n) := TL.ext_tl (TL.tl_num n)
theorem txI_neg {i : Int} (h : i < 0) : txI i = sT (45 :: TL.numL i.natAbs) := by
  have e1 : txI i = Str.ofString ("-" ++ toString (0 - i)) := congrArg Str.ofString (PyProof.Rows.toString_neg h)
  have e2 : Str.ofString ("-" ++ toString (0 - i)) = sT (("-" ++ toString (0 - i)).toList.map Char.toNat) := Str.ofString_eq_toList _
  have e3 : Str.ofString (toString (0 - i)) = sT ((toString (0 - i)).toList.map Char.toNat) := Str.ofString_eq_toList _
  have e4 : Str.ofString (toString (0 - i)) = sT (TL.numL i.natAbs) := by
    rw [show (0 : Int) - i = ((i.natAbs : Nat) : Int) by omega]
    exact txI_nat _
  rw [e1, e2, String.toList_append, List.map_append]
  rw [e3] at e4
  rw [SX.S_inj e4]
  rfl
theorem txI_codes (i : Int) : txI i = sT ((if i < 0 then [45] else []) ++ TL.numL i.natAbs) := by
  by_cases h : i < 0
  · rw [if_pos h]; exact txI_neg h
  · rw [if_neg h]
    have : i = ((i.natAbs : Nat) : Int) := by omega
    rw [this, txI_nat, Int.natAbs_natCast]
    rfl
/-- the signs behind the minus -/
def bodyL (r : Rat) : List Nat := TL.numL r.num.natAbs ++ if r.den = 1 then [] else 47 :: TL.numL r.den
theorem slash_S : ("/" : Str) = sT [47] := by decide +kernel
theorem fmt_codes (r : Rat) : fmtR r = sT ((if r.num < 0 then [45] else []) ++ bodyL r) := by
  unfold fmtR bodyL
  by_cases h : r.den = 1
  · rw [if_pos h, if_pos h, List.append_nil, txI_codes]
  · rw [if_neg h, if_neg h, txI_codes, txI_nat, slash_S, S_app, S_app]
    congr 1
    simp
theorem negF_cons (c : Nat) (t : List Nat) : negF (sT (c :: t)) = (c == 45) := by
  have em : ("-" : Str) = ⟨#[45]⟩ := by decide +kernel
  unfold negF
  rw [em]
  unfold Txt.startswith Builtin.Str.subAt
  have h3 : decide (0 + Str.length ⟨#[45]⟩ ≤ Str.length (sT (c :: t))) = true := decide_eq_true (show 0 + 1 ≤ t.length + 1 by omega)
  rw [h3, Bool.true_and]
  show (Array.extract ⟨c :: t⟩ 0 1 == #[45]) = _
  have h4 : Array.extract ⟨c :: t⟩ 0 1 = #[c] := by simp
  rw [h4]
  simp
theorem cut_cons (c : Nat) (t : List Nat) : cutS (sT (c :: t)) (some 1) none = sT t := by
  unfold cutS
  have h1 : HT.sIx (sT (c :: t)).length 0 (some 1) = 1 := by
    show HT.sIx (t.length + 1) 0 (some ((1 : Nat) : Int)) = 1
    rw [HT.sIx_nat]
    omega
  have h2 : HT.sIx (sT (c :: t)).length (sT (c :: t)).length none = t.length + 1 := rfl
  rw [h1, h2]
  show sT ((List.drop 1 (c :: t)).take (t.length + 1 - 1)) = sT t
  rw [List.drop_succ_cons, List.drop_zero, Nat.add_sub_cancel, List.take_length]
theorem numL_head : ∀ (n : Nat) {c : Nat}, (TL.numL n)[0]? = some c → 0 < n → c ≠ 48 := by
  intro n
  induction n using Nat.strongRecOn with
  | _ n ih =>
    intro c hc hn
    by_cases h : n < 10
    · rw [TL.numL_lt h] at hc
      have : 48 + n = c := Option.some.inj hc
      omega
    · rw [TL.numL_step (by omega)] at hc
      have hne := TL.numL_ne (n / 10)
      rw [List.getElem?_append_left (List.length_pos_iff.mpr hne)] at hc
      exact ih (n / 10) (by omega) hc (by omega)
theorem natF_num {m : Nat} (h : m < 10 ^ 9) : natF (sT (TL.numL m)) = some ((m : Nat) : Int) := by
  have l1 : (sT (TL.numL m)).length = (TL.numL m).length := SX.S_len _
  have l2 := TL.numL_len (n := m) (k := 9) (by decide) h
  have l3 := List.length_pos_iff.mpr (TL.numL_ne m)
  have hd : (TL.numL m).all digB = true := List.all_eq_true.mpr fun c hc => decide_eq_true (mem_digs.mpr (TL.numL_digits m c hc))
  have h0 : ¬ (1 < (sT (TL.numL m)).length ∧ (sT (TL.numL m)).cps.toList[0]? = some 48) := fun ⟨z1, z2⟩ => by
    refine numL_head m (c := 48) z2 ?_ rfl
    refine Nat.pos_of_ne_zero fun z => ?_
    subst z
    rw [l1, TL.numL_lt (by decide)] at z1
    exact absurd z1 (by decide)
  unfold natF
  rw [if_pos ⟨⟨by omega, by omega⟩, hd, h0⟩]
  show some ((NumText.digitsVal (TL.numL m) : Nat) : Int) = _
  rw [TL.numL_val]
theorem read_fmt {r : Rat} (hn : r.num.natAbs < 10 ^ 9) (hd : r.den < 10 ^ 9) : readR (fmtR r) = some r := by
  have d0 : r.den ≠ 0 := r.den_nz
  obtain ⟨c0, t0, hb⟩ : ∃ c t, bodyL r = c :: t ∧ 48 ≤ c ∧ c ≤ 57 := by
    cases e : TL.numL r.num.natAbs with
    | nil => exact absurd e (TL.numL_ne _)
    | cons c t =>
      have := TL.numL_digits r.num.natAbs c (by rw [e]; exact List.mem_cons_self)
      exact ⟨c, _, by unfold bodyL; rw [e]; rfl, this⟩
  obtain ⟨hb, hc1, hc2⟩ := hb
  have eneg : negF (fmtR r) = decide (r.num < 0) := by
    rw [fmt_codes]
    by_cases h : r.num < 0
    · rw [if_pos h, decide_eq_true h]
      exact negF_cons 45 _
    · rw [if_neg h, decide_eq_false h, List.nil_append, hb, negF_cons]
      exact beq_false_of_ne (by omega)
  have ebody : (if negF (fmtR r) = true then cutS (fmtR r) (some 1) none else fmtR r) = sT (bodyL r) := by
    rw [eneg]
    by_cases h : r.num < 0
    · rw [decide_eq_true h, if_pos rfl, fmt_codes, if_pos h]
      exact cut_cons 45 _
    · rw [decide_eq_false h, if_neg (by simp), fmt_codes, if_neg h]
      rfl
  have eparts : partsF (fmtR r) = if r.den = 1 then [sT (TL.numL r.num.natAbs)] else [sT (TL.numL r.num.natAbs), sT (TL.numL r.den)] := by
    unfold partsF
    rw [ebody, slash_S, SX.split_S (by simp) (by decide)]
    unfold bodyL
    by_cases h : r.den = 1
    · rw [if_pos h, if_pos h, List.append_nil, TL.spl_last1 (TL.numL_free (by omega))]
      rfl
    · rw [if_neg h, if_neg h]
      have := TL.spl_part1 (s := 47) (S := []) (p := TL.numL r.num.natAbs) (rest := TL.numL r.den) (acc := []) (TL.numL_free (by omega))
      rw [show (47 :: ([] : List Nat) ++ TL.numL r.den) = 47 :: TL.numL r.den from rfl] at this
      rw [this, TL.spl_last1 (TL.numL_free (by omega))]
      rfl
  have n1 := natF_num hn
  have n2 := natF_num hd
  have esgn : sgnI (decide (r.num < 0)) ((r.num.natAbs : Nat) : Int) = r.num := by
    unfold sgnI
    by_cases h : r.num < 0
    · rw [decide_eq_true h, if_pos rfl]; omega
    · rw [decide_eq_false h, if_neg (by simp)]; omega
  have hz : ¬ (decide (r.num < 0) = true ∧ ((r.num.natAbs : Nat) : Int) = 0) := fun ⟨z1, z2⟩ => by
    have := of_decide_eq_true z1
    omega
  unfold readR
  rw [eparts, eneg]
  by_cases h : r.den = 1
  · rw [if_pos h]
    show (match natF (sT (TL.numL r.num.natAbs)) with | none => none | some t => _) = _
    rw [n1]
    show (if _ then none else if _ then _ else some (Rat.divInt (sgnI (decide (r.num < 0)) _) 1)) = _
    rw [if_neg (fun z => z.elim (fun z => absurd z (show ¬ 2 < [sT (TL.numL r.num.natAbs)].length from fun z => absurd z (show ¬ 2 < 1 by decide))) hz), if_neg (show ¬ [sT (TL.numL r.num.natAbs)].length = 2 from fun z => absurd z (show ¬ 1 = 2 by decide)), esgn]
    congr 1
    have := Rat.num_divInt_den r
    rw [h] at this
    exact this
  · rw [if_neg h]
    show (match natF (sT (TL.numL r.num.natAbs)) with | none => none | some t => _) = _
    rw [n1]
    show (if _ then none else if _ then (match natF (sT (TL.numL r.den)) with | none => none | some b => _) else _) = _
    rw [n2]
    rw [if_neg (fun z => z.elim (fun z => absurd z (show ¬ 2 < [sT (TL.numL r.num.natAbs), sT (TL.numL r.den)].length from fun z => absurd z (show ¬ 2 < 2 by decide))) hz), if_pos (show [sT (TL.numL r.num.natAbs), sT (TL.numL r.den)].length = 2 from rfl)]
    show (if _ then none else some (Rat.divInt (sgnI (decide (r.num < 0)) _) _)) = _
    have hg : Int.gcd ((r.num.natAbs : Nat) : Int) ((r.den : Nat) : Int) = 1 := by
      have := r.reduced
      unfold Int.gcd
      rw [Int.natAbs_natCast, Int.natAbs_natCast]
      exact this
    rw [if_neg (fun z => z.elim (fun z => by omega) (fun z => z hg)), esgn, Rat.num_divInt_den]
end DL

namespace DL
open PySem PySem.Spec L2
theorem code_of {K : PySem.W.Frag} {x qual : Str} {params : Arguments} {body : List Stmt} {scope : Scope} {dvs : List V} {kws : List (Str × V)} {p : Str × Option Str} {fd : FuncData} (F : FunD K x qual params body scope dvs kws (He.fAd K p) fd) : fd.code = .ref (He.codeOf K p) := by
  obtain ⟨oc, od, dV, kV, doc, pm, an, cdv, ct, osl, rfl, lk, hcd, _, _⟩ := F.ex
  obtain ⟨c, rfl⟩ := He.codeIn_ref hcd
  exact (congrArg Value.ref (He.codeOf_eq lk rfl)).symm
/-- what is told of the tables -/
structure TabSays (tf : List He.Defn) (h : Heap) (K : PySem.W.Frag) : Prop where
  hd : ∀ p ∈ tf, PySem.W.codeHdIn K (He.cT K p).1 (He.cT K p).2 = true
  out : ∀ p ∈ tf, K.lookup (He.cT K p).2 = none
  empty : ∀ p ∈ tf, h.get? (He.cT K p).2 = some { cls := .none, data := .fields #[] }
theorem tab_of {as : List Addr} {tf : List He.Defn} {h : Heap} (e2 : He.tabsB h.get? tf (He.frT h.get? as) = true) : TabSays tf h (He.frT h.get? as) := by
  have key : ∀ p ∈ tf, PySem.W.codeHdIn (He.frT h.get? as) (He.cT (He.frT h.get? as) p).1 (He.cT (He.frT h.get? as) p).2 = true ∧ ∃ o, h.get? (He.cT (He.frT h.get? as) p).2 = some o ∧ He.emptyTab o = true := fun p hp => by
    obtain ⟨h3, h4⟩ := He.ba (List.all_eq_true.mp e2 p hp)
    refine ⟨h3, ?_⟩
    cases q : h.get? (He.cT (He.frT h.get? as) p).2 with
    | none =>
      rw [q] at h4
      cases h4
    | some o =>
      rw [q] at h4
      exact ⟨o, rfl, h4⟩
  refine ⟨fun p hp => (key p hp).1, fun p hp => ?_, fun p hp => ?_⟩
  · obtain ⟨_, o, q, z⟩ := key p hp
    exact He.frT_none q z
  · obtain ⟨_, o, q, z⟩ := key p hp
    rw [q, He.emptyTab_eq z]
theorem TabSays.keeps {tf : List He.Defn} {h h' : Heap} {K : PySem.W.Frag} (c : TabSays tf h K) (k : ∀ (a : Addr) (o : Obj), h.get? a = some o → h'.get? a = some o) : TabSays tf h' K := ⟨c.hd, c.out, fun p hp => k _ _ (c.empty p hp)⟩
theorem cx0_lawL {P : Program} {w : World} {K : PySem.W.Frag} {mg : Str → Option Value} {base : Heap} {k : Nat} {f : Addr} {fd : FuncData} {ps : List Str} {tabs : List Addr} (F : FnOk P w K mg base (L2.CX P w) k f fd ps (spL K tabs)) : FnOk P w K mg base CX0 k f fd ps (spL K tabs) := by
  refine ⟨fun vs H Q E h => F.len vs H Q E h, fun A outer s H args us vs Q E hr he hb hv hs => ?_⟩
  have hs' : spL K tabs vs H Q (fun _ _ _ => False) := hs
  refine codeAny_mono (F.run A outer s H args us vs Q (fun _ _ _ => False) hr he hb hv hs') fun r s' q => ?_
  cases r with
  | error e =>
    obtain ⟨_, _, _, _, _, _, _, _, _, _, _, _, z⟩ := q
    exact z.elim
  | ok fl => cases fl <;> exact q
theorem law_atS {l : PySem.W.OpenLaw} {w : World} {K : PySem.W.Frag} {k : Nat} {x : Str} {mg : Str → Option Value} {fa : Addr} {h : Heap} {fd : FuncData} {tf : List He.Defn} (KX : K.In h) (c : TabSays tf h K) (hnd : (tf.map fun p => (He.cT K p).2).Nodup) (hb : ∀ (s : Shared) (u : Value), BindsTo s fd ⟨[u], []⟩ [(x, u)])
    (hF : ∀ base : Heap, K.In base → base.Ns mainGlobals mg → (∀ p ∈ tf, GxR.TabB base mg (He.cT K p).1 (He.cT K p).2) → FnOk l.prog w K mg base (L2.CX l.prog w) k fa fd [x] (spL K (tf.map fun p => (He.cT K p).2))) : LamX.LawAtS l w K CX0 k 63 x mg fa h := by
  refine ⟨fd, tf.map (He.cT K), spL K (tf.map fun p => (He.cT K p).2), fun q hq => ?_, fun q hq => ?_, fun q hq => ?_, hb, fun H a ns hl _ hH hS => ?_, fun base b1 b2 b3 => ?_⟩
  · obtain ⟨p, hp, rfl⟩ := List.mem_map.mp hq
    exact c.empty p hp
  · obtain ⟨p, hp, rfl⟩ := List.mem_map.mp hq
    exact c.out p hp
  · obtain ⟨p, hp, rfl⟩ := List.mem_map.mp hq
    exact PySem.W.codeHd_of_K KX (c.hd p hp)
  · refine ⟨a, ns, hl, rfl, hS, fun q hq => ?_, hnd, fun q hq => ?_, fun _ => rfl⟩
    · obtain ⟨p, hp, rfl⟩ := List.mem_map.mp hq
      exact c.out p hp
    · obtain ⟨p, hp, rfl⟩ := List.mem_map.mp hq
      exact hH _ (List.mem_map.mpr ⟨p, hp, rfl⟩)
  · exact cx0_lawL (hF base b1 b2 fun p hp => have t := b3 _ (List.mem_map.mpr ⟨p, hp, rfl⟩); ⟨t.code, t.bm, t.gP⟩)
end DL

namespace DL
open PySem PySem.Spec L2
def topS (i : Nat) : Stmt := PySem.Challenge.pw_surecues_k03_how_numbers_are_written.main.body.getD i (.Pass ⟨0, 0, 0, 0⟩)
abbrev FnP (K : PySem.W.Frag) (x : Str) (st : Stmt) (f : Addr) (fd : FuncData) : Prop := FunD K x x (defArgs st) (defBody st) (defScope st) [] [] f fd
abbrev st_common_divisor : Stmt := topS 2
abbrev st_format_number : Stmt := topS 3
abbrev st_natural : Stmt := topS 4
abbrev st_read_number : Stmt := topS 5
abbrev st__law_cell : Stmt := topS 7
abbrev st__law_draw : Stmt := topS 8
abbrev st__law_f : Stmt := topS 9
abbrev st__law_word : Stmt := topS 10
abbrev st__law_due : Stmt := topS 11
abbrev st_law : Stmt := topS 12
section
variable {P : Program} {w : World} {K : PySem.W.Frag} {mg : Str → Option Value} {base : Heap} {f : Addr} {fd : FuncData}
theorem sc_common_divisor : FnScope ["first", "second"] ["first", "second"] (defScope st_common_divisor) := ⟨rfl, rfl, rfl, by decide +kernel, rfl, by decide +kernel, by decide +kernel⟩
def C_common_divisor : Ct := fun ss oc => ∃ a b : Nat, ss = [.d (.int a), .d (.int b)] ∧ oc = .ret (.d (.int (Nat.gcd a b)))
theorem ok_common_divisor (F : FnP K "common_divisor" st_common_divisor f fd) : FnOk P w K mg base (L2.CX P w) 1 f fd ["first", "second"] (spD K C_common_divisor) := by
  refine fn_mk F sc_common_divisor (fun ss oc h => by obtain ⟨a, b, rfl, _⟩ := h; rfl) fun cdv A outer s H E hr hp ss oc h => ?_
  obtain ⟨a0, b0, rfl, rfl⟩ := h
  refine ex_while (fun n G => ∃ a b : Nat, G = [.d (.int a), .d (.int b)] ∧ Nat.gcd a b = Nat.gcd a0 b0 ∧ n = b) hp ⟨a0, b0, rfl, rfl, rfl⟩ ?_
  rintro n G ⟨a, b, rfl, hg, rfl⟩
  refine ⟨_, tv_neI (ev_var 1 rfl) ev_int, fun hq => ?_, fun hq => ?_⟩
  · have hb : n ≠ 0 := by
      intro z; subst z; simp at hq
    refine ex_par 0 1 sc_common_divisor.nd (eva_cons (ev_var 1 rfl) (eva_cons (ev_mod (by omega) (ev_var 0 rfl) (ev_var 1 rfl)) eva_nil)) ?_
    refine ex_nil ⟨rfl, a % n, Nat.mod_lt _ (Nat.pos_of_ne_zero hb), n, a % n, rfl, ?_, rfl⟩
    rw [← hg, Nat.gcd_comm a n, Nat.gcd_rec n a]
    exact Nat.gcd_comm _ _
  · have hb : n = 0 := by
      by_cases z : n = 0
      · exact z
      · exfalso
        have : ¬ ((n : Int) = 0) := by omega
        simp [this] at hq
        omega
    subst hb
    refine ex_ret (ev_var 0 rfl) ?_
    rw [← hg, Nat.gcd_zero_right]

theorem sc_format_number : FnScope ["value"] ["value"] (defScope st_format_number) := ⟨rfl, rfl, rfl, by decide +kernel, rfl, by decide +kernel, by decide +kernel⟩
def C_format_number : Ct := fun ss oc => ∃ (r : Rat) (n : Nat), n < 1920 ∧ Bd n r ∧ ss = [.d (ratD r)] ∧ oc = .ret (.d (.str (fmtR r)))
theorem ok_format_number (F : FnP K "format_number" st_format_number f fd) (m_str : mg "str" = none) :
    FnOk P w K mg base (L2.CX P w) 1 f fd ["value"] (spD K C_format_number) := by
  refine fn_mk F sc_format_number (fun ss oc h => by obtain ⟨r, n, _, _, rfl, _⟩ := h; rfl) fun cdv A0 outer s H E hr hp ss oc h => ?_
  obtain ⟨r, n, hn, hb, rfl, rfl⟩ := h
  have sz : sizeLine ≥ 100000 := by decide
  have b1 := log2_bd hb.num hn
  have b2 : ((r.den : Nat) : Int).natAbs.log2 < 1920 := by rw [Int.natAbs_natCast]; exact log2_bd hb.den hn
  have l1 : (Str.ofString (toString r.num)).length ≤ 1921 := txI_len b1
  have l2 : (Str.ofString (toString ((r.den : Nat) : Int))).length ≤ 1921 := txI_len b2
  refine ex_if (tv_eqI (ev_ixT (d := .int (r.den : Nat)) (ev_var 0 rfl) ev_int rfl) ev_int) (fun hq => ?_) (fun hq => ?_)
  · have h1 : r.den = 1 := by have := of_decide_eq_true hq; omega
    exact ex_ret (ev_strI m_str b1 (ev_ixT (d := .int r.num) (ev_var 0 rfl) ev_int rfl)) (show Oc.ret (S.d (.str (fmtR r))) = Oc.ret (S.d (.str (txI r.num))) by unfold fmtR; rw [if_pos h1])
  · have h1 : ¬ r.den = 1 := by have := of_decide_eq_false hq; omega
    have l3 : (Str.ofString (toString r.num) ++ ("/" : Str)).length = (Str.ofString (toString r.num)).length + 1 := by
      have e : (("/" : Str)).length = 1 := by decide +kernel
      rw [← e]
      simp [Str.length, HAppend.hAppend, Append.append]
      exact Array.size_append
    refine ex_nil (ex_ret (ev_catS (by rw [l3]; omega) (ev_catS (by have e : (("/" : Str)).length = 1 := (by decide +kernel); rw [e]; omega) (ev_strI m_str b1 (ev_ixT (d := .int r.num) (ev_var 0 rfl) ev_int rfl)) ev_str) (ev_strI m_str b2 (ev_ixT (d := .int (r.den : Nat)) (ev_var 0 rfl) ev_int rfl))) ?_)
    unfold fmtR
    rw [if_neg h1]

theorem sc_natural : FnScope ["word"] ["word"] (defScope st_natural) := ⟨rfl, rfl, rfl, by decide +kernel, rfl, by decide +kernel, by decide +kernel⟩
def C_natural (T : Addr) : CtR := fun ss l post => ∃ w : Str, w.length ≤ 100000 ∧ ss = [.d (.str w)] ∧ l = [tbO T] ∧ post = fun oc l' => l' = [tbO T] ∧ oc = .ret (.d (optI (natF w)))
theorem ok_natural {c T : Addr} (F : FnP K "natural" st_natural f fd) (hcd : fd.code = .ref c) (TB : GxR.TabB base mg c T) (c_DIGITS : Cst K mg "DIGITS" (.int 9)) (m_len : mg "len" = none) (m_all : mg "all" = none) (m_int : mg "int" = none) :
    FnOk P w K mg base (L2.CX P w) 1 f fd ["word"] (spR K (C_natural T)) := by
  refine fn_mkRc F sc_natural (fun ss l post h => by obtain ⟨w, _, rfl, _⟩ := h; rfl) fun cdv hcdv A0 outer s H E hr hp ss l post h _ => ?_
  obtain ⟨x, hx, rfl, rfl, rfl⟩ := h
  have sz : sizeLine ≥ 100000 := by decide
  have hcode : cdv = .ref c := hcdv ▸ hcd
  have eL : x.length = x.cps.toList.length := by simp [Str.length]
  have hret : ∀ {z : D}, z = optI (natF x) → ∃ l', obsR [tbO T] = obsR l' ∧ l' = [tbO T] ∧ Oc.ret (S.d z) = .ret (.d (optI (natF x))) := fun e => ⟨_, rfl, rfl, by rw [e]⟩
  by_cases h1 : 1 ≤ x.length ∧ x.length ≤ 9
  · have c1 : (decide ((1 : Int) ≤ ((x.length : Nat) : Int)) && decide (((x.length : Nat) : Int) ≤ 9)) = true := by rw [decide_eq_true (by omega), decide_eq_true (by omega)]; rfl
    refine ex_ifMd (twm_tv (twm_orF (tvm_of (tv_eq (tv_not (tv_lele ev_int (ev_lenS m_len (by omega) (ev_var 0 rfl)) (ev_cst c_DIGITS))) (by rw [c1]; rfl))) (twm_or1 (tvm_not (tvm_val (evm_allS TB hcode hr m_all List.mem_cons_self (genS_of rfl rfl (by kernel_rfl) rfl rfl) (ev_var 0 rfl) (elt_in (k := digsS) rfl rfl))))))) (fun hq => ?_) (fun hq => ?_)
    · have h2 : ¬ x.cps.toList.all digB = true := fun z => by
        have hq : (!(x.cps.toList.all digB)) = true := hq
        rw [z] at hq
        cases hq
      exact ex_ret ev_non (hret (by unfold natF; rw [if_neg (fun z => h2 z.2.1)]; rfl))
    · have h2 : x.cps.toList.all digB = true := by
        have hq : (!(x.cps.toList.all digB)) = false := hq
        revert hq
        cases x.cps.toList.all digB <;> intro hq <;> first | rfl | cases hq
      refine ex_nil ?_
      obtain ⟨c0, hc0⟩ : ∃ c0, x.cps.toList[0]? = some c0 := ⟨_, List.getElem?_eq_getElem (by omega)⟩
      refine ex_if (tw_tv (tw_and (tv_gt (ev_lenS m_len (by omega) (ev_var 0 rfl)) ev_int) fun _ => tw_and1 (tv_eqS (ev_ixSg (by omega) (ev_var 0 rfl) ev_int (atI_nat (j := 0) hc0)) ev_str))) (fun hq => ?_) (fun hq => ?_)
      · rw [Bool.and_eq_true] at hq
        have h3 := of_decide_eq_true hq.1
        have h4 := of_decide_eq_true hq.2
        have h5 : c0 = 48 := sg_zero h4
        subst h5
        exact ex_ret ev_non (hret (by unfold natF; rw [if_neg (fun z => z.2.2 ⟨by omega, hc0⟩)]; rfl))
      · have h3 : ¬ (1 < x.length ∧ x.cps.toList[0]? = some 48) := fun ⟨z1, z2⟩ => by
          rw [hc0] at z2
          cases z2
          rw [decide_eq_true (show (1 : Int) < ((x.length : Nat) : Int) by omega), decide_eq_true (show (⟨#[48]⟩ : Str) = "0" from sg0)] at hq
          cases hq
        have hf : natF x = some ((NumText.digitsVal x.cps.toList : Nat) : Int) := by unfold natF; rw [if_pos ⟨h1, h2, h3⟩]
        obtain ⟨_, n2, n3⟩ := natF_nn hf
        exact ex_nil (ex_ret (ev_intS m_int n2 (by omega) (ev_var 0 rfl)) (hret (by rw [hf]; rfl)))
  · have c1 : (decide ((1 : Int) ≤ ((x.length : Nat) : Int)) && decide (((x.length : Nat) : Int) ≤ 9)) = false := by
      cases e : (decide ((1 : Int) ≤ ((x.length : Nat) : Int)) && decide (((x.length : Nat) : Int) ≤ 9)) with
      | false => rfl
      | true =>
        rw [Bool.and_eq_true] at e
        have := of_decide_eq_true e.1
        have := of_decide_eq_true e.2
        exact absurd ⟨by omega, by omega⟩ h1
    refine ex_ifMd (twm_tv (twm_orT (tvm_of (tv_eq (tv_not (tv_lele ev_int (ev_lenS m_len (by omega) (ev_var 0 rfl)) (ev_cst c_DIGITS))) (by rw [c1]; rfl))))) (fun _ => ?_) (fun z => nomatch z)
    exact ex_ret ev_non (hret (by unfold natF; rw [if_neg (fun z => h1 z.1)]; rfl))

theorem sc_read_number : FnScope ["word", "negative", "words", "top", "bottom"] ["word"] (defScope st_read_number) := ⟨rfl, rfl, rfl, by decide +kernel, rfl, by decide +kernel, by decide +kernel⟩
def C_read_number (T : Addr) : CtR := fun ss l post => ∃ w : Str, w.length ≤ 90000 ∧ ss = [.d (.str w)] ∧ l = [tbO T] ∧ post = fun oc l' => l' = [tbO T] ∧ oc = .ret (.d (optR (readR w)))
theorem ok_read_number {T : Addr} (F : FnP K "read_number" st_read_number f fd) (f_natural : FnC P w K mg base "natural" 1 (C_natural T)) (f_common_divisor : Fn P w K mg base "common_divisor" 1 C_common_divisor) (m_len : mg "len" = none) :
    FnOk P w K mg base (L2.CX P w) 2 f fd ["word"] (spR K (C_read_number T)) := by
  refine fn_mkR F sc_read_number (fun ss l post h => by obtain ⟨w, _, rfl, _⟩ := h; rfl) fun cdv A0 outer s H E hr hp ss l post h _ => ?_
  have nd := sc_read_number.nd
  obtain ⟨x, hx, rfl, rfl, rfl⟩ := h
  have sz : sizeLine ≥ 100000 := by decide
  have eL : ∀ y : Str, y.length = y.cps.toList.length := fun y => by simp [Str.length]
  have hret : ∀ {z : D}, z = optR (readR x) → ∃ l', obsR [tbO T] = obsR l' ∧ l' = [tbO T] ∧ Oc.ret (S.d z) = .ret (.d (optR (readR x))) := fun e => ⟨_, rfl, rfl, by rw [e]⟩
  refine ex_set 1 nd (ev_startswith (y := "-") (ev_var 0 rfl) ev_str) ?_
  dsimp only [wipeS, List.set, List.map, List.replicate, List.length_cons, List.length_nil, List.cons_append, List.nil_append, Nat.reduceAdd, Nat.reduceSub]
  have cl : (cutS x (some 1) none).length ≤ x.length := cutS_length x _ _
  have e0 : partsF x = Txt.split (if negF x = true then cutS x (some 1) none else x) "/" := rfl
  generalize hv : readR x = v at hret ⊢
  unfold readR at hv
  have rr := hv.symm
  clear hv
  rw [show Txt.startswith x "-" = negF x from rfl]
  have pne := parts_ne x
  have plen := txsplit_lens (if negF x = true then cutS x (some 1) none else x) "/"
  rw [← e0] at plen
  have wl : (if negF x = true then cutS x (some 1) none else x).length ≤ x.length := by split <;> omega
  refine ex_set 2 nd (ev_split (x := if negF x = true then cutS x (some 1) none else x) (y := "/") (by decide +kernel) (by omega) (ev_ifE (q := negF x) (tv_val (ev_var 1 rfl)) (fun z => ev_eq (ev_slS (by omega) (ev_var 0 rfl) (evo_some ev_int) evo_none) (by rw [if_pos z])) (fun z => ev_eq (ev_var 0 rfl) (by rw [if_neg (by rw [z]; simp)]))) ev_str) ?_
  rw [← e0]
  generalize negF x = ng at rr wl plen e0 ⊢
  clear e0
  generalize partsF x = ps at rr pne plen ⊢
  dsimp only [wipeS, List.set, List.map, List.replicate, List.length_cons, List.length_nil, List.cons_append, List.nil_append, Nat.reduceAdd, Nat.reduceSub]
  obtain ⟨p0, r0, rfl⟩ : ∃ p r, ps = p :: r := by
    cases ps with
    | nil => exact absurd rfl pne
    | cons p r => exact ⟨p, r, rfl⟩
  have lp : ∀ p ∈ p0 :: r0, p.length ≤ 90000 := fun p hp => by have := plen p hp; omega
  have ll : ((p0 :: r0).map D.str).length = (p0 :: r0).length := List.length_map ..
  refine ex_setM 3 nd (evm_callC (l1 := [tbO T]) (l2 := []) f_natural hr (by decide) (eva_cons (ev_ixB (ev_varB 2 (.inl rfl)) ev_int (map_at (f := D.str) (k := 0) rfl)) eva_nil) ⟨p0, by have := lp p0 List.mem_cons_self; omega, rfl, rfl, rfl⟩ (fun xn l' h => nomatch h.2)) (fun s R' h => by obtain ⟨l', rfl, rfl, h⟩ := h; cases h; rfl) fun s R' h => ?_
  obtain ⟨l', rfl, rfl, h⟩ := h
  cases h
  have g0 : (p0 :: r0).getD 0 "" = p0 := rfl
  rw [g0] at rr
  cases ht : natF p0 with
  | none =>
    rw [ht] at rr
    refine ex_ifT (tw_tv (tw_orT (q := true) (tv_isN (d := .non) (ev_var 3 rfl) ev_non) (fun z => nomatch z))) ?_
    exact ex_ret ev_non (hret (by rw [rr]; rfl))
  | some t =>
    rw [ht] at rr
    have t0 := (natF_nn ht).1
    have rr : v = if 2 < (p0 :: r0).length ∨ (ng = true ∧ t = 0) then none
        else if (p0 :: r0).length = 2 then (match natF ((p0 :: r0).getD 1 "") with
          | none => none
          | some b => if b < 2 ∨ Int.gcd t b ≠ 1 then none else some (Rat.divInt (sgnI ng t) b))
        else some (Rat.divInt (sgnI ng t) 1) := rr
    show Ex _ _ _ [.d (.str x), .d (.bl ng), .own ((p0 :: r0).map D.str), .d (.int t), .any] _ _
    have hres : ∀ {b : Int}, 0 < b → Int.gcd t b = 1 → v = some (Rat.divInt (sgnI ng t) b) → D.tup [.int (sgnI ng t), .int b] = optR (v) := fun hb hg e => by
      rw [e]
      exact (ratD_cop hb (by rw [gcd_sgn]; exact hg)).symm
    refine ex_if (tw_tv (tw_or (tv_isN (d := .int t) (ev_var 3 rfl) ev_non) fun _ => (tw_or (tv_gt (i := (((p0 :: r0).length : Nat) : Int)) ?_ ev_int) fun _ => tw_or1 (tw_tv (tw_and (tv_val (ev_var 1 rfl)) fun _ => tw_and1 (tv_eqI (ev_var 3 rfl) ev_int)))))) (fun hq => ?_) (fun hq => ?_)
    · exact ev_len (p0 :: r0).length m_len (ev_varB 2 (.inl rfl)) (.inl ⟨_, .inl rfl, ll⟩)
    · have hc : 2 < (p0 :: r0).length ∨ (ng = true ∧ t = 0) := by
        have hq : (decide ((2 : Int) < (((p0 :: r0).length : Nat) : Int)) || (ng && decide (t = 0))) = true := hq
        rw [Bool.or_eq_true, Bool.and_eq_true] at hq
        rcases hq with z | ⟨z1, z2⟩
        · have := of_decide_eq_true z; exact .inl (by omega)
        · exact .inr ⟨z1, of_decide_eq_true z2⟩
      exact ex_ret ev_non (hret (by rw [rr, if_pos hc]; rfl))
    · have hc : ¬ (2 < (p0 :: r0).length ∨ (ng = true ∧ t = 0)) := fun hc => by
        have : (decide ((2 : Int) < (((p0 :: r0).length : Nat) : Int)) || (ng && decide (t = 0))) = true := by
          rw [Bool.or_eq_true, Bool.and_eq_true]
          rcases hc with z | ⟨z1, z2⟩
          · exact .inl (decide_eq_true (by omega))
          · exact .inr ⟨z1, decide_eq_true z2⟩
        have hq : (decide ((2 : Int) < (((p0 :: r0).length : Nat) : Int)) || (ng && decide (t = 0))) = false := hq
        rw [this] at hq
        cases hq
      rw [if_neg hc] at rr
      refine ex_nil (ex_set 4 nd ev_int ?_)
      dsimp only [wipeS, List.set, List.map, List.replicate, List.length_cons, List.length_nil, List.cons_append, List.nil_append, Nat.reduceAdd, Nat.reduceSub]
      refine ex_if (tv_eqI (ev_len (p0 :: r0).length m_len (ev_varB 2 (.inl rfl)) (.inl ⟨_, .inl rfl, ll⟩)) ev_int) (fun hq => ?_) (fun hq => ?_)
      · have h2 : (p0 :: r0).length = 2 := by have := of_decide_eq_true hq; omega
        rw [if_pos h2] at rr
        obtain ⟨p1, rfl⟩ : ∃ p1, r0 = [p1] := by
          cases r0 with
          | nil => cases h2
          | cons p1 r => cases r with
            | nil => exact ⟨p1, rfl⟩
            | cons _ _ => simp at h2
        refine ex_setM 4 nd (evm_callC (l1 := [tbO T]) (l2 := []) f_natural hr (by decide) (eva_cons (ev_ixB (ev_varB 2 (.inl rfl)) ev_int (show atI ([p0, p1].map D.str) (1 : Int) = some (.str p1) from map_at (f := D.str) (k := 1) rfl)) eva_nil) ⟨p1, by have := lp p1 (List.mem_cons_of_mem _ List.mem_cons_self); omega, rfl, rfl, rfl⟩ (fun xn l' h => nomatch h.2)) (fun s R' h => by obtain ⟨l', rfl, rfl, h⟩ := h; cases h; rfl) fun s R' h => ?_
        obtain ⟨l', rfl, rfl, h⟩ := h
        cases h
        have g1 : [p0, p1].getD 1 "" = p1 := rfl
        rw [g1] at rr
        cases hb : natF p1 with
        | none =>
          rw [hb] at rr
          refine ex_ifT (tw_tv (tw_orT (q := true) (tv_isN (d := .non) (ev_var 4 rfl) ev_non) (fun z => nomatch z))) ?_
          exact ex_ret ev_non (hret (by rw [rr]; rfl))
        | some b =>
          rw [hb] at rr
          have b0 := (natF_nn hb).1
          have rr : v = if b < 2 ∨ Int.gcd t b ≠ 1 then none else some (Rat.divInt (sgnI ng t) b) := rr
          show Ex _ _ _ [.d (.str x), .d (.bl ng), .own ([p0, p1].map D.str), .d (.int t), .d (.int b)] _ _
          have eg : ((Nat.gcd t.toNat b.toNat : Nat) : Int) = ((Int.gcd t b : Nat) : Int) := by
            have e1 : t.natAbs = t.toNat := by omega
            have e2 : b.natAbs = b.toNat := by omega
            unfold Int.gcd
            rw [e1, e2]
          refine ex_if (tw_tv (tw_or (tv_isN (d := .int b) (ev_var 4 rfl) ev_non) fun _ => (tw_or (tv_lt (ev_var 4 rfl) ev_int) fun _ => tw_or1 (tv_neI (ev_call f_common_divisor hr (by decide) (eva_cons (ev_var 3 rfl) (eva_cons (ev_var 4 rfl) eva_nil)) ⟨t.toNat, b.toNat, by rw [show ((t.toNat : Nat) : Int) = t by omega, show ((b.toNat : Nat) : Int) = b by omega], rfl⟩) ev_int)))) (fun hq => ?_) (fun hq => ?_)
          · have hc : b < 2 ∨ Int.gcd t b ≠ 1 := by
              have hq : (decide (b < 2) || !decide (((Nat.gcd t.toNat b.toNat : Nat) : Int) = 1)) = true := hq
              rw [Bool.or_eq_true] at hq
              rcases hq with z | z
              · exact .inl (of_decide_eq_true z)
              · refine .inr fun z' => ?_
                rw [eg, z'] at z
                cases z
            exact ex_ret ev_non (hret (by rw [rr, if_pos hc]; rfl))
          · have hc : ¬ (b < 2 ∨ Int.gcd t b ≠ 1) := fun hc => by
              have : (decide (b < 2) || !decide (((Nat.gcd t.toNat b.toNat : Nat) : Int) = 1)) = true := by
                rw [Bool.or_eq_true]
                rcases hc with z | z
                · exact .inl (decide_eq_true z)
                · exact .inr (by rw [eg, decide_eq_false (by omega)]; rfl)
              have hq : (decide (b < 2) || !decide (((Nat.gcd t.toNat b.toNat : Nat) : Int) = 1)) = false := hq
              rw [this] at hq
              cases hq
            rw [if_neg hc] at rr
            have hg : Int.gcd t b = 1 := Decidable.byContradiction fun z => hc (.inr z)
            have hb2 : 2 ≤ b := by
              by_cases z : b < 2
              · exact absurd (.inl z) hc
              · omega
            refine ex_nil (ex_nil ?_)
            exact ex_ret (ev_tup (evd_cons (ev_ifE (q := ng) (tv_val (ev_var 1 rfl)) (fun z => ev_eq (ev_neg (ev_var 3 rfl)) (by unfold sgnI; rw [if_pos z])) (fun z => ev_eq (ev_var 3 rfl) (by unfold sgnI; rw [if_neg (by rw [z]; simp)]))) (evd_cons (ev_var 4 rfl) evd_nil))) (hret (hres (by omega) hg rr))
      · have h2 : ¬ (p0 :: r0).length = 2 := by have := of_decide_eq_false hq; omega
        rw [if_neg h2] at rr
        refine ex_nil ?_
        exact ex_ret (ev_tup (evd_cons (ev_ifE (q := ng) (tv_val (ev_var 1 rfl)) (fun z => ev_eq (ev_neg (ev_var 3 rfl)) (by unfold sgnI; rw [if_pos z])) (fun z => ev_eq (ev_var 3 rfl) (by unfold sgnI; rw [if_neg (by rw [z]; simp)]))) (evd_cons (ev_var 4 rfl) evd_nil))) (hret (hres (by omega) (Int.gcd_one) rr))
theorem evm_read {X : Cx} {G : List S} {e : Expr} {pos p : Pos} {k j : Nat} {T : Addr} {x : Str} (f : FnC X.prog X.w X.K X.mg X.base "read_number" k (C_read_number T)) (hr : Room j X.A) (hk : k ≤ j) (ha : Ev X e G (obsR [tbO T]) (.d (.str x))) (hx : x.length ≤ 90000)
    (hg : Gl X "read_number" := by rfl) (he : starEach [e] X.env = (false, eval e X.env) :: starEach [] X.env := by rfl) (hpl : (backTo pos (starEach [] X.env)).any (·.1) = false := by rfl) :
    EvMd X (.Call (.Name "read_number" p) [e] [] pos) G (obsR [tbO T]) (optR (readR x)) (obsR [tbO T]) :=
  evm_imp (evm_callC (l1 := [tbO T]) (l2 := []) f hr hk (eva_cons ha eva_nil he) ⟨x, hx, rfl, rfl, rfl⟩ (fun xn l' h => nomatch h.2) rfl hg (by decide) he hpl) fun s R' h => by
    obtain ⟨l', rfl, rfl, h⟩ := h
    cases h
    exact ⟨rfl, rfl⟩

theorem sc__law_cell : FnScope ["_law_script", "_law_k"] ["_law_script", "_law_k"] (defScope st__law_cell) := ⟨rfl, rfl, rfl, by decide +kernel, rfl, by decide +kernel, by decide +kernel⟩
/-- what a cell of the script holds -/
def cellL (ns : List Int) (k : Nat) : Int := ns.getD k 0
def C__law_cell : Ct := fun ss oc => ∃ (ns : List Int) (k : Nat), ss = [.scr ns, .d (.int k)] ∧ oc = .ret (.d (.int (cellL ns k)))
theorem ok__law_cell (F : FnP K "_law_cell" st__law_cell f fd) (m_len : mg "len" = none) : FnOk P w K mg base (L2.CX P w) 1 f fd ["_law_script", "_law_k"] (spD K C__law_cell) := by
  refine fn_mk F sc__law_cell (fun ss oc h => by obtain ⟨ns, k, rfl, _⟩ := h; rfl) fun cdv A outer s H E hr hp ss oc h => ?_
  have nd := sc__law_cell.nd
  obtain ⟨ns, k, rfl, rfl⟩ := h
  refine ex_if (tv_lt (ev_var 1 rfl) (ev_len ns.length m_len (ev_varS 0 rfl) (.inr ⟨ns, rfl, rfl⟩))) (fun hq => ?_) (fun hq => ?_)
  · have hlt : k < ns.length := by have := of_decide_eq_true hq; omega
    refine ex_ret (ev_ixS (ev_varS 0 rfl) (ev_var 1 rfl) (atI_nat (List.getElem?_eq_getElem hlt))) ?_
    rw [cellL, List.getD_eq_getElem?_getD, List.getElem?_eq_getElem hlt]
    rfl
  refine ex_nil ?_
  have hge : ns.length ≤ k := by have := of_decide_eq_false hq; omega
  refine ex_ret ev_int ?_
  rw [cellL, List.getD_eq_getElem?_getD, List.getElem?_eq_none hge]
  rfl

theorem sc__law_draw : FnScope ["_law_script", "_law_k", "_law_sizes", "_law_cell_here", "_law_drawn", "_law_size", "_law_stirred", "_law_j"] ["_law_script", "_law_k", "_law_sizes"] (defScope st__law_draw) := ⟨rfl, rfl, rfl, by decide +kernel, rfl, by decide +kernel, by decide +kernel⟩
/-- a great cell's digits; a small one's -/
def drawA : Int → List Nat → List Int
  | _, [] => []
  | c, n :: ns => c % (n : Int) :: drawA (c / (n : Int)) ns
def stir (m : Int) (j : Nat) : Int := ((m * 48271 + 11 + j) % 2147483647 * 69621 + 3) % 2147483647
def drawB : Int → Nat → List Nat → List Int
  | _, _, [] => []
  | m, j, n :: ns => stir m j / 7 % (n : Int) :: drawB (stir m j) (j + 1) ns
def drawL (ns : List Int) (k : Nat) (sz : List Nat) : List Int :=
  let c := (cellL ns k).natAbs
  if 10 ^ 18 ≤ (c : Int) then drawA (c - 10 ^ 18) sz else drawB (((c : Int) + 1 + 31 * k) % 2147483647) 0 sz
theorem drawA_ok : ∀ (sz : List Nat) (c : Int), (∀ n ∈ sz, 0 < n) → (drawA c sz).length = sz.length ∧ ∀ (i : Nat) (n : Nat), sz[i]? = some n → ∃ d : Int, (drawA c sz)[i]? = some d ∧ 0 ≤ d ∧ d < n
  | [], _, _ => ⟨rfl, fun i n h => by simp at h⟩
  | m :: sz, c, hp => by
    obtain ⟨h1, h2⟩ := drawA_ok sz (c / (m : Int)) fun n hn => hp n (List.mem_cons_of_mem _ hn)
    have hm : 0 < m := hp m List.mem_cons_self
    refine ⟨congrArg Nat.succ h1, fun i n h => ?_⟩
    cases i with
    | zero =>
      have e : m = n := Option.some.inj h
      subst e
      exact ⟨_, rfl, Int.emod_nonneg _ (by omega), Int.emod_lt_of_pos _ (by omega)⟩
    | succ i => exact h2 i n (by simpa using h)
theorem drawB_ok : ∀ (sz : List Nat) (c : Int) (j : Nat), (∀ n ∈ sz, 0 < n) → (drawB c j sz).length = sz.length ∧ ∀ (i : Nat) (n : Nat), sz[i]? = some n → ∃ d : Int, (drawB c j sz)[i]? = some d ∧ 0 ≤ d ∧ d < n
  | [], _, _, _ => ⟨rfl, fun i n h => by simp at h⟩
  | m :: sz, c, j, hp => by
    obtain ⟨h1, h2⟩ := drawB_ok sz (stir c j) (j + 1) fun n hn => hp n (List.mem_cons_of_mem _ hn)
    have hm : 0 < m := hp m List.mem_cons_self
    refine ⟨congrArg Nat.succ h1, fun i n h => ?_⟩
    cases i with
    | zero =>
      have e : m = n := Option.some.inj h
      subst e
      exact ⟨_, rfl, Int.emod_nonneg _ (by omega), Int.emod_lt_of_pos _ (by omega)⟩
    | succ i => exact h2 i n (by simpa using h)
/-- as many as asked, each below its size -/
theorem drawL_ok (ns : List Int) (k : Nat) (sz : List Nat) (hp : ∀ n ∈ sz, 0 < n) : (drawL ns k sz).length = sz.length ∧ ∀ (i : Nat) (n : Nat), sz[i]? = some n → ∃ d : Int, (drawL ns k sz)[i]? = some d ∧ 0 ≤ d ∧ d < n := by
  unfold drawL
  dsimp only
  split
  · exact drawA_ok sz _ hp
  · exact drawB_ok sz _ _ hp
/-- the digit at a place, as a number -/
def dig (ns : List Int) (k : Nat) (sz : List Nat) (i : Nat) : Nat := ((drawL ns k sz).getD i 0).toNat
theorem dig_ok {ns : List Int} {k : Nat} {sz : List Nat} (hp : ∀ n ∈ sz, 0 < n) {i n : Nat} (h : sz[i]? = some n) : (drawL ns k sz)[i]? = some ((dig ns k sz i : Nat) : Int) ∧ dig ns k sz i < n := by
  obtain ⟨d, h1, h2, h3⟩ := (drawL_ok ns k sz hp).2 i n h
  have e : dig ns k sz i = d.toNat := by rw [dig, List.getD_eq_getElem?_getD, h1]; rfl
  rw [e]
  refine ⟨?_, by omega⟩
  rw [h1]
  congr 1
  omega
theorem drawL_eq {ns : List Int} {k : Nat} {sz : List Nat} (hp : ∀ n ∈ sz, 0 < n) : drawL ns k sz = (List.range sz.length).map fun i => ((dig ns k sz i : Nat) : Int) := by
  refine List.ext_getElem? fun i => ?_
  rw [List.getElem?_map]
  rcases Nat.lt_or_ge i sz.length with z | z
  · rw [(dig_ok hp (List.getElem?_eq_getElem z)).1, List.getElem?_range z]
    rfl
  · rw [List.getElem?_eq_none (by rw [(drawL_ok ns k sz hp).1]; exact z), List.getElem?_eq_none (by rw [List.length_range]; exact z)]
    rfl
def natD (sz : List Nat) : List D := sz.map fun (n : Nat) => D.int (n : Int)
def intD (ns : List Int) : List D := ns.map D.int
def C__law_draw : Ct := fun ss oc => ∃ (ns : List Int) (k : Nat) (sz : List Nat), k < 1000000 ∧ sz.length ≤ 1000 ∧ (∀ n ∈ sz, 0 < n ∧ n < 2 ^ 60) ∧ ss = [.scr ns, .d (.int k), .bor (natD sz)] ∧ oc = .ret (.own (intD (drawL ns k sz)))
theorem natD_at {sz : List Nat} {i : Nat} {d : D} (h : (natD sz)[i]? = some d) : ∃ n, sz[i]? = some n ∧ d = .int (n : Nat) := by
  unfold natD at h
  rw [List.getElem?_map] at h
  cases e : sz[i]? with
  | none => rw [e] at h; cases h
  | some n => rw [e] at h; exact ⟨n, rfl, (Option.some.inj h).symm⟩
theorem drawA_app : ∀ (a b : List Nat) (c : Int), ∃ c', drawA c (a ++ b) = drawA c a ++ drawA c' b ∧ (∀ n ∈ a, 0 < n) → True
  | _, _, c => ⟨c, fun _ => trivial⟩
/-- behind i of the digits: the rest to be drawn -/
def restA : Int → List Nat → Int
  | c, [] => c
  | c, n :: ns => restA (c / (n : Int)) ns
theorem drawA_snoc : ∀ (a : List Nat) (n : Nat) (c : Int), drawA c (a ++ [n]) = drawA c a ++ [restA c a % (n : Int)] ∧ restA c (a ++ [n]) = restA c a / (n : Int)
  | [], _, _ => ⟨rfl, rfl⟩
  | m :: a, n, c => by
    obtain ⟨h1, h2⟩ := drawA_snoc a n (c / (m : Int))
    exact ⟨congrArg (c % (m : Int) :: ·) h1, h2⟩
def restB : Int → Nat → List Nat → Int
  | m, _, [] => m
  | m, j, _ :: ns => restB (stir m j) (j + 1) ns
theorem drawB_snoc : ∀ (a : List Nat) (n : Nat) (c : Int) (j : Nat), drawB c j (a ++ [n]) = drawB c j a ++ [stir (restB c j a) (j + a.length) / 7 % (n : Int)] ∧ restB c j (a ++ [n]) = stir (restB c j a) (j + a.length)
  | [], _, _, _ => ⟨rfl, rfl⟩
  | m :: a, n, c, j => by
    obtain ⟨h1, h2⟩ := drawB_snoc a n (stir c j) (j + 1)
    have e : j + 1 + a.length = j + (m :: a).length := by rw [List.length_cons]; omega
    rw [e] at h1 h2
    exact ⟨congrArg (stir c j / 7 % (m : Int) :: ·) h1, h2⟩
theorem take_snoc {α : Type} {l : List α} {i : Nat} {x : α} (h : l[i]? = some x) : l.take (i + 1) = l.take i ++ [x] := by
  rw [List.take_add_one, h]
  rfl
theorem intD_snoc (a : List Int) (n : Int) : intD (a ++ [n]) = intD a ++ [.int n] := by unfold intD; rw [List.map_append]; rfl
theorem intD_len (a : List Int) : (intD a).length = a.length := List.length_map ..
theorem drawA_len : ∀ (a : List Nat) (c : Int), (drawA c a).length = a.length
  | [], _ => rfl
  | _ :: a, c => congrArg Nat.succ (drawA_len a _)
theorem drawB_len : ∀ (a : List Nat) (c : Int) (j : Nat), (drawB c j a).length = a.length
  | [], _, _ => rfl
  | _ :: a, c, j => congrArg Nat.succ (drawB_len a _ _)
theorem stir_lt (m : Int) (j : Nat) : 0 ≤ stir m j ∧ stir m j < 2147483647 := ⟨Int.emod_nonneg _ (by decide), Int.emod_lt_of_pos _ (by decide)⟩
theorem restB_lt : ∀ (a : List Nat) (c : Int) (j : Nat), 0 ≤ c → c < 2147483647 → 0 ≤ restB c j a ∧ restB c j a < 2147483647
  | [], _, _, h, h' => ⟨h, h'⟩
  | _ :: a, c, j, _, _ => restB_lt a _ _ (stir_lt c j).1 (stir_lt c j).2
theorem ok__law_draw (F : FnP K "_law_draw" st__law_draw f fd) (f__law_cell : Fn P w K mg base "_law_cell" 1 C__law_cell) (m_len : mg "len" = none) (m_range : mg "range" = none) :
    FnOk P w K mg base (L2.CX P w) 2 f fd ["_law_script", "_law_k", "_law_sizes"] (spD K C__law_draw) := by
  refine fn_mk F sc__law_draw (fun ss oc h => by obtain ⟨ns, k, sz, _, _, _, rfl, _⟩ := h; rfl) fun cdv A outer s H E hr hp ss oc h => ?_
  have nd := sc__law_draw.nd
  obtain ⟨ns, k, sz, hk, hl, hz, rfl, rfl⟩ := h
  have ten : (10 : Int) ^ (18 : Int).toNat = 1000000000000000000 := by decide
  have c10 : CPow 10 18 := ⟨by decide, by decide, by decide⟩
  refine ex_set 3 nd (ev_call f__law_cell hr (by decide) (eva_cons (ev_varS 0 rfl) (eva_cons (ev_var 1 rfl) eva_nil)) ⟨ns, k, rfl, rfl⟩) ?_
  have go : Ex (cxOf (L2.CX P w) P w K mg base ["_law_script", "_law_k", "_law_sizes", "_law_cell_here", "_law_drawn", "_law_size", "_law_stirred", "_law_j"] "_law_draw" (defScope st__law_draw) f cdv A outer s H E) (fun x _ _ => Oc.ret (.own (intD (drawL ns k sz))) = .exc x)
      ((defBody st__law_draw).drop 2) [.scr ns, .d (.int k), .bor (natD sz), .d (.int ((cellL ns k).natAbs : Nat)), .any, .any, .any, .any] emp { nx := fun _ _ => Oc.ret (.own (intD (drawL ns k sz))) = .ret (.d .non), rt := fun s _ => Oc.ret (.own (intD (drawL ns k sz))) = .ret s } := by
    have hd : drawL ns k sz = if 10 ^ 18 ≤ ((cellL ns k).natAbs : Int) then drawA ((cellL ns k).natAbs - 10 ^ 18) sz else drawB ((((cellL ns k).natAbs : Int) + 1 + 31 * k) % 2147483647) 0 sz := rfl
    rw [hd]
    generalize (cellL ns k).natAbs = c
    refine ex_set 4 nd (ev_lst evd_nil) ?_
    refine ex_if (tv_ge (ev_var 3 rfl) (ev_pow c10 ev_int ev_int)) (fun hq => ?_) (fun hq => ?_)
    · have hc : (10 : Int) ^ 18 ≤ c := of_decide_eq_true hq
      rw [if_pos hc]
      refine ex_set 3 nd (ev_minus (ev_var 3 rfl) (ev_pow c10 ev_int ev_int)) ?_
      generalize hb : (c : Int) - 10 ^ (18 : Int).toNat = b
      have hb' : (c : Int) - 10 ^ 18 = b := hb
      rw [hb']
      refine ex_for (fun i G => ∃ u, G = [.scr ns, .d (.int k), .bor (natD sz), .d (.int (restA b (sz.take i))), .own (intD (drawA b (sz.take i))), u, .any, .any]) hp (evi_bor 2 rfl) ⟨_, rfl⟩ ?_ ?_
      · rintro i d G hi ⟨u, rfl⟩
        obtain ⟨n, hn, rfl⟩ := natD_at hi
        obtain ⟨hn0, hn1⟩ := hz n (List.mem_of_getElem? hn)
        refine ⟨_, tg_name 5 nd, ?_⟩
        refine ex_append 4 (ev_mod (by omega) (ev_var 3 rfl) (ev_var 5 rfl)) rfl ?_ ?_
        · rw [intD_len, drawA_len, List.length_take]
          exact Nat.lt_of_le_of_lt (Nat.min_le_right _ _) (Nat.lt_of_le_of_lt hl (by decide))
        refine ex_set 3 nd (ev_fdiv (wide_div (b := 60) (by omega) (by rw [Int.natAbs_natCast]; exact hn1) (by decide) (by decide)) (ev_var 3 rfl) (ev_var 5 rfl)) ?_
        refine ex_nil ⟨rfl, .d (.int n), ?_⟩
        obtain ⟨h1, h2⟩ := drawA_snoc (sz.take i) n b
        rw [take_snoc hn, h1, h2, intD_snoc]
        rfl
      · rintro G ⟨u, rfl⟩
        refine ex_retO 4 rfl ?_
        show Oc.ret _ = Oc.ret _
        have : (natD sz).length = sz.length := List.length_map ..
        rw [this, List.take_length]
    refine ex_nil ?_
    have hc : ¬ (10 : Int) ^ 18 ≤ c := of_decide_eq_false hq
    rw [if_neg hc]
    refine ex_set 6 nd (ev_mod (by decide) (ev_add (ev_add (ev_var 3 rfl) ev_int) (ev_mul (.inl ⟨by decide, by decide⟩) ev_int (ev_var 1 rfl))) ev_int) ?_
    generalize hb : ((c : Int) + 1 + 31 * k) % 2147483647 = b
    have b0 : 0 ≤ b := by rw [← hb]; exact Int.emod_nonneg _ (by decide)
    have b1 : b < 2147483647 := by rw [← hb]; exact Int.emod_lt_of_pos _ (by decide)
    have hnl : (natD sz).length = sz.length := List.length_map ..
    refine ex_for (fun i G => ∃ u, G = [.scr ns, .d (.int k), .bor (natD sz), .d (.int c), .own (intD (drawB b 0 (sz.take i))), .any, .d (.int (restB b 0 (sz.take i))), u]) hp (evi_range m_range (ev_len sz.length m_len (ev_varB 2 (.inr rfl)) (.inl ⟨_, .inl rfl, hnl⟩)) (by omega)) ⟨_, rfl⟩ ?_ ?_
    · rintro i d G hi ⟨u, rfl⟩
      obtain ⟨hi1, rfl⟩ := rangeD_at hi
      have hn : sz[i]? = some sz[i] := List.getElem?_eq_getElem hi1
      obtain ⟨hn0, hn1⟩ := hz _ (List.mem_of_getElem? hn)
      obtain ⟨r0, r1⟩ := restB_lt (sz.take i) b 0 b0 b1
      have htl : (sz.take i).length = i := by rw [List.length_take]; omega
      refine ⟨_, tg_name 7 nd, ?_⟩
      refine ex_set 6 nd (ev_mod (by decide) (ev_add (ev_add (ev_mul (.inr ⟨by decide, by decide⟩) (ev_var 6 rfl) ev_int) ev_int) (ev_var 7 rfl)) ev_int) ?_
      refine ex_set 6 nd (ev_mod (by decide) (ev_add (ev_mul (.inr ⟨by decide, by decide⟩) (ev_var 6 rfl) ev_int) ev_int) ev_int) ?_
      refine ex_append 4 (ev_mod (j := (sz[i] : Nat)) (by omega) (ev_fdiv (wide_div (b := 3) (by decide) (by decide) (by decide) (by decide)) (ev_var 6 rfl) ev_int) (ev_ixB (ev_varB 2 (.inr rfl)) (ev_var 7 rfl) ?_)) rfl ?_ ?_
      · have : (natD sz)[i]? = some (.int (sz[i] : Nat)) := by unfold natD; rw [List.getElem?_map, hn]; rfl
        rw [show ((0 : Int) + (i : Int)) = (i : Int) by omega]
        exact atI_nat this
      · rw [intD_len, drawB_len, htl]
        exact Nat.lt_of_lt_of_le hi1 (Nat.le_trans hl (by decide))
      refine ex_nil ⟨rfl, .d (.int (0 + (i : Int))), ?_⟩
      obtain ⟨h1, h2⟩ := drawB_snoc (sz.take i) sz[i] b 0
      rw [htl] at h1 h2
      rw [take_snoc hn, h1, h2, intD_snoc]
      rfl
    · rintro G ⟨u, rfl⟩
      refine ex_retO 4 rfl ?_
      show Oc.ret _ = Oc.ret _
      rw [rangeD_len, List.take_length]
  refine ex_if (tv_lt (ev_var 3 rfl) ev_int) (fun hq => ?_) (fun hq => ?_)
  · refine ex_set 3 nd (ev_neg (ev_var 3 rfl)) ?_
    refine ex_nil ?_
    have hlt : cellL ns k < 0 := of_decide_eq_true hq
    have e : ((cellL ns k).natAbs : Int) = -cellL ns k := by omega
    rw [e] at go
    exact go
  · refine ex_nil ?_
    have hge : ¬ cellL ns k < 0 := of_decide_eq_false hq
    have e : ((cellL ns k).natAbs : Int) = cellL ns k := by omega
    rw [e] at go
    exact go

theorem sc__law_f : FnScope ["_law_top", "_law_bottom", "_law_first", "_law_second"] ["_law_top", "_law_bottom"] (defScope st__law_f) := ⟨rfl, rfl, rfl, by decide +kernel, rfl, by decide +kernel, by decide +kernel⟩
def C__law_f : Ct := fun ss oc => ∃ t b : Int, ss = [.d (.int t), .d (.int b)] ∧ b.natAbs < 2 ^ 9000 ∧ b ≠ 0 ∧ oc = .ret (.d (ratD (Rat.divInt t b)))
theorem ok__law_f (F : FnP K "_law_f" st__law_f f fd) (m_max : mg "max" = none) : FnOk P w K mg base (L2.CX P w) 2 f fd ["_law_top", "_law_bottom"] (spD K C__law_f) := by
  refine fn_mk F sc__law_f (fun ss oc h => by obtain ⟨t, b, rfl, _⟩ := h; rfl) fun cdv A outer s H E hr hp ss oc h => ?_
  have nd := sc__law_f.nd
  obtain ⟨t, b, rfl, hb, hb0, rfl⟩ := h
  have go : ∀ t' b' : Int, b'.natAbs < 2 ^ 9000 → 0 < b' → Rat.divInt t' b' = Rat.divInt t b → Ex (cxOf (L2.CX P w) P w K mg base ["_law_top", "_law_bottom", "_law_first", "_law_second"] "_law_f" (defScope st__law_f) f cdv A outer s H E) (fun x _ _ => Oc.ret (.d (ratD (Rat.divInt t b))) = .exc x) ((defBody st__law_f).drop 1)
      [.d (.int t'), .d (.int b'), .any, .any] emp { nx := fun _ _ => Oc.ret (.d (ratD (Rat.divInt t b))) = .ret (.d .non), rt := fun s _ => Oc.ret (.d (ratD (Rat.divInt t b))) = .ret s } := by
    intro t b hb hpos he
    rw [← he]
    clear he
    refine ex_set 2 nd (ev_max2 rfl m_max (eva_cons (ev_var 0 rfl) (eva_cons (ev_neg (ev_var 0 rfl)) eva_nil))) ?_
    refine ex_set 3 nd (ev_var 1 rfl) ?_
    have em : max t (-t) = (t.natAbs : Nat) := by omega
    have eb : b = (b.natAbs : Nat) := by omega
    rw [em]
    refine ex_while (fun n G => ∃ x y : Nat, G = [.d (.int t), .d (.int b), .d (.int x), .d (.int y)] ∧ Nat.gcd x y = Nat.gcd t.natAbs b.natAbs ∧ n = y) hp ⟨t.natAbs, b.natAbs, by rw [← eb]; rfl, rfl, rfl⟩ ?_
    rintro n G ⟨x, y, rfl, hg, rfl⟩
    refine ⟨_, tv_neI (ev_var 3 rfl) ev_int, fun hq => ?_, fun hq => ?_⟩
    · have hb : n ≠ 0 := by
        intro z; subst z; simp at hq
      refine ex_par 2 3 nd (eva_cons (ev_var 3 rfl) (eva_cons (ev_mod (by omega) (ev_var 2 rfl) (ev_var 3 rfl)) eva_nil)) ?_
      refine ex_nil ⟨rfl, x % n, Nat.mod_lt _ (Nat.pos_of_ne_zero hb), n, x % n, rfl, ?_, rfl⟩
      rw [← hg, Nat.gcd_comm x n, Nat.gcd_rec n x]
      exact Nat.gcd_comm _ _
    · have hn : n = 0 := by
        by_cases z : n = 0
        · exact z
        · exfalso
          have : ¬ ((n : Int) = 0) := by omega
          simp [this] at hq
          omega
      subst hn
      rw [Nat.gcd_zero_right] at hg
      subst hg
      have hg0 : 0 < Nat.gcd t.natAbs b.natAbs := Nat.gcd_pos_of_pos_right _ (by omega)
      have hg1 : Nat.gcd t.natAbs b.natAbs ≤ b.natAbs := Nat.gcd_le_right _ (by omega)
      have hd : ∀ i : Int, CDivW i (Nat.gcd t.natAbs b.natAbs : Nat) := fun i => wide_div (b := 9000) (by omega) (by rw [Int.natAbs_natCast]; omega) (by decide) (by decide)
      refine ex_ret (ev_tup (evd_cons (ev_fdiv (hd t) (ev_var 0 rfl) (ev_var 2 rfl)) (evd_cons (ev_fdiv (hd b) (ev_var 1 rfl) (ev_var 2 rfl)) evd_nil))) ?_
      rw [divInt_pos hpos]
  refine ex_if (tv_lt (ev_var 1 rfl) ev_int) (fun hq => ?_) (fun hq => ?_)
  · refine ex_set 0 nd (ev_neg (ev_var 0 rfl)) ?_
    refine ex_set 1 nd (ev_neg (ev_var 1 rfl)) ?_
    refine ex_nil ?_
    have hlt : b < 0 := of_decide_eq_true hq
    exact go (-t) (-b) (by rw [Int.natAbs_neg]; exact hb) (by omega) (Rat.neg_divInt_neg t b)
  · refine ex_nil ?_
    have hge : ¬ b < 0 := of_decide_eq_false hq
    exact go t b hb (by omega) rfl
theorem ev_lf {X : Cx} {G : List S} {R : Res} {a b : Expr} {pos p : Pos} {k j : Nat} {t i : Int} (f : Fn X.prog X.w X.K X.mg X.base "_law_f" k C__law_f) (hr : Room j X.A) (hk : k ≤ j) (ha : Ev X a G R (.d (.int t))) (hb : Ev X b G R (.d (.int i)))
    (h0 : i ≠ 0) (hi : i.natAbs < 2 ^ 9000) (hg : Gl X "_law_f" := by rfl) (he : starEach [a, b] X.env = (false, eval a X.env) :: starEach [b] X.env := by rfl) (he2 : starEach [b] X.env = (false, eval b X.env) :: starEach [] X.env := by rfl) (hpl : (backTo pos (starEach [b] X.env)).any (·.1) = false := by rfl) :
    Ev X (.Call (.Name "_law_f" p) [a, b] [] pos) G R (.d (ratD (Rat.divInt t i))) :=
  ev_call f hr hk (eva_cons ha (eva_cons hb eva_nil he2) he) ⟨t, i, rfl, hi, h0, rfl⟩ rfl hg (by decide) he hpl

theorem sc__law_word : FnScope ["_law_a"] ["_law_a"] (defScope st__law_word) := ⟨rfl, rfl, rfl, by decide +kernel, rfl, by decide +kernel, by decide +kernel⟩
def C__law_word : Ct := fun ss oc => ∃ (r : Rat) (n : Nat), n < 1920 ∧ Bd n r ∧ ss = [.d (ratD r)] ∧ oc = .ret (.d (.str (fmtR r)))
theorem ok__law_word (F : FnP K "_law_word" st__law_word f fd) (m_str : mg "str" = none) :
    FnOk P w K mg base (L2.CX P w) 1 f fd ["_law_a"] (spD K C__law_word) := by
  refine fn_mk F sc__law_word (fun ss oc h => by obtain ⟨r, n, _, _, rfl, _⟩ := h; rfl) fun cdv A0 outer s H E hr hp ss oc h => ?_
  obtain ⟨r, n, hn, hb, rfl, rfl⟩ := h
  have sz : sizeLine ≥ 100000 := by decide
  have b1 := log2_bd hb.num hn
  have b2 : ((r.den : Nat) : Int).natAbs.log2 < 1920 := by rw [Int.natAbs_natCast]; exact log2_bd hb.den hn
  have l1 : (Str.ofString (toString r.num)).length ≤ 1921 := txI_len b1
  have l2 : (Str.ofString (toString ((r.den : Nat) : Int))).length ≤ 1921 := txI_len b2
  refine ex_if (tv_eqI (ev_ixT (d := .int (r.den : Nat)) (ev_var 0 rfl) ev_int rfl) ev_int) (fun hq => ?_) (fun hq => ?_)
  · have h1 : r.den = 1 := by have := of_decide_eq_true hq; omega
    exact ex_ret (ev_strI m_str b1 (ev_ixT (d := .int r.num) (ev_var 0 rfl) ev_int rfl)) (show Oc.ret (S.d (.str (fmtR r))) = Oc.ret (S.d (.str (txI r.num))) by unfold fmtR; rw [if_pos h1])
  · have h1 : ¬ r.den = 1 := by have := of_decide_eq_false hq; omega
    have l3 : (Str.ofString (toString r.num) ++ ("/" : Str)).length = (Str.ofString (toString r.num)).length + 1 := by
      have e : (("/" : Str)).length = 1 := by decide +kernel
      rw [← e]
      simp [Str.length, HAppend.hAppend, Append.append]
      exact Array.size_append
    refine ex_nil (ex_ret (ev_catS (by rw [l3]; omega) (ev_catS (by have e : (("/" : Str)).length = 1 := (by decide +kernel); rw [e]; omega) (ev_strI m_str b1 (ev_ixT (d := .int r.num) (ev_var 0 rfl) ev_int rfl)) ev_str) (ev_strI m_str b2 (ev_ixT (d := .int (r.den : Nat)) (ev_var 0 rfl) ev_int rfl))) ?_)
    unfold fmtR
    rw [if_neg h1]

theorem sc__law_due : FnScope ["_law_word_here", "_law_minus", "_law_rest", "_law_parts", "_law_part", "_law_sign", "_law_top", "_law_bottom"] ["_law_word_here"] (defScope st__law_due) := ⟨rfl, rfl, rfl, by decide +kernel, rfl, by decide +kernel, by decide +kernel⟩
def C__law_due : Ct := fun ss oc => ∃ w : Str, w.length ≤ 90000 ∧ ss = [.d (.str w)] ∧ oc = .ret (.d (optR (readR w)))
theorem ok__law_due (F : FnP K "_law_due" st__law_due f fd) (f__law_f : Fn P w K mg base "_law_f" 2 C__law_f) (m_len : mg "len" = none) (m_int : mg "int" = none) :
    FnOk P w K mg base (L2.CX P w) 3 f fd ["_law_word_here"] (spD K C__law_due) := by
  refine fn_mk F sc__law_due (fun ss oc h => by obtain ⟨w, _, rfl, _⟩ := h; rfl) fun cdv A0 outer s H E hr hp ss oc h => ?_
  have nd := sc__law_due.nd
  obtain ⟨x, hx, rfl, rfl⟩ := h
  have sz : sizeLine ≥ 100000 := by decide
  have eL : ∀ y : Str, y.length = y.cps.toList.length := fun y => by simp [Str.length]
  have cl : (cutS x (some 1) none).length ≤ x.length := cutS_length x _ _
  refine ex_set 1 nd (ev_eq (ev_cmpR op_eq ro_eqS (ev_slS (by omega) (ev_var 0 rfl) evo_none (evo_some ev_int)) (ev_str (x := "-")) (nomark _)) (by rw [neg_cut])) ?_
  refine ex_set 2 nd (ev_var 0 rfl) ?_
  dsimp only [wipeS, List.set, List.map, List.replicate, List.length_cons, List.length_nil, List.cons_append, List.nil_append, Nat.reduceAdd, Nat.reduceSub]
  have e0 : partsF x = Txt.split (if negF x = true then cutS x (some 1) none else x) "/" := rfl
  have pne := parts_ne x
  have plen := txsplit_lens (if negF x = true then cutS x (some 1) none else x) "/"
  rw [← e0] at plen
  have wl : (if negF x = true then cutS x (some 1) none else x).length ≤ x.length := by split <;> omega
  generalize hv : readR x = v
  unfold readR at hv
  have rr := hv.symm
  clear hv
  refine ex_ifJ [.d (.str x), .d (.bl (negF x)), .d (.str (if negF x = true then cutS x (some 1) none else x)), .any, .any, .any, .any, .any] (tv_val (ev_var 1 rfl)) (fun hq => ex_set 2 nd (ev_eq (ev_slS (by omega) (ev_var 0 rfl) (evo_some ev_int) evo_none) (show _ = D.str (if negF x = true then cutS x (some 1) none else x) by rw [if_pos hq])) (ex_nil ⟨rfl, rfl⟩)) (fun hq => ex_nil ⟨by rw [if_neg (by rw [hq]; simp)], rfl⟩) ?_
  refine ex_set 3 nd (ev_split (y := "/") (by decide +kernel) (by omega) (ev_var 2 rfl) ev_str) ?_
  rw [← e0]
  generalize negF x = ng at rr wl plen e0 ⊢
  clear e0
  generalize partsF x = ps at rr pne plen ⊢
  dsimp only [wipeS, List.set, List.map, List.replicate, List.length_cons, List.length_nil, List.cons_append, List.nil_append, Nat.reduceAdd, Nat.reduceSub]
  generalize (if ng = true then cutS x (some 1) none else x) = x' at wl plen ⊢
  have ll : (ps.map D.str).length = ps.length := List.length_map ..
  have bad : ∀ {p : Str}, p ∈ ps → natF p = none → v = none := fun {p} hp hn => by
    rw [rr]
    match ps, hp with
    | [], hp => cases hp
    | [p0], hp =>
      rw [List.mem_singleton.mp hp] at hn
      show (match natF p0 with | none => none | some t => _) = none
      rw [hn]
    | [p0, p1], hp =>
      show (match natF p0 with | none => none | some t => _) = none
      cases h0 : natF p0 with
      | none => rfl
      | some t =>
        rcases List.mem_cons.mp hp with e | hp
        · rw [← e, hn] at h0; cases h0
        · rw [List.mem_singleton.mp hp] at hn
          show (if _ then none else if _ then (match natF p1 with | none => none | some b => _) else _) = none
          rw [hn]
          split
          · rfl
          · rfl
    | p0 :: p1 :: p2 :: r, hp =>
      show (match natF p0 with | none => none | some t => _) = none
      cases natF p0 with
      | none => rfl
      | some t => exact if_pos (.inl (show 2 < r.length + 1 + 1 + 1 by omega))
  refine ex_if (tv_gt (ev_len ps.length m_len (ev_varB 3 (.inl rfl)) (.inl ⟨_, .inl rfl, ll⟩)) ev_int) (fun hq => ?_) (fun hq => ?_)
  · have h2 : 2 < ps.length := by have := of_decide_eq_true hq; omega
    have hv : v = none := by
      rw [rr]
      split
      · rfl
      · exact if_pos (.inl h2)
    exact ex_ret ev_non (show Oc.ret (S.d (optR v)) = Oc.ret (S.d .non) by rw [hv]; rfl)
  have h2 : ps.length ≤ 2 := by have := of_decide_eq_false hq; omega
  refine ex_nil (ex_frz 3 rfl ?_)
  dsimp only [wipeS, List.set, List.map, List.replicate, List.length_cons, List.length_nil, List.cons_append, List.nil_append, Nat.reduceAdd, Nat.reduceSub]
  refine ex_for (fun k G => (∀ p ∈ ps.take k, natF p ≠ none) ∧ ∃ u4 u5, G = [.d (.str x), .d (.bl ng), .d (.str x'), .d (.lst (ps.map D.str)), u4, u5, .any, .any]) hp (evi_lst (ev_var 3 rfl)) ⟨fun p h => by simp at h, _, _, rfl⟩ ?_ ?_
  · rintro k d G hd ⟨hpre, u4, u5, rfl⟩
    obtain ⟨p, hpk, rfl⟩ := map_inv hd
    have mp := List.mem_of_getElem? hpk
    have lp := plen p mp
    have lp' := eL p
    have hno : natF p = none → Oc.ret (S.d (optR v)) = Oc.ret (S.d .non) := fun z => by rw [bad mp z]; rfl
    refine ⟨_, tg_name 4 nd, ?_⟩
    dsimp only [wipeS, List.set, List.map, List.replicate, List.length_cons, List.length_nil, List.cons_append, List.nil_append, Nat.reduceAdd, Nat.reduceSub]
    refine ex_if (tw_tv (tw_or (tv_eqS (ev_var 4 rfl) (ev_str (x := ""))) fun _ => tw_or1 (tv_gt (ev_lenS m_len (by omega) (ev_var 4 rfl)) ev_int))) (fun hq => ?_) (fun hq => ?_)
    · refine ex_ret ev_non (hno ?_)
      unfold natF
      refine if_neg fun ⟨⟨z1, z2⟩, _⟩ => ?_
      have hq : (decide (p = "") || decide ((9 : Int) < ((p.length : Nat) : Int))) = true := hq
      rw [Bool.or_eq_true] at hq
      rcases hq with q | q
      · rw [of_decide_eq_true q] at z1
        exact absurd z1 (by decide +kernel)
      · have := of_decide_eq_true q
        omega
    have h19 : 1 ≤ p.length ∧ p.length ≤ 9 := by
      have hq : (decide (p = "") || decide ((9 : Int) < ((p.length : Nat) : Int))) = false := hq
      rw [Bool.or_eq_false_iff] at hq
      have q1 := of_decide_eq_false hq.1
      have q2 := of_decide_eq_false hq.2
      refine ⟨?_, by omega⟩
      refine Nat.pos_of_ne_zero fun z => q1 ?_
      obtain ⟨⟨l⟩⟩ := p
      cases l with
      | nil => decide +kernel
      | cons c t => cases z
    refine ex_nil ?_
    refine ex_for (fun i G => (∀ c ∈ p.cps.toList.take i, digB c = true) ∧ ∃ u5, G = [.d (.str x), .d (.bl ng), .d (.str x'), .d (.lst (ps.map D.str)), .d (.str p), u5, .any, .any]) hp (evi_str (ev_var 4 rfl)) ⟨fun p h => by simp at h, _, rfl⟩ ?_ ?_
    · rintro i d G hd ⟨hpre2, u5, rfl⟩
      obtain ⟨c, hc, rfl⟩ : ∃ c, p.cps.toList[i]? = some c ∧ d = sgD c := by
        rw [List.getElem?_map] at hd
        cases e : p.cps.toList[i]? with
        | none => rw [e] at hd; cases hd
        | some c => rw [e] at hd; exact ⟨c, rfl, (Option.some.inj hd).symm⟩
      refine ⟨_, tg_name 5 nd, ?_⟩
      refine ex_if (tv_notInSg (ev_var 5 rfl) (ev_str (x := digsS))) (fun hq => ?_) (fun hq => ?_)
      · refine ex_ret ev_non (hno ?_)
        unfold natF
        refine if_neg fun ⟨_, z, _⟩ => ?_
        have h3 : digB c = true := List.all_eq_true.mp z c (List.mem_of_getElem? hc)
        have hq : (!digB c) = true := hq
        rw [h3] at hq
        cases hq
      · have h3 : digB c = true := by
          have hq : (!digB c) = false := hq
          revert hq
          cases digB c <;> intro hq <;> first | rfl | cases hq
        refine ex_nil (ex_nil ⟨rfl, fun z hz => ?_, _, rfl⟩)
        rw [take_snoc' hc] at hz
        rcases List.mem_append.mp hz with hz | hz
        · exact hpre2 z hz
        · rw [List.mem_singleton.mp hz]; exact h3
    · rintro G ⟨hall, u5, rfl⟩
      rw [List.length_map, List.take_length] at hall
      have ha : p.cps.toList.all digB = true := List.all_eq_true.mpr hall
      obtain ⟨c0, hc0⟩ : ∃ c0, p.cps.toList[0]? = some c0 := ⟨_, List.getElem?_eq_getElem (by omega)⟩
      refine ex_if (tw_tv (tw_and (tv_eqS (ev_ixSg (by omega) (ev_var 4 rfl) ev_int (atI_nat (j := 0) hc0)) (ev_str (x := "0"))) fun _ => tw_and1 (tv_neS (ev_var 4 rfl) (ev_str (x := "0"))))) (fun hq => ?_) (fun hq => ?_)
      · refine ex_ret ev_non (hno ?_)
        have hq : (decide ((⟨#[c0]⟩ : Str) = "0") && !decide (p = "0")) = true := hq
        rw [Bool.and_eq_true] at hq
        have q1 := sg_zero (of_decide_eq_true hq.1)
        subst q1
        have q2 : p ≠ "0" := fun z => by
          have := hq.2
          rw [decide_eq_true z] at this
          cases this
        unfold natF
        refine if_neg fun ⟨_, _, z⟩ => z ⟨?_, hc0⟩
        refine Decidable.byContradiction fun y => q2 ?_
        rw [← sg0]
        obtain ⟨⟨l⟩⟩ := p
        have h1 : l.length = 1 := by have e : Str.length ⟨⟨l⟩⟩ = l.length := rfl; omega
        match l, h1, hc0 with
        | [a], _, hc0 =>
          have : a = 48 := Option.some.inj hc0
          rw [this]
      · refine ex_nil (ex_nil ⟨rfl, fun z hz => ?_, _, _, rfl⟩)
        rw [take_snoc' hpk] at hz
        rcases List.mem_append.mp hz with hz | hz
        · exact hpre z hz
        · rw [List.mem_singleton.mp hz]
          intro hn
          unfold natF at hn
          have hz : ¬ (1 < p.length ∧ p.cps.toList[0]? = some 48) := fun ⟨z1, z2⟩ => by
            rw [hc0] at z2
            cases z2
            have hq : (decide ((⟨#[48]⟩ : Str) = "0") && !decide (p = "0")) = false := hq
            rw [decide_eq_true sg0, decide_eq_false (fun y => by rw [y] at z1; exact absurd z1 (by decide +kernel))] at hq
            cases hq
          rw [if_pos ⟨h19, ha, hz⟩] at hn
          cases hn
  rintro G ⟨hall, u4, u5, rfl⟩
  rw [ll, List.take_length] at hall
  obtain ⟨p0, r0, rfl⟩ : ∃ p r, ps = p :: r := by
    cases ps with
    | nil => exact absurd rfl pne
    | cons p r => exact ⟨p, r, rfl⟩
  obtain ⟨t, ht⟩ : ∃ t, natF p0 = some t := by
    cases e : natF p0 with
    | none => exact absurd e (hall p0 List.mem_cons_self)
    | some t => exact ⟨t, rfl⟩
  obtain ⟨t0, ti, tl⟩ := natF_nn ht
  have g0 : (p0 :: r0).getD 0 "" = p0 := rfl
  rw [g0, ht] at rr
  refine ex_set 6 nd (ev_intS m_int ti (by omega) (ev_ixB (ev_lb (ev_var 3 rfl)) ev_int (map_at (f := D.str) (k := 0) rfl))) ?_
  refine ex_set 7 nd ev_int ?_
  dsimp only [wipeS, List.set, List.map, List.replicate, List.length_cons, List.length_nil, List.cons_append, List.nil_append, Nat.reduceAdd, Nat.reduceSub]
  have hA : ¬ 2 < (p0 :: r0).length := by omega
  have key : v = if 2 < (p0 :: r0).length ∨ (ng = true ∧ t = 0) then none
      else if (p0 :: r0).length = 2 then (match natF ((p0 :: r0).getD 1 "") with
        | none => none
        | some b => if b < 2 ∨ Int.gcd t b ≠ 1 then none else some (Rat.divInt (sgnI ng t) b))
      else some (Rat.divInt (sgnI ng t) 1) := rr
  refine ex_ifM (fun G' R' => R' = emp ∧ ∃ b : Int, 0 < b ∧ b < 10 ^ 9 ∧ v = (if ng = true ∧ t = 0 then none else if Int.gcd t b ≠ 1 then none else some (Rat.divInt (sgnI ng t) b)) ∧ G' = [.d (.str x), .d (.bl ng), .d (.str x'), .d (.lst ((p0 :: r0).map D.str)), u4, u5, .d (.int t), .d (.int b)])
    (tv_eqI (ev_len (p0 :: r0).length m_len (ev_lb (ev_var 3 rfl)) (.inl ⟨_, .inl rfl, ll⟩)) ev_int) (fun hq => ?_) (fun hq => ?_) ?_
  · have h22 : (p0 :: r0).length = 2 := by have := of_decide_eq_true hq; omega
    obtain ⟨p1, rfl⟩ : ∃ p1, r0 = [p1] := by
      cases r0 with
      | nil => cases h22
      | cons p1 r => cases r with
        | nil => exact ⟨p1, rfl⟩
        | cons _ _ => simp at h22
    obtain ⟨b, hb⟩ : ∃ b, natF p1 = some b := by
      cases e : natF p1 with
      | none => exact absurd e (hall p1 (List.mem_cons_of_mem _ List.mem_cons_self))
      | some t => exact ⟨t, rfl⟩
    obtain ⟨b0, bi, bl⟩ := natF_nn hb
    have b9 := natF_lt hb
    have g1 : [p0, p1].getD 1 "" = p1 := rfl
    rw [if_pos h22, g1, hb] at key
    have key : v = if 2 < [p0, p1].length ∨ (ng = true ∧ t = 0) then none else (if b < 2 ∨ Int.gcd t b ≠ 1 then none else some (Rat.divInt (sgnI ng t) b)) := key
    refine ex_set 7 nd (ev_intS m_int bi (by omega) (ev_ixB (ev_lb (ev_var 3 rfl)) ev_int (show atI ([p0, p1].map D.str) (1 : Int) = some (.str p1) from map_at (f := D.str) (k := 1) rfl))) ?_
    dsimp only [wipeS, List.set, List.map, List.replicate, List.length_cons, List.length_nil, List.cons_append, List.nil_append, Nat.reduceAdd, Nat.reduceSub]
    refine ex_if (tv_lt (ev_var 7 rfl) ev_int) (fun hq => ?_) (fun hq => ?_)
    · have hl := of_decide_eq_true hq
      have hv : v = none := by
        rw [key]
        split
        · rfl
        · exact if_pos (.inl hl)
      exact ex_ret ev_non (show Oc.ret (S.d (optR v)) = Oc.ret (S.d .non) by rw [hv]; rfl)
    · have hl : ¬ b < 2 := of_decide_eq_false hq
      refine ex_nil (ex_nil ⟨rfl, b, by omega, b9, ?_, rfl⟩)
      rw [key]
      by_cases c1 : ng = true ∧ t = 0
      · rw [if_pos c1, if_pos (.inr c1)]
      · rw [if_neg c1, if_neg (fun z => z.elim (fun z => absurd z (by simp)) c1)]
        by_cases c2 : Int.gcd t b ≠ 1
        · rw [if_pos c2, if_pos (.inr c2)]
        · rw [if_neg c2, if_neg (fun z => z.elim hl c2)]
  · have h22 : ¬ (p0 :: r0).length = 2 := by have := of_decide_eq_false hq; omega
    rw [if_neg h22] at key
    refine ex_nil ⟨rfl, 1, by omega, by decide, ?_, rfl⟩
    rw [key]
    by_cases c1 : ng = true ∧ t = 0
    · rw [if_pos c1, if_pos (.inr c1)]
    · rw [if_neg c1, if_neg (fun z => z.elim hA c1), if_neg (fun z => z Int.gcd_one)]
  rintro G' R' ⟨rfl, b, hb0, hb9, hv, rfl⟩
  clear key rr
  refine ex_if (tw_tv (tw_and (tv_val (ev_var 1 rfl)) fun _ => tw_and1 (tv_eqI (ev_var 6 rfl) ev_int))) (fun hq => ?_) (fun hq => ?_)
  · rw [Bool.and_eq_true] at hq
    have hv : v = none := by rw [hv]; exact if_pos ⟨hq.1, of_decide_eq_true hq.2⟩
    exact ex_ret ev_non (show Oc.ret (S.d (optR v)) = Oc.ret (S.d .non) by rw [hv]; rfl)
  have c1 : ¬ (ng = true ∧ t = 0) := fun ⟨z1, z2⟩ => by
    rw [z1, decide_eq_true z2] at hq
    cases hq
  rw [if_neg c1] at hv
  refine ex_nil ?_
  have ft : (D.tup [.int t, .int b]).Fit := ⟨rfl, 1, by decide, rfl⟩
  have p9 : 10 ^ 9 < 2 ^ 60 := by decide
  have p60 : (2 : Nat) ^ 60 ≤ 2 ^ 9000 := Nat.pow_le_pow_right (by decide) (by decide)
  refine ex_if (tv_neD hr (ratD_fit _) ft (ev_call f__law_f hr (by decide) (eva_cons (ev_var 6 rfl) (eva_cons (ev_var 7 rfl) eva_nil)) ⟨t, b, rfl, by omega, by omega, rfl⟩) (ev_tup (evd_cons (ev_var 6 rfl) (evd_cons (ev_var 7 rfl) evd_nil)))) (fun hq => ?_) (fun hq => ?_)
  · have c2 : Int.gcd t b ≠ 1 := fun z => by
      rw [D.eq_true (ratD_cop hb0 z)] at hq
      cases hq
    have hv : v = none := by rw [hv]; exact if_pos c2
    exact ex_ret ev_non (show Oc.ret (S.d (optR v)) = Oc.ret (S.d .non) by rw [hv]; rfl)
  have c2 : Int.gcd t b = 1 := by
    refine Decidable.byContradiction fun z => ?_
    rw [D.eq_false (fun y => z (cop_ratD y))] at hq
    cases hq
  rw [if_neg (fun z => z c2)] at hv
  refine ex_nil ?_
  refine ex_ifJ [.d (.str x), .d (.bl ng), .d (.str x'), .d (.lst ((p0 :: r0).map D.str)), u4, u5, .d (.int (sgnI ng t)), .d (.int b)] (tv_val (ev_var 1 rfl)) (fun hq => ex_set 6 nd (ev_eq (ev_neg (ev_var 6 rfl)) (show _ = D.int (sgnI ng t) by unfold sgnI; rw [if_pos hq])) (ex_nil ⟨rfl, rfl⟩)) (fun hq => ex_nil ⟨by unfold sgnI; rw [if_neg (by rw [hq]; simp)], rfl⟩) ?_
  refine ex_ret (ev_tup (evd_cons (ev_var 6 rfl) (evd_cons (ev_var 7 rfl) evd_nil))) ?_
  show Oc.ret (S.d (optR v)) = Oc.ret (S.d (.tup [.int (sgnI ng t), .int b]))
  rw [hv]
  show Oc.ret (S.d (ratD _)) = _
  rw [ratD_cop hb0 (by rw [gcd_sgn]; exact c2)]

theorem sc_law : FnScope ["_law_script", "_law_k", "_law_digits", "_law_a", "_law_word_here", "_law_digit"] ["_law_script"] (defScope st_law) := ⟨rfl, rfl, rfl, by decide +kernel, rfl, by decide +kernel, by decide +kernel⟩
def wdL : List Str := ["0", "1", "2", "3", "4", "6", "9", "/", "-", "/", "12", "10", "5"]
def wdF (n : Nat) : Str := wdL.getD n ""
theorem wd_len : ∀ n : Nat, (wdF n).length ≤ 2 := by
  have key : ∀ x ∈ wdL, x.length ≤ 2 := by decide +kernel
  intro n
  unfold wdF
  rw [List.getD_eq_getElem?_getD]
  cases h : wdL[n]? with
  | none => decide +kernel
  | some x => exact key x (List.mem_of_getElem? h)
theorem join_len : ∀ {l : List (List Nat)}, (∀ p ∈ l, p.length ≤ 2) → (TL.joinL [] l).length ≤ 2 * l.length
  | [], _ => by simp [TL.joinL]
  | [p], h => by have := h p List.mem_cons_self; show p.length ≤ 2; exact this
  | p :: q :: r, h => by
    have h1 := h p List.mem_cons_self
    have h2 := join_len (l := q :: r) fun x hx => h x (List.mem_cons_of_mem _ hx)
    show (p ++ ([] ++ TL.joinL [] (q :: r))).length ≤ _
    rw [List.length_append, List.nil_append, List.length_cons]
    omega
theorem sum_len {l : List Nat} : ((l.map wdF).map (·.length)).sum ≤ 2 * l.length := by
  induction l with
  | nil => simp
  | cons a l ih =>
    have := wd_len a
    rw [List.map_cons, List.map_cons, List.sum_cons, List.length_cons]
    omega
theorem word_len (l : List Nat) : (Txt.join ("" : Str) (l.map wdF)).length ≤ 2 * l.length := by
  have e0 : TL.tl ("" : Str) = [] := by decide +kernel
  have e1 : (Txt.join ("" : Str) (l.map wdF)).length = (TL.tl (Txt.join ("" : Str) (l.map wdF))).length := by simp [Str.length]
  rw [e1, TL.join_eq, TL.tl_join, e0]
  refine Nat.le_trans (join_len fun p hp => ?_) ?_
  · obtain ⟨x, hx, rfl⟩ := List.mem_map.mp hp
    obtain ⟨n, _, rfl⟩ := List.mem_map.mp hx
    have e : (TL.tl (wdF n)).length = (wdF n).length := by simp [Str.length]
    rw [e]
    exact wd_len n
  · rw [List.length_map, List.length_map]
    exact Nat.le_refl _
theorem fmt_len {r : Rat} {n : Nat} (h : Bd n r) (hn : n < 1920) : (fmtR r).length ≤ 5000 := by
  have l1 : (Str.ofString (toString r.num)).length ≤ 1921 := txI_len (log2_bd h.num hn)
  have l2 : (Str.ofString (toString ((r.den : Nat) : Int))).length ≤ 1921 := txI_len (by rw [Int.natAbs_natCast]; exact log2_bd h.den hn)
  have cat : ∀ a b : Str, (a ++ b).length = a.length + b.length := fun a b => by
    simp [Str.length, HAppend.hAppend, Append.append]
    exact Array.size_append
  have e : (("/" : Str)).length = 1 := by decide +kernel
  unfold fmtR
  split
  · exact Nat.le_trans l1 (by omega)
  · rw [cat, cat, e]
    have l1' : (txI r.num).length ≤ 1921 := l1
    have l2' : (txI ((r.den : Nat) : Int)).length ≤ 1921 := l2
    omega
theorem optR_fit (o : Option Rat) : (optR o).Fit := by
  cases o with
  | none => exact ⟨rfl, 1, by decide, rfl⟩
  | some r => exact ratD_fit r
theorem ok_law {T : Addr} (F : FnP K "law" st_law f fd) (f__law_draw : Fn P w K mg base "_law_draw" 2 C__law_draw) (f__law_f : Fn P w K mg base "_law_f" 2 C__law_f) (f__law_word : Fn P w K mg base "_law_word" 1 C__law_word) (f_format_number : Fn P w K mg base "format_number" 1 C_format_number) (f__law_due : Fn P w K mg base "_law_due" 3 C__law_due) (f_read_number : FnC P w K mg base "read_number" 2 (C_read_number T))
    (m_len : mg "len" = none) (m_range : mg "range" = none) (m_min : mg "min" = none) (m_max : mg "max" = none) :
    FnOk P w K mg base (L2.CX P w) 4 f fd ["_law_script"] (spL K [T]) := by
  refine fn_mkL F sc_law fun cdv A outer s H E hr hp ns hl => ?_
  have nd := sc_law.nd
  have sz : sizeLine ≥ 100000 := by decide
  show Ex _ _ _ [.scr ns, .any, .any, .any, .any, .any] (obsR [tbO T]) _
  have hcnt : min 30 (max 1 (ns.length : Int)) = ((min 30 (max 1 ns.length) : Nat) : Int) := by omega
  refine ex_forW [1, 2, 3, 4, 5] hp (evi_range (n := min 30 (max 1 ns.length)) m_range (ev_eq (ev_min2 rfl m_min (eva_cons ev_int (eva_cons (ev_max2 rfl m_max (eva_cons ev_int (eva_cons (ev_len ns.length m_len (ev_varS 0 rfl) (.inr ⟨ns, rfl, rfl⟩)) eva_nil))) eva_nil))) (by rw [hcnt])) (by omega)) (fun k d hd => ?_) ?_
  · obtain ⟨hk, rfl⟩ := rangeD_at hd
    rw [show ((0 : Int) + (k : Int)) = (k : Int) by omega]
    dsimp only [wipeS, List.set, List.map, List.replicate, List.length_cons, List.length_nil, List.cons_append, List.nil_append, Nat.reduceAdd, Nat.reduceSub]
    refine ⟨_, tg_name 1 nd, ?_⟩
    have hsz : ∀ n ∈ ([2000, 60, 7, 13, 13, 13, 13, 13, 13] : List Nat), 0 < n := by decide
    refine ex_set 2 nd (ev_call f__law_draw hr (by decide) (eva_cons (ev_varS 0 rfl) (eva_cons (ev_var 1 rfl) (eva_cons (ev_ob (ev_cast (ev_cat (by decide) (ev_ob (ev_lst (evd_cons ev_int (evd_cons ev_int (evd_cons ev_int evd_nil))))) (ev_ob (ev_rep (k := 6) (by decide) (by decide) (ev_ob (ev_lst (evd_cons ev_int evd_nil))) ev_int))) (show _ = S.own (natD [2000, 60, 7, 13, 13, 13, 13, 13, 13]) from rfl))) eva_nil))) ⟨ns, k, [2000, 60, 7, 13, 13, 13, 13, 13, 13], by omega, by decide, by decide, rfl, rfl⟩) ?_
    rw [drawL_eq hsz]
    have hg : ∀ {i n : Nat}, ([2000, 60, 7, 13, 13, 13, 13, 13, 13] : List Nat)[i]? = some n → dig ns k [2000, 60, 7, 13, 13, 13, 13, 13, 13] i < n := fun h => (dig_ok hsz h).2
    have g0 := hg (i := 0) rfl
    have g1 := hg (i := 1) rfl
    have g2 := hg (i := 2) rfl
    have g3 := hg (i := 3) rfl
    have g4 := hg (i := 4) rfl
    have g5 := hg (i := 5) rfl
    have g6 := hg (i := 6) rfl
    have g7 := hg (i := 7) rfl
    have g8 := hg (i := 8) rfl
    clear hg
    revert g0 g1 g2 g3 g4 g5 g6 g7 g8
    generalize dig ns k [2000, 60, 7, 13, 13, 13, 13, 13, 13] = g
    intro g0 g1 g2 g3 g4 g5 g6 g7 g8
    show Ex _ _ _ [.scr ns, .d (.int k), .own (digD g 9), .any, .any, .any] _ _
    have d0 : atI (digD g 9) (0 : Int) = some (.int (g 0 : Nat)) := digD_at (i := 0) (by decide)
    have d1 : atI (digD g 9) (1 : Int) = some (.int (g 1 : Nat)) := digD_at (i := 1) (by decide)
    have d2 : atI (digD g 9) (2 : Int) = some (.int (g 2 : Nat)) := digD_at (i := 2) (by decide)
    have p60 : (2 : Nat) ^ 60 ≤ 2 ^ 9000 := Nat.pow_le_pow_right (by decide) (by decide)
    have p40 : (2 : Nat) ^ 40 = 1099511627776 := by decide
    refine ex_set 3 nd (ev_lf f__law_f hr (by decide) (ev_minus (ev_ixB (ev_varB 2 (.inl rfl)) ev_int d0) ev_int) (ev_add ev_int (ev_ixB (ev_varB 2 (.inl rfl)) ev_int d1)) (by omega) (by omega)) ?_
    dsimp only [wipeS, List.set, List.map, List.replicate, List.length_cons, List.length_nil, List.cons_append, List.nil_append, Nat.reduceAdd, Nat.reduceSub]
    refine ex_ifM (fun G' R' => R' = obsR [tbO T] ∧ ∃ r : Rat, Bd 40 r ∧ (0 < g 2 → r.num.natAbs < 10 ^ 9 ∧ r.den < 10 ^ 9) ∧ G' = [.scr ns, .d (.int k), .own (digD g 9), .d (ratD r), .any, .any]) (tv_eqI (ev_ixB (ev_varB 2 (.inl rfl)) ev_int d2) ev_int) (fun hq => ?_) (fun hq => ?_) ?_
    · have h2 := of_decide_eq_true hq
      refine ex_set 3 nd (ev_lf f__law_f hr (by decide) (ev_mul (.inl ⟨by omega, by omega⟩) (ev_minus (ev_ixB (ev_varB 2 (.inl rfl)) ev_int d0) ev_int) ev_int) (ev_minus ev_int (ev_ixB (ev_varB 2 (.inl rfl)) ev_int d1)) (by omega) (by omega)) (ex_nil ⟨rfl, _, bd_divInt (n := 40) (by omega) (by omega) (by decide), fun z => by omega, rfl⟩)
    · have b11 : Bd 20 (Rat.divInt ((g 0 : Int) - 1000) (1 + (g 1 : Int))) := bd_divInt (by omega) (by omega) (by decide)
      refine ex_nil ⟨rfl, _, b11.mono (by decide), fun _ => ⟨Nat.lt_of_lt_of_le b11.num (by decide), Nat.lt_of_lt_of_le b11.den (by decide)⟩, rfl⟩
    rintro G' R' ⟨rfl, r, hb, hr9, rfl⟩
    have fl := fmt_len hb (by decide)
    refine ex_set 4 nd (ev_call f__law_word hr (by decide) (eva_cons (ev_var 3 rfl) eva_nil) ⟨r, 40, by decide, hb, rfl, rfl⟩) ?_
    dsimp only [wipeS, List.set, List.map, List.replicate, List.length_cons, List.length_nil, List.cons_append, List.nil_append, Nat.reduceAdd, Nat.reduceSub]
    have ff := optR_fit (readR (fmtR r))
    refine ex_ifMd (twm_tv (twm_orF (tvm_of (tv_eq (tv_neS (ev_call f_format_number hr (by decide) (eva_cons (ev_var 3 rfl) eva_nil) ⟨r, 40, by decide, hb, rfl, rfl⟩) (ev_var 4 rfl)) (by rw [decide_eq_true rfl]; rfl))) (twm_or1 (tvm_neD_f hr ff (evm_read f_read_number hr (by decide) (ev_var 4 rfl) (by omega)) (evmd_of (ev_call f__law_due hr (by decide) (eva_cons (ev_var 4 rfl) eva_nil) ⟨fmtR r, by omega, rfl, rfl⟩)))))) (fun z => nomatch z) (fun _ => ex_nil ?_)
    have hrd : 0 < g 2 → optR (readR (fmtR r)) = ratD r := fun z => by
      obtain ⟨z1, z2⟩ := hr9 z
      rw [read_fmt z1 z2]
      rfl
    refine ex_ifMd (q := false) (R1 := obsR [tbO T]) ?_ (fun z => nomatch z) (fun _ => ex_nil ?_)
    · by_cases hz : 0 < g 2
      · exact twm_tv (twm_andT (tvm_of (tv_eq (tv_gt (ev_ixB (ev_varB 2 (.inl rfl)) ev_int d2) ev_int) (decide_eq_true (by omega)))) (twm_and1 (tvm_neD_f hr (ratD_fit r) (evm_imp (evm_read f_read_number hr (by decide) (ev_var 4 rfl) (by omega)) fun s R' h => ⟨h.1.trans (by rw [hrd hz]), h.2⟩) (evmd_of (ev_var 3 rfl)))))
      · exact twm_tv (twm_andF (tvm_of (tv_eq (tv_gt (ev_ixB (ev_varB 2 (.inl rfl)) ev_int d2) ev_int) (decide_eq_false (by omega)))))
    have es : cutD (digD g 9) (some 3) (some (3 + ((g 2 : Nat) : Int))) = (([g 3, g 4, g 5, g 6, g 7, g 8] : List Nat).take (HT.sIx 9 9 (some (3 + ((g 2 : Nat) : Int))) - 3)).map fun n => D.int (n : Nat) := by
      rw [List.map_take]
      rfl
    have hall : ∀ n ∈ ([g 3, g 4, g 5, g 6, g 7, g 8] : List Nat), n < 13 := fun n hn => by
      simp only [List.mem_cons, List.not_mem_nil, or_false] at hn
      omega
    have hl6 : (([g 3, g 4, g 5, g 6, g 7, g 8] : List Nat).take (HT.sIx 9 9 (some (3 + ((g 2 : Nat) : Int))) - 3)).length ≤ 6 := by
      rw [List.length_take]
      exact Nat.min_le_right _ _
    have hall2 : ∀ n ∈ (([g 3, g 4, g 5, g 6, g 7, g 8] : List Nat).take (HT.sIx 9 9 (some (3 + ((g 2 : Nat) : Int))) - 3)), n < 13 := fun n hn => hall n (List.mem_of_mem_take hn)
    revert es hl6 hall2
    generalize (([g 3, g 4, g 5, g 6, g 7, g 8] : List Nat).take (HT.sIx 9 9 (some (3 + ((g 2 : Nat) : Int))) - 3)) = L
    intro es hl6 hall2
    have w1 := sum_len (l := L)
    have w2 := word_len L
    have e00 : (("" : Str)).length = 0 := by decide +kernel
    refine ex_set 4 nd (ev_join (x := "") (l := L.map wdF) (by rw [List.length_map, e00]; omega) ev_str (ev_ob (ev_cast (ev_lcM [("_law_digit", 5)] (fun n : Nat => D.str (wdF n)) (fun a b h => by have := D.int.inj h; omega) nd (blkOk_by (by kernel_rfl)) (EvI.toG (evi_eq (evi_own (ev_slB (ev_varB 2 (.inl rfl)) (evo_some ev_int) (evo_some (ev_add ev_int (ev_ixB (ev_varB 2 (.inl rfl)) ev_int d2))))) es)) (by omega) fun n hn => ⟨_, [5], by decide, fun s H C cl fp => ⟨tgw_name 5 nd, fun _ => ?_⟩⟩) (show _ = S.own ((L.map wdF).map D.str) by rw [List.map_map]; rfl)))) ?_
    · have hn13 := hall2 n hn
      have eW : [D.str "0", .str "1", .str "2", .str "3", .str "4", .str "6", .str "9", .str "/", .str "-", .str "/", .str "12", .str "10", .str "5"] = wdL.map D.str := rfl
      have hx : wdL[n]? = some (wdF n) := by
        unfold wdF
        rw [List.getD_eq_getElem?_getD, List.getElem?_eq_getElem (show n < wdL.length from hn13)]
        rfl
      exact ev_ixB (ev_ob (ev_cast (ev_lst (evd_cons ev_str (evd_cons ev_str (evd_cons ev_str (evd_cons ev_str (evd_cons ev_str (evd_cons ev_str (evd_cons ev_str (evd_cons ev_str (evd_cons ev_str (evd_cons ev_str (evd_cons ev_str (evd_cons ev_str (evd_cons ev_str evd_nil)))))))))))))) (show _ = S.own (wdL.map D.str) by rw [← eW]))) (ev_var 5 rfl) (map_at hx)
    dsimp only [wipeS, List.set, List.map, List.replicate, List.length_cons, List.length_nil, List.cons_append, List.nil_append, Nat.reduceAdd, Nat.reduceSub]
    have ff2 := optR_fit (readR (Txt.join ("" : Str) (L.map wdF)))
    refine ex_ifMd (tvm_neD_f hr ff2 (evm_read f_read_number hr (by decide) (ev_var 4 rfl) (by omega)) (evmd_of (ev_call f__law_due hr (by decide) (eva_cons (ev_var 4 rfl) eva_nil) ⟨_, by omega, rfl, rfl⟩))) (fun z => nomatch z) (fun _ => ex_nil (ex_nil ⟨rfl, by dsimp only [wipeS, List.set, List.map, List.replicate, List.length_cons, List.length_nil, List.cons_append, List.nil_append, Nat.reduceAdd, Nat.reduceSub]⟩))
  · have r1 : readR "1234567890" = none := by decide +kernel
    have r2 : readR "123456789" = some (123456789 : Rat) := by decide +kernel
    have l1 : ("1234567890" : Str).length ≤ 90000 := by decide +kernel
    have l2 : ("123456789" : Str).length ≤ 90000 := by decide +kernel
    refine ex_retM (evm_andT (evm_imp (evm_isN (evm_read f_read_number hr (by decide) (ev_str (x := "1234567890")) l1) (evmd_of ev_non)) fun s R' h => ⟨h.1.trans (by rw [r1]; rfl), h.2⟩) (evm_one (evm_cmpR (op_eqD hr.units) (ro_eqD (optR_fit _) (ratD_fit (123456789 : Rat))) (evm_read f_read_number hr (by decide) (ev_str (x := "123456789")) l2) (evmd_of (ev_eq (ev_tup (evd_cons ev_int (evd_cons ev_int evd_nil))) (show _ = ratD (123456789 : Rat) from rfl))) (nomark _)))) fun s R' h => ?_
    obtain ⟨rfl, _⟩ := h
    rw [r2, show D.eq (optR (some (123456789 : Rat))) (ratD 123456789) = true from D.eq_true rfl]

end
end DL
namespace DL
open PySem PySem.Spec PyProof.Rows L2
def d_common_divisor : He.DefD := ⟨("common_divisor", none), "common_divisor", "common_divisor", defArgs st_common_divisor, defBody st_common_divisor, defScope st_common_divisor, [], []⟩
def d_format_number : He.DefD := ⟨("format_number", none), "format_number", "format_number", defArgs st_format_number, defBody st_format_number, defScope st_format_number, [], []⟩
def d_natural : He.DefD := ⟨("natural", none), "natural", "natural", defArgs st_natural, defBody st_natural, defScope st_natural, [], []⟩
def d_read_number : He.DefD := ⟨("read_number", none), "read_number", "read_number", defArgs st_read_number, defBody st_read_number, defScope st_read_number, [], []⟩
def d__law_cell : He.DefD := ⟨("_law_cell", none), "_law_cell", "_law_cell", defArgs st__law_cell, defBody st__law_cell, defScope st__law_cell, [], []⟩
def d__law_draw : He.DefD := ⟨("_law_draw", none), "_law_draw", "_law_draw", defArgs st__law_draw, defBody st__law_draw, defScope st__law_draw, [], []⟩
def d__law_f : He.DefD := ⟨("_law_f", none), "_law_f", "_law_f", defArgs st__law_f, defBody st__law_f, defScope st__law_f, [], []⟩
def d__law_word : He.DefD := ⟨("_law_word", none), "_law_word", "_law_word", defArgs st__law_word, defBody st__law_word, defScope st__law_word, [], []⟩
def d__law_due : He.DefD := ⟨("_law_due", none), "_law_due", "_law_due", defArgs st__law_due, defBody st__law_due, defScope st__law_due, [], []⟩
def d_law : He.DefD := ⟨("law", none), "law", "law", defArgs st_law, defBody st_law, defScope st_law, [], []⟩
def fn : List He.DefD := ([d_common_divisor, d_format_number, d_natural, d_read_number, d__law_cell, d__law_draw, d__law_f, d__law_word, d__law_due, d_law] : List He.DefD)
def fa : List He.Fa := ([.free "all", .free "int", .free "len", .free "max", .free "min", .free "range", .free "str", .int "DIGITS" (9), .glo "law", .glo "_law_cell", .glo "_law_draw", .glo "_law_f", .glo "_law_word", .glo "format_number", .glo "_law_due", .glo "natural", .glo "common_divisor", .glo "read_number"] : List He.Fa)
def tf : List He.Defn := [(("natural" : Str), none)]
def tu : List (Str × List He.Dv) := []
def xc : List (Str × List Str) := []
def xcv : List FnI := []
def ck : List (PySem.W.Frag → Bool) := []
def gt : List GetD := []
abbrev R : PySem.W.OpenRow := PySem.W.OpenLaw.row PySem.Challenge.rw_surecues_k03_how_numbers_are_written
/-- what is read off the heap -/
def Says (K : PySem.W.Frag) : Prop := He.SaysD fa fn K ∧ (∀ (i : Nat) {p : Str × List He.Dv}, tu[i]? = some p → He.tupB K p.1 p.2 = true) ∧ (∀ (i : Nat) {p : Str × List Str}, xc[i]? = some p → xciB K p.1 p.2 "/claim/cut.py" = true) ∧
  (∀ (i : Nat) {p : Str × List Str} {v : FnI}, xc[i]? = some p → xcv[i]? = some v → fnI K p.1 = v) ∧ (∀ (i : Nat) {g : PySem.W.Frag → Bool}, ck[i]? = some g → g K = true) ∧ ∀ (i : Nat) {d : GetD}, gt[i]? = some d → fnG K d.C d.m = d.val
abbrev AlX : Type := He.AlD × Bool × List FnI × List He.FnW
def obsX (K : PySem.W.Frag) : AlX := (He.obsD fa fn K, (tu.all fun p => He.tupB K p.1 p.2) && ((xc.all fun p => xciB K p.1 p.2 "/claim/cut.py") && ck.all fun g => g K), xc.map fun p => fnI K p.1, gt.map fun d => fnG K d.C d.m)
theorem says_of {K : PySem.W.Frag} (e : obsX K = (He.valD fn, true, xcv, gt.map GetD.val)) : Says K := by
  have e1 : He.obsD fa fn K = He.valD fn := congrArg (fun z : AlX => z.1) e
  have e2 : ((tu.all fun p => He.tupB K p.1 p.2) && ((xc.all fun p => xciB K p.1 p.2 "/claim/cut.py") && ck.all fun g => g K)) = true := congrArg (fun z : AlX => z.2.1) e
  have e3 : (xc.map fun p => fnI K p.1) = xcv := congrArg (fun z : AlX => z.2.2.1) e
  have e7 : (gt.map fun d => fnG K d.C d.m) = gt.map GetD.val := congrArg (fun z : AlX => z.2.2.2) e
  obtain ⟨e4, e5⟩ := He.ba e2
  obtain ⟨e5, e6⟩ := He.ba e5
  refine ⟨e1, fun i p h => List.all_eq_true.mp e4 p (List.mem_of_getElem? h), fun i p h => List.all_eq_true.mp e5 p (List.mem_of_getElem? h), fun i p v h hv => ?_, fun i g h => List.all_eq_true.mp e6 g (List.mem_of_getElem? h), fun i d h => ?_⟩
  · rw [← e3, List.getElem?_map, h] at hv
    exact Option.some.inj hv
  · have q : (gt.map fun d => fnG K d.C d.m)[i]? = (gt.map GetD.val)[i]? := by rw [e7]
    rw [List.getElem?_map, List.getElem?_map, h] at q
    exact Option.some.inj q
def hk : PySem.W.Hook where
  α := AlX × Bool
  obs := fun s => (obsX (He.frT s.heap.get? (cStatics :: He.asD s.heap.get? 5)), He.tabsB s.heap.get? tf (He.frT s.heap.get? (cStatics :: He.asD s.heap.get? 5)))
  val := fun _ => ((He.valD fn, true, xcv, gt.map GetD.val), true)
  says := fun _ h => ∃ K : PySem.W.Frag, K.In h ∧ Says K ∧ TabSays tf h K
  of := fun _ _ e => ⟨_, He.frT_in, says_of (congrArg (fun z : AlX × Bool => z.1) e), tab_of (congrArg (fun z : AlX × Bool => z.2) e)⟩
  keeps := fun _ _ _ ⟨K, hK, c, c2⟩ k => ⟨K, PySem.W.Frag.In.keeps hK k, c, c2.keeps k⟩
def ob (s : PySem.W.SharedT) : AlX × Bool := (obsX (He.frT (HandSHeadRun.getT s) (cStatics :: He.asD (HandSHeadRun.getT s) 5)), He.tabsB (HandSHeadRun.getT s) tf (He.frT (HandSHeadRun.getT s) (cStatics :: He.asD (HandSHeadRun.getT s) 5)))
theorem ob_eq (s : PySem.W.SharedT) : ob s = hk.obs s.abs := by
  have e : HandSHeadRun.getT s = s.abs.heap.get? := funext (HandSHeadRun.getT_eq s)
  show (obsX _, He.tabsB _ _ _) = (obsX _, He.tabsB _ _ _)
  rw [e]
def loose : List Str := (["DIGITS", "common_divisor", "format_number", "natural", "read_number", "_law_cell", "_law_draw", "_law_f", "_law_word", "_law_due"] : List Str)
set_option maxHeartbeats 0 in
theorem run (w : World) : HandSHeadRun.RunEq R (PySem.W.view R.prog [12]) hk ob 4000 loose w := by
  intro os
  kernel_rfl
theorem facts {P : Program} {w : World} {K : PySem.W.Frag} {h : Heap} {mg : Str → Option Value} {f : Addr} (X : K.In h) (G : h.Ns mainGlobals mg) (hfa : mg ("law" : Str) = some (.ref f)) (c : Says K) :
    ∃ fd : FuncData, (∀ (s : Shared) (v : Value), BindsTo s fd ⟨[v], []⟩ [("_law_script", v)]) ∧ ∀ base : Heap, K.In base → base.Ns mainGlobals mg → (∀ p ∈ tf, GxR.TabB base mg (He.cT K p).1 (He.cT K p).2) → FnOk P w K mg base (L2.CX P w) 4 f fd ["_law_script"] (spL K (tf.map fun p => (He.cT K p).2)) := by
  have m_all : mg "all" = none := He.free_ok X G (c.1.fact 0 (f := .free "all") rfl)
  have m_int : mg "int" = none := He.free_ok X G (c.1.fact 1 (f := .free "int") rfl)
  have m_len : mg "len" = none := He.free_ok X G (c.1.fact 2 (f := .free "len") rfl)
  have m_max : mg "max" = none := He.free_ok X G (c.1.fact 3 (f := .free "max") rfl)
  have m_min : mg "min" = none := He.free_ok X G (c.1.fact 4 (f := .free "min") rfl)
  have m_range : mg "range" = none := He.free_ok X G (c.1.fact 5 (f := .free "range") rfl)
  have m_str : mg "str" = none := He.free_ok X G (c.1.fact 6 (f := .free "str") rfl)
  have c_DIGITS : Cst K mg "DIGITS" (.int 9) := cst_int (He.int_ok X G (c.1.fact 7 (f := .int "DIGITS" (9)) rfl))
  obtain ⟨fd_common_divisor, F_common_divisor⟩ := c.1.def_ 0 (d := d_common_divisor) rfl
  obtain ⟨fd_format_number, F_format_number⟩ := c.1.def_ 1 (d := d_format_number) rfl
  obtain ⟨fd_natural, F_natural⟩ := c.1.def_ 2 (d := d_natural) rfl
  obtain ⟨fd_read_number, F_read_number⟩ := c.1.def_ 3 (d := d_read_number) rfl
  obtain ⟨fd__law_cell, F__law_cell⟩ := c.1.def_ 4 (d := d__law_cell) rfl
  obtain ⟨fd__law_draw, F__law_draw⟩ := c.1.def_ 5 (d := d__law_draw) rfl
  obtain ⟨fd__law_f, F__law_f⟩ := c.1.def_ 6 (d := d__law_f) rfl
  obtain ⟨fd__law_word, F__law_word⟩ := c.1.def_ 7 (d := d__law_word) rfl
  obtain ⟨fd__law_due, F__law_due⟩ := c.1.def_ 8 (d := d__law_due) rfl
  obtain ⟨fd_law, F_law⟩ := c.1.def_ 9 (d := d_law) rfl
  have e := hfa.symm.trans (He.glo_ok X G (c.1.fact 8 (f := .glo "law") rfl))
  cases e
  refine ⟨fd_law, fun s v => FunD.bindsA (ps := ["_law_script"]) F_law (fun _ _ _ _ _ _ us hl => match us, hl with | [_], _ => rfl) s [v] rfl, fun base _ _ hTB => ?_⟩
  have TB_natural : GxR.TabB base mg (He.codeOf K (("natural" : Str), none)) (He.tabOf K (He.codeOf K (("natural" : Str), none))) := hTB (("natural" : Str), none) (List.mem_of_getElem? (i := 0) rfl)
  have f__law_cell : Fn P w K mg base "_law_cell" 1 C__law_cell := ⟨_, _, _, ok__law_cell F__law_cell m_len, He.glo_ok X G (c.1.fact 9 (f := .glo "_law_cell") rfl), F__law_cell.kp, F__law_cell.bindsN fun _ _ _ _ _ _ us hl => match us, hl with | [_, _], _ => rfl⟩
  have f__law_draw : Fn P w K mg base "_law_draw" 2 C__law_draw := ⟨_, _, _, ok__law_draw F__law_draw f__law_cell m_len m_range, He.glo_ok X G (c.1.fact 10 (f := .glo "_law_draw") rfl), F__law_draw.kp, F__law_draw.bindsN fun _ _ _ _ _ _ us hl => match us, hl with | [_, _, _], _ => rfl⟩
  have f__law_f : Fn P w K mg base "_law_f" 2 C__law_f := ⟨_, _, _, ok__law_f F__law_f m_max, He.glo_ok X G (c.1.fact 11 (f := .glo "_law_f") rfl), F__law_f.kp, F__law_f.bindsN fun _ _ _ _ _ _ us hl => match us, hl with | [_, _], _ => rfl⟩
  have f__law_word : Fn P w K mg base "_law_word" 1 C__law_word := ⟨_, _, _, ok__law_word F__law_word m_str, He.glo_ok X G (c.1.fact 12 (f := .glo "_law_word") rfl), F__law_word.kp, F__law_word.bindsN fun _ _ _ _ _ _ us hl => match us, hl with | [_], _ => rfl⟩
  have f_format_number : Fn P w K mg base "format_number" 1 C_format_number := ⟨_, _, _, ok_format_number F_format_number m_str, He.glo_ok X G (c.1.fact 13 (f := .glo "format_number") rfl), F_format_number.kp, F_format_number.bindsN fun _ _ _ _ _ _ us hl => match us, hl with | [_], _ => rfl⟩
  have f__law_due : Fn P w K mg base "_law_due" 3 C__law_due := ⟨_, _, _, ok__law_due F__law_due f__law_f m_len m_int, He.glo_ok X G (c.1.fact 14 (f := .glo "_law_due") rfl), F__law_due.kp, F__law_due.bindsN fun _ _ _ _ _ _ us hl => match us, hl with | [_], _ => rfl⟩
  have f_natural : FnC P w K mg base "natural" 1 (C_natural (He.tabOf K (He.codeOf K (("natural" : Str), none)))) := ⟨_, _, _, ok_natural F_natural (code_of F_natural) TB_natural c_DIGITS m_len m_all m_int (c := (He.codeOf K (("natural" : Str), none))) (T := (He.tabOf K (He.codeOf K (("natural" : Str), none)))), He.glo_ok X G (c.1.fact 15 (f := .glo "natural") rfl), F_natural.kp, F_natural.bindsN fun _ _ _ _ _ _ us hl => match us, hl with | [_], _ => rfl⟩
  have f_common_divisor : Fn P w K mg base "common_divisor" 1 C_common_divisor := ⟨_, _, _, ok_common_divisor F_common_divisor, He.glo_ok X G (c.1.fact 16 (f := .glo "common_divisor") rfl), F_common_divisor.kp, F_common_divisor.bindsN fun _ _ _ _ _ _ us hl => match us, hl with | [_, _], _ => rfl⟩
  have f_read_number : FnC P w K mg base "read_number" 2 (C_read_number (He.tabOf K (He.codeOf K (("natural" : Str), none)))) := ⟨_, _, _, ok_read_number F_read_number f_natural f_common_divisor m_len (T := (He.tabOf K (He.codeOf K (("natural" : Str), none)))), He.glo_ok X G (c.1.fact 17 (f := .glo "read_number") rfl), F_read_number.kp, F_read_number.bindsN fun _ _ _ _ _ _ us hl => match us, hl with | [_], _ => rfl⟩
  exact ok_law F_law f__law_draw f__law_f f__law_word f_format_number f__law_due f_read_number m_len m_range m_min m_max (T := (He.tabOf K (He.codeOf K (("natural" : Str), none))))
end DL
open PySem PySem.W PySem.Calls PyProof.Rows
set_option maxHeartbeats 0 in
theorem PySem.Challenge.cw_surecues_k03_how_numbers_are_written_holds : PySem.Challenge.rw_surecues_k03_how_numbers_are_written.Holds := by
  w_on; o_law
  refine HandSHeadRun.head_any (r := OpenLaw.row PySem.Challenge.rw_surecues_k03_how_numbers_are_written) (q := view (OpenLaw.row PySem.Challenge.rw_surecues_k03_how_numbers_are_written).prog [12]) (H := DL.hk) (ob := DL.ob) (M := 4000) (loose := DL.loose) (d := HandSHeadRun.topDef (OpenLaw.row PySem.Challenge.rw_surecues_k03_how_numbers_are_written).prog 12) (kwd := []) DL.ob_eq
    (by kernel_rfl) (fun s => by kernel_rfl) DL.run (by kernel_rfl) (by kernel_rfl) (by kernel_rfl) (by rfl) (by first | assumption | decide +kernel) (by decide +kernel) ⟨rfl, rfl, rfl, rfl, rfl, by decide +kernel⟩ ?hw ?hc
  case hw => w_witness2
  case hc =>
    refine LamX.walk_ofTsE (l := PySem.Challenge.rw_surecues_k03_how_numbers_are_written) (n := 63) (k := 4) (x := "_law_script") (CX := fun _ => L2.CX0) rfl (by decide) (by kernel_rfl) ⟨rfl, by decide, by decide⟩ ?F (fun _ _ _ _ _ z => z)
    intro w mg fa h Y G hmg0
    obtain ⟨K, KX, c, c2⟩ := Y
    have hmg : mg ("law" : PySem.Str) = some (.ref fa) := by
      have e : (HandSHeadRun.topDef (OpenLaw.row PySem.Challenge.rw_surecues_k03_how_numbers_are_written).prog 12).name = ("law" : PySem.Str) := by kernel_rfl
      rw [← e]
      exact hmg0
    obtain ⟨fd, hb, hF⟩ := DL.facts (P := (PySem.Challenge.rw_surecues_k03_how_numbers_are_written).prog) (w := w) KX G hmg c
    exact ⟨K, KX, DL.law_atS KX c2 (by show [_].Nodup; exact List.nodup_cons.mpr ⟨List.not_mem_nil, List.nodup_nil⟩) hb hF⟩
