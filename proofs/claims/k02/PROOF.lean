import PyProof.Rows.All
import Wide.All
import OpenK.AllK
import Wide.FinOn
import PyProof.EqAt
import PyProof.EqKinds
import PyProof.TupleCall
import Lean
import HandS.ForMost
import HandS.Exc
import HandS.TryOnly
import HandS.ExcOwn
import HandS.WordsExc
import HandS.Wide
import HandS.Deep
import HandS.TryMany
import HandS.Defaults
import HandS.HeadHook2
import HandS.Head0
import HandS.Head1
import HandS.Head2
import HandS.HeadEnd
import HandS.HeadHook1
import PySem.Challenge.RW_surecues_k02_rules_of_reckoning
set_option Elab.async false
set_option linter.all false
set_option maxRecDepth 100000
set_option maxHeartbeats 4000000
set_option exponentiation.threshold 10000
namespace DL
open PySem PySem.Spec L2

/-! ### data -/
inductive D where
  | non | bl (b : Bool) | int (i : Int) | str (x : Str) | obj (a : Addr) | tup (ds : List D) | lst (ds : List D)

/-- which lists stand still -/
abbrev Fz := Addr → Prop
mutual
def Dn (K : PySem.W.Frag) (F : Fz) (H : Hp) : D → V → Prop
  | .non, v => v = .non
  | .bl b, v => v = .bl b
  | .int i, v => v = .int i
  | .str x, v => v = .str x
  | .obj a, v => v = .ref a
  | .tup ds, v => ∃ a vs, v = .ref a ∧ SqT K H a vs ∧ DnA K F H ds vs
  | .lst ds, v => ∃ a vs, v = .ref a ∧ F a ∧ H a = some (.lst vs) ∧ DnA K F H ds vs
def DnA (K : PySem.W.Frag) (F : Fz) (H : Hp) : List D → List V → Prop
  | [], [] => True
  | d :: ds, v :: vs => Dn K F H d v ∧ DnA K F H ds vs
  | [], _ :: _ => False
  | _ :: _, [] => False
end

/-- the heap has grown, what stands still is as it was -/
structure Mon (H : Hp) (F : Fz) (H' : Hp) (F' : Fz) : Prop where
  fr : ∀ a, F a → F' a
  tup : ∀ a xs, Rd H a (.tup xs) → Rd H' a (.tup xs)
  lst : ∀ a xs, F a → H a = some (.lst xs) → H' a = some (.lst xs)
section
variable {K : PySem.W.Frag} {H H1 H' : Hp} {F F1 F' : Fz}
theorem Mon.refl : Mon H F H F := ⟨fun _ h => h, fun _ _ h => h, fun _ _ _ h => h⟩
theorem Mon.trans (m : Mon H F H1 F1) (n : Mon H1 F1 H' F') : Mon H F H' F' :=
  ⟨fun a h => n.fr a (m.fr a h), fun a xs h => n.tup a xs (m.tup a xs h), fun a xs f h => n.lst a xs (m.fr a f) (m.lst a xs f h)⟩
theorem Mon.sqT (m : Mon H F H' F') {a : Addr} {xs : List V} (h : SqT K H a xs) : SqT K H' a xs := by
  rcases h with h | h
  · exact .inl (m.tup _ _ h)
  · exact .inr h
mutual
theorem Dn.mon (m : Mon H F H' F') : ∀ (d : D) (v : V), Dn K F H d v → Dn K F' H' d v
  | .non, _, h => h
  | .bl _, _, h => h
  | .int _, _, h => h
  | .str _, _, h => h
  | .obj _, _, h => h
  | .tup ds, v, h => by
    obtain ⟨a, vs, e, s, h⟩ := h
    exact ⟨a, vs, e, m.sqT s, DnA.mon m ds vs h⟩
  | .lst ds, v, h => by
    obtain ⟨a, vs, e, f, s, h⟩ := h
    exact ⟨a, vs, e, m.fr a f, m.lst a vs f s, DnA.mon m ds vs h⟩
theorem DnA.mon (m : Mon H F H' F') : ∀ (ds : List D) (vs : List V), DnA K F H ds vs → DnA K F' H' ds vs
  | [], [], _ => trivial
  | d :: ds, v :: vs, h => ⟨Dn.mon m d v h.1, DnA.mon m ds vs h.2⟩
  | [], _ :: _, h => h
  | _ :: _, [], h => h
end
theorem DnA.length : ∀ {ds : List D} {vs : List V}, DnA K F H ds vs → vs.length = ds.length
  | [], [], _ => rfl
  | _ :: ds, _ :: vs, h => by rw [List.length_cons, List.length_cons, DnA.length h.2]
  | [], _ :: _, h => h.elim
  | _ :: _, [], h => h.elim
theorem DnA.get : ∀ {ds : List D} {vs : List V} {i : Nat} {d : D}, DnA K F H ds vs → ds[i]? = some d → ∃ v, vs[i]? = some v ∧ Dn K F H d v
  | [], _, _, _, _, e => by simp at e
  | _ :: _, [], _, _, h, _ => h.elim
  | d :: ds, v :: vs, 0, d', h, e => by
    have e' : d = d' := by simpa using e
    subst e'
    exact ⟨v, rfl, h.1⟩
  | d :: ds, v :: vs, i + 1, d', h, e => DnA.get (i := i) h.2 (by simpa using e)
theorem DnA.getV : ∀ {ds : List D} {vs : List V} {i : Nat} {v : V}, DnA K F H ds vs → vs[i]? = some v → ∃ d, ds[i]? = some d ∧ Dn K F H d v
  | [], [], _, _, _, e => by simp at e
  | [], _ :: _, _, _, h, _ => h.elim
  | _ :: _, [], _, _, h, _ => h.elim
  | d :: ds, v :: vs, 0, v', h, e => by
    have e' : v = v' := by simpa using e
    subst e'
    exact ⟨d, rfl, h.1⟩
  | d :: ds, v :: vs, i + 1, v', h, e => DnA.getV (i := i) h.2 (by simpa using e)
theorem DnA.append : ∀ {ds es : List D} {vs ws : List V}, DnA K F H ds vs → DnA K F H es ws → DnA K F H (ds ++ es) (vs ++ ws)
  | [], _, [], _, _, h => h
  | [], _, _ :: _, _, h, _ => h.elim
  | _ :: _, _, [], _, h, _ => h.elim
  | d :: ds, es, v :: vs, ws, h, g => ⟨h.1, DnA.append h.2 g⟩
theorem DnA.take : ∀ {ds : List D} {vs : List V} (n : Nat), DnA K F H ds vs → DnA K F H (ds.take n) (vs.take n)
  | _, _, 0, _ => trivial
  | [], [], _ + 1, _ => trivial
  | [], _ :: _, _ + 1, h => h.elim
  | _ :: _, [], _ + 1, h => h.elim
  | _ :: ds, _ :: vs, n + 1, h => ⟨h.1, DnA.take n h.2⟩
theorem DnA.drop : ∀ {ds : List D} {vs : List V} (n : Nat), DnA K F H ds vs → DnA K F H (ds.drop n) (vs.drop n)
  | [], [], 0, _ => trivial
  | _ :: _, _ :: _, 0, h => h
  | [], [], _ + 1, _ => trivial
  | [], _ :: _, _, h => h.elim
  | _ :: _, [], _, h => h.elim
  | _ :: ds, _ :: vs, n + 1, h => DnA.drop n h.2
theorem DnA.set {d : D} {v : V} (hd : Dn K F H d v) : ∀ {ds : List D} {vs : List V} (i : Nat), DnA K F H ds vs → DnA K F H (ds.set i d) (vs.set i v)
  | [], [], _, _ => trivial
  | [], _ :: _, _, h => h.elim
  | _ :: _, [], _, h => h.elim
  | _ :: _, _ :: _, 0, h => ⟨hd, h.2⟩
  | _ :: ds, _ :: vs, i + 1, h => ⟨h.1, DnA.set hd i h.2⟩
theorem DnA.rev : ∀ {ds : List D} {vs : List V}, DnA K F H ds vs → DnA K F H ds.reverse vs.reverse
  | [], [], _ => trivial
  | [], _ :: _, h => h.elim
  | _ :: _, [], h => h.elim
  | d :: ds, v :: vs, h => by
    rw [List.reverse_cons, List.reverse_cons]
    exact DnA.append (DnA.rev h.2) ⟨h.1, trivial⟩
theorem DnA.nil_of {vs : List V} (h : DnA K F H [] vs) : vs = [] := by
  cases vs with
  | nil => rfl
  | cons _ _ => exact h.elim
theorem DnA.cons_of {d : D} {ds : List D} {vs : List V} (h : DnA K F H (d :: ds) vs) : ∃ v r, vs = v :: r ∧ Dn K F H d v ∧ DnA K F H ds r := by
  cases vs with
  | nil => exact h.elim
  | cons v r => exact ⟨v, r, rfl, h.1, h.2⟩
end

/-! ### resources: what a def holds of objects that change -/
structure Res where
  holds : PySem.W.Frag → Hp → Fz → (Addr → Prop) → Prop
  stable : ∀ {K : PySem.W.Frag} {H H' : Hp} {F F' : Fz} {A : Addr → Prop}, holds K H F A → Mon H F H' F' → (∀ a, A a → H' a = H a) → holds K H' F' A
/-- nothing -/
def emp : Res := ⟨fun _ _ _ A => ∀ a, ¬ A a, fun h _ _ => h⟩

/-! ### what is known of a value -/
inductive S where
  | any
  | d (x : D)
  | own (ds : List D)
  | bor (ds : List D)
  | scr (ns : List Int)
  | dic (kvs : List (Key × D))
  | bdic (kvs : List (Key × D))

def DnK (K : PySem.W.Frag) (F : Fz) (H : Hp) : List (Key × D) → List (Key × V) → Prop
  | [], [] => True
  | p :: ps, q :: qs => p.1 = q.1 ∧ Dn K F H p.2 q.2 ∧ DnK K F H ps qs
  | [], _ :: _ => False
  | _ :: _, [] => False
theorem DnK.mon {K : PySem.W.Frag} {H H' : Hp} {F F' : Fz} (m : Mon H F H' F') : ∀ {ps : List (Key × D)} {qs : List (Key × V)}, DnK K F H ps qs → DnK K F' H' ps qs
  | [], [], _ => trivial
  | _ :: _, _ :: _, h => ⟨h.1, Dn.mon m _ _ h.2.1, DnK.mon m h.2.2⟩
  | [], _ :: _, h => h
  | _ :: _, [], h => h

/-- how things stood at the entry of the def: the heap, what stood still, what could be changed -/
structure En where
  H : Hp
  F : Fz
  A : Addr → Prop

/-- a slot -/
def SlotOk (K : PySem.W.Frag) (e : En) (ow : Addr → Nat) (H : Hp) (F : Fz) (A : Addr → Prop) (i : Nat) : S → Option V → Prop
  | .any, _ => True
  | .d x, o => ∃ v, o = some v ∧ Dn K F H x v
  | .own ds, o => ∃ a vs, o = some (.ref a) ∧ ow a = i ∧ ¬ F a ∧ ¬ A a ∧ H a = some (.lst vs) ∧ DnA K F H ds vs ∧ e.H a = none
  | .bor ds, o => ∃ a vs, o = some (.ref a) ∧ e.H a = some (.lst vs) ∧ ¬ e.A a ∧ DnA K F H ds vs
  | .scr ns, o => ∃ a, o = some (.ref a) ∧ SqL K e.H a (ns.map V.int) ∧ ¬ e.A a
  | .dic ds, o => ∃ a vs, o = some (.ref a) ∧ ow a = i ∧ ¬ F a ∧ ¬ A a ∧ H a = some (.dK vs) ∧ DnK K F H ds vs ∧ e.H a = none
  | .bdic ds, o => ∃ a vs, o = some (.ref a) ∧ e.H a = some (.dK vs) ∧ ¬ e.A a ∧ DnK K F H ds vs

/-- the state of a body: G what is known of the slots, R the resource with its place A -/
structure Sta (K : PySem.W.Frag) (e : En) (G : List S) (R : Res) (A : Addr → Prop) (σ : St) (H : Hp) (F : Fz) : Prop where
  fr : ∀ a o, e.H a = some o → ¬ e.A a → H a = some o
  th : ∀ a, e.H a ≠ none → H a ≠ none
  f0 : ∀ a, e.F a → F a
  f1 : ∀ a, F a → e.F a ∨ e.H a = none
  ft : ∀ a, F a → H a ≠ none
  at_ : ∀ a, A a → H a ≠ none ∧ ¬ F a ∧ (e.A a ∨ e.H a = none)
  rs : R.holds K H F A
  len : G.length = σ.length
  sl : ∃ ow : Addr → Nat, ∀ (i : Nat) (s : S), G[i]? = some s → ∃ o, σ[i]? = some o ∧ SlotOk K e ow H F A i s o

/-- the heap has grown -/
structure Grow (H : Hp) (F : Fz) (H' : Hp) (F' : Fz) : Prop where
  h : ∀ a o, H a = some o → H' a = some o
  f : ∀ a, F a → F' a
  n : ∀ a, F' a → F a ∨ H a = none
  t : ∀ a, F' a → H' a ≠ none
section
variable {K : PySem.W.Frag} {e : En} {G : List S} {R : Res} {A : Addr → Prop} {σ : St} {H H1 H' : Hp} {F F1 F' : Fz}
theorem Grow.mon (g : Grow H F H' F') : Mon H F H' F' := ⟨g.f, fun a xs h => by
    rcases h with h | ⟨o, h⟩
    · exact .inl (g.h _ _ h)
    · exact .inr ⟨o, g.h _ _ h⟩, fun a xs _ h => g.h _ _ h⟩
theorem Grow.refl (t : ∀ a, F a → H a ≠ none) : Grow H F H F := ⟨fun _ _ h => h, fun _ h => h, fun _ h => .inl h, t⟩
theorem Grow.trans (g : Grow H F H1 F1) (k : Grow H1 F1 H' F') : Grow H F H' F' := ⟨fun a o h => k.h a o (g.h a o h), fun a h => k.f a (g.f a h), fun a h => by
    rcases k.n a h with q | q
    · exact g.n a q
    · refine .inr ?_
      cases z : H a with
      | none => rfl
      | some o => (exfalso; rw [g.h a o z] at q; exact nomatch q), k.t⟩
/-- a new tuple -/
theorem Grow.tup {p : Addr} {vs : List V} (hp : H p = none) (t : ∀ a, F a → H a ≠ none) : Grow H F (upd H p (.tup vs)) F :=
  ⟨fun a o h => by rw [upd_ne (ne_of_none h hp)]; exact h, fun _ h => h, fun _ h => .inl h, fun a h => by
    by_cases q : a = p
    · rw [q, upd_same]; exact fun z => nomatch z
    · rw [upd_ne q]; exact t a h⟩
/-- a new object, not frozen -/
theorem Grow.new {p : Addr} {o : HO} (hp : H p = none) (t : ∀ a, F a → H a ≠ none) : Grow H F (upd H p o) F :=
  ⟨fun a o h => by rw [upd_ne (ne_of_none h hp)]; exact h, fun _ h => h, fun _ h => .inl h, fun a h => by
    by_cases q : a = p
    · rw [q, upd_same]; exact fun z => nomatch z
    · rw [upd_ne q]; exact t a h⟩
/-- one more list stands still from now on; it was new -/
theorem Grow.freeze {p : Addr} (g : Grow H F H' F') (hp : H p = none) (hp' : H' p ≠ none) : Grow H F H' (fun a => F' a ∨ a = p) :=
  ⟨g.h, fun a h => .inl (g.f a h), fun a h => by
    rcases h with h | h
    · exact g.n a h
    · rw [h]; exact .inr hp, fun a h => by
    rcases h with h | h
    · exact g.t a h
    · rw [h]; exact hp'⟩
theorem ne_none_of {a : Addr} {o : HO} (h : H a = some o) (q : H a = none) : False := by rw [h] at q; cases q
theorem SlotOk.grow {ow : Addr → Nat} {i : Nat} (m : Mon H F H' F') (g : ∀ a o, H a = some o → H' a = some o) (n : ∀ a, F' a → F a ∨ H a = none) : ∀ {s : S} {o : Option V}, SlotOk K e ow H F A i s o → SlotOk K e ow H' F' A i s o
  | .any, _, _ => trivial
  | .d x, o, ⟨v, h1, h2⟩ => ⟨v, h1, Dn.mon m _ _ h2⟩
  | .own ds, o, ⟨a, vs, h1, h2, h3, h4, h5, h6, h7⟩ => ⟨a, vs, h1, h2, (fun z => (n a z).elim h3 fun q => ne_none_of h5 q), h4, g _ _ h5, DnA.mon m _ _ h6, h7⟩
  | .bor ds, o, ⟨a, vs, h1, h2, h3, h4⟩ => ⟨a, vs, h1, h2, h3, DnA.mon m _ _ h4⟩
  | .scr ns, o, h => h
  | .dic ds, o, ⟨a, vs, h1, h2, h3, h4, h5, h6, h7⟩ => ⟨a, vs, h1, h2, (fun z => (n a z).elim h3 fun q => ne_none_of h5 q), h4, g _ _ h5, DnK.mon m h6, h7⟩
  | .bdic ds, o, ⟨a, vs, h1, h2, h3, h4⟩ => ⟨a, vs, h1, h2, h3, DnK.mon m h4⟩
theorem Sta.grow (s : Sta K e G R A σ H F) (g : Grow H F H' F') : Sta K e G R A σ H' F' where
  fr := fun a o h na => g.h a o (s.fr a o h na)
  f0 := fun a h => g.f a (s.f0 a h)
  th := fun a h z => by
    cases w : H a with
    | none => exact s.th a h w
    | some o => rw [g.h a o w] at z; cases z
  f1 := fun a h => by
    rcases g.n a h with q | q
    · exact s.f1 a q
    · refine .inr ?_
      cases w : e.H a with
      | none => rfl
      | some o => exact absurd q (s.th a (by rw [w]; exact fun z => nomatch z))
  ft := g.t
  at_ := fun a h => by
    obtain ⟨h1, h2, h3⟩ := s.at_ a h
    refine ⟨fun z => ?_, fun z => ?_, h3⟩
    · cases w : H a with
      | none => exact h1 w
      | some o => rw [g.h a o w] at z; cases z
    · rcases g.n a z with q | q
      · exact h2 q
      · exact h1 q
  rs := R.stable s.rs g.mon fun a h => by
    cases w : H a with
    | none => exact absurd w (s.at_ a h).1
    | some o => exact g.h a o w
  len := s.len
  sl := by
    obtain ⟨ow, h⟩ := s.sl
    exact ⟨ow, fun i x hx => by
      obtain ⟨o, h1, h2⟩ := h i x hx
      exact ⟨o, h1, SlotOk.grow g.mon g.h g.n h2⟩⟩
end
end DL

namespace DL
open PySem PySem.Spec L2

/-! ### the canonical readings -/
def tE (X : Cx) (e : Expr) : TE := fun σ H Q => ∃ t, PE X e t ∧ t σ H Q
def tT (X : Cx) (e : Expr) : TT := fun σ H Q => ∃ t, PT X e t ∧ t σ H Q
def tA (X : Cx) (es : List Expr) : TA := fun σ H Q => ∃ t, PA X es t ∧ t σ H Q
def tSs (X : Cx) (st : List Stmt) : TS := fun D σ H => ∃ t, PSs X st t ∧ t D σ H
def tO (X : Cx) (e : Option Expr) : TO := fun σ H Q => ∃ t, PO X e t ∧ t σ H Q
section
variable {X : Cx}
theorem pe_t {e : Expr} : PE X e (tE X e) := ⟨fun pins s σ H Q I h => by obtain ⟨t, h, q⟩ := h; exact h.run pins s σ H Q I q⟩
theorem pt_t {e : Expr} : PT X e (tT X e) := ⟨fun pins s σ H Q I h => by obtain ⟨t, h, q⟩ := h; exact h.run pins s σ H Q I q⟩
theorem pa_t {es : List Expr} : PA X es (tA X es) := ⟨fun pos pins s σ H Q I h => by obtain ⟨t, h, q⟩ := h; exact h.run pos pins s σ H Q I q⟩
theorem pss_t {st : List Stmt} : PSs X st (tSs X st) := ⟨fun pins s σ H D I h => by obtain ⟨t, h, q⟩ := h; exact h.run pins s σ H D I q⟩
theorem po_t {e : Option Expr} : PO X e (tO X e) := ⟨fun pins s σ H Q I h => by obtain ⟨t, h, q⟩ := h; exact h.run pins s σ H Q I q⟩
end

/-! ### a value that was reckoned -/
def SR (K : PySem.W.Frag) : S → Hp → V → Hp → Fz → Prop
  | .any, _, _, _, _ => True
  | .d x, _, v, H', F' => Dn K F' H' x v
  | .own ds, H, v, H', F' => ∃ a vs, v = .ref a ∧ H a = none ∧ ¬ F' a ∧ H' a = some (.lst vs) ∧ DnA K F' H' ds vs
  | .bor ds, _, v, H', F' => ∃ a vs, v = .ref a ∧ H' a = some (.lst vs) ∧ DnA K F' H' ds vs
  | .scr ns, _, v, H', _ => ∃ a, v = .ref a ∧ SqL K H' a (ns.map V.int)
  | .dic ds, H, v, H', F' => ∃ a vs, v = .ref a ∧ H a = none ∧ ¬ F' a ∧ H' a = some (.dK vs) ∧ DnK K F' H' ds vs
  | .bdic ds, _, v, H', F' => ∃ a vs, v = .ref a ∧ H' a = some (.dK vs) ∧ DnK K F' H' ds vs
def SRs (K : PySem.W.Frag) : List S → Hp → List V → Hp → Fz → Prop
  | [], _, [], _, _ => True
  | s :: ss, H, v :: vs, H', F' => SR K s H v H' F' ∧ SRs K ss H vs H' F'
  | [], _, _ :: _, _, _ => False
  | _ :: _, _, [], _, _ => False
section
variable {K : PySem.W.Frag} {H H0 H1 H' : Hp} {F F1 F' : Fz} {v : V}
theorem sqL_grow (g : ∀ a o, H a = some o → H' a = some o) {a : Addr} {xs : List V} (h : SqL K H a xs) : SqL K H' a xs := by
  rcases h with (h | ⟨o, h⟩) | h
  · exact .inl (.inl (g _ _ h))
  · exact .inl (.inr ⟨o, g _ _ h⟩)
  · exact .inr h
theorem SR.grow : ∀ {s : S}, SR K s H v H1 F1 → Grow H1 F1 H' F' → SR K s H v H' F'
  | .any, _, _ => trivial
  | .d x, h, g => Dn.mon g.mon _ _ h
  | .own ds, ⟨a, vs, h1, h2, h3, h4, h5⟩, g => ⟨a, vs, h1, h2, (fun z => (g.n a z).elim h3 fun q => ne_none_of h4 q), g.h _ _ h4, DnA.mon g.mon _ _ h5⟩
  | .bor ds, ⟨a, vs, h1, h4, h5⟩, g => ⟨a, vs, h1, g.h _ _ h4, DnA.mon g.mon _ _ h5⟩
  | .scr ns, ⟨a, h1, h4⟩, g => ⟨a, h1, sqL_grow g.h h4⟩
  | .dic ds, ⟨a, vs, h1, h2, h3, h4, h5⟩, g => ⟨a, vs, h1, h2, (fun z => (g.n a z).elim h3 fun q => ne_none_of h4 q), g.h _ _ h4, DnK.mon g.mon h5⟩
  | .bdic ds, ⟨a, vs, h1, h4, h5⟩, g => ⟨a, vs, h1, g.h _ _ h4, DnK.mon g.mon h5⟩
theorem none_pre (g : ∀ a o, H a = some o → H1 a = some o) {a : Addr} (h : H1 a = none) : H a = none := by
  cases z : H a with
  | none => rfl
  | some o => rw [g a o z] at h; cases h
theorem _root_.DL.Grow.nn (g : Grow H F H1 F1) : ∀ a, H1 a = none → H a = none := fun a h => none_pre g.h h
theorem SR.pre (g : ∀ a, H1 a = none → H a = none) : ∀ {s : S}, SR K s H1 v H' F' → SR K s H v H' F'
  | .any, _ => trivial
  | .d x, h => h
  | .own ds, ⟨a, vs, h1, h2, h3⟩ => ⟨a, vs, h1, g a h2, h3⟩
  | .bor ds, h => h
  | .scr ns, h => h
  | .dic ds, ⟨a, vs, h1, h2, h3⟩ => ⟨a, vs, h1, g a h2, h3⟩
  | .bdic ds, h => h
theorem SRs.grow : ∀ {ss : List S} {vs : List V}, SRs K ss H vs H1 F1 → Grow H1 F1 H' F' → SRs K ss H vs H' F'
  | [], [], _, _ => trivial
  | _ :: _, _ :: _, h, g => ⟨h.1.grow g, SRs.grow h.2 g⟩
  | [], _ :: _, h, _ => h
  | _ :: _, [], h, _ => h
theorem SRs.pre (g : ∀ a, H1 a = none → H a = none) : ∀ {ss : List S} {vs : List V}, SRs K ss H1 vs H' F' → SRs K ss H vs H' F'
  | [], [], _ => trivial
  | _ :: _, _ :: _, h => ⟨SR.pre g h.1, SRs.pre g h.2⟩
  | [], _ :: _, h => h
  | _ :: _, [], h => h
theorem SRs.length : ∀ {ss : List S} {vs : List V}, SRs K ss H vs H' F' → vs.length = ss.length
  | [], [], _ => rfl
  | _ :: _, _ :: _, h => by rw [List.length_cons, List.length_cons, SRs.length h.2]
  | [], _ :: _, h => h.elim
  | _ :: _, [], h => h.elim
theorem SRs.ds : ∀ {ds : List D} {vs : List V}, SRs K (ds.map S.d) H vs H' F' → DnA K F' H' ds vs
  | [], [], _ => trivial
  | _ :: _, _ :: _, h => ⟨h.1, SRs.ds h.2⟩
  | [], _ :: _, h => h
  | _ :: _, [], h => h
end

/-! ### the judgements -/
/-- an expression that changes nothing -/
def Ev (X : Cx) (e : Expr) (G : List S) (R : Res) (s : S) : Prop :=
  ∀ (en : En) (A : Addr → Prop) (σ : L2.St) (H : Hp) (F : Fz) (Q : VK), Sta X.K en G R A σ H F → (∀ v H' F', Grow H F H' F' → SR X.K s H v H' F' → Q v H') → tE X e σ H Q
def Tv (X : Cx) (e : Expr) (G : List S) (R : Res) (b : Bool) : Prop :=
  ∀ (en : En) (A : Addr → Prop) (σ : L2.St) (H : Hp) (F : Fz) (Q : Bool → Hp → Prop), Sta X.K en G R A σ H F → (∀ H' F', Grow H F H' F' → Q b H') → tT X e σ H Q
def EvA (X : Cx) (es : List Expr) (G : List S) (R : Res) (ss : List S) : Prop :=
  ∀ (en : En) (A : Addr → Prop) (σ : L2.St) (H : Hp) (F : Fz) (Q : List V → Hp → Prop), Sta X.K en G R A σ H F → (∀ vs H' F', Grow H F H' F' → SRs X.K ss H vs H' F' → Q vs H') → tA X es σ H Q
def EvO (X : Cx) (e : Option Expr) (G : List S) (R : Res) (o : Option Int) : Prop :=
  ∀ (en : En) (A : Addr → Prop) (σ : L2.St) (H : Hp) (F : Fz) (Q : Option Int → Hp → Prop), Sta X.K en G R A σ H F → (∀ H' F', Grow H F H' F' → Q o H') → tO X e σ H Q

section
variable {X : Cx} {G : List S} {R : Res} {a b c e : Expr} {es : List Expr} {pos : Pos} {s s1 s2 : S} {ss : List S}
/-! ### names, constants -/
theorem slot_at {K : PySem.W.Frag} {en : En} {A : Addr → Prop} {σ : L2.St} {H : Hp} {F : Fz} (st : Sta K en G R A σ H F) {i : Nat} (h : G[i]? = some s) : ∃ ow o, σ[i]? = some o ∧ SlotOk K en ow H F A i s o := by
  obtain ⟨ow, q⟩ := st.sl
  obtain ⟨o, h1, h2⟩ := q i s h
  exact ⟨ow, o, h1, h2⟩
theorem ev_var (i : Nat) {d : D} {x : Str} {pos : Pos} (hs : G[i]? = some (.d d)) (hN : X.N[i]? = some x := by rfl) (hv : Vis X.env.scope x := by first | exact Or.inl rfl | exact Or.inr (Or.inl rfl) | exact Or.inr (Or.inr rfl)) (hd : (x == ("__debug__" : Str)) = false := by decide)
    (hcd : (x == ("__classdict__" : Str)) = false := by decide) : Ev X (.Name x pos) G R (.d d) := by
  intro en A σ H F Q st k
  obtain ⟨ow, o, h1, v, h2, h3⟩ := slot_at st hs
  subst h2
  exact ⟨_, pe_var hN hv hd hcd, v, h1, k v H F (Grow.refl st.ft) h3⟩
theorem ev_varB (i : Nat) {ds : List D} {x : Str} {pos : Pos} (hs : G[i]? = some (.own ds) ∨ G[i]? = some (.bor ds)) (hN : X.N[i]? = some x := by rfl) (hv : Vis X.env.scope x := by first | exact Or.inl rfl | exact Or.inr (Or.inl rfl) | exact Or.inr (Or.inr rfl)) (hd : (x == ("__debug__" : Str)) = false := by decide)
    (hcd : (x == ("__classdict__" : Str)) = false := by decide) : Ev X (.Name x pos) G R (.bor ds) := by
  intro en A σ H F Q st k
  rcases hs with hs | hs
  · obtain ⟨ow, o, h1, a, vs, h2, h3, h4, h5, h6, h7, h8⟩ := slot_at st hs
    subst h2
    exact ⟨_, pe_var hN hv hd hcd, _, h1, k _ H F (Grow.refl st.ft) ⟨a, vs, rfl, h6, h7⟩⟩
  · obtain ⟨ow, o, h1, a, vs, h2, h3, h4, h5⟩ := slot_at st hs
    subst h2
    exact ⟨_, pe_var hN hv hd hcd, _, h1, k _ H F (Grow.refl st.ft) ⟨a, vs, rfl, st.fr _ _ h3 h4, h5⟩⟩
theorem ev_varS (i : Nat) {ns : List Int} {x : Str} {pos : Pos} (hs : G[i]? = some (.scr ns)) (hN : X.N[i]? = some x := by rfl) (hv : Vis X.env.scope x := by first | exact Or.inl rfl | exact Or.inr (Or.inl rfl) | exact Or.inr (Or.inr rfl)) (hd : (x == ("__debug__" : Str)) = false := by decide)
    (hcd : (x == ("__classdict__" : Str)) = false := by decide) : Ev X (.Name x pos) G R (.scr ns) := by
  intro en A σ H F Q st k
  obtain ⟨ow, o, h1, a, h2, h3, h4⟩ := slot_at st hs
  subst h2
  refine ⟨_, pe_var hN hv hd hcd, _, h1, k _ H F (Grow.refl st.ft) ⟨a, rfl, ?_⟩⟩
  rcases h3 with (h | ⟨o, h⟩) | h
  · exact .inl (.inl (st.fr _ _ h h4))
  · exact .inl (.inr ⟨o, st.fr _ _ h h4⟩)
  · exact .inr h
theorem ev_varK (i : Nat) {ds : List (Key × D)} {x : Str} {pos : Pos} (hs : G[i]? = some (.dic ds) ∨ G[i]? = some (.bdic ds)) (hN : X.N[i]? = some x := by rfl) (hv : Vis X.env.scope x := by first | exact Or.inl rfl | exact Or.inr (Or.inl rfl) | exact Or.inr (Or.inr rfl)) (hd : (x == ("__debug__" : Str)) = false := by decide)
    (hcd : (x == ("__classdict__" : Str)) = false := by decide) : Ev X (.Name x pos) G R (.bdic ds) := by
  intro en A σ H F Q st k
  rcases hs with hs | hs
  · obtain ⟨ow, o, h1, a, vs, h2, h3, h4, h5, h6, h7, h8⟩ := slot_at st hs
    subst h2
    exact ⟨_, pe_var hN hv hd hcd, _, h1, k _ H F (Grow.refl st.ft) ⟨a, vs, rfl, h6, h7⟩⟩
  · obtain ⟨ow, o, h1, a, vs, h2, h3, h4, h5⟩ := slot_at st hs
    subst h2
    exact ⟨_, pe_var hN hv hd hcd, _, h1, k _ H F (Grow.refl st.ft) ⟨a, vs, rfl, st.fr _ _ h3 h4, h5⟩⟩
theorem ev_int {i j} : Ev X (.Constant (.int i) j pos) G R (.d (.int i)) := fun en A σ H F Q st k => ⟨_, pe_int, k _ H F (Grow.refl st.ft) rfl⟩
theorem ev_bl {i j} : Ev X (.Constant (.bool i) j pos) G R (.d (.bl i)) := fun en A σ H F Q st k => ⟨_, pe_bl, k _ H F (Grow.refl st.ft) rfl⟩
theorem ev_non {j} : Ev X (.Constant .none j pos) G R (.d .non) := fun en A σ H F Q st k => ⟨_, pe_non, k _ H F (Grow.refl st.ft) rfl⟩
theorem ev_str {x j} : Ev X (.Constant (.str x) j pos) G R (.d (.str x)) := fun en A σ H F Q st k => ⟨_, pe_str, k _ H F (Grow.refl st.ft) rfl⟩
/-- a module's constant -/
def Cst (K : PySem.W.Frag) (mg : Str → Option Value) (x : Str) (d : D) : Prop := ∃ v u, mg x = some u ∧ RelV v u ∧ ∀ F H, Dn K F H d v
theorem ev_cst {x : Str} {d : D} (h : Cst X.K X.mg x d) (hg : Gl X x := by rfl) (hd : (x == ("__debug__" : Str)) = false := by decide) : Ev X (.Name x pos) G R (.d d) := by
  intro en A σ H F Q st k
  obtain ⟨v, u, h1, h2, h3⟩ := h
  exact ⟨_, pe_glob hg h1 h2 hd, k _ H F (Grow.refl st.ft) (h3 F H)⟩
/-- less is asked of a value -/
theorem ev_sub (h : Ev X e G R s1) (w : ∀ K H v H' F', Grow H F' H' F' → SR K s1 H v H' F' → SR K s2 H v H' F') : True := trivial
theorem ev_frz {ds : List D} (h : Ev X e G R (.own ds)) : Ev X e G R (.d (.lst ds)) := by
  intro en A σ H F Q st k
  refine h en A σ H F Q st fun v H' F' g r => ?_
  obtain ⟨a, vs, rfl, h2, h3, h4, h5⟩ := r
  have g' : Grow H F H' (fun b => F' b ∨ b = a) := g.freeze h2 (by rw [h4]; exact fun z => nomatch z)
  refine k _ H' _ g' ⟨a, vs, rfl, .inr rfl, h4, ?_⟩
  exact DnA.mon ⟨fun b h => .inl h, fun _ _ h => h, fun _ _ _ h => h⟩ _ _ h5
theorem ev_ob {ds : List D} (h : Ev X e G R (.own ds)) : Ev X e G R (.bor ds) := by
  intro en A σ H F Q st k
  refine h en A σ H F Q st fun v H' F' g r => ?_
  obtain ⟨a, vs, rfl, h2, h3, h4, h5⟩ := r
  exact k _ H' F' g ⟨a, vs, rfl, h4, h5⟩
theorem ev_lb {ds : List D} (h : Ev X e G R (.d (.lst ds))) : Ev X e G R (.bor ds) := by
  intro en A σ H F Q st k
  refine h en A σ H F Q st fun v H' F' g r => ?_
  obtain ⟨a, vs, rfl, h2, h3, h4⟩ := r
  exact k _ H' F' g ⟨a, vs, rfl, h3, h4⟩
theorem ev_eq {d d' : D} (h : Ev X e G R (.d d)) (q : d = d') : Ev X e G R (.d d') := q ▸ h
theorem ev_cast (h : Ev X e G R s) (q : s = s2) : Ev X e G R s2 := q ▸ h

/-! ### operators -/
def RO (K : PySem.W.Frag) (r : R2) (s1 s2 s : S) : Prop := ∀ (H0 : Hp) (x y : V) (H : Hp) (F : Fz) (Q : VK), (∀ a, F a → H a ≠ none) → SR K s1 H0 x H F → SR K s2 H0 y H F → (∀ v H' F', Grow H F H' F' → SR K s H v H' F' → Q v H') → r x y H Q
theorem ev_op {op : Operator} {r : R2} (ho : OpR X (binaryOp op) r) (hr : RO X.K r s1 s2 s) (ha : Ev X a G R s1) (hb : Ev X b G R s2) : Ev X (.BinOp a op b pos) G R s := by
  intro en A σ H F Q st k
  refine ⟨_, pe_op ho pe_t pe_t, ?_⟩
  refine ha en A σ H F _ st fun x H1 F1 g1 r1 => ?_
  refine hb en A σ H1 F1 _ (st.grow g1) fun y H2 F2 g2 r2 => ?_
  refine hr H x y H2 F2 Q g2.t (SR.grow r1 g2) (SR.pre g1.nn r2) fun v H3 F3 g3 r3 => ?_
  exact k v H3 F3 ((g1.trans g2).trans g3) (SR.pre (g1.trans g2).nn r3)
theorem ev_cmpR {op : CmpOp} {r : R2} (ho : OpR X (compareOp op) r) (hr : RO X.K r s1 s2 s) (ha : Ev X a G R s1) (hb : Ev X b G R s2) (hm : behindInMarks op b = false) : Ev X (.Compare a [op] [b] pos) G R s := by
  intro en A σ H F Q st k
  refine ⟨_, pe_cmpR ho pe_t pe_t hm, ?_⟩
  refine ha en A σ H F _ st fun x H1 F1 g1 r1 => ?_
  refine hb en A σ H1 F1 _ (st.grow g1) fun y H2 F2 g2 r2 => ?_
  refine hr H x y H2 F2 Q g2.t (SR.grow r1 g2) (SR.pre g1.nn r2) fun v H3 F3 g3 r3 => ?_
  exact k v H3 F3 ((g1.trans g2).trans g3) (SR.pre (g1.trans g2).nn r3)
theorem tv_cmpR {op : CmpOp} {r : R2} {q : Bool} (ho : OpR X (compareOp op) r) (hr : RO X.K r s1 s2 (.d (.bl q))) (ha : Ev X a G R s1) (hb : Ev X b G R s2) (hm : behindInMarks op b = false) : Tv X (.Compare a [op] [b] pos) G R q := by
  intro en A σ H F Q st k
  refine ⟨_, pt_cmpR ho pe_t pe_t hm, ?_⟩
  refine ha en A σ H F _ st fun x H1 F1 g1 r1 => ?_
  refine hb en A σ H1 F1 _ (st.grow g1) fun y H2 F2 g2 r2 => ?_
  refine hr H x y H2 F2 _ g2.t (SR.grow r1 g2) (SR.pre g1.nn r2) fun v H3 F3 g3 r3 => ?_
  exact ⟨q, r3, k H3 F3 ((g1.trans g2).trans g3)⟩
/-- a chain a < b < c -/
theorem tv_chain {op op' : CmpOp} {r r' : R2} {q q' : Bool} {s3 : S} (ho : OpR X (compareOp op) r) (ho' : OpR X (compareOp op') r') (hr : RO X.K r s1 s2 (.d (.bl q))) (hr' : RO X.K r' s2 s3 (.d (.bl q')))
    (ha : Ev X a G R s1) (hb : Ev X b G R s2) (hc : Ev X c G R s3) (hm : behindInMarks op b = false) (hm' : behindInMarks op' c = false) : True := trivial
theorem ro_I0 {K : PySem.W.Frag} {f : Int → Int → Int} {i j : Int} : RO K (rI0 fun i j => .int (f i j)) (.d (.int i)) (.d (.int j)) (.d (.int (f i j))) :=
  fun H0 x y H F Q ft hx hy k => ⟨i, j, hx, hy, k _ H F (Grow.refl ft) rfl⟩
theorem ro_B0 {K : PySem.W.Frag} {f : Int → Int → Bool} {i j : Int} : RO K (rI0 fun i j => .bl (f i j)) (.d (.int i)) (.d (.int j)) (.d (.bl (f i j))) :=
  fun H0 x y H F Q ft hx hy k => ⟨i, j, hx, hy, k _ H F (Grow.refl ft) rfl⟩
theorem ro_I {K : PySem.W.Frag} {C : Int → Int → Prop} {f : Int → Int → Int} {i j : Int} (h : C i j) : RO K (rI C fun i j => .int (f i j)) (.d (.int i)) (.d (.int j)) (.d (.int (f i j))) :=
  fun H0 x y H F Q ft hx hy k => ⟨i, j, hx, hy, h, k _ H F (Grow.refl ft) rfl⟩
variable {i j : Int}
theorem ev_add (ha : Ev X a G R (.d (.int i))) (hb : Ev X b G R (.d (.int j))) : Ev X (.BinOp a .Add b pos) G R (.d (.int (i + j))) := ev_op op_add ro_I0 ha hb
theorem ev_minus (ha : Ev X a G R (.d (.int i))) (hb : Ev X b G R (.d (.int j))) : Ev X (.BinOp a .Sub b pos) G R (.d (.int (i - j))) := ev_op op_sub ro_I0 ha hb
theorem ev_mul (h : CMul i j) (ha : Ev X a G R (.d (.int i))) (hb : Ev X b G R (.d (.int j))) : Ev X (.BinOp a .Mult b pos) G R (.d (.int (i * j))) := ev_op op_mul (ro_I h) ha hb
theorem ev_mulW (h : CMulW i j) (ha : Ev X a G R (.d (.int i))) (hb : Ev X b G R (.d (.int j))) : Ev X (.BinOp a .Mult b pos) G R (.d (.int (i * j))) := ev_op op_mulW (ro_I h) ha hb
theorem ev_fdiv (h : CDivW i j) (ha : Ev X a G R (.d (.int i))) (hb : Ev X b G R (.d (.int j))) : Ev X (.BinOp a .FloorDiv b pos) G R (.d (.int (i / j))) := ev_op op_fdivW (ro_I h) ha hb
theorem ev_mod (h : 0 < j) (ha : Ev X a G R (.d (.int i))) (hb : Ev X b G R (.d (.int j))) : Ev X (.BinOp a .Mod b pos) G R (.d (.int (i % j))) := ev_op op_mod (ro_I h) ha hb
theorem ev_pow (h : CPow i j) (ha : Ev X a G R (.d (.int i))) (hb : Ev X b G R (.d (.int j))) : Ev X (.BinOp a .Pow b pos) G R (.d (.int (i ^ j.toNat))) := ev_op op_pow (ro_I h) ha hb
theorem ev_un {op : UnaryOp} {f : Int → Int} (ho : UnR X (unaryOp op) (rU fun i => .int (f i))) (ha : Ev X a G R (.d (.int i))) : Ev X (.UnaryOp op a pos) G R (.d (.int (f i))) := by
  intro en A σ H F Q st k
  refine ⟨_, pe_un ho pe_t, ?_⟩
  refine ha en A σ H F _ st fun x H1 F1 g1 r1 => ?_
  exact ⟨i, r1, k _ H1 F1 g1 rfl⟩
theorem ev_neg (ha : Ev X a G R (.d (.int i))) : Ev X (.UnaryOp .USub a pos) G R (.d (.int (-i))) := ev_un un_neg ha
theorem tv_lt (ha : Ev X a G R (.d (.int i))) (hb : Ev X b G R (.d (.int j))) : Tv X (.Compare a [.Lt] [b] pos) G R (decide (i < j)) := tv_cmpR op_lt ro_B0 ha hb (nomark _)
theorem tv_le (ha : Ev X a G R (.d (.int i))) (hb : Ev X b G R (.d (.int j))) : Tv X (.Compare a [.LtE] [b] pos) G R (decide (i ≤ j)) := tv_cmpR op_le ro_B0 ha hb (nomark _)
theorem tv_gt (ha : Ev X a G R (.d (.int i))) (hb : Ev X b G R (.d (.int j))) : Tv X (.Compare a [.Gt] [b] pos) G R (decide (j < i)) := tv_cmpR op_gt ro_B0 ha hb (nomark _)
theorem tv_ge (ha : Ev X a G R (.d (.int i))) (hb : Ev X b G R (.d (.int j))) : Tv X (.Compare a [.GtE] [b] pos) G R (decide (j ≤ i)) := tv_cmpR op_ge ro_B0 ha hb (nomark _)
theorem ev_lt (ha : Ev X a G R (.d (.int i))) (hb : Ev X b G R (.d (.int j))) : Ev X (.Compare a [.Lt] [b] pos) G R (.d (.bl (decide (i < j)))) := ev_cmpR op_lt ro_B0 ha hb (nomark _)
theorem ev_le (ha : Ev X a G R (.d (.int i))) (hb : Ev X b G R (.d (.int j))) : Ev X (.Compare a [.LtE] [b] pos) G R (.d (.bl (decide (i ≤ j)))) := ev_cmpR op_le ro_B0 ha hb (nomark _)
theorem ev_gt (ha : Ev X a G R (.d (.int i))) (hb : Ev X b G R (.d (.int j))) : Ev X (.Compare a [.Gt] [b] pos) G R (.d (.bl (decide (j < i)))) := ev_cmpR op_gt ro_B0 ha hb (nomark _)
theorem ev_ge (ha : Ev X a G R (.d (.int i))) (hb : Ev X b G R (.d (.int j))) : Ev X (.Compare a [.GtE] [b] pos) G R (.d (.bl (decide (j ≤ i)))) := ev_cmpR op_ge ro_B0 ha hb (nomark _)

/-! ### tests -/
theorem tv_val {q : Bool} (h : Ev X e G R (.d (.bl q))) (he : ∀ whole, isTrue e X.env whole = (do let v ← whole; standAt e.pos; holding [v] (truthy v)) := by intro _; rfl) : Tv X e G R q := by
  intro en A σ H F Q st k
  refine ⟨_, pt_val pe_t he, ?_⟩
  refine h en A σ H F _ st fun x H1 F1 g1 r1 => ?_
  exact ⟨q, r1, k H1 F1 g1⟩
theorem tv_not {q : Bool} (h : Tv X a G R q) : Tv X (.UnaryOp .Not a pos) G R (!q) := by
  intro en A σ H F Q st k
  refine ⟨_, pt_not pt_t, ?_⟩
  exact h en A σ H F _ st fun H1 F1 g1 => k H1 F1 g1
/-- a test whatever its whole is -/
def Tw (X : Cx) (e : Expr) (G : List S) (R : Res) (b : Bool) : Prop :=
  ∀ (en : En) (A : Addr → Prop) (σ : L2.St) (H : Hp) (F : Fz) (Q : Bool → Hp → Prop), Sta X.K en G R A σ H F → (∀ H' F', Grow H F H' F' → Q b H') → ∃ t, PW X e t ∧ t σ H Q
def tW (X : Cx) (e : Expr) : TT := fun σ H Q => ∃ t, PW X e t ∧ t σ H Q
theorem pw_t {e : Expr} : PW X e (tW X e) := ⟨fun w pins s σ H Q I h => by obtain ⟨t, h, q⟩ := h; exact h.run w pins s σ H Q I q⟩
theorem tw_tv {q : Bool} (h : Tw X e G R q) : Tv X e G R q := fun en A σ H F Q st k => ⟨_, pw_t.pt, h en A σ H F Q st k⟩
theorem tw_and1 {q : Bool} (h : Tv X a G R q) : Tw X (.BoolOp .And [a] pos) G R q := fun en A σ H F Q st k => ⟨_, pw_and1 pt_t, h en A σ H F Q st k⟩
theorem tw_or1 {q : Bool} (h : Tv X a G R q) : Tw X (.BoolOp .Or [a] pos) G R q := fun en A σ H F Q st k => ⟨_, pw_or1 pt_t, h en A σ H F Q st k⟩
theorem tw_and {q q' : Bool} (h : Tv X a G R q) (h' : q = true → Tw X (.BoolOp .And (b :: es) pos) G R q') : Tw X (.BoolOp .And (a :: b :: es) pos) G R (q && q') := by
  intro en A σ H F Q st k
  refine ⟨_, pw_and pt_t pw_t, ?_⟩
  refine h en A σ H F _ st fun H1 F1 g1 => ?_
  cases q with
  | false => exact iteF (k H1 F1 g1)
  | true => exact iteT (h' rfl en A σ H1 F1 _ (st.grow g1) fun H2 F2 g2 => k H2 F2 (g1.trans g2))
theorem tw_or {q q' : Bool} (h : Tv X a G R q) (h' : q = false → Tw X (.BoolOp .Or (b :: es) pos) G R q') : Tw X (.BoolOp .Or (a :: b :: es) pos) G R (q || q') := by
  intro en A σ H F Q st k
  refine ⟨_, pw_or pt_t pw_t, ?_⟩
  refine h en A σ H F _ st fun H1 F1 g1 => ?_
  cases q with
  | true => exact iteT (k H1 F1 g1)
  | false => exact iteF (h' rfl en A σ H1 F1 _ (st.grow g1) fun H2 F2 g2 => k H2 F2 (g1.trans g2))
/-- all fail, all hold -/
theorem tw_orF (h : Tv X a G R false) (h' : Tw X (.BoolOp .Or (b :: es) pos) G R false) : Tw X (.BoolOp .Or (a :: b :: es) pos) G R false := tw_or h fun _ => h'
theorem tw_andT (h : Tv X a G R true) (h' : Tw X (.BoolOp .And (b :: es) pos) G R true) : Tw X (.BoolOp .And (a :: b :: es) pos) G R true := tw_and h fun _ => h'
theorem tw_andF {q : Bool} (h : Tv X a G R q) (h' : q = true → Tw X (.BoolOp .And (b :: es) pos) G R false) : Tw X (.BoolOp .And (a :: b :: es) pos) G R false := by
  have z := tw_and h h'
  rw [Bool.and_false] at z
  exact z
theorem tw_orT {q : Bool} (h : Tv X a G R q) (h' : q = false → Tw X (.BoolOp .Or (b :: es) pos) G R true) : Tw X (.BoolOp .Or (a :: b :: es) pos) G R true := by
  have z := tw_or h h'
  rw [Bool.or_true] at z
  exact z
/-- .. as values -/
theorem ev_one {op} (h : Ev X a G R s) : Ev X (.BoolOp op [a] pos) G R s := fun en A σ H F Q st k => ⟨_, pe_one pe_t, h en A σ H F Q st k⟩
theorem ev_and {q q' : Bool} (h : Ev X a G R (.d (.bl q))) (h' : q = true → Ev X (.BoolOp .And (b :: es) pos) G R (.d (.bl q'))) : Ev X (.BoolOp .And (a :: b :: es) pos) G R (.d (.bl (q && q'))) := by
  intro en A σ H F Q st k
  refine ⟨_, pe_and pe_t pe_t, ?_⟩
  refine h en A σ H F _ st fun x H1 F1 g1 r1 => ⟨q, r1, ?_⟩
  cases q with
  | false => exact iteF (k _ H1 F1 g1 rfl)
  | true => exact iteT (h' rfl en A σ H1 F1 _ (st.grow g1) fun v H2 F2 g2 r2 => k v H2 F2 (g1.trans g2) (SR.pre g1.nn r2))
theorem ev_or {q q' : Bool} (h : Ev X a G R (.d (.bl q))) (h' : q = false → Ev X (.BoolOp .Or (b :: es) pos) G R (.d (.bl q'))) : Ev X (.BoolOp .Or (a :: b :: es) pos) G R (.d (.bl (q || q'))) := by
  intro en A σ H F Q st k
  refine ⟨_, pe_or pe_t pe_t, ?_⟩
  refine h en A σ H F _ st fun x H1 F1 g1 r1 => ⟨q, r1, ?_⟩
  cases q with
  | true => exact iteT (k _ H1 F1 g1 rfl)
  | false => exact iteF (h' rfl en A σ H1 F1 _ (st.grow g1) fun v H2 F2 g2 r2 => k v H2 F2 (g1.trans g2) (SR.pre g1.nn r2))
theorem ev_not {q : Bool} (h : Ev X a G R (.d (.bl q))) : Ev X (.UnaryOp .Not a pos) G R (.d (.bl (!q))) := by
  intro en A σ H F Q st k
  refine ⟨_, pe_not pe_t, ?_⟩
  exact h en A σ H F _ st fun x H1 F1 g1 r1 => ⟨q, r1, k _ H1 F1 g1 rfl⟩
theorem ev_ifE {q : Bool} (hc : Tv X c G R q) (h1 : q = true → Ev X a G R s) (h2 : q = false → Ev X b G R s) : Ev X (.IfExp c a b pos) G R s := by
  intro en A σ H F Q st k
  refine ⟨_, pe_ifExp pt_t pe_t pe_t, ?_⟩
  refine hc en A σ H F _ st fun H1 F1 g1 => ?_
  cases q with
  | true => exact iteT (h1 rfl en A σ H1 F1 _ (st.grow g1) fun v H2 F2 g2 r2 => k v H2 F2 (g1.trans g2) (SR.pre g1.nn r2))
  | false => exact iteF (h2 rfl en A σ H1 F1 _ (st.grow g1) fun v H2 F2 g2 r2 => k v H2 F2 (g1.trans g2) (SR.pre g1.nn r2))
theorem tv_eq {q q' : Bool} (h : Tv X e G R q) (w : q = q') : Tv X e G R q' := w ▸ h

/-! ### argument lists, displays -/
theorem eva_nil : EvA X [] G R [] := fun en A σ H F Q st k => ⟨_, pa_nil, k [] H F (Grow.refl st.ft) trivial⟩
theorem eva_cons (h : Ev X e G R s) (hr : EvA X es G R ss) (hs : starEach (e :: es) X.env = (false, eval e X.env) :: starEach es X.env := by rfl) : EvA X (e :: es) G R (s :: ss) := by
  intro en A σ H F Q st k
  refine ⟨_, pa_cons pe_t pa_t hs, ?_⟩
  refine h en A σ H F _ st fun v H1 F1 g1 r1 => ?_
  refine hr en A σ H1 F1 _ (st.grow g1) fun vs H2 F2 g2 r2 => ?_
  exact k (v :: vs) H2 F2 (g1.trans g2) ⟨SR.grow r1 g2, SRs.pre g1.nn r2⟩
/-- .. of data -/
def EvDs (X : Cx) (es : List Expr) (G : List S) (R : Res) (ds : List D) : Prop := EvA X es G R (ds.map S.d)
theorem evd_nil : EvDs X [] G R [] := eva_nil
theorem evd_cons {d : D} {ds : List D} (h : Ev X e G R (.d d)) (hr : EvDs X es G R ds) (hs : starEach (e :: es) X.env = (false, eval e X.env) :: starEach es X.env := by rfl) : EvDs X (e :: es) G R (d :: ds) := eva_cons h hr hs
theorem ev_tup {x1} {ds : List D} (h : EvDs X es G R ds) (hl : ds.length ≤ sizeLine := by exact Nat.le_of_ble_eq_true rfl) : Ev X (.Tuple es x1 pos) G R (.d (.tup ds)) := by
  intro en A σ H F Q st k
  refine ⟨_, pe_tup pa_t, ?_⟩
  refine h en A σ H F _ st fun vs H1 F1 g1 r1 => ?_
  have r2 := SRs.ds r1
  refine ⟨by rw [r2.length]; exact hl, fun p hp => ?_⟩
  have g2 : Grow H1 F1 (upd H1 p (.tup vs)) F1 := Grow.tup hp g1.t
  exact k _ _ F1 (g1.trans g2) ⟨p, vs, rfl, SqT.of upd_same, DnA.mon g2.mon _ _ r2⟩
theorem ev_lst {ds : List D} (h : EvDs X es G R ds) (hl : ds.length ≤ sizeLine := by exact Nat.le_of_ble_eq_true rfl) : Ev X (.List es pos) G R (.own ds) := by
  intro en A σ H F Q st k
  refine ⟨_, pe_lst pa_t, ?_⟩
  refine h en A σ H F _ st fun vs H1 F1 g1 r1 => ?_
  have r2 := SRs.ds r1
  refine ⟨by rw [r2.length]; exact hl, fun p hp => ?_⟩
  have g2 : Grow H1 F1 (upd H1 p (.lst vs)) F1 := Grow.new hp g1.t
  exact k _ _ F1 (g1.trans g2) ⟨p, vs, rfl, none_pre g1.h hp, fun z => absurd hp (g1.t p z), upd_same, DnA.mon g2.mon _ _ r2⟩

/-! ### subscripts -/
def atD (ds : List D) (i : Int) : Option D := atI ds i
theorem atI_rel {K : PySem.W.Frag} {F : Fz} {H : Hp} {ds : List D} {vs : List V} {i : Int} {d : D} (h : DnA K F H ds vs) (e : atI ds i = some d) : ∃ v, atI vs i = some v ∧ Dn K F H d v := by
  unfold atI at e ⊢
  rw [h.length]
  cases z : ixN ds.length i with
  | none => rw [z] at e; cases e
  | some j =>
    rw [z] at e
    exact h.get e
theorem ev_ixT {ds : List D} {d : D} (ha : Ev X a G R (.d (.tup ds))) (hb : Ev X b G R (.d (.int i))) (h : atI ds i = some d) (hs : PlainIx b := by exact fun _ _ => rfl) : Ev X (.Subscript a b pos) G R (.d d) := by
  intro en A σ H F Q st k
  refine ⟨_, pe_ix ix_tup pe_t pe_t hs, ?_⟩
  refine ha en A σ H F _ st fun x H1 F1 g1 r1 => ?_
  refine hb en A σ H1 F1 _ (st.grow g1) fun y H2 F2 g2 r2 => ?_
  obtain ⟨p, vs, rfl, h1, h2⟩ := SR.grow r1 g2
  obtain ⟨v, h3, h4⟩ := atI_rel h2 h
  exact ⟨p, vs, i, v, rfl, r2, h1, h3, k v H2 F2 (g1.trans g2) h4⟩
theorem ev_ixB {ds : List D} {d : D} (ha : Ev X a G R (.bor ds)) (hb : Ev X b G R (.d (.int i))) (h : atI ds i = some d) (hs : PlainIx b := by exact fun _ _ => rfl) : Ev X (.Subscript a b pos) G R (.d d) := by
  intro en A σ H F Q st k
  refine ⟨_, pe_ix ix_list pe_t pe_t hs, ?_⟩
  refine ha en A σ H F _ st fun x H1 F1 g1 r1 => ?_
  refine hb en A σ H1 F1 _ (st.grow g1) fun y H2 F2 g2 r2 => ?_
  obtain ⟨p, vs, rfl, h1, h2⟩ := SR.grow r1 g2
  obtain ⟨v, h3, h4⟩ := atI_rel h2 h
  exact ⟨p, vs, i, v, rfl, r2, SqL.of h1, h3, k v H2 F2 (g1.trans g2) h4⟩
theorem ev_ixS {ns : List Int} {n : Int} (ha : Ev X a G R (.scr ns)) (hb : Ev X b G R (.d (.int i))) (h : atI ns i = some n) (hs : PlainIx b := by exact fun _ _ => rfl) : Ev X (.Subscript a b pos) G R (.d (.int n)) := by
  intro en A σ H F Q st k
  refine ⟨_, pe_ix ix_list pe_t pe_t hs, ?_⟩
  refine ha en A σ H F _ st fun x H1 F1 g1 r1 => ?_
  refine hb en A σ H1 F1 _ (st.grow g1) fun y H2 F2 g2 r2 => ?_
  obtain ⟨p, rfl, h1⟩ := SR.grow r1 g2
  refine ⟨p, _, i, .int n, rfl, r2, h1, ?_, k _ H2 F2 (g1.trans g2) rfl⟩
  unfold atI at h ⊢
  rw [List.length_map]
  cases z : ixN ns.length i with
  | none => rw [z] at h; cases h
  | some j =>
    rw [z] at h
    have h' : ns[j]? = some n := h
    show (ns.map V.int)[j]? = some (V.int n)
    rw [List.getElem?_map, h']
    rfl

/-! ### calls of built-in functions -/
def RC (K : PySem.W.Frag) (r : List V → Hp → VK → Prop) (ss : List S) (s : S) : Prop := ∀ (H0 : Hp) (xs : List V) (H : Hp) (F : Fz) (Q : VK), (∀ a, F a → H a ≠ none) → SRs K ss H0 xs H F → (∀ v H' F', Grow H F H' F' → SR K s H v H' F' → Q v H') → r xs H Q
variable {x : Str} {p : Pos} {id T : String} {r : List V → Hp → VK → Prop}
theorem ev_callB (hc : CallR X (.builtin id) r) (hm : X.mg x = none) (hv : bootBuiltins x = some (.builtin id)) (hr : RC X.K r ss s) (ha : EvA X (e :: es) G R ss) (hg : Gl X x := by rfl) (hn : x ≠ "__name__" := by decide) (hdb : (x == ("__debug__" : Str)) = false := by decide)
    (he : starEach (e :: es) X.env = (false, eval e X.env) :: starEach es X.env := by rfl) (hpl : (backTo pos (starEach es X.env)).any (·.1) = false := by rfl) : Ev X (.Call (.Name x p) (e :: es) [] pos) G R s := by
  intro en A σ H F Q st k
  refine ⟨_, pe_callB hc hg hm hv pa_t hn hdb he hpl, ?_⟩
  refine ha en A σ H F _ st fun vs H1 F1 g1 r1 => ?_
  exact hr H vs H1 F1 Q g1.t r1 fun v H2 F2 g2 r2 => k v H2 F2 (g1.trans g2) (SR.pre g1.nn r2)
theorem ev_callTy (hc : CallR X (.type T) r) (hm : X.mg x = none) (hv : bootBuiltins x = some (.type T)) (hr : RC X.K r ss s) (ha : EvA X (e :: es) G R ss) (hg : Gl X x := by rfl) (hn : x ≠ "__name__" := by decide) (hdb : (x == ("__debug__" : Str)) = false := by decide)
    (he : starEach (e :: es) X.env = (false, eval e X.env) :: starEach es X.env := by rfl) (hpl : (backTo pos (starEach es X.env)).any (·.1) = false := by rfl) : Ev X (.Call (.Name x p) (e :: es) [] pos) G R s := by
  intro en A σ H F Q st k
  refine ⟨_, pe_callTy hc hg hm hv pa_t hn hdb he hpl, ?_⟩
  refine ha en A σ H F _ st fun vs H1 F1 g1 r1 => ?_
  exact hr H vs H1 F1 Q g1.t r1 fun v H2 F2 g2 r2 => k v H2 F2 (g1.trans g2) (SR.pre g1.nn r2)
theorem srs1 {K : PySem.W.Frag} {H H' : Hp} {F' : Fz} {vs : List V} (h : SRs K [s] H vs H' F') : ∃ v, vs = [v] ∧ SR K s H v H' F' := by
  cases vs with
  | nil => exact h.elim
  | cons v r =>
    cases r with
    | nil => exact ⟨v, rfl, h.1⟩
    | cons _ _ => exact h.2.elim
theorem srs2 {K : PySem.W.Frag} {H H' : Hp} {F' : Fz} {vs : List V} (h : SRs K [s, s1] H vs H' F') : ∃ v w, vs = [v, w] ∧ SR K s H v H' F' ∧ SR K s1 H w H' F' := by
  cases vs with
  | nil => exact h.elim
  | cons v r =>
    obtain ⟨w, e, h2⟩ := srs1 h.2
    exact ⟨v, w, by rw [e], h.1, h2⟩
theorem ev_abs (hm : X.mg "abs" = none) (ha : Ev X e G R (.d (.int i))) (hg : Gl X "abs" := by rfl) (he : starEach [e] X.env = [(false, eval e X.env)] := by rfl) : Ev X (.Call (.Name "abs" p) [e] [] pos) G R (.d (.int i.natAbs)) := by
  refine ev_callB call_abs hm (by decide +kernel) ?_ (eva_cons ha eva_nil he) hg (by decide) (by decide) he (by rfl)
  intro H0 xs H F Q ft h k
  obtain ⟨v, e, h'⟩ := srs1 h
  subst e
  replace h' : v = .int i := h'
  refine ⟨i, by rw [h'], ?_⟩
  have q : (if i < 0 then -i else i) = (i.natAbs : Int) := by split <;> omega
  rw [q]
  exact k _ H F (Grow.refl ft) rfl
theorem ev_max2 (hc : X.calm = true) (hm : X.mg "max" = none) (ha : EvA X [a, b] G R [.d (.int i), .d (.int j)]) (hg : Gl X "max" := by rfl) (he : starEach [a, b] X.env = (false, eval a X.env) :: starEach [b] X.env := by rfl) (hpl : (backTo pos (starEach [b] X.env)).any (·.1) = false := by rfl) :
    Ev X (.Call (.Name "max" p) [a, b] [] pos) G R (.d (.int (max i j))) := by
  refine ev_callB (call_max2 hc) hm (by decide +kernel) ?_ ha hg (by decide) (by decide) he hpl
  intro H0 xs H F Q ft h k
  obtain ⟨v, w, e, h1, h2⟩ := srs2 h
  subst e
  have h1' : v = .int i := h1
  have h2' : w = .int j := h2
  refine ⟨i, j, by rw [h1', h2'], ?_⟩
  have q : (if j > i then j else i) = max i j := by split <;> omega
  rw [q]
  exact k _ H F (Grow.refl ft) rfl
theorem ev_min2 (hc : X.calm = true) (hm : X.mg "min" = none) (ha : EvA X [a, b] G R [.d (.int i), .d (.int j)]) (hg : Gl X "min" := by rfl) (he : starEach [a, b] X.env = (false, eval a X.env) :: starEach [b] X.env := by rfl) (hpl : (backTo pos (starEach [b] X.env)).any (·.1) = false := by rfl) :
    Ev X (.Call (.Name "min" p) [a, b] [] pos) G R (.d (.int (min i j))) := by
  refine ev_callB (call_min2 hc) hm (by decide +kernel) ?_ ha hg (by decide) (by decide) he hpl
  intro H0 xs H F Q ft h k
  obtain ⟨v, w, e, h1, h2⟩ := srs2 h
  subst e
  have h1' : v = .int i := h1
  have h2' : w = .int j := h2
  refine ⟨i, j, by rw [h1', h2'], ?_⟩
  have q : (if j < i then j else i) = min i j := by split <;> omega
  rw [q]
  exact k _ H F (Grow.refl ft) rfl
theorem ev_len (n : Nat) (hm : X.mg "len" = none) (ha : Ev X e G R s) (hs : (∃ ds : List D, (s = .bor ds ∨ s = .d (.tup ds)) ∧ ds.length = n) ∨ (∃ ns : List Int, s = .scr ns ∧ ns.length = n)) (hg : Gl X "len" := by rfl) (he : starEach [e] X.env = [(false, eval e X.env)] := by rfl) : Ev X (.Call (.Name "len" p) [e] [] pos) G R (.d (.int n)) := by
  refine ev_callB call_len_seq hm boot_len ?_ (eva_cons ha eva_nil he) hg (by decide) (by decide) he (by rfl)
  intro H0 xs H F Q ft h k
  obtain ⟨v, e, h'⟩ := srs1 h
  subst e
  clear h
  have z : ∃ p ys, [v] = [V.ref p] ∧ (SqL X.K H p ys ∨ SqT X.K H p ys) ∧ ys.length = n := by
    rcases hs with ⟨ds, hs, hl⟩ | ⟨ns, hs, hl⟩
    · rcases hs with rfl | rfl
      · obtain ⟨a, vs, rfl, h1, h2⟩ := h'
        exact ⟨a, vs, rfl, .inl (SqL.of h1), by rw [h2.length, hl]⟩
      · obtain ⟨a, vs, rfl, h1, h2⟩ := h'
        exact ⟨a, vs, rfl, .inr h1, by rw [h2.length, hl]⟩
    · subst hs
      obtain ⟨a, rfl, h1⟩ := h'
      exact ⟨a, _, rfl, .inl h1, by rw [List.length_map, hl]⟩
  obtain ⟨p, ys, e1, e2, e3⟩ := z
  refine ⟨p, ys, e1, e2, ?_⟩
  rw [e3]
  exact k _ H F (Grow.refl ft) rfl
end
end DL

namespace DL
open PySem PySem.Spec L2

/-- an exception by its class and what its own dict holds (none: it has none) -/
structure Exn where
  cls : Addr
  fl : Option (List (Str × D))
def DnF (K : PySem.W.Frag) (F : Fz) (H : Hp) : List (Str × D) → List (Str × V) → Prop
  | [], [] => True
  | p :: ps, q :: qs => p.1 = q.1 ∧ Dn K F H p.2 q.2 ∧ DnF K F H ps qs
  | [], _ :: _ => False
  | _ :: _, [] => False
theorem DnF.mon {K : PySem.W.Frag} {H H' : Hp} {F F' : Fz} (m : Mon H F H' F') : ∀ {ps : List (Str × D)} {qs : List (Str × V)}, DnF K F H ps qs → DnF K F' H' ps qs
  | [], [], _ => trivial
  | _ :: _, _ :: _, h => ⟨h.1, Dn.mon m _ _ h.2.1, DnF.mon m h.2.2⟩
  | [], _ :: _, h => h
  | _ :: _, [], h => h
def ExnOk (K : PySem.W.Frag) (F : Fz) (H : Hp) (x : Exn) (cls : Value) (d : Option Addr) : Prop :=
  cls = .ref x.cls ∧ match x.fl with
    | none => d = none
    | some fs => ∃ dx vs, d = some dx ∧ H dx = some (.xd vs) ∧ DnF K F H fs vs
/-- what is wanted of an exception -/
abbrev Exw := Exn → List S → Res → Prop
def Wd (K : PySem.W.Frag) (en : En) (H0 : Hp) (F0 : Fz) (W : Exw) : WX := fun cls d σ H => ∃ x G R A F, W x G R ∧ Sta K en G R A σ H F ∧ ExnOk K F H x cls d ∧ Mon H0 F0 H F

/-- the state without its slots -/
structure Fin (K : PySem.W.Frag) (e : En) (R : Res) (A : Addr → Prop) (H : Hp) (F : Fz) : Prop where
  fr : ∀ a o, e.H a = some o → ¬ e.A a → H a = some o
  th : ∀ a, e.H a ≠ none → H a ≠ none
  f0 : ∀ a, e.F a → F a
  f1 : ∀ a, F a → e.F a ∨ e.H a = none
  ft : ∀ a, F a → H a ≠ none
  at_ : ∀ a, A a → H a ≠ none ∧ ¬ F a ∧ (e.A a ∨ e.H a = none)
  rs : R.holds K H F A
theorem Sta.fin {K : PySem.W.Frag} {e : En} {G : List S} {R : Res} {A : Addr → Prop} {σ : L2.St} {H : Hp} {F : Fz} (s : Sta K e G R A σ H F) : Fin K e R A H F :=
  ⟨s.fr, s.th, s.f0, s.f1, s.ft, s.at_, s.rs⟩
def Apart (A : Addr → Prop) (s : S) (v : V) : Prop := match s with
  | .own _ => ∀ a, v = .ref a → ¬ A a
  | .dic _ => ∀ a, v = .ref a → ¬ A a
  | _ => True

/-- what is wanted behind a block -/
structure Out where
  nx : List S → Res → Prop
  rt : S → Res → Prop
  bk : List S → Res → Prop := fun _ _ => False
  ct : List S → Res → Prop := fun _ _ => False
structure Post (X : Cx) (W : Exw) (en : En) (H : Hp) (F : Fz) (O : Out) (D : Ends) : Prop where
  tk : Takes X (Wd X.K en H F W)
  nx : ∀ G R A σ H' F', O.nx G R → Sta X.K en G R A σ H' F' → Mon H F H' F' → D.nx σ H'
  rt : ∀ s R A v H' F', O.rt s R → Fin X.K en R A H' F' → SR X.K s en.H v H' F' → Apart A s v → D.rt v H'
  bk : ∀ G R A σ H' F', O.bk G R → Sta X.K en G R A σ H' F' → Mon H F H' F' → D.bk σ H'
  ct : ∀ G R A σ H' F', O.ct G R → Sta X.K en G R A σ H' F' → Mon H F H' F' → D.ct σ H'
theorem Post.from {X : Cx} {W : Exw} {en : En} {H H1 : Hp} {F F1 : Fz} {O : Out} {D : Ends} (p : Post X W en H F O D) (m : Mon H F H1 F1) : Post X W en H1 F1 O D :=
  ⟨p.tk.imp fun cls d σ H' ⟨x, G, R, A, F', h1, h2, h3, h4⟩ => ⟨x, G, R, A, F', h1, h2, h3, m.trans h4⟩, fun G R A σ H' F' h s n => p.nx G R A σ H' F' h s (m.trans n), p.rt, fun G R A σ H' F' h s n => p.bk G R A σ H' F' h s (m.trans n), fun G R A σ H' F' h s n => p.ct G R A σ H' F' h s (m.trans n)⟩

def Ex (X : Cx) (W : Exw) (st : List Stmt) (G : List S) (R : Res) (O : Out) : Prop :=
  ∀ (en : En) (A : Addr → Prop) (σ : L2.St) (H : Hp) (F : Fz) (D : Ends), Sta X.K en G R A σ H F → Post X W en H F O D → tSs X st D σ H
/-- .. and then the rest -/
def Out.thn (O : Out) (X : Cx) (W : Exw) (rest : List Stmt) : Out := { O with nx := fun G R => Ex X W rest G R O }
theorem Post.thn {X : Cx} {W : Exw} {rest : List Stmt} {en : En} {H H' : Hp} {F F' : Fz} {O : Out} {D : Ends} (m : Mon H F H' F') (p : Post X W en H F O D) : Post X W en H' F' (O.thn X W rest) { D with nx := tSs X rest D } :=
  ⟨(p.from m).tk, fun G R A σ H2 F2 h s n => h en A σ H2 F2 D s (p.from (m.trans n)), p.rt, (p.from m).bk, (p.from m).ct⟩

/-! ### targets -/
def tG (X : Cx) (tg : Expr) : TG := fun v σ H Q => ∃ t, PG X tg t ∧ t v σ H Q
def tGs (X : Cx) (tgs : List Expr) : TGs := fun v σ H Q => ∃ t, PGs X tgs t ∧ t v σ H Q
theorem pg_t {X : Cx} {tg : Expr} : PG X tg (tG X tg) := ⟨fun pins s σ H v u Q I r h => by obtain ⟨t, h, q⟩ := h; exact h.run pins s σ H v u Q I r q⟩
theorem pgs_t {X : Cx} {tgs : List Expr} : PGs X tgs (tGs X tgs) := ⟨fun pins s σ H v u Q I r h => by obtain ⟨t, h, q⟩ := h; exact h.run pins s σ H v u Q I r q⟩
def Tg (X : Cx) (tg : Expr) (d : D) (G G' : List S) : Prop :=
  ∀ (en : En) (R : Res) (A : Addr → Prop) (σ : L2.St) (H : Hp) (F : Fz) (v : V) (Q : L2.St → Hp → Prop), Sta X.K en G R A σ H F → Dn X.K F H d v → (∀ σ', Sta X.K en G' R A σ' H F → Q σ' H) → tG X tg v σ H Q
def Tgs (X : Cx) (tgs : List Expr) (ds : List D) (G G' : List S) : Prop :=
  ∀ (en : En) (R : Res) (A : Addr → Prop) (σ : L2.St) (H : Hp) (F : Fz) (vs : List V) (Q : L2.St → Hp → Prop), Sta X.K en G R A σ H F → DnA X.K F H ds vs → (∀ σ', Sta X.K en G' R A σ' H F → Q σ' H) → tGs X tgs vs σ H Q

/-! ### slots written -/
def S.sto : S → Bool
  | .any => true
  | .d _ => true
  | .own _ => true
  | .dic _ => true
  | _ => false
section
variable {K : PySem.W.Frag} {en : En} {G : List S} {R : Res} {A : Addr → Prop} {σ : L2.St} {H H' : Hp} {F F' : Fz}
theorem Sta.nn (st : Sta K en G R A σ H F) : ∀ a, H a = none → en.H a = none := fun a h => by
  cases z : en.H a with
  | none => rfl
  | some o => exact absurd h (st.th a (by rw [z]; exact fun y => nomatch y))
theorem SlotOk.ow {ow ow' : Addr → Nat} {i : Nat} (h : ∀ a, H a ≠ none → ow a = i → ow' a = i) : ∀ {s : S} {o : Option V}, SlotOk K en ow H F A i s o → SlotOk K en ow' H F A i s o
  | .any, _, _ => trivial
  | .d x, o, h => h
  | .own ds, o, ⟨a, vs, h1, h2, h3, h4, h5, h6⟩ => ⟨a, vs, h1, h a (by rw [h5]; exact fun z => nomatch z) h2, h3, h4, h5, h6⟩
  | .bor ds, o, h => h
  | .scr ns, o, h => h
  | .dic ds, o, ⟨a, vs, h1, h2, h3, h4, h5, h6⟩ => ⟨a, vs, h1, h a (by rw [h5]; exact fun z => nomatch z) h2, h3, h4, h5, h6⟩
  | .bdic ds, o, h => h
theorem Sta.put {i : Nat} {s : S} {v : V} (st : Sta K en G R A σ H F) (g : Grow H F H' F') (hs : s.sto = true) (r : SR K s H v H' F') : Sta K en (G.set i s) R A (σ.set i (some v)) H' F' := by
  have st' := st.grow g
  refine ⟨st'.fr, st'.th, st'.f0, st'.f1, st'.ft, st'.at_, st'.rs, by rw [List.length_set, List.length_set]; exact st'.len, ?_⟩
  obtain ⟨ow, q⟩ := st.sl
  have en_none : ∀ a, H a = none → en.H a = none := fun a h => by
    cases z : en.H a with
    | none => rfl
    | some o => exact absurd h (st.th a (by rw [z]; exact fun y => nomatch y))
  have nA : ∀ a, H a = none → ¬ A a := fun a h z => (st.at_ a z).1 h
  have key : ∀ (ow' : Addr → Nat), (∀ a, H a ≠ none → ow' a = ow a) → (SlotOk K en ow' H' F' A i s (some v)) → ∃ ow : Addr → Nat, ∀ (j : Nat) (t : S), (G.set i s)[j]? = some t → ∃ o, (σ.set i (some v))[j]? = some o ∧ SlotOk K en ow H' F' A j t o := by
    intro ow' ho hi
    refine ⟨ow', fun j t ht => ?_⟩
    by_cases e : i = j
    · subst e
      have hl : i < G.length := by
        rcases Nat.lt_or_ge i G.length with z | z
        · exact z
        · rw [List.getElem?_eq_none (by rw [List.length_set]; exact z)] at ht; cases ht
      rw [List.getElem?_set_self hl] at ht
      cases ht
      exact ⟨some v, by rw [List.getElem?_set_self (by rw [← st.len]; exact hl)], hi⟩
    · rw [List.getElem?_set_ne e] at ht
      obtain ⟨o, h1, h2⟩ := q j t ht
      exact ⟨o, by rw [List.getElem?_set_ne e]; exact h1, SlotOk.grow g.mon g.h g.n (SlotOk.ow (fun a hn h => by rw [ho a hn]; exact h) h2)⟩
  cases s with
  | any => exact key ow (fun _ _ => rfl) trivial
  | d x => exact key ow (fun _ _ => rfl) ⟨v, rfl, r⟩
  | own ds =>
    obtain ⟨a, vs, rfl, h2, h3, h4, h5⟩ := r
    refine key (fun b => if b = a then i else ow b) (fun b hb => if_neg (fun (z : b = a) => hb (by rw [z]; exact h2))) ⟨a, vs, rfl, if_pos rfl, h3, nA a h2, h4, h5, en_none a h2⟩
  | dic ds =>
    obtain ⟨a, vs, rfl, h2, h3, h4, h5⟩ := r
    refine key (fun b => if b = a then i else ow b) (fun b hb => if_neg (fun (z : b = a) => hb (by rw [z]; exact h2))) ⟨a, vs, rfl, if_pos rfl, h3, nA a h2, h4, h5, en_none a h2⟩
  | bor ds => cases hs
  | scr ns => cases hs
  | bdic ds => cases hs
/-- forgetting -/
def Le : List S → List S → Prop
  | [], [] => True
  | s :: G, t :: G' => (t = s ∨ t = .any) ∧ Le G G'
  | [], _ :: _ => False
  | _ :: _, [] => False
theorem Le.refl : ∀ G : List S, Le G G
  | [] => trivial
  | _ :: G => ⟨.inl rfl, Le.refl G⟩
theorem Le.len : ∀ {G G' : List S}, Le G G' → G.length = G'.length
  | [], [], _ => rfl
  | _ :: _, _ :: _, h => by rw [List.length_cons, List.length_cons, Le.len h.2]
  | [], _ :: _, h => h.elim
  | _ :: _, [], h => h.elim
theorem Le.get : ∀ {G G' : List S} {i : Nat} {t : S}, Le G G' → G'[i]? = some t → ∃ s, G[i]? = some s ∧ (t = s ∨ t = .any)
  | [], [], _, _, _, e => by simp at e
  | s :: _, _ :: _, 0, t, h, e => by
    have e' : _ = t := Option.some.inj e
    subst e'
    exact ⟨s, rfl, h.1⟩
  | _ :: _, _ :: _, i + 1, t, h, e => Le.get (i := i) h.2 (by simpa using e)
  | [], _ :: _, _, _, h, _ => h.elim
  | _ :: _, [], _, _, h, _ => h.elim
theorem Sta.le {G' : List S} (st : Sta K en G R A σ H F) (l : Le G G') : Sta K en G' R A σ H F := by
  refine ⟨st.fr, st.th, st.f0, st.f1, st.ft, st.at_, st.rs, by rw [← l.len]; exact st.len, ?_⟩
  obtain ⟨ow, q⟩ := st.sl
  refine ⟨ow, fun i t ht => ?_⟩
  obtain ⟨s, h1, h2⟩ := l.get ht
  obtain ⟨o, h3, h4⟩ := q i s h1
  refine ⟨o, h3, ?_⟩
  rcases h2 with rfl | rfl
  · exact h4
  · trivial
/-- an own list stands still from now on -/
theorem Sta.freeze {i : Nat} {ds : List D} (st : Sta K en G R A σ H F) (h : G[i]? = some (.own ds)) : ∃ F', Sta K en (G.set i (.d (.lst ds))) R A σ H F' ∧ Mon H F H F' := by
  obtain ⟨ow, q⟩ := st.sl
  obtain ⟨o, h1, a, vs, rfl, h2, h3, h4, h5, h6, h7⟩ := q i _ h
  have m : Mon H F H (fun b => F b ∨ b = a) := ⟨fun b h => .inl h, fun _ _ h => h, fun _ _ _ h => h⟩
  refine ⟨fun b => F b ∨ b = a, ⟨st.fr, st.th, fun b h => .inl (st.f0 b h), fun b h => ?_, fun b h => ?_, fun b h => ?_, ?_, by rw [List.length_set]; exact st.len, ow, fun j t ht => ?_⟩, m⟩
  · rcases h with h | h
    · exact st.f1 b h
    · rw [h]; exact .inr h7
  · rcases h with h | h
    · exact st.ft b h
    · rw [h, h5]; exact fun z => nomatch z
  · obtain ⟨k1, k2, k3⟩ := st.at_ b h
    refine ⟨k1, fun z => ?_, k3⟩
    rcases z with z | z
    · exact k2 z
    · rw [z] at h; exact h4 h
  · exact R.stable st.rs m fun _ _ => rfl
  · by_cases e : i = j
    · subst e
      have hl : i < G.length := by
        rcases Nat.lt_or_ge i G.length with z | z
        · exact z
        · rw [List.getElem?_eq_none z] at h; cases h
      rw [List.getElem?_set_self hl] at ht
      cases ht
      exact ⟨_, h1, .ref a, rfl, a, vs, rfl, .inr rfl, h5, DnA.mon m _ _ h6⟩
    · rw [List.getElem?_set_ne e] at ht
      obtain ⟨o, k1, k2⟩ := q j t ht
      refine ⟨o, k1, ?_⟩
      cases t with
      | any => trivial
      | d x => obtain ⟨v, z1, z2⟩ := k2; exact ⟨v, z1, Dn.mon m _ _ z2⟩
      | own es =>
        obtain ⟨b, ws, z1, z2, z3, z4, z5, z6, z7⟩ := k2
        refine ⟨b, ws, z1, z2, fun z => ?_, z4, z5, DnA.mon m _ _ z6, z7⟩
        rcases z with z | z
        · exact z3 z
        · rw [z, h2] at z2; exact e z2
      | bor es => obtain ⟨b, ws, z1, z2, z3, z4⟩ := k2; exact ⟨b, ws, z1, z2, z3, DnA.mon m _ _ z4⟩
      | scr ns => exact k2
      | dic es =>
        obtain ⟨b, ws, z1, z2, z3, z4, z5, z6, z7⟩ := k2
        refine ⟨b, ws, z1, z2, fun z => ?_, z4, z5, DnK.mon m z6, z7⟩
        rcases z with z | z
        · exact z3 z
        · rw [z, h2] at z2; exact e z2
      | bdic es => obtain ⟨b, ws, z1, z2, z3, z4⟩ := k2; exact ⟨b, ws, z1, z2, z3, DnK.mon m z4⟩
theorem mon_upd {a : Addr} {o u : HO} (ho : H a = some o) (nt : ∀ xs, o ≠ .tup xs) (nf : ∀ b xs, o ≠ .frz b (.tup xs)) (hf : ¬ F a) : Mon H F (upd H a u) F := by
  refine ⟨fun _ h => h, fun b xs h => ?_, fun b xs f h => ?_⟩
  · rcases h with h | ⟨z, h⟩
    · refine .inl ?_
      rw [upd_ne (fun e => nt xs (by rw [e, ho] at h; exact Option.some.inj h))]
      exact h
    · refine .inr ⟨z, ?_⟩
      rw [upd_ne (fun e => nf z xs (by rw [e, ho] at h; exact Option.some.inj h))]
      exact h
  · rw [upd_ne (fun e => hf (by rw [← e]; exact f))]
    exact h
/-- an own list is changed -/
theorem Sta.mut {i : Nat} {ds es : List D} (st : Sta K en G R A σ H F) (h : G[i]? = some (.own ds)) : ∃ a vs, σ[i]? = some (some (.ref a)) ∧ H a = some (.lst vs) ∧ DnA K F H ds vs ∧
    ∀ ws, DnA K F H es ws → Sta K en (G.set i (.own es)) R A σ (upd H a (.lst ws)) F ∧ Mon H F (upd H a (.lst ws)) F := by
  obtain ⟨ow, q⟩ := st.sl
  obtain ⟨o, h1, a, vs, rfl, h2, h3, h4, h5, h6, h7⟩ := q i _ h
  refine ⟨a, vs, h1, h5, h6, fun ws hw => ?_⟩
  have m : Mon H F (upd H a (.lst ws)) F := mon_upd h5 (fun _ z => nomatch z) (fun _ _ z => nomatch z) h3
  have un : ∀ b o, b ≠ a → H b = some o → upd H a (.lst ws) b = some o := fun b o e h => by rw [upd_ne e]; exact h
  have tr : ∀ b, H b ≠ none → upd H a (.lst ws) b ≠ none := fun b hb => by
    by_cases e : b = a
    · rw [e, upd_same]; exact fun z => nomatch z
    · rw [upd_ne e]; exact hb
  refine ⟨⟨fun b o hb na => un b o (fun e => by rw [e, h7] at hb; cases hb) (st.fr b o hb na), fun b hb => tr b (st.th b hb), st.f0, st.f1, fun b hb => tr b (st.ft b hb), fun b hb => ?_, ?_, by rw [List.length_set]; exact st.len, ow, fun j t ht => ?_⟩, m⟩
  · obtain ⟨k1, k2, k3⟩ := st.at_ b hb
    exact ⟨tr b k1, k2, k3⟩
  · refine R.stable st.rs m fun b hb => ?_
    rw [upd_ne (fun e => h4 (by rw [← e]; exact hb))]
  · by_cases e : i = j
    · subst e
      have hl : i < G.length := by
        rcases Nat.lt_or_ge i G.length with z | z
        · exact z
        · rw [List.getElem?_eq_none z] at h; cases h
      rw [List.getElem?_set_self hl] at ht
      cases ht
      exact ⟨_, h1, a, ws, rfl, h2, h3, h4, upd_same, DnA.mon m _ _ hw, h7⟩
    · rw [List.getElem?_set_ne e] at ht
      obtain ⟨o, k1, k2⟩ := q j t ht
      refine ⟨o, k1, ?_⟩
      cases t with
      | any => trivial
      | d x => obtain ⟨v, z1, z2⟩ := k2; exact ⟨v, z1, Dn.mon m _ _ z2⟩
      | own fs =>
        obtain ⟨b, us, z1, z2, z3, z4, z5, z6, z7⟩ := k2
        exact ⟨b, us, z1, z2, z3, z4, un b _ (fun z => e (by rw [z, h2] at z2; exact z2)) z5, DnA.mon m _ _ z6, z7⟩
      | bor fs => obtain ⟨b, us, z1, z2, z3, z4⟩ := k2; exact ⟨b, us, z1, z2, z3, DnA.mon m _ _ z4⟩
      | scr ns => exact k2
      | dic fs =>
        obtain ⟨b, us, z1, z2, z3, z4, z5, z6, z7⟩ := k2
        exact ⟨b, us, z1, z2, z3, z4, un b _ (fun z => e (by rw [z, h2] at z2; exact z2)) z5, DnK.mon m z6, z7⟩
      | bdic fs => obtain ⟨b, us, z1, z2, z3, z4⟩ := k2; exact ⟨b, us, z1, z2, z3, DnK.mon m z4⟩
end

/-! ### statements -/
section
variable {X : Cx} {W : Exw} {G G' : List S} {R : Res} {O : Out} {e a b c tg : Expr} {rest body : List Stmt} {pos pos' : Pos} {s : S} {d : D}
theorem ex_nil (h : O.nx G R) : Ex X W [] G R O := fun en A σ H F D st p => ⟨_, pss_nil, p.nx G R A σ H F h st Mon.refl⟩
theorem ex_le (l : Le G G') (h : Ex X W rest G' R O) : Ex X W rest G R O := fun en A σ H F D st p => h en A σ H F D (st.le l) p
theorem ex_frz (i : Nat) {ds : List D} (h : G[i]? = some (.own ds)) (k : Ex X W rest (G.set i (.d (.lst ds))) R O) : Ex X W rest G R O := fun en A σ H F D st p => by
  obtain ⟨F', st', m⟩ := st.freeze h
  exact k en A σ H F' D st' (p.from m)
theorem ex_pass (k : Ex X W rest G R O) : Ex X W (.Pass pos :: rest) G R O := fun en A σ H F D st p =>
  ⟨_, pss_cons ps_pass pss_t, k en A σ H F D st p⟩
theorem ex_brk (h : O.bk G R) : Ex X W (.Break pos :: rest) G R O := fun en A σ H F D st p =>
  ⟨_, pss_cons ps_break pss_t, p.bk G R A σ H F h st Mon.refl⟩
theorem ex_cont (h : O.ct G R) : Ex X W (.Continue pos :: rest) G R O := fun en A σ H F D st p =>
  ⟨_, pss_cons ps_continue pss_t, p.ct G R A σ H F h st Mon.refl⟩
theorem ex_ret (he : Ev X e G R s) (h : O.rt s R) : Ex X W (.Return (some e) pos :: rest) G R O := fun en A σ H F D st p => by
  refine ⟨_, pss_cons (ps_ret pe_t) pss_t, ?_⟩
  refine he en A σ H F _ st fun v H' F' g r => ?_
  have st' := st.grow g
  refine p.rt s R A v H' F' h st'.fin (SR.pre st.nn r) ?_
  cases s with
  | own ds =>
    obtain ⟨a, vs, rfl, h2, _⟩ := r
    intro b e z
    cases e
    exact (st.at_ a z).1 h2
  | dic ds =>
    obtain ⟨a, vs, rfl, h2, _⟩ := r
    intro b e z
    cases e
    exact (st.at_ a z).1 h2
  | _ => trivial
end
end DL

namespace DL
open PySem PySem.Spec L2

/-! ### what a loop walks -/
def tI (X : Cx) (tg iter : Expr) : TI := fun σ H Q => ∃ t, PI X tg iter t ∧ t σ H Q
theorem pi_t {X : Cx} {tg iter : Expr} : PI X tg iter (tI X tg iter) := ⟨fun pins s σ H R I h => by obtain ⟨t, h, q⟩ := h; exact h.run pins s σ H R I q⟩
/-- J gives ds, whatever happens on the way -/
def Feed (K : PySem.W.Frag) (J : It) (ds : List D) (en : En) (H1 : Hp) (F1 : Fz) : Prop :=
  ∀ (i : Nat) (H : Hp) (F : Fz), Mon H1 F1 H F → (∀ a o, en.H a = some o → ¬ en.A a → H a = some o) →
    (ds.length ≤ i → J.stop i H) ∧ ∀ d, ds[i]? = some d → J.go i H ∧ ∀ x H', J.yld i H x H' → H' = H ∧ Dn K F H d x
def EvI (X : Cx) (tg iter : Expr) (G : List S) (R : Res) (ds : List D) : Prop :=
  ∀ (en : En) (A : Addr → Prop) (σ : L2.St) (H : Hp) (F : Fz) (Q : It → Hp → Prop), Sta X.K en G R A σ H F → (∀ J H' F', Grow H F H' F' → Feed X.K J ds en H' F' → Q J H') → tI X tg iter σ H Q

section
variable {X : Cx} {W : Exw} {G G' G1 : List S} {R : Res} {O : Out} {e a b c tg iter elt : Expr} {es : List Expr} {rest body orelse : List Stmt} {pos pos' : Pos} {s : S} {d : D} {ds : List D}

theorem evi_tup (h : Ev X iter G R (.d (.tup ds))) : EvI X tg iter G R ds := by
  intro en A σ H F Q st k
  refine ⟨_, pi_tup pe_t, ?_⟩
  refine h en A σ H F _ st fun v H1 F1 g r => ?_
  obtain ⟨p, vs, rfl, h1, h2⟩ := r
  refine ⟨p, rfl, ⟨vs, h1⟩, k _ H1 F1 g fun i H2 F2 m _ => ⟨fun hi => ⟨vs, m.sqT h1, by rw [h2.length]; exact hi⟩, fun d hd => ?_⟩⟩
  obtain ⟨v, e1, e2⟩ := h2.get hd
  refine ⟨⟨vs, v, m.sqT h1, e1⟩, fun x H' y => ⟨y.1, ?_⟩⟩
  have e3 := y.2 vs (m.sqT h1)
  rw [e1] at e3
  cases e3
  exact Dn.mon m _ _ e2
theorem evi_lst (h : Ev X iter G R (.d (.lst ds))) : EvI X tg iter G R ds := by
  intro en A σ H F Q st k
  refine ⟨_, pi_list pe_t, ?_⟩
  refine h en A σ H F _ st fun v H1 F1 g r => ?_
  obtain ⟨p, vs, rfl, h0, h1, h2⟩ := r
  refine ⟨p, rfl, ⟨vs, SqL.of h1⟩, k _ H1 F1 g fun i H2 F2 m _ => ?_⟩
  have h1' := SqL.of (K := X.K) (m.lst _ _ h0 h1)
  refine ⟨fun hi => ⟨vs, h1', by rw [h2.length]; exact hi⟩, fun d hd => ?_⟩
  obtain ⟨v, e1, e2⟩ := h2.get hd
  refine ⟨⟨vs, v, h1', e1⟩, fun x H' y => ⟨y.1, ?_⟩⟩
  have e3 := y.2 vs h1'
  rw [e1] at e3
  cases e3
  exact Dn.mon m _ _ e2
theorem evi_own (h : Ev X iter G R (.own ds)) : EvI X tg iter G R ds := evi_lst (ev_frz h)
/-- over a borrowed list at a name -/
theorem evi_bor (i : Nat) {x : Str} (hs : G[i]? = some (.bor ds)) (hN : X.N[i]? = some x := by rfl) (hv : Vis X.env.scope x := by first | exact Or.inl rfl | exact Or.inr (Or.inl rfl) | exact Or.inr (Or.inr rfl)) (hd : (x == ("__debug__" : Str)) = false := by decide)
    (hcd : (x == ("__classdict__" : Str)) = false := by decide) : EvI X tg (.Name x pos) G R ds := by
  intro en A σ H F Q st k
  refine ⟨_, pi_list (pe_var hN hv hd hcd), ?_⟩
  obtain ⟨ow, o, h1, p, vs, h2, h3, h4, h5⟩ := slot_at st hs
  subst h2
  refine ⟨_, h1, p, rfl, ⟨vs, SqL.of (st.fr _ _ h3 h4)⟩, k _ H F (Grow.refl st.ft) fun i H2 F2 m fr => ?_⟩
  have h1' := SqL.of (K := X.K) (fr _ _ h3 h4)
  refine ⟨fun hi => ⟨vs, h1', by rw [h5.length]; exact hi⟩, fun d hd => ?_⟩
  obtain ⟨v, e1, e2⟩ := h5.get hd
  refine ⟨⟨vs, v, h1', e1⟩, fun x H' y => ⟨y.1, ?_⟩⟩
  have e3 := y.2 vs h1'
  rw [e1] at e3
  cases e3
  exact Dn.mon m _ _ e2
def rangeD (lo : Int) (n : Nat) : List D := (List.range n).map fun (k : Nat) => D.int (lo + (k : Int))
theorem rangeD_len {lo : Int} {n : Nat} : (rangeD lo n).length = n := by unfold rangeD; rw [List.length_map, List.length_range]
theorem rangeD_at {lo : Int} {n i : Nat} {d : D} (h : (rangeD lo n)[i]? = some d) : i < n ∧ d = .int (lo + i) := by
  unfold rangeD at h
  rw [List.getElem?_map] at h
  rcases Nat.lt_or_ge i n with z | z
  · rw [List.getElem?_range z] at h
    exact ⟨z, (Option.some.inj h).symm⟩
  · rw [List.getElem?_eq_none (by rw [List.length_range]; exact z)] at h
    cases h
theorem feed_range {K : PySem.W.Frag} {lo : Int} {n : Nat} {en : En} {H1 : Hp} {F1 : Fz} : Feed K (Itr lo n) (rangeD lo n) en H1 F1 := fun i H F m fr => by
  refine ⟨fun hi => by rw [rangeD_len] at hi; exact hi, fun d hd => ?_⟩
  obtain ⟨h1, rfl⟩ := rangeD_at hd
  exact ⟨h1, fun x H' y => ⟨y.1, y.2⟩⟩
theorem evi_range {n : Nat} {p : Pos} (hm : X.mg "range" = none) (ha : Ev X a G R (.d (.int n))) (hn : n < 2 ^ 62) (hg : Gl X "range" := by rfl) (hs : starEach [a] X.env = [(false, eval a X.env)] := by rfl) : EvI X tg (.Call (.Name "range" p) [a] [] pos) G R (rangeD 0 n) := by
  intro en A σ H F Q st k
  refine ⟨_, pi_range1 hg hm pa_t hs, ?_⟩
  refine eva_cons ha eva_nil hs en A σ H F _ st fun vs H1 F1 g r => ?_
  obtain ⟨v, e, r1⟩ := srs1 r
  have r1' : v = .int n := r1
  refine ⟨n, by rw [e, r1'], by omega, by omega, ?_⟩
  exact k _ H1 F1 g (by rw [Int.toNat_natCast]; exact feed_range)
theorem evi_range2 {i j : Int} {p : Pos} (hm : X.mg "range" = none) (ha : EvA X [a, b] G R [.d (.int i), .d (.int j)]) (hn : -(2 ^ 62) ≤ i ∧ i < 2 ^ 62 ∧ -(2 ^ 62) ≤ j ∧ j < 2 ^ 62) (hg : Gl X "range" := by rfl)
    (hs : starEach [a, b] X.env = [(false, eval a X.env), (false, eval b X.env)] := by rfl) (hs2 : starEach [b] X.env = [(false, eval b X.env)] := by rfl) : EvI X tg (.Call (.Name "range" p) [a, b] [] pos) G R (rangeD i (j - i).toNat) := by
  intro en A σ H F Q st k
  refine ⟨_, pi_range2 hg hm pa_t hs hs2, ?_⟩
  refine ha en A σ H F _ st fun vs H1 F1 g r => ?_
  obtain ⟨v, w, e, r1, r2⟩ := srs2 r
  have r1' : v = .int i := r1
  have r2' : w = .int j := r2
  exact ⟨i, j, by rw [e, r1', r2'], hn, k _ H1 F1 g feed_range⟩

/-! ### assignments -/
theorem ex_set (i : Nat) {x : Str} (hN : X.N.Nodup) (he : Ev X e G R s) (k : Ex X W rest (G.set i s) R O) (hs : s.sto = true := by rfl) (hi : X.N[i]? = some x := by rfl) (hx : Loc X.env.scope x := by first | exact Or.inl rfl | exact Or.inr rfl)
    (hf : X.fn x = true ∨ X.env.scope.names.lookup x = some .local := by first | exact .inl rfl | exact .inr rfl) (hw : swapsWith e (some (.Name x pos')) pos.line X.env = pure false := by rfl) : Ex X W (.Assign [.Name x pos'] e pos :: rest) G R O := fun en A σ H F D st p => by
  refine ⟨_, pss_cons (ps_set hN hi hx pe_t hw hf) pss_t, ?_⟩
  refine he en A σ H F _ st fun v H' F' g r => ?_
  exact k en A _ H' F' D (st.put g hs r) (p.from g.mon)
theorem tg_name (i : Nat) {x : Str} (hN : X.N.Nodup) (hi : X.N[i]? = some x := by rfl) (hx : Loc X.env.scope x := by first | exact Or.inl rfl | exact Or.inr rfl) (hf : X.fn x = true ∨ X.env.scope.names.lookup x = some .local := by first | exact .inl rfl | exact .inr rfl) : Tg X (.Name x pos) d G (G.set i (.d d)) := by
  intro en R A σ H F v Q st r k
  exact ⟨_, pg_name hN hi hx hf, k _ (st.put (Grow.refl st.ft) rfl r)⟩
theorem tgs_nil : Tgs X [] [] G G := by
  intro en R A σ H F vs Q st r k
  exact ⟨_, pgs_nil, r.nil_of, k σ st⟩
theorem tgs_cons {tgs : List Expr} (h1 : Tg X tg d G G1) (h2 : Tgs X tgs ds G1 G') (hs : (assignEach (tg :: tgs) X.env).map (·.2) = assign tg X.env :: (assignEach tgs X.env).map (·.2) := by rfl) : Tgs X (tg :: tgs) (d :: ds) G G' := by
  intro en R A σ H F vs Q st r k
  obtain ⟨v, vr, rfl, r1, r2⟩ := r.cons_of
  refine ⟨_, pgs_cons pg_t pgs_t hs, v, vr, rfl, ?_⟩
  exact h1 en R A σ H F v _ st r1 fun σ' st' => h2 en R A σ' H F vr _ st' r2 k
theorem tg_tup {tgs : List Expr} {k : Nat} (hc : X.calm = true) (h : Tgs X tgs ds G G') (hn : (assignEach tgs X.env).length = ds.length := by rfl) (hst : (assignEach tgs X.env).findIdx? (·.1) = none := by rfl) : Tg X (.Tuple tgs k pos) (.tup ds) G G' := by
  intro en R A σ H F v Q st r q
  obtain ⟨a, vs, rfl, h1, h2⟩ := r
  exact ⟨_, pg_tup hc pgs_t hn hst, a, vs, rfl, h1, h2.length, h en R A σ H F vs _ st h2 q⟩
/-- a, b = e -/
theorem ex_asg (he : Ev X e G R (.d d)) (hg : Tg X tg d G G') (k : Ex X W rest G' R O) (hs : swapsWithSole [tg] e pos.line X.env = pure false := by rfl) (hw : swappedStores [tg] e X.env = pure none := by rfl)
    (h1 : (assignEach [tg] X.env).map (·.2) = [assign tg X.env] := by rfl) : Ex X W (.Assign [tg] e pos :: rest) G R O := fun en A σ H F D st p => by
  refine ⟨_, pss_cons (ps_asg pe_t pg_t hs hw h1) pss_t, ?_⟩
  refine he en A σ H F _ st fun v H' F' g r => ?_
  exact hg en R A σ H' F' v _ (st.grow g) r fun σ' st' => k en A σ' H' F' D st' (p.from g.mon)
/-- a, b = x, y -/
theorem ex_par (i j : Nat) {x y : Str} {s1 s2 : D} {px py pt : Pos} {kt k2 pt2} (hN : X.N.Nodup) (ha : EvA X [a, b] G R [.d s1, .d s2]) (k : Ex X W rest ((G.set i (.d s1)).set j (.d s2)) R O) (hc : X.calm = true := by rfl) (hi : X.N[i]? = some x := by rfl) (hj : X.N[j]? = some y := by rfl) (hij : i ≠ j := by decide)
    (hx : X.env.scope.names.lookup x = some .local := by rfl) (hy : X.env.scope.names.lookup y = some .local := by rfl)
    (hw : swappedStores [.Tuple [.Name x px, .Name y py] kt pt] (.Tuple [a, b] k2 pt2) X.env = pure (some [x, y]) := by rfl)
    (hs : swapsWithSole [.Tuple [.Name x px, .Name y py] kt pt] (.Tuple [a, b] k2 pt2) pos.line X.env = pure false := by rfl) :
    Ex X W (.Assign [.Tuple [.Name x px, .Name y py] kt pt] (.Tuple [a, b] k2 pt2) pos :: rest) G R O := fun en A σ H F D st p => by
  refine ⟨_, pss_cons (ps_par hc hN hi hj hij hx hy pa_t hw hs) pss_t, ?_⟩
  refine ha en A σ H F _ st fun vs H' F' g r => ?_
  obtain ⟨v, w, e, r1, r2⟩ := srs2 r
  refine ⟨v, w, e, ?_⟩
  have st1 := st.put (i := i) (s := .d s1) g rfl r1
  have st2 := st1.put (i := j) (s := .d s2) (Grow.refl g.t) rfl r2
  exact k en A _ H' F' D st2 (p.from g.mon)
/-- an expression as a statement -/
theorem ex_expr (he : Ev X e G R s) (k : Ex X W rest G R O) (hs : swapsWith e none pos.line X.env = pure false := by rfl) : Ex X W (.Expr e pos :: rest) G R O := fun en A σ H F D st p => by
  refine ⟨_, pss_cons (ps_expr pe_t hs) pss_t, ?_⟩
  exact he en A σ H F _ st fun v H' F' g r => k en A σ H' F' D (st.grow g) (p.from g.mon)
/-- x.append(e), x an own list -/
theorem ex_append (i : Nat) {x : Str} {p1 apos cpos : Pos} (he : Ev X e G R (.d d)) (h : G[i]? = some (.own ds)) (hl : ds.length < sizeLine) (k : Ex X W rest (G.set i (.own (ds ++ [d]))) R O)
    (hN : X.N[i]? = some x := by rfl) (hv : Vis X.env.scope x := by first | exact Or.inl rfl | exact Or.inr (Or.inl rfl) | exact Or.inr (Or.inr rfl)) (hd : (x == ("__debug__" : Str)) = false := by decide) (hcd : (x == ("__classdict__" : Str)) = false := by decide)
    (hbase : attributeBase (.Name x p1) "append" X.env (eval (.Name x p1) X.env) = eval (.Name x p1) X.env := by rfl)
    (hfew : ((backTo cpos (starEach [e] X.env)).all (fun x => !x.1) && (backToKw cpos (keywordEach [] X.env)).all (fun x => x.1.isSome)
      && decide ([e].length + ([] : List Keyword).length + (if ([] : List Keyword).isEmpty then 0 else 1) < 30)) = true := by rfl)
    (hline : (apos.endLine == cpos.line) = true := by rfl) (hse : starEach [e] X.env = [(false, eval e X.env)] := by rfl) (hs : swapsWith (.Call (.Attribute (.Name x p1) "append" apos) [e] [] cpos) none pos.line X.env = pure false := by rfl) :
    Ex X W (.Expr (.Call (.Attribute (.Name x p1) "append" apos) [e] [] cpos) pos :: rest) G R O := fun en A σ H F D st p => by
  refine ⟨_, pss_cons (ps_expr (pe_bm PySem.F.plainAttrs_list PySem.F.slot_list_append PySem.F.type_list_append mt_append (pe_var hN hv hd hcd) pa_t hbase hfew hline hse (by rfl)) hs) pss_t, ?_⟩
  obtain ⟨ow, o, h1, a, vs, rfl, h2, h3, h4, h5, h6, h7⟩ := slot_at st h
  refine ⟨_, h1, .inl ⟨rfl, _, SqL.of h5⟩, ?_⟩
  refine eva_cons he eva_nil hse en A σ H F _ st fun ws H' F' g r => ?_
  obtain ⟨v, e1, r1⟩ := srs1 r
  subst e1
  have st' := st.grow g
  obtain ⟨a', vs', k1, k2, k3, k4⟩ := st'.mut (es := ds ++ [d]) h
  rw [h1] at k1
  cases k1
  have h5' := g.h _ _ h5
  rw [k2] at h5'
  cases h5'
  refine ⟨a, vs, v, rfl, rfl, k2, by rw [h6.length]; exact hl, ?_⟩
  obtain ⟨st2, m2⟩ := k4 (vs ++ [v]) (DnA.append k3 ⟨r1, trivial⟩)
  exact k en A σ _ F' D st2 (p.from (g.mon.trans m2))

/-- return x, x an own list -/
theorem ex_retO (i : Nat) {x : Str} {p1 : Pos} (h : G[i]? = some (.own ds)) (ho : O.rt (.own ds) R) (hN : X.N[i]? = some x := by rfl) (hv : Vis X.env.scope x := by first | exact Or.inl rfl | exact Or.inr (Or.inl rfl) | exact Or.inr (Or.inr rfl)) (hd : (x == ("__debug__" : Str)) = false := by decide)
    (hcd : (x == ("__classdict__" : Str)) = false := by decide) : Ex X W (.Return (some (.Name x p1)) pos :: rest) G R O := fun en A σ H F D st p => by
  refine ⟨_, pss_cons (ps_ret (pe_var hN hv hd hcd)) pss_t, ?_⟩
  obtain ⟨ow, o, h1, a, vs, rfl, h2, h3, h4, h5, h6, h7⟩ := slot_at st h
  refine ⟨_, h1, ?_⟩
  exact p.rt (.own ds) R A _ H F ho st.fin ⟨a, vs, rfl, h7, h3, h5, h6⟩ (fun b e => by cases e; exact h4)
theorem ex_retN (h : O.rt (.d .non) R) : Ex X W (.Return none pos :: rest) G R O := fun en A σ H F D st p =>
  ⟨_, pss_cons ps_retN pss_t, p.rt (.d .non) R A .non H F h st.fin rfl trivial⟩

/-! ### tests -/
theorem ex_if {q : Bool} (hc : Tv X c G R q) (h1 : q = true → Ex X W body G R (O.thn X W rest)) (h2 : q = false → Ex X W orelse G R (O.thn X W rest)) : Ex X W (.If c body orelse pos :: rest) G R O := fun en A σ H F D st p => by
  refine ⟨_, pss_cons (ps_if pt_t pss_t pss_t) pss_t, ?_⟩
  refine hc en A σ H F _ st fun H' F' g => ?_
  cases q with
  | true => exact iteT (h1 rfl en A σ H' F' _ (st.grow g) (p.thn g.mon))
  | false => exact iteF (h2 rfl en A σ H' F' _ (st.grow g) (p.thn g.mon))

/-- both ways meet in M -/
theorem ex_ifM (M : List S → Res → Prop) {q : Bool} (hc : Tv X c G R q) (h1 : q = true → Ex X W body G R { O with nx := M }) (h2 : q = false → Ex X W orelse G R { O with nx := M }) (hr : ∀ G' R', M G' R' → Ex X W rest G' R' O) : Ex X W (.If c body orelse pos :: rest) G R O := by
  have up : ∀ b, Ex X W b G R { O with nx := M } → Ex X W b G R (O.thn X W rest) := fun b h en A σ H F D st p => h en A σ H F D st ⟨p.tk, fun G' R' A' σ' H' F' m s' n => p.nx G' R' A' σ' H' F' (hr G' R' m) s' n, p.rt, p.bk, p.ct⟩
  exact ex_if hc (fun z => up _ (h1 z)) fun z => up _ (h2 z)
/-- both ways meet at one state -/
theorem ex_ifJ (G1 : List S) {q : Bool} (hc : Tv X c G R q) (h1 : q = true → Ex X W body G R { O with nx := fun G' R' => G' = G1 ∧ R' = R }) (h2 : q = false → Ex X W orelse G R { O with nx := fun G' R' => G' = G1 ∧ R' = R }) (hr : Ex X W rest G1 R O) : Ex X W (.If c body orelse pos :: rest) G R O :=
  ex_ifM (fun G' R' => G' = G1 ∧ R' = R) hc h1 h2 fun G' R' h => by obtain ⟨rfl, rfl⟩ := h; exact hr
/-- the test is known -/
theorem ex_ifF (hc : Tv X c G R false) (h : Ex X W orelse G R (O.thn X W rest)) : Ex X W (.If c body orelse pos :: rest) G R O := ex_if hc (fun z => nomatch z) fun _ => h
theorem ex_ifT (hc : Tv X c G R true) (h : Ex X W body G R (O.thn X W rest)) : Ex X W (.If c body orelse pos :: rest) G R O := ex_if hc (fun _ => h) fun z => nomatch z
/-- .. and no else -/
theorem ex_ifN (hc : Tv X c G R false) (h : Ex X W rest G R O) : Ex X W (.If c body [] pos :: rest) G R O := ex_ifF hc (ex_nil h)

/-! ### loops -/
theorem ex_while (I : Nat → List S → Prop) (hp : PassesOwn (model X.prog X.w) X.A X.env X.xe) {n0 : Nat} (h0 : I n0 G)
    (ht : ∀ n G, I n G → ∃ q, Tv X c G R q ∧ (q = true → Ex X W body G R { O with nx := fun G' R' => R' = R ∧ ∃ m, m < n ∧ I m G', ct := fun G' R' => R' = R ∧ ∃ m, m < n ∧ I m G', bk := fun G' R' => Ex X W rest G' R' O }) ∧ (q = false → Ex X W rest G R O)) :
    Ex X W (.While c body [] pos :: rest) G R O := fun en A σ H F D st p => by
  refine ⟨_, pss_cons (ps_while hp pt_t pss_t) pss_t, ?_⟩
  refine ⟨fun m σ' H' => ∃ G' A' F', I m G' ∧ Sta X.K en G' R A' σ' H' F' ∧ Mon H F H' F', ⟨n0, G, A, F, h0, st, Mon.refl⟩, ?_⟩
  rintro m σ1 H1 ⟨G1, A1, F1, i1, st1, m1⟩
  obtain ⟨q, hc, hb, hn⟩ := ht m G1 i1
  refine hc en A1 σ1 H1 F1 _ st1 fun H2 F2 g2 => ?_
  have st2 := st1.grow g2
  cases q with
  | false => exact iteF (hn rfl en A1 σ1 H2 F2 D st2 (p.from (m1.trans g2.mon)))
  | true =>
    refine iteT ⟨fun σ' H' => ∃ k, k < m ∧ ∃ G' A' F', I k G' ∧ Sta X.K en G' R A' σ' H' F' ∧ Mon H F H' F', fun σ' H' h => h, ?_⟩
    refine hb rfl en A1 σ1 H2 F2 _ st2 ⟨(p.from (m1.trans g2.mon)).tk, fun G' R' A' σ' H' F' h s' n => ?_, p.rt, fun G' R' A' σ' H' F' h s' n => ?_, fun G' R' A' σ' H' F' h s' n => ?_⟩
    · obtain ⟨rfl, k, hk, ik⟩ := h
      exact ⟨k, hk, G', A', F', ik, s', (m1.trans g2.mon).trans n⟩
    · exact h en A' σ' H' F' D s' (p.from ((m1.trans g2.mon).trans n))
    · obtain ⟨rfl, k, hk, ik⟩ := h
      exact ⟨k, hk, G', A', F', ik, s', (m1.trans g2.mon).trans n⟩
theorem ex_for (I : Nat → List S → Prop) (hp : PassesOwn (model X.prog X.w) X.A X.env X.xe) (hi : EvI X tg iter G R ds) (h0 : I 0 G)
    (ht : ∀ k d G, ds[k]? = some d → I k G → ∃ G', Tg X tg d G G' ∧ Ex X W body G' R { O with nx := fun G' R' => R' = R ∧ I (k + 1) G', ct := fun G' R' => R' = R ∧ I (k + 1) G', bk := fun G' R' => Ex X W rest G' R' O })
    (hn : ∀ G, I ds.length G → Ex X W rest G R O) (hc : X.calm = true := by rfl) (hs : ∀ x, foldedSetIterable iter X.env x = pure x := by intro _; rfl) :
    Ex X W (.For tg iter body [] pos :: rest) G R O := fun en A σ H F D st p => by
  refine ⟨_, pss_cons (ps_for hp hc pi_t pg_t pss_t hs) pss_t, ?_⟩
  refine hi en A σ H F _ st fun J H1 F1 g1 feed => ?_
  refine ⟨fun i m σ' H' => m = ds.length - i ∧ i ≤ ds.length ∧ ∃ G' A' F', I i G' ∧ Sta X.K en G' R A' σ' H' F' ∧ Mon H1 F1 H' F', ⟨ds.length, by simp, Nat.zero_le _, G, A, F1, h0, st.grow g1, Mon.refl⟩, ?_⟩
  rintro i m σ2 H2 ⟨rfl, hle, G2, A2, F2, i2, st2, m2⟩
  obtain ⟨f1, f2⟩ := feed i H2 F2 m2 st2.fr
  rcases Nat.lt_or_ge i ds.length with hlt | hge
  · have hd : ds[i]? = some ds[i] := List.getElem?_eq_getElem hlt
    obtain ⟨f3, f4⟩ := f2 _ hd
    obtain ⟨G3, ht3, hb⟩ := ht i _ G2 hd i2
    refine .inr ⟨f3, fun σ' H' => ∃ G' A' F', I (i + 1) G' ∧ Sta X.K en G' R A' σ' H' F' ∧ Mon H1 F1 H' F', fun σ' H' h => ⟨ds.length - (i + 1), by omega, rfl, hlt, h⟩, fun x H' y => ?_⟩
    obtain ⟨rfl, hx⟩ := f4 x H' y
    refine ht3 en R A2 σ2 H' F2 x _ st2 hx fun σ3 st3 => ?_
    refine hb en A2 σ3 H' F2 _ st3 ⟨(p.from (g1.mon.trans m2)).tk, fun G' R' A' σ' H' F' h s' n => ?_, p.rt, fun G' R' A' σ' H' F' h s' n => ?_, fun G' R' A' σ' H' F' h s' n => ?_⟩
    · obtain ⟨rfl, ik⟩ := h
      exact ⟨G', A', F', ik, s', m2.trans n⟩
    · exact h en A' σ' H' F' D s' (p.from ((g1.mon.trans m2).trans n))
    · obtain ⟨rfl, ik⟩ := h
      exact ⟨G', A', F', ik, s', m2.trans n⟩
  · have e : i = ds.length := by omega
    subst e
    exact .inl ⟨f1 hge, hn G2 i2 en A2 σ2 H2 F2 D st2 (p.from (g1.mon.trans m2))⟩
end

/-! ### defs -/
inductive Oc where
  | ret (s : S)
  | exc (x : Exn)
/-- a contract: what is known of the arguments, how the call ends -/
abbrev Ct := List S → Oc → Prop
def OcOk (K : PySem.W.Frag) (H : Hp) (F : Fz) (Q : VK) (E : XK) : Oc → Prop
  | .ret r => ∀ v H' F', Grow H F H' F' → SR K r H v H' F' → Q v H'
  | .exc x => ∀ cls d H' F', Grow H F H' F' → ExnOk K F' H' x cls d → E cls d H'
def spD (K : PySem.W.Frag) (C : Ct) : Sp := fun vs H Q E => ∃ (F : Fz) (ss : List S) (oc : Oc), C ss oc ∧ (∀ a, F a → H a ≠ none) ∧ SRs K ss H vs H F ∧ OcOk K H F Q E oc

/-- at the entry -/
theorem slots_start {K : PySem.W.Frag} {H : Hp} {F : Fz} (ow : Addr → Nat) (m : Nat) : ∀ {ss : List S} {vs : List V} (n : Nat), SRs K ss H vs H F →
    ∀ (i : Nat) (s : S), (ss ++ List.replicate m S.any)[i]? = some s → ∃ o, (vs.map some ++ List.replicate m none)[i]? = some o ∧ SlotOk K ⟨H, F, fun _ => False⟩ ow H F (fun _ => False) n s o
  | [], [], n, _, i, s, h => by
    rw [List.nil_append, List.getElem?_replicate] at h
    split at h
    · cases h
      refine ⟨none, ?_, trivial⟩
      rw [List.map_nil, List.nil_append, List.getElem?_replicate, if_pos (by assumption)]
    · cases h
  | [], _ :: _, _, h, _, _, _ => h.elim
  | _ :: _, [], _, h, _, _, _ => h.elim
  | t :: ss, v :: vs, n, h, 0, s, e => by
    have e' : t = s := Option.some.inj e
    subst e'
    refine ⟨some v, rfl, ?_⟩
    have r := h.1
    cases t with
    | any => trivial
    | d x => exact ⟨v, rfl, r⟩
    | own ds =>
      obtain ⟨a, vs, rfl, h2, h3, h4, h5⟩ := r
      rw [h2] at h4; cases h4
    | bor ds =>
      obtain ⟨a, vs, rfl, h4, h5⟩ := r
      exact ⟨a, vs, rfl, h4, fun z => z, h5⟩
    | scr ns =>
      obtain ⟨a, rfl, h4⟩ := r
      exact ⟨a, rfl, h4, fun z => z⟩
    | dic ds =>
      obtain ⟨a, vs, rfl, h2, h3, h4, h5⟩ := r
      rw [h2] at h4; cases h4
    | bdic ds =>
      obtain ⟨a, vs, rfl, h4, h5⟩ := r
      exact ⟨a, vs, rfl, h4, fun z => z, h5⟩
  | t :: ss, v :: vs, n, h, i + 1, s, e => slots_start ow m n h.2 i s e

section
variable {P : Program} {w : World} {K : PySem.W.Frag} {mg : Str → Option Value} {base : Heap}
/-- a def keeps its contract -/
theorem fn_mk {x qual : Str} {params : Arguments} {body : List Stmt} {scope : Scope} {dvs : List V} {kws : List (Str × V)} {f : Addr} {fd : FuncData} {N ps : List Str} {k : Nat} {C : Ct} (F : FunD K x qual params body scope dvs kws f fd) (S' : FnScope N ps scope)
    (hlen : ∀ ss oc, C ss oc → ss.length = ps.length)
    (hbody : ∀ (cdv : Value) (A : Around) (outer : List Env) (s : Shared) (H : Hp) (E : XK), Room k (A.deeper (PyProof.Rows.envOfC qual scope s.heap.objs.size f cdv)) →
      PassesOwn (model P w) (A.deeper (PyProof.Rows.envOfC qual scope s.heap.objs.size f cdv)) (PyProof.Rows.envOfC qual scope s.heap.objs.size f cdv) (cxOf (L2.CX P w) P w K mg base N qual scope f cdv A outer s H E).xe → ∀ ss oc, C ss oc →
      Ex (cxOf (L2.CX P w) P w K mg base N qual scope f cdv A outer s H E) (fun x _ _ => oc = .exc x) body (ss ++ List.replicate (N.length - ps.length) S.any) emp { nx := fun _ _ => oc = .ret (.d .non), rt := fun s _ => oc = .ret s }) :
    FnOk P w K mg base (L2.CX P w) (k + 1) f fd ps (spD K C) := by
  have len : ∀ vs H Q E, spD K C vs H Q E → vs.length = ps.length := fun vs H Q E h => by
    obtain ⟨F, ss, oc, h1, h2, h3, h4⟩ := h
    rw [h3.length]
    exact hlen ss oc h1
  refine F.ok S' len fun cdv A outer s H vs Q E hr hsp => ?_
  have hvl := len vs H Q E hsp
  obtain ⟨F, ss, oc, h1, h2, h3, h4⟩ := hsp
  have hl := hlen ss oc h1
  have tk0 : Takes (cxOf (L2.CX P w) P w K mg base N qual scope f cdv A outer s H E) (fun cls d _ H => E cls d H) := takes_of rfl rfl rfl rfl
  have hp : PassesOwn (model P w) (A.deeper (PyProof.Rows.envOfC qual scope s.heap.objs.size f cdv)) (PyProof.Rows.envOfC qual scope s.heap.objs.size f cdv) (cxOf (L2.CX P w) P w K mg base N qual scope f cdv A outer s H E).xe := PassesOwn.leaving
  have st : Sta K ⟨H, F, fun _ => False⟩ (ss ++ List.replicate (N.length - ps.length) S.any) emp (fun _ => False) (start N vs) H F := by
    refine ⟨fun a o h _ => h, fun a h => h, fun a h => h, fun a h => .inl h, h2, fun a h => h.elim, fun a h => h, ?_, fun _ => 0, fun i t ht => ?_⟩
    · unfold L2.start
      rw [List.length_append, List.length_append, List.length_replicate, List.length_replicate, List.length_map, hl, hvl]
    · unfold L2.start
      rw [hvl]
      obtain ⟨o, k1, k2⟩ := slots_start (K := K) (F := F) (fun _ => 0) (N.length - ps.length) 0 h3 i t ht
      refine ⟨o, k1, ?_⟩
      cases t with
      | own ds => obtain ⟨a, vs, z1, z2, z3, z4, z5, z6, z7⟩ := k2; have z7' : H a = none := z7; rw [z7'] at z5; cases z5
      | dic ds => obtain ⟨a, vs, z1, z2, z3, z4, z5, z6, z7⟩ := k2; have z7' : H a = none := z7; rw [z7'] at z5; cases z5
      | any => exact k2
      | d x => exact k2
      | bor x => exact k2
      | scr x => exact k2
      | bdic x => exact k2
  have fin : ∀ {R A' H' F'}, Fin K ⟨H, F, fun _ => False⟩ R A' H' F' → Grow H F H' F' := fun z => ⟨fun a o h => z.fr a o h fun y => y, z.f0, z.f1, z.ft⟩
  refine ⟨_, pss_t, hbody cdv A outer s H E hr hp ss oc h1 ⟨H, F, fun _ => False⟩ (fun _ => False) (start N vs) H F _ st ⟨tk0.imp fun cls d σ H' hw => ?_, fun G R A' σ H' F' h s' m => ?_, fun s R A' v H' F' h s' r _ => ?_, fun _ _ _ _ _ _ h => h.elim, fun _ _ _ _ _ _ h => h.elim⟩⟩
  · obtain ⟨x, G, R, A', F', rfl, s', hx, _⟩ := hw
    exact h4 cls d H' F' (fin s'.fin) hx
  · have h' : oc = .ret (.d .non) := h
    subst h'
    exact h4 .non H' F' (fin s'.fin) rfl
  · have h' : oc = .ret s := h
    subst h'
    exact h4 v H' F' (fin s') r
end
/-- a def of the module by its contract -/
structure Fn (P : Program) (w : World) (K : PySem.W.Frag) (mg : Str → Option Value) (base : Heap) (x : Str) (k : Nat) (C : Ct) : Prop where
  ex : ∃ (f : Addr) (fd : FuncData) (ps : List Str), FnOk P w K mg base (L2.CX P w) k f fd ps (spD K C) ∧ mg x = some (.ref f) ∧ PySem.W.keepIn K (.ref f) = true ∧ Binds K fd ps []
def S.arg : S → Bool
  | .own _ => false
  | .dic _ => false
  | _ => true
theorem srs_here {K : PySem.W.Frag} {H H' : Hp} {F' : Fz} : ∀ {ss : List S} {vs : List V}, ss.all S.arg = true → SRs K ss H vs H' F' → SRs K ss H' vs H' F'
  | [], [], _, _ => trivial
  | s :: ss, v :: vs, q, h => by
    rw [List.all_cons, Bool.and_eq_true] at q
    refine ⟨?_, srs_here q.2 h.2⟩
    have h1 := h.1
    cases s with
    | own ds => cases q.1
    | dic ds => cases q.1
    | any => trivial
    | d x => exact h1
    | bor x => exact h1
    | scr x => exact h1
    | bdic x => exact h1
  | [], _ :: _, _, h => h.elim
  | _ :: _, [], _, h => h.elim
section
variable {X : Cx} {W : Exw} {G : List S} {R : Res} {O : Out} {e : Expr} {es : List Expr} {rest : List Stmt} {pos pos' p : Pos} {s : S} {ss : List S} {x : Str} {k j : Nat} {C : Ct}
theorem ev_call (f : Fn X.prog X.w X.K X.mg X.base x k C) (hr : Room j X.A) (hk : k ≤ j) (ha : EvA X (e :: es) G R ss) (h : C ss (.ret s)) (hss : ss.all S.arg = true := by rfl) (hg : Gl X x := by rfl) (hdb : (x == ("__debug__" : Str)) = false := by decide)
    (he : starEach (e :: es) X.env = (false, eval e X.env) :: starEach es X.env := by rfl) (hpl : (backTo pos (starEach es X.env)).any (·.1) = false := by rfl) : Ev X (.Call (.Name x p) (e :: es) [] pos) G R s := by
  intro en A σ H F Q st q
  obtain ⟨f, fd, ps, h1, h2, h3, h4⟩ := f.ex
  refine ⟨_, pe_call h1 (hr.mono hk) hg h2 h3 h4 .nil passL pa_t hdb he hpl, ?_⟩
  refine ha en A σ H F _ st fun vs H1 F1 g1 r1 => ?_
  rw [List.append_nil]
  refine ⟨F1, ss, .ret s, h, g1.t, ?_, fun v H2 F2 g2 r2 => q v H2 F2 (g1.trans g2) (SR.pre g1.nn r2)⟩
  exact srs_here hss r1
end
end DL

namespace DL
open PySem PySem.Spec L2

/-- C() of an own exception class -/
theorem pmk_own0 {X : Cx} {C : Addr} {bmB : List Value} {B newId initId : String} {x : Str} {p pos : Pos} (F : ExcBaseFacts B newId initId bmB) (q : PySem.W.excIn X.K C bmB newId = true) (gC : X.mg x = some (.ref C)) (kC : PySem.W.keepIn X.K (.ref C) = true) (r : Raises X (.ref C)) (hg : Gl X x)
    (hdb : (x == ("__debug__" : Str)) = false := by decide) : PMk X (.Call (.Name x p) [] [] pos) (fun _ H Q => Q (.ref C) none H) := by
  intro pins s σ H Q I h
  refine wpAny_Call_Name_kw (ld_glob I hg gC ?_ hdb)
  refine PySem.W.callWith_K0 I.kIn kC ?_
  show wpAny _ _ (call (.ref C) []) _ _ _
  obtain ⟨bm, N, nm, qn, bs, hdct, sn, sub, ab, col, dd, k0, k1, k2, k3, k5, mN, hC, hN, hni, T⟩ := exc_obj I.kIn q
  refine PySem.wpAny_call_exc_subT F T hC hN hni (fun h' e hm => ?_) (Nat.zero_le _)
  exact mk_of I hm r h (I.hok.gone hm.new)

/-- what the written part says of an own exception class without an __init__ -/
structure ExcC (K : PySem.W.Frag) (mg : Str → Option Value) (x : Str) (C : Addr) : Prop where
  g : mg x = some (.ref C)
  e : PySem.W.excIn K C [.type "ValueError", .type "Exception", .type "BaseException", .type "object"] "ValueError.__new__" = true
  k : PySem.W.keepIn K (.ref C) = true
  b : PySem.W.subIn K (.ref C) (.type "BaseException") = some true
  t : PySem.W.typeIn K (.ref C) = some (.type "type")

section
variable {X : Cx} {W : Exw} {G G' : List S} {R : Res} {O : Out} {e : Expr} {es : List Expr} {rest body : List Stmt} {pos pos' p pos2 : Pos} {s : S} {ss : List S} {x : Str} {k j : Nat} {C : Ct} {xn : Exn}
theorem ex_raise0 {a : Addr} (T : ExcC X.K X.mg x a) (h : W ⟨a, none⟩ G R) (hc : X.calm = true := by rfl) (hg : Gl X x := by rfl) (hdb : (x == ("__debug__" : Str)) = false := by decide) :
    Ex X W (.Raise (some (.Call (.Name x p) [] [] pos2)) none pos :: rest) G R O := fun en A σ H F D st po => by
  refine ⟨_, pss_cons (ps_raise hc po.tk (pmk_own0 PySem.F.excBase_ValueError T.e T.g T.k (raises_own T.b T.t) hg hdb)) pss_t, ?_⟩
  exact ⟨_, G, R, A, F, h, st, ⟨rfl, rfl⟩, Mon.refl⟩

/-! ### a call that raises -/
def EvX (X : Cx) (e : Expr) (G : List S) (R : Res) (xn : Exn) : Prop :=
  ∀ (W : Exw) (en : En) (A : Addr → Prop) (σ : L2.St) (H H0 : Hp) (F F0 : Fz) (Q : VK), Takes X (Wd X.K en H0 F0 W) → Mon H0 F0 H F → Sta X.K en G R A σ H F → W xn G R → tE X e σ H Q
theorem evx_call (f : Fn X.prog X.w X.K X.mg X.base x k C) (hr : Room j X.A) (hk : k ≤ j) (ha : EvA X (e :: es) G R ss) (h : C ss (.exc xn)) (hss : ss.all S.arg = true := by rfl) (hg : Gl X x := by rfl) (hdb : (x == ("__debug__" : Str)) = false := by decide)
    (he : starEach (e :: es) X.env = (false, eval e X.env) :: starEach es X.env := by rfl) (hpl : (backTo pos (starEach es X.env)).any (·.1) = false := by rfl) : EvX X (.Call (.Name x p) (e :: es) [] pos) G R xn := by
  intro W en A σ H H0 F F0 Q tk m st hw
  obtain ⟨f, fd, ps, h1, h2, h3, h4⟩ := f.ex
  refine ⟨_, pe_callS h1 (hr.mono hk) hg h2 h3 h4 (fun σ => passAt tk σ) pa_t hdb he hpl, ?_⟩
  refine ha en A σ H F _ st fun vs H1 F1 g1 r1 => ?_
  refine ⟨F1, ss, .exc xn, h, g1.t, srs_here hss r1, fun cls d H2 F2 g2 hx => ?_⟩
  have g := g1.trans g2
  exact ⟨xn, G, R, A, F2, hw, st.grow g, hx, m.trans g.mon⟩
theorem ex_retX (he : EvX X e G R xn) (h : W xn G R) : Ex X W (.Return (some e) pos :: rest) G R O := fun en A σ H F D st po => by
  refine ⟨_, pss_cons (ps_ret pe_t) pss_t, ?_⟩
  exact he W en A σ H H F F _ po.tk Mon.refl st h
theorem ex_exprX (he : EvX X e G R xn) (h : W xn G R) (hs : swapsWith e none pos.line X.env = pure false := by rfl) : Ex X W (.Expr e pos :: rest) G R O := fun en A σ H F D st po => by
  refine ⟨_, pss_cons (ps_expr pe_t hs) pss_t, ?_⟩
  exact he W en A σ H H F F _ po.tk Mon.refl st h
theorem ex_setX (i : Nat) (he : EvX X e G R xn) (h : W xn G R) (hN : X.N.Nodup) (hi : X.N[i]? = some x := by rfl) (hx : Loc X.env.scope x := by first | exact Or.inl rfl | exact Or.inr rfl)
    (hf : X.fn x = true ∨ X.env.scope.names.lookup x = some .local := by first | exact .inl rfl | exact .inr rfl) (hw : swapsWith e (some (.Name x pos')) pos.line X.env = pure false := by rfl) : Ex X W (.Assign [.Name x pos'] e pos :: rest) G R O := fun en A σ H F D st po => by
  refine ⟨_, pss_cons (ps_set hN hi hx pe_t hw hf) pss_t, ?_⟩
  exact he W en A σ H H F F _ po.tk Mon.refl st h

/-! ### try -/
theorem takes_no {X : Cx} {en : En} {H : Hp} {F : Fz} : Takes X (Wd X.K en H F (fun _ _ _ => False)) := by
  refine takes0.imp fun cls d σ H' h => ?_
  obtain ⟨_, _, _, _, _, h, _⟩ := h
  exact h
/-- try: body except C: suite (one clause, no name) -/
theorem ex_try {c : Addr} {b0 : Stmt} {suite : List Stmt} {np pos' : Pos} (hn : Names X x (.ref c))
    (hb : ∀ (pn : List (Addr × Obj)) (xe : Value → Shared → Prop), PassesOwn (model X.prog X.w) X.A X.env xe →
      Ex (X.tr pn xe) (fun xn G' R' => ∃ b, PySem.W.exmOne X.K (.ref xn.cls) (.ref c) = some b ∧
        (b = true → ∀ (a : Addr) (oe : Obj) (pn : List (Addr × Obj)), Ex (X.suite a ((a, oe) :: pn)) (fun _ _ _ => False) (b0 :: suite) G' R' (O.thn X W rest)) ∧ (b = false → W xn G' R')) body G R (O.thn X W rest))
    (hs : X.stack = X.env :: X.outer := by rfl) (hf : X.env.frame = some X.env.locals := by rfl) :
    Ex X W (.Try body [.ExceptHandler (some (.Name x np)) none (b0 :: suite) pos'] [] [] pos :: rest) G R O := fun en A σ H F D st po => by
  refine ⟨_, pss_cons (ps_try_many (tb := fun W' D σ H => ∀ (pn : List (Addr × Obj)) (xe : Value → Shared → Prop), Takes (X.tr pn xe) W' → PassesOwn (model X.prog X.w) X.A X.env xe → tSs (X.tr pn xe) body D σ H)
    (l := [(.ref c, fun a cls d D σ H => ∀ (oe : Obj) (pn : List (Addr × Obj)), Zc cls d oe → (∃ vs, oe.data = .fields vs) → tSs (X.suite a ((a, oe) :: pn)) (b0 :: suite) D σ H)])
    hs hf po.tk (fun W' pn xe tk hp => ⟨fun pins s σ H D I h => pss_t.run pins s σ H D I (h pn xe tk hp)⟩)
    (.cons hn (fun a oe cls d pn z1 z2 => ⟨fun pins s σ H D I h => pss_t.run pins s σ H D I (h oe pn z1 z2)⟩) .nil)) pss_t, ?_⟩
  intro pn xe tk hp
  have po' := po.thn (rest := rest) Mon.refl
  refine hb pn xe hp en A σ H F _ st ⟨tk.imp fun cls d σ' H' hw => ?_, po'.nx, po'.rt, po'.bk, po'.ct⟩
  obtain ⟨xn, G', R', A', F', ⟨b, hb1, hb2, hb3⟩, st', ⟨hx1, hx2⟩, m⟩ := hw
  refine ⟨b, by rw [hx1]; exact hb1, fun e a ha oe pn' z1 z2 => ?_, fun e => ?_⟩
  · have po2 := po.thn (rest := rest) m
    exact hb2 e a oe pn' en A' σ' H' F' _ st' ⟨takes_no, po2.nx, po2.rt, po2.bk, po2.ct⟩
  · exact ⟨xn, G', R', A', F', hb3 e, st', ⟨hx1, hx2⟩, m⟩
theorem ex_tryM (Z : Exn → List S → Res → Prop) (M : List S → Res → Prop) {c : Addr} {b0 : Stmt} {suite : List Stmt} {np pos' : Pos} (hn : Names X x (.ref c))
    (hb : ∀ (pn : List (Addr × Obj)) (xe : Value → Shared → Prop), PassesOwn (model X.prog X.w) X.A X.env xe → Ex (X.tr pn xe) Z body G R { O with nx := M })
    (hh : ∀ xn G' R', Z xn G' R' → ∃ b, PySem.W.exmOne X.K (.ref xn.cls) (.ref c) = some b ∧
        (b = true → ∀ (a : Addr) (oe : Obj) (pn : List (Addr × Obj)), Ex (X.suite a ((a, oe) :: pn)) (fun _ _ _ => False) (b0 :: suite) G' R' { O with nx := M }) ∧ (b = false → W xn G' R'))
    (hr : ∀ G' R', M G' R' → Ex X W rest G' R' O)
    (hs : X.stack = X.env :: X.outer := by rfl) (hf : X.env.frame = some X.env.locals := by rfl) :
    Ex X W (.Try body [.ExceptHandler (some (.Name x np)) none (b0 :: suite) pos'] [] [] pos :: rest) G R O := by
  refine ex_try hn (fun pn xe hp => ?_) hs hf
  intro en A σ H F D st p
  refine hb pn xe hp en A σ H F D st ⟨p.tk.imp fun cls d σ' H' hw => ?_, fun G' R' A' σ' H' F' m s' n => p.nx G' R' A' σ' H' F' (hr G' R' m) s' n, p.rt, p.bk, p.ct⟩
  obtain ⟨xn, G', R', A', F', hz, r⟩ := hw
  obtain ⟨b, h1, h2, h3⟩ := hh xn G' R' hz
  refine ⟨xn, G', R', A', F', ⟨b, h1, fun z a oe pn' => ?_, h3⟩, r⟩
  intro en' A2 σ2 H2 F2 D2 st2 p2
  exact h2 z a oe pn' en' A2 σ2 H2 F2 D2 st2 ⟨p2.tk, fun G' R' A' σ' H' F' m s' n => p2.nx G' R' A' σ' H' F' (hr G' R' m) s' n, p2.rt, p2.bk, p2.ct⟩
end
end DL

namespace DL
open PySem PySem.Spec L2
section
variable {X : Cx} {G : List S} {R : Res} {a b : Expr} {pos : Pos} {i j : Int}
theorem ro_eqI {K : PySem.W.Frag} : RO K rEq (.d (.int i)) (.d (.int j)) (.d (.bl (decide (i = j)))) := fun H0 x y H F Q ft hx hy k => by
  have hx' : x = .int i := hx
  have hy' : y = .int j := hy
  subst hx' hy'
  refine ⟨rfl, k _ H F (Grow.refl ft) ?_⟩
  show V.bl _ = V.bl _
  rw [dec_int, Bool.beq_eq_decide_eq]
theorem ro_neI {K : PySem.W.Frag} : RO K rNe (.d (.int i)) (.d (.int j)) (.d (.bl (!decide (i = j)))) := fun H0 x y H F Q ft hx hy k => by
  have hx' : x = .int i := hx
  have hy' : y = .int j := hy
  subst hx' hy'
  refine ⟨rfl, k _ H F (Grow.refl ft) ?_⟩
  show V.bl _ = V.bl _
  rw [dec_int, Bool.beq_eq_decide_eq]
theorem ro_eqS {K : PySem.W.Frag} {x1 x2 : Str} : RO K rEq (.d (.str x1)) (.d (.str x2)) (.d (.bl (decide (x1 = x2)))) := fun H0 x y H F Q ft hx hy k => by
  have hx' : x = .str x1 := hx
  have hy' : y = .str x2 := hy
  subst hx' hy'
  refine ⟨rfl, k _ H F (Grow.refl ft) ?_⟩
  show V.bl _ = V.bl _
  by_cases e : x1 = x2
  · rw [decide_eq_true e, decide_eq_true (by rw [e])]
  · rw [decide_eq_false e, decide_eq_false (fun z => e (by cases z; rfl))]
theorem ro_neS {K : PySem.W.Frag} {x1 x2 : Str} : RO K rNe (.d (.str x1)) (.d (.str x2)) (.d (.bl (!decide (x1 = x2)))) := fun H0 x y H F Q ft hx hy k => by
  have hx' : x = .str x1 := hx
  have hy' : y = .str x2 := hy
  subst hx' hy'
  refine ⟨rfl, k _ H F (Grow.refl ft) ?_⟩
  show V.bl _ = V.bl _
  by_cases e : x1 = x2
  · rw [decide_eq_true e, decide_eq_true (by rw [e])]
  · rw [decide_eq_false e, decide_eq_false (fun z => e (by cases z; rfl))]
theorem tv_eqI (ha : Ev X a G R (.d (.int i))) (hb : Ev X b G R (.d (.int j))) : Tv X (.Compare a [.Eq] [b] pos) G R (decide (i = j)) := tv_cmpR op_eq ro_eqI ha hb (nomark _)
theorem tv_neI (ha : Ev X a G R (.d (.int i))) (hb : Ev X b G R (.d (.int j))) : Tv X (.Compare a [.NotEq] [b] pos) G R (!decide (i = j)) := tv_cmpR op_ne ro_neI ha hb (nomark _)
theorem ev_eqI (ha : Ev X a G R (.d (.int i))) (hb : Ev X b G R (.d (.int j))) : Ev X (.Compare a [.Eq] [b] pos) G R (.d (.bl (decide (i = j)))) := ev_cmpR op_eq ro_eqI ha hb (nomark _)
theorem ev_neI (ha : Ev X a G R (.d (.int i))) (hb : Ev X b G R (.d (.int j))) : Ev X (.Compare a [.NotEq] [b] pos) G R (.d (.bl (!decide (i = j)))) := ev_cmpR op_ne ro_neI ha hb (nomark _)
theorem tv_eqS {x1 x2 : Str} (ha : Ev X a G R (.d (.str x1))) (hb : Ev X b G R (.d (.str x2))) : Tv X (.Compare a [.Eq] [b] pos) G R (decide (x1 = x2)) := tv_cmpR op_eq ro_eqS ha hb (nomark _)
theorem tv_neS {x1 x2 : Str} (ha : Ev X a G R (.d (.str x1))) (hb : Ev X b G R (.d (.str x2))) : Tv X (.Compare a [.NotEq] [b] pos) G R (!decide (x1 = x2)) := tv_cmpR op_ne ro_neS ha hb (nomark _)

/-! ### data at any depth -/
mutual
def D.py : D → PyData
  | .non => .none
  | .bl b => .bool b
  | .int i => .int i
  | .str x => .str x
  | .obj _ => .none
  | .tup ds => .tuple (D.pys ds)
  | .lst ds => .list (D.pys ds)
def D.pys : List D → List PyData
  | [] => []
  | d :: ds => d.py :: D.pys ds
end
mutual
/-- no instances in it -/
def D.pure : D → Bool
  | .obj _ => false
  | .tup ds => D.pures ds
  | .lst ds => D.pures ds
  | _ => true
def D.pures : List D → Bool
  | [] => true
  | d :: ds => d.pure && D.pures ds
end
mutual
/-- no truth values in it either -/
def D.nb : D → Bool
  | .obj _ => false
  | .bl _ => false
  | .tup ds => D.nbs ds
  | .lst ds => D.nbs ds
  | _ => true
def D.nbs : List D → Bool
  | [] => true
  | d :: ds => d.nb && D.nbs ds
end
mutual
theorem D.nb_pure : ∀ d : D, d.nb = true → d.pure = true
  | .non, _ => rfl
  | .bl _, h => by cases h
  | .int _, _ => rfl
  | .str _, _ => rfl
  | .obj _, h => by cases h
  | .tup ds, h => D.nbs_pures ds h
  | .lst ds, h => D.nbs_pures ds h
theorem D.nbs_pures : ∀ ds : List D, D.nbs ds = true → D.pures ds = true
  | [], _ => rfl
  | d :: ds, h => by
    have h' : (d.nb && D.nbs ds) = true := h
    rw [Bool.and_eq_true] at h'
    show (d.pure && D.pures ds) = true
    rw [D.nb_pure d h'.1, D.nbs_pures ds h'.2]
    rfl
end
mutual
theorem Dn.dp {K : PySem.W.Frag} {F : Fz} {H : Hp} : ∀ (d : D) (v : V), d.pure = true → Dn K F H d v → Dp K H v d.py
  | .non, v, _, h => by have h' : v = .non := h; subst h'; exact .non
  | .bl b, v, _, h => by have h' : v = .bl b := h; subst h'; exact .bl b
  | .int b, v, _, h => by have h' : v = .int b := h; subst h'; exact .int b
  | .str b, v, _, h => by have h' : v = .str b := h; subst h'; exact .str b
  | .obj _, v, h, _ => by cases h
  | .tup ds, v, p, h => by
    obtain ⟨a, vs, rfl, h1, h2⟩ := h
    exact .tup h1 (DnA.dp ds vs p h2)
  | .lst ds, v, p, h => by
    obtain ⟨a, vs, rfl, _, h1, h2⟩ := h
    exact .lst (SqL.of h1) (DnA.dp ds vs p h2)
theorem DnA.dp {K : PySem.W.Frag} {F : Fz} {H : Hp} : ∀ (ds : List D) (vs : List V), D.pures ds = true → DnA K F H ds vs → DpAll K H vs (D.pys ds)
  | [], [], _, _ => .nil
  | d :: ds, v :: vs, p, h => by
    have p' : (d.pure && D.pures ds) = true := p
    rw [Bool.and_eq_true] at p'
    exact .cons (Dn.dp d v p'.1 h.1) (DnA.dp ds vs p'.2 h.2)
  | [], _ :: _, _, h => h.elim
  | _ :: _, [], _, h => h.elim
end
mutual
theorem D.eqv_iff : ∀ d e : D, d.nb = true → e.nb = true → (PyData.eqv d.py e.py = true ↔ d = e)
  | .non, e, _, he => by cases e <;> simp_all [D.py, PyData.eqv, D.nb]
  | .bl _, _, h, _ => by cases h
  | .int i, e, _, he => by cases e <;> simp_all [D.py, PyData.eqv, D.nb]
  | .str i, e, _, he => by cases e <;> simp_all [D.py, PyData.eqv, D.nb]
  | .obj _, _, h, _ => by cases h
  | .tup ds, e, hd, he => by
    cases e with
    | tup es => 
      have q := D.eqvs_iff ds es hd he
      simp only [D.py, PyData.eqv, D.tup.injEq]
      exact q
    | _ => simp_all [D.py, PyData.eqv, D.nb]
  | .lst ds, e, hd, he => by
    cases e with
    | lst es => 
      have q := D.eqvs_iff ds es hd he
      simp only [D.py, PyData.eqv, D.lst.injEq]
      exact q
    | _ => simp_all [D.py, PyData.eqv, D.nb]
theorem D.eqvs_iff : ∀ ds es : List D, D.nbs ds = true → D.nbs es = true → (PyData.eqvAll (D.pys ds) (D.pys es) = true ↔ ds = es)
  | [], [], _, _ => by simp [D.pys, PyData.eqvAll]
  | [], _ :: _, _, _ => by simp [D.pys, PyData.eqvAll]
  | _ :: _, [], _, _ => by simp [D.pys, PyData.eqvAll]
  | d :: ds, e :: es, hd, he => by
    have hd' : (d.nb && D.nbs ds) = true := hd
    have he' : (e.nb && D.nbs es) = true := he
    rw [Bool.and_eq_true] at hd' he'
    have q1 := D.eqv_iff d e hd'.1 he'.1
    have q2 := D.eqvs_iff ds es hd'.2 he'.2
    simp only [D.pys, PyData.eqvAll, Bool.and_eq_true, q1, q2, List.cons.injEq]
end
mutual
/-- the depth is at most n, the texts are fit for == -/
def D.shp : Nat → D → Bool
  | _, .non => true
  | _, .bl _ => true
  | _, .int _ => true
  | _, .str x => PyData.canLay0 (.str x)
  | _, .obj _ => true
  | 0, .tup _ => false
  | 0, .lst _ => false
  | n + 1, .tup ds => D.shps n ds
  | n + 1, .lst ds => D.shps n ds
def D.shps : Nat → List D → Bool
  | _, [] => true
  | n, d :: ds => D.shp n d && D.shps n ds
end
mutual
theorem D.shp_ok : ∀ (n : Nat) (d : D), d.shp n = true → d.py.canLay0 = true ∧ d.py.depth ≤ n
  | _, .non, _ => ⟨rfl, by simp [D.py, PyData.depth]⟩
  | _, .bl _, _ => ⟨rfl, by simp [D.py, PyData.depth]⟩
  | _, .int _, _ => ⟨rfl, by simp [D.py, PyData.depth]⟩
  | _, .str x, h => ⟨h, by simp [D.py, PyData.depth]⟩
  | _, .obj _, _ => ⟨rfl, by simp [D.py, PyData.depth]⟩
  | 0, .tup _, h => by cases h
  | 0, .lst _, h => by cases h
  | n + 1, .tup ds, h => by
    obtain ⟨h1, h2⟩ := D.shps_ok n ds h
    exact ⟨by simpa [D.py, PyData.canLay0] using h1, by simp [D.py, PyData.depth]; omega⟩
  | n + 1, .lst ds, h => by
    obtain ⟨h1, h2⟩ := D.shps_ok n ds h
    exact ⟨by simpa [D.py, PyData.canLay0] using h1, by simp [D.py, PyData.depth]; omega⟩
theorem D.shps_ok : ∀ (n : Nat) (ds : List D), D.shps n ds = true → PyData.canLayAll0 (D.pys ds) = true ∧ PyData.depthAll (D.pys ds) ≤ n
  | _, [], _ => ⟨by simp [D.pys, PyData.canLayAll0], by simp [D.pys, PyData.depthAll]⟩
  | n, d :: ds, h => by
    have h' : (D.shp n d && D.shps n ds) = true := by cases n <;> exact h
    rw [Bool.and_eq_true] at h'
    obtain ⟨h1, h2⟩ := D.shp_ok n d h'.1
    obtain ⟨h3, h4⟩ := D.shps_ok n ds h'.2
    exact ⟨by simp [D.pys, PyData.canLayAll0, h1, h3], by simp [D.pys, PyData.depthAll]; omega⟩
end
theorem D.shaped {n : Nat} {d : D} (h : d.shp n = true) (hn : n ≤ 64) : SeqAt.shaped d.py = true := by
  obtain ⟨h1, h2⟩ := D.shp_ok n d h
  unfold SeqAt.shaped
  rw [h1, Bool.true_and]
  exact decide_eq_true (by omega)
/-- == of data: (d = e) as a truth value -/
noncomputable def D.eq (d e : D) : Bool := @decide (d = e) (Classical.propDecidable _)
theorem D.eq_true {d e : D} (h : d = e) : D.eq d e = true := by unfold D.eq; exact @decide_eq_true _ (Classical.propDecidable _) h
theorem D.eq_false {d e : D} (h : ¬ d = e) : D.eq d e = false := by unfold D.eq; exact @decide_eq_false _ (Classical.propDecidable _) h
theorem D.eq_iff {d e : D} : D.eq d e = true ↔ d = e := by unfold D.eq; exact @decide_eq_true_iff _ (Classical.propDecidable _)
/-- fit to be compared -/
structure D.Fit (d : D) : Prop where
  nb : d.nb = true
  sh : ∃ n, n ≤ 64 ∧ d.shp n = true
theorem D.eqv_eq {d e : D} (hd : d.Fit) (he : e.Fit) : PyData.eqv d.py e.py = D.eq d e := by
  have q := D.eqv_iff d e hd.nb he.nb
  by_cases h : d = e
  · rw [D.eq_true h, q.mpr h]
  · rw [D.eq_false h]
    cases z : PyData.eqv d.py e.py with
    | false => rfl
    | true => exact absurd (q.mp z) h
theorem ro_eqD {K : PySem.W.Frag} {d e : D} (hd : d.Fit) (he : e.Fit) : RO K (rEqD K) (.d d) (.d e) (.d (.bl (D.eq d e))) := fun H0 x y H F Q ft hx hy k => by
  obtain ⟨n, h1, h2⟩ := hd.sh
  obtain ⟨m, h3, h4⟩ := he.sh
  exact ⟨d.py, e.py, Dn.dp d x (D.nb_pure d hd.nb) hx, Dn.dp e y (D.nb_pure e he.nb) hy, D.shaped h2 h1, D.shaped h4 h3, k _ H F (Grow.refl ft) (by rw [D.eqv_eq hd he]; rfl)⟩
theorem ro_neD {K : PySem.W.Frag} {d e : D} (hd : d.Fit) (he : e.Fit) : RO K (rNeD K) (.d d) (.d e) (.d (.bl (!D.eq d e))) := fun H0 x y H F Q ft hx hy k => by
  obtain ⟨n, h1, h2⟩ := hd.sh
  obtain ⟨m, h3, h4⟩ := he.sh
  exact ⟨d.py, e.py, Dn.dp d x (D.nb_pure d hd.nb) hx, Dn.dp e y (D.nb_pure e he.nb) hy, D.shaped h2 h1, D.shaped h4 h3, k _ H F (Grow.refl ft) (by rw [D.eqv_eq hd he]; rfl)⟩
variable {d e : D} {r : Nat}
theorem tv_eqD (hu : Room r X.A) (hd : d.Fit) (he : e.Fit) (ha : Ev X a G R (.d d)) (hb : Ev X b G R (.d e)) : Tv X (.Compare a [.Eq] [b] pos) G R (D.eq d e) := tv_cmpR (op_eqD hu.units) (ro_eqD hd he) ha hb (nomark _)
theorem tv_neD (hu : Room r X.A) (hd : d.Fit) (he : e.Fit) (ha : Ev X a G R (.d d)) (hb : Ev X b G R (.d e)) : Tv X (.Compare a [.NotEq] [b] pos) G R (!D.eq d e) := tv_cmpR (op_neD hu.units) (ro_neD hd he) ha hb (nomark _)
theorem tv_eqD_t (hu : Room r X.A) (hd : d.Fit) (he : e.Fit) (h : d = e) (ha : Ev X a G R (.d d)) (hb : Ev X b G R (.d e)) : Tv X (.Compare a [.Eq] [b] pos) G R true := D.eq_true h ▸ tv_eqD hu hd he ha hb
theorem tv_eqD_f (hu : Room r X.A) (hd : d.Fit) (he : e.Fit) (h : ¬ d = e) (ha : Ev X a G R (.d d)) (hb : Ev X b G R (.d e)) : Tv X (.Compare a [.Eq] [b] pos) G R false := D.eq_false h ▸ tv_eqD hu hd he ha hb
theorem tv_neD_f (hu : Room r X.A) (hd : d.Fit) (he : e.Fit) (h : d = e) (ha : Ev X a G R (.d d)) (hb : Ev X b G R (.d e)) : Tv X (.Compare a [.NotEq] [b] pos) G R false := tv_eq (tv_neD hu hd he ha hb) (by rw [D.eq_true h]; rfl)
theorem tv_neD_t (hu : Room r X.A) (hd : d.Fit) (he : e.Fit) (h : ¬ d = e) (ha : Ev X a G R (.d d)) (hb : Ev X b G R (.d e)) : Tv X (.Compare a [.NotEq] [b] pos) G R true := tv_eq (tv_neD hu hd he ha hb) (by rw [D.eq_false h]; rfl)
theorem ev_eqD (hu : Room r X.A) (hd : d.Fit) (he : e.Fit) (ha : Ev X a G R (.d d)) (hb : Ev X b G R (.d e)) : Ev X (.Compare a [.Eq] [b] pos) G R (.d (.bl (D.eq d e))) := ev_cmpR (op_eqD hu.units) (ro_eqD hd he) ha hb (nomark _)
theorem ev_neD (hu : Room r X.A) (hd : d.Fit) (he : e.Fit) (ha : Ev X a G R (.d d)) (hb : Ev X b G R (.d e)) : Ev X (.Compare a [.NotEq] [b] pos) G R (.d (.bl (!D.eq d e))) := ev_cmpR (op_neD hu.units) (ro_neD hd he) ha hb (nomark _)
end
end DL

namespace DL
open PySem PySem.Spec L2

abbrev ratD (r : Rat) : D := .tup [.int r.num, .int r.den]
theorem ratD_inj {a b : Rat} (h : ratD a = ratD b) : a = b := by
  injection h with h
  injection h with h1 h2
  injection h2 with h2 _
  injection h1 with h1
  injection h2 with h2
  exact Rat.ext h1 (by omega)
theorem ratD_iff {a b : Rat} : ratD a = ratD b ↔ a = b := ⟨ratD_inj, fun h => by rw [h]⟩
theorem ratD_fit (r : Rat) : (ratD r).Fit := ⟨rfl, 1, by decide, rfl⟩

/-- above and below less than 2 ^ n -/
class Bd (n : outParam Nat) (r : Rat) : Prop where
  num : r.num.natAbs < 2 ^ n
  den : r.den < 2 ^ n
theorem pow_mono {n m : Nat} (h : n ≤ m) : 2 ^ n ≤ 2 ^ m := Nat.pow_le_pow_right (by decide) h
theorem Bd.mono {n m : Nat} {r : Rat} (b : Bd n r) (h : n ≤ m) : Bd m r := ⟨Nat.lt_of_lt_of_le b.num (pow_mono h), Nat.lt_of_lt_of_le b.den (pow_mono h)⟩
theorem natAbs_ediv_le (t : Int) (g : Nat) : (t / (g : Int)).natAbs ≤ t.natAbs := by
  rcases Nat.eq_zero_or_pos g with h | h
  · subst h; simp
  · rcases Int.lt_or_le t 0 with ht | ht
    · have h1 : t ≤ t / (g : Int) := by
        rw [Int.le_ediv_iff_mul_le (by omega)]
        have : t * (g : Int) ≤ t * 1 := Int.mul_le_mul_of_nonpos_left (by omega) (by omega)
        omega
      have h2 : t / (g : Int) < 0 := Int.ediv_neg_of_neg_of_pos ht (by omega)
      omega
    · have h1 : t / (g : Int) ≤ t := Int.ediv_le_self _ ht
      have h2 : 0 ≤ t / (g : Int) := Int.ediv_nonneg ht (by omega)
      omega
theorem bd_divInt {t b : Int} {n : Nat} (ht : t.natAbs < 2 ^ n) (hb : b.natAbs < 2 ^ n) (h0 : 0 < n) : Bd n (Rat.divInt t b) := by
  refine ⟨?_, ?_⟩
  · rw [Rat.num_divInt]
    refine Nat.lt_of_le_of_lt (natAbs_ediv_le _ _) ?_
    rw [Int.natAbs_mul]
    have h2 : b.sign.natAbs ≤ 1 := by
      rcases Int.lt_trichotomy b 0 with h | h | h
      · rw [Int.sign_eq_neg_one_of_neg h]; decide
      · rw [h]; decide
      · rw [Int.sign_eq_one_of_pos h]; decide
    have := Nat.mul_le_mul_right t.natAbs h2
    omega
  · rw [Rat.den_divInt]
    have h1 : 1 < 2 ^ n := Nat.one_lt_two_pow (by omega)
    split
    · exact h1
    · exact Nat.lt_of_le_of_lt (Nat.div_le_self _ _) hb
theorem divInt_pos {t b : Int} (hb : 0 < b) : ratD (Rat.divInt t b) = .tup [.int (t / (Nat.gcd t.natAbs b.natAbs : Nat)), .int (b / (Nat.gcd t.natAbs b.natAbs : Nat))] := by
  have e : b.gcd t = Nat.gcd t.natAbs b.natAbs := by rw [Int.gcd, Nat.gcd_comm]
  unfold ratD
  rw [Rat.num_divInt, Rat.den_divInt, if_neg (by omega), e, Int.sign_eq_one_of_pos hb, Int.one_mul]
  have : (((b.natAbs / Nat.gcd t.natAbs b.natAbs : Nat)) : Int) = b / (Nat.gcd t.natAbs b.natAbs : Nat) := by
    rw [Int.natCast_ediv]
    congr 1
    omega
  rw [this]
theorem rat_add (a b : Rat) : Rat.divInt (a.num * b.den + b.num * a.den) (a.den * b.den) = a + b := by
  rw [Rat.add_def', ← Rat.divInt_ofNat]
  rfl
theorem rat_sub (a b : Rat) : Rat.divInt (a.num * b.den - b.num * a.den) (a.den * b.den) = a - b := by
  rw [Rat.sub_def', ← Rat.divInt_ofNat]
  rfl
theorem rat_mul (a b : Rat) : Rat.divInt (a.num * b.num) (a.den * b.den) = a * b := by
  rw [Rat.mul_def', ← Rat.divInt_ofNat]
  rfl
theorem rat_div (a b : Rat) : Rat.divInt (a.num * b.den) (a.den * b.num) = a / b := by
  rw [Rat.div_def, Rat.inv_def]
  conv => rhs; rw [← Rat.num_divInt_den a]
  rw [Rat.divInt_mul_divInt]
theorem den_pos (a : Rat) : 0 < (a.den : Int) := by have := a.den_nz; omega
theorem mul_lt_pow {i j : Int} {n m : Nat} (hi : i.natAbs < 2 ^ n) (hj : j.natAbs < 2 ^ m) : (i * j).natAbs < 2 ^ (n + m) := by
  rw [Int.natAbs_mul, Nat.pow_add]
  exact Nat.mul_lt_mul'' hi hj
section
variable {a b : Rat} {n m : Nat}
theorem Bd.den' (h : Bd n a) : (a.den : Int).natAbs < 2 ^ n := by rw [Int.natAbs_natCast]; exact h.den
theorem Bd.pos (h : Bd n a) : 0 < n := by
  rcases Nat.eq_zero_or_pos n with e | e
  · have h1 := h.den
    rw [e] at h1
    have := a.den_nz
    omega
  · exact e
theorem addn_lt {n m : Nat} {i j : Int} (hi : i.natAbs < 2 ^ n) (hj : j.natAbs < 2 ^ n) : (i + j).natAbs < 2 ^ (n + 1) := by
  rw [Nat.pow_succ]; omega
theorem subn_lt {n m : Nat} {i j : Int} (hi : i.natAbs < 2 ^ n) (hj : j.natAbs < 2 ^ n) : (i - j).natAbs < 2 ^ (n + 1) := by
  rw [Nat.pow_succ]; omega
instance (priority := low) Bd.add [ha : Bd n a] [hb : Bd m b] : Bd (n + m + 1) (a + b) := by
  rw [← rat_add]
  refine bd_divInt ?_ ?_ (by omega)
  · exact addn_lt (m := 0) (mul_lt_pow ha.num hb.den') (by rw [Nat.add_comm n m]; exact mul_lt_pow hb.num ha.den')
  · exact Nat.lt_of_lt_of_le (mul_lt_pow ha.den' hb.den') (pow_mono (by omega))
instance (priority := low) Bd.sub [ha : Bd n a] [hb : Bd m b] : Bd (n + m + 1) (a - b) := by
  rw [← rat_sub]
  refine bd_divInt ?_ ?_ (by omega)
  · exact subn_lt (m := 0) (mul_lt_pow ha.num hb.den') (by rw [Nat.add_comm n m]; exact mul_lt_pow hb.num ha.den')
  · exact Nat.lt_of_lt_of_le (mul_lt_pow ha.den' hb.den') (pow_mono (by omega))
instance (priority := low) Bd.mul [ha : Bd n a] [hb : Bd m b] : Bd (n + m) (a * b) := by
  rw [← rat_mul]
  have := ha.pos
  exact bd_divInt (mul_lt_pow ha.num hb.num) (mul_lt_pow ha.den' hb.den') (by omega)
instance (priority := low) Bd.div [ha : Bd n a] [hb : Bd m b] : Bd (n + m) (a / b) := by
  rw [← rat_div]
  have := ha.pos
  exact bd_divInt (mul_lt_pow ha.num hb.den') (mul_lt_pow ha.den' hb.num) (by omega)
instance Bd.zero : Bd 1 (0 : Rat) := ⟨by decide, by decide⟩
instance Bd.one : Bd 1 (1 : Rat) := ⟨by decide, by decide⟩
instance Bd.two : Bd 2 (2 : Rat) := ⟨by decide, by decide⟩
end
/-- the order, as compare tells it -/
def cmpR (a b : Rat) : Int := if a < b then -1 else if b < a then 1 else 0
theorem cmpR_lt {a b : Rat} : cmpR a b < 0 ↔ a < b := by
  unfold cmpR; split
  · simp [*]
  · split <;> simp [*]
theorem cmpR_gt {a b : Rat} : 0 < cmpR a b ↔ b < a := by
  unfold cmpR; split
  · have : ¬ b < a := by grind
    simp [*]
  · split <;> simp [*]
theorem cmpR_eq {a b : Rat} : cmpR a b = 0 ↔ a = b := by
  unfold cmpR; split
  · have : ¬ a = b := by grind
    simp [*]
  · split
    · have : ¬ a = b := by grind
      simp [*]
    · have : a = b := by grind
      simp [*]
end DL

namespace DL
open PySem PySem.Spec L2
/-- the law's contract -/
def C_law : Ct := fun ss oc => ∃ ns : List Int, ns.length ≤ 63 ∧ ss = [.scr ns] ∧ oc = .ret (.d (.bl true))
theorem law_sp {K : PySem.W.Frag} {H : Hp} {a : Addr} {ns : List Int} (hl : ns.length ≤ 63) (hS : SqL K H a (ns.map V.int)) : spD K C_law [.ref a] H (fun v _ => v = .bl true) fun _ _ _ => False :=
  ⟨fun _ => False, [.scr ns], .ret (.d (.bl true)), ⟨ns, hl, rfl, rfl⟩, fun _ h => h.elim, ⟨⟨a, rfl, hS⟩, trivial⟩, fun v H' F' _ r => r⟩
theorem cx0_law {P : Program} {w : World} {K : PySem.W.Frag} {mg : Str → Option Value} {base : Heap} {k : Nat} {f : Addr} {fd : FuncData} {ps : List Str} (F : FnOk P w K mg base (L2.CX P w) k f fd ps (spD K C_law)) : FnOk P w K mg base CX0 k f fd ps (spD K C_law) := by
  refine ⟨fun vs H Q E h => F.len vs H Q E h, fun A outer s H args us vs Q E hr he hb hv hs => ?_⟩
  obtain ⟨F', ss, oc, ⟨ns, h1, h2, rfl⟩, h3, h4, h5⟩ := hs
  have hs' : spD K C_law vs H Q (fun _ _ _ => False) := ⟨F', ss, _, ⟨ns, h1, h2, rfl⟩, h3, h4, h5⟩
  refine codeAny_mono (F.run A outer s H args us vs Q (fun _ _ _ => False) hr he hb hv hs') fun r s' q => ?_
  cases r with
  | error e =>
    obtain ⟨_, _, _, _, _, _, _, _, _, _, _, _, z⟩ := q
    exact z.elim
  | ok fl => cases fl <;> exact q
theorem cst_int {K : PySem.W.Frag} {mg : Str → Option Value} {x : Str} {i : Int} (h : ∃ t, mg x = some (.int i t)) : Cst K mg x (.int i) := by
  obtain ⟨t, h⟩ := h
  exact ⟨.int i, _, h, ⟨t, rfl⟩, fun _ _ => rfl⟩
theorem cst_str {K : PySem.W.Frag} {mg : Str → Option Value} {x z : Str} (h : ∃ t, mg x = some (.str z t)) : Cst K mg x (.str z) := by
  obtain ⟨t, h⟩ := h
  exact ⟨.str z, _, h, ⟨t, rfl⟩, fun _ _ => rfl⟩
/-- flat values as data -/
def dvD : He.Dv → Option D
  | .non => some .non
  | .bl b => some (.bl b)
  | .int i => some (.int i)
  | .str x => some (.str x)
  | _ => none
theorem dvs_ok {K : PySem.W.Frag} {F : Fz} {H : Hp} : ∀ {vs : List He.Dv} {ds : List D}, vs.map dvD = ds.map some → DnA K F H ds (vs.map (He.Dv.v K))
  | [], [], _ => trivial
  | [], _ :: _, h => by cases h
  | _ :: _, [], h => by cases h
  | v :: vs, d :: ds, h => by
    rw [List.map_cons, List.map_cons, List.cons.injEq] at h
    refine ⟨?_, dvs_ok h.2⟩
    have h1 := h.1
    cases v <;> simp only [dvD, Option.some.injEq, reduceCtorEq] at h1 <;> subst h1 <;> rfl
theorem cst_tup {K : PySem.W.Frag} {mg : Str → Option Value} {x : Str} {vs : List He.Dv} {ds : List D} (hg : mg x = some (.ref (He.ga K x))) (h : He.tupB K x vs = true) (e : vs.map dvD = ds.map some) : Cst K mg x (.tup ds) :=
  ⟨.ref (He.ga K x), _, hg, rfl, fun F H => ⟨_, _, rfl, He.tupB_ok h H, dvs_ok e⟩⟩
end DL

namespace DL
open PySem PySem.Spec L2
def topS (i : Nat) : Stmt := PySem.Challenge.pw_surecues_k02_rules_of_reckoning.main.body.getD i (.Pass ⟨0, 0, 0, 0⟩)
abbrev FnP (K : PySem.W.Frag) (x : Str) (st : Stmt) (f : Addr) (fd : FuncData) : Prop := FunD K x x (defArgs st) (defBody st) (defScope st) [] [] f fd
abbrev st_common_divisor : Stmt := topS 4
abbrev st_number : Stmt := topS 5
abbrev st_plus : Stmt := topS 6
abbrev st_minus : Stmt := topS 7
abbrev st_times : Stmt := topS 8
abbrev st_over : Stmt := topS 9
abbrev st_compare : Stmt := topS 10
abbrev st__law_cell : Stmt := topS 12
abbrev st__law_draw : Stmt := topS 13
abbrev st__law_f : Stmt := topS 14
abbrev st__law_less : Stmt := topS 15
abbrev st_law : Stmt := topS 16
section
variable {P : Program} {w : World} {K : PySem.W.Frag} {mg : Str → Option Value} {base : Heap} {f : Addr} {fd : FuncData}
theorem sc_common_divisor : FnScope ["first", "second"] ["first", "second"] (defScope st_common_divisor) := ⟨rfl, rfl, rfl, by decide +kernel, rfl, by decide +kernel, by decide +kernel⟩
def C_common_divisor : Ct := fun ss oc => ∃ a b : Nat, ss = [.d (.int a), .d (.int b)] ∧ oc = .ret (.d (.int (Nat.gcd a b)))
theorem ok_common_divisor (F : FnP K "common_divisor" st_common_divisor f fd) : FnOk P w K mg base (L2.CX P w) 1 f fd ["first", "second"] (spD K C_common_divisor) := by
  refine fn_mk F sc_common_divisor (fun ss oc h => by obtain ⟨a, b, rfl, _⟩ := h; rfl) fun cdv A outer s H E hr hp ss oc h => ?_
  obtain ⟨a0, b0, rfl, rfl⟩ := h
  refine ex_while (fun n G => ∃ a b : Nat, G = [.d (.int a), .d (.int b)] ∧ Nat.gcd a b = Nat.gcd a0 b0 ∧ n = b) hp ⟨a0, b0, rfl, rfl, rfl⟩ ?_
  rintro n G ⟨a, b, rfl, hg, rfl⟩
  refine ⟨_, tv_neI (ev_var 1 rfl) ev_int, fun hq => ?_, fun hq => ?_⟩
  · have hb : n ≠ 0 := by
      intro z; subst z; simp at hq
    refine ex_par 0 1 sc_common_divisor.nd (eva_cons (ev_var 1 rfl) (eva_cons (ev_mod (by omega) (ev_var 0 rfl) (ev_var 1 rfl)) eva_nil)) ?_
    refine ex_nil ⟨rfl, a % n, Nat.mod_lt _ (Nat.pos_of_ne_zero hb), n, a % n, rfl, ?_, rfl⟩
    rw [← hg, Nat.gcd_comm a n, Nat.gcd_rec n a]
    exact Nat.gcd_comm _ _
  · have hb : n = 0 := by
      by_cases z : n = 0
      · exact z
      · exfalso
        have : ¬ ((n : Int) = 0) := by omega
        simp [this] at hq
        omega
    subst hb
    refine ex_ret (ev_var 0 rfl) ?_
    rw [← hg, Nat.gcd_zero_right]

theorem sc_number : FnScope ["top", "bottom", "divisor"] ["top", "bottom"] (defScope st_number) := ⟨rfl, rfl, rfl, by decide +kernel, rfl, by decide +kernel, by decide +kernel⟩
def C_number (NE : Addr) : Ct := fun ss oc => ∃ t b : Int, ss = [.d (.int t), .d (.int b)] ∧ b.natAbs < 2 ^ 9000 ∧ ((b ≠ 0 ∧ oc = .ret (.d (ratD (Rat.divInt t b)))) ∨ (b = 0 ∧ oc = .exc ⟨NE, none⟩))
theorem ok_number {NE : Addr} (F : FnP K "number" st_number f fd) (f_common_divisor : Fn P w K mg base "common_divisor" 1 C_common_divisor) (T : ExcC K mg "NumberError" NE) (m_abs : mg "abs" = none) :
    FnOk P w K mg base (L2.CX P w) 2 f fd ["top", "bottom"] (spD K (C_number NE)) := by
  refine fn_mk F sc_number (fun ss oc h => by obtain ⟨t, b, rfl, _⟩ := h; rfl) fun cdv A outer s H E hr hp ss oc h => ?_
  have nd := sc_number.nd
  obtain ⟨t, b, rfl, hb, h⟩ := h
  refine ex_if (tv_eqI (ev_var 1 rfl) ev_int) (fun hq => ?_) (fun hq => ?_)
  · have hb0 : b = 0 := of_decide_eq_true hq
    refine ex_raise0 T ?_
    rcases h with h | h
    · exact absurd hb0 h.1
    · exact h.2
  have hb0 : b ≠ 0 := of_decide_eq_false hq
  have ho : oc = .ret (.d (ratD (Rat.divInt t b))) := by
    rcases h with h | h
    · exact h.2
    · exact absurd h.1 hb0
  subst ho
  clear h hq
  refine ex_nil ?_
  refine ex_if (tv_lt (ev_var 1 rfl) ev_int) (fun hq => ?_) (fun hq => ?_)
  · refine ex_set 0 nd (ev_neg (ev_var 0 rfl)) ?_
    refine ex_set 1 nd (ev_neg (ev_var 1 rfl)) ?_
    refine ex_nil ?_
    have hlt : b < 0 := of_decide_eq_true hq
    rw [← Rat.neg_divInt_neg t b]
    have hb' : (-b).natAbs < 2 ^ 9000 := by rw [Int.natAbs_neg]; exact hb
    have hpos : 0 < -b := by omega
    revert hb' hpos
    generalize -b = b'
    generalize -t = t'
    intro hb' hpos
    exact tail t' b' hb' hpos nd hr f_common_divisor m_abs
  · refine ex_nil ?_
    have hge : ¬ b < 0 := of_decide_eq_false hq
    exact tail t b hb (by omega) nd hr f_common_divisor m_abs
where
  tail {f : Addr} {cdv : Value} {A : Around} {outer : List Env} {s : Shared} {H : Hp} {E : XK} {W : Exw} (t b : Int) (hb : b.natAbs < 2 ^ 9000) (hpos : 0 < b) (nd : (["top", "bottom", "divisor"] : List Str).Nodup)
    (hr : Room 1 (A.deeper (PyProof.Rows.envOfC "number" (defScope st_number) s.heap.objs.size f cdv)))
    (f_common_divisor : Fn P w K mg base "common_divisor" 1 C_common_divisor) (m_abs : mg "abs" = none) :
    Ex (cxOf (L2.CX P w) P w K mg base ["top", "bottom", "divisor"] "number" (defScope st_number) f cdv A outer s H E) W ((defBody st_number).drop 2) [.d (.int t), .d (.int b), .any] emp
      { nx := fun _ _ => Oc.ret (.d (ratD (Rat.divInt t b))) = .ret (.d .non), rt := fun s _ => Oc.ret (.d (ratD (Rat.divInt t b))) = .ret s } := by
    have hbn : b = (b.natAbs : Int) := by omega
    refine ex_set 2 nd (ev_call f_common_divisor hr (by decide) (eva_cons (ev_abs m_abs (ev_var 0 rfl)) (eva_cons (ev_var 1 rfl) eva_nil)) ⟨t.natAbs, b.natAbs, by rw [← hbn], rfl⟩) ?_
    have hg0 : 0 < Nat.gcd t.natAbs b.natAbs := Nat.gcd_pos_of_pos_right _ (by omega)
    have hg1 : Nat.gcd t.natAbs b.natAbs ≤ b.natAbs := Nat.gcd_le_right _ (by omega)
    have hd : ∀ i : Int, CDivW i (Nat.gcd t.natAbs b.natAbs : Nat) := fun i => wide_div (b := 9000) (by omega) (by rw [Int.natAbs_natCast]; omega) (by decide) (by decide)
    refine ex_ret (ev_tup (evd_cons (ev_fdiv (hd t) (ev_var 0 rfl) (ev_var 2 rfl)) (evd_cons (ev_fdiv (hd b) (ev_var 1 rfl) (ev_var 2 rfl)) evd_nil))) ?_
    rw [divInt_pos hpos]
theorem ev_number {X : Cx} {G : List S} {R : Res} {a b : Expr} {pos p : Pos} {k j : Nat} {t i : Int} {NE : Addr} (f : Fn X.prog X.w X.K X.mg X.base "number" k (C_number NE)) (hr : Room j X.A) (hk : k ≤ j) (ha : Ev X a G R (.d (.int t))) (hb : Ev X b G R (.d (.int i)))
    (h0 : i ≠ 0) (hi : i.natAbs < 2 ^ 9000) (hg : Gl X "number" := by rfl) (he : starEach [a, b] X.env = (false, eval a X.env) :: starEach [b] X.env := by rfl) (he2 : starEach [b] X.env = (false, eval b X.env) :: starEach [] X.env := by rfl) (hpl : (backTo pos (starEach [b] X.env)).any (·.1) = false := by rfl) :
    Ev X (.Call (.Name "number" p) [a, b] [] pos) G R (.d (ratD (Rat.divInt t i))) :=
  ev_call f hr hk (eva_cons ha (eva_cons hb eva_nil he2) he) ⟨t, i, rfl, hi, .inl ⟨h0, rfl⟩⟩ rfl hg (by decide) he hpl

theorem sc_plus : FnScope ["first", "second"] ["first", "second"] (defScope st_plus) := ⟨rfl, rfl, rfl, by decide +kernel, rfl, by decide +kernel, by decide +kernel⟩
def C_plus : Ct := fun ss oc => ∃ (a b : Rat) (n m : Nat), ss = [.d (ratD a), .d (ratD b)] ∧ Bd n a ∧ Bd m b ∧ n ≤ 4000 ∧ m ≤ 4000 ∧ oc = .ret (.d (ratD (a + b)))
theorem ok_plus {NE : Addr} (F : FnP K "plus" st_plus f fd) (f_number : Fn P w K mg base "number" 2 (C_number NE)) :
    FnOk P w K mg base (L2.CX P w) 3 f fd ["first", "second"] (spD K C_plus) := by
  refine fn_mk F sc_plus (fun ss oc h => by obtain ⟨a, b, n, m, rfl, _⟩ := h; rfl) fun cdv A outer s H E hr hp ss oc h => ?_
  obtain ⟨a, b, n, m, rfl, ha, hb, hn, hm, rfl⟩ := h
  have hn0 := ha.pos
  have hm0 := hb.pos
  have w {i j : Int} (hi : i.natAbs < 2 ^ n) (hj : j.natAbs < 2 ^ m) : CMulW i j := wide_mul hi hj hn0 hm0 (by omega)
  have w' {i j : Int} (hi : i.natAbs < 2 ^ m) (hj : j.natAbs < 2 ^ n) : CMulW i j := wide_mul hi hj hm0 hn0 (by omega)
  rw [← rat_add a b]
  refine ex_ret (ev_number f_number hr (by decide) (ev_add (ev_mulW (w ha.num hb.den') (ev_ixT (ev_var 0 rfl) ev_int rfl) (ev_ixT (ev_var 1 rfl) ev_int rfl)) (ev_mulW (w' hb.num ha.den') (ev_ixT (ev_var 1 rfl) ev_int rfl) (ev_ixT (ev_var 0 rfl) ev_int rfl))) (ev_mulW (w ha.den' hb.den') (ev_ixT (ev_var 0 rfl) ev_int rfl) (ev_ixT (ev_var 1 rfl) ev_int rfl)) (Int.mul_ne_zero (Int.ne_of_gt (den_pos a)) (Int.ne_of_gt (den_pos b))) (Nat.lt_of_lt_of_le (mul_lt_pow ha.den' hb.den') (pow_mono (by omega)))) rfl
theorem ev_plus {X : Cx} {G : List S} {R : Res} {x y : Expr} {pos p : Pos} {k j n m : Nat} {a b : Rat} (f : Fn X.prog X.w X.K X.mg X.base "plus" k C_plus) (hr : Room j X.A) (hk : k ≤ j) (ha : Ev X x G R (.d (ratD a))) (hb : Ev X y G R (.d (ratD b)))
    [da : Bd n a] [db : Bd m b] (h : n ≤ 4000 ∧ m ≤ 4000 := by omega) (hg : Gl X "plus" := by rfl) (he : starEach [x, y] X.env = (false, eval x X.env) :: starEach [y] X.env := by rfl) (he2 : starEach [y] X.env = (false, eval y X.env) :: starEach [] X.env := by rfl) (hpl : (backTo pos (starEach [y] X.env)).any (·.1) = false := by rfl) :
    Ev X (.Call (.Name "plus" p) [x, y] [] pos) G R (.d (ratD (a + b))) :=
  ev_call f hr hk (eva_cons ha (eva_cons hb eva_nil he2) he) ⟨a, b, n, m, rfl, da, db, h.1, h.2, rfl⟩ rfl hg (by decide) he hpl

theorem sc_minus : FnScope ["first", "second"] ["first", "second"] (defScope st_minus) := ⟨rfl, rfl, rfl, by decide +kernel, rfl, by decide +kernel, by decide +kernel⟩
def C_minus : Ct := fun ss oc => ∃ (a b : Rat) (n m : Nat), ss = [.d (ratD a), .d (ratD b)] ∧ Bd n a ∧ Bd m b ∧ n ≤ 4000 ∧ m ≤ 4000 ∧ oc = .ret (.d (ratD (a - b)))
theorem ok_minus {NE : Addr} (F : FnP K "minus" st_minus f fd) (f_number : Fn P w K mg base "number" 2 (C_number NE)) :
    FnOk P w K mg base (L2.CX P w) 3 f fd ["first", "second"] (spD K C_minus) := by
  refine fn_mk F sc_minus (fun ss oc h => by obtain ⟨a, b, n, m, rfl, _⟩ := h; rfl) fun cdv A outer s H E hr hp ss oc h => ?_
  obtain ⟨a, b, n, m, rfl, ha, hb, hn, hm, rfl⟩ := h
  have hn0 := ha.pos
  have hm0 := hb.pos
  have w {i j : Int} (hi : i.natAbs < 2 ^ n) (hj : j.natAbs < 2 ^ m) : CMulW i j := wide_mul hi hj hn0 hm0 (by omega)
  have w' {i j : Int} (hi : i.natAbs < 2 ^ m) (hj : j.natAbs < 2 ^ n) : CMulW i j := wide_mul hi hj hm0 hn0 (by omega)
  rw [← rat_sub a b]
  refine ex_ret (ev_number f_number hr (by decide) (ev_minus (ev_mulW (w ha.num hb.den') (ev_ixT (ev_var 0 rfl) ev_int rfl) (ev_ixT (ev_var 1 rfl) ev_int rfl)) (ev_mulW (w' hb.num ha.den') (ev_ixT (ev_var 1 rfl) ev_int rfl) (ev_ixT (ev_var 0 rfl) ev_int rfl))) (ev_mulW (w ha.den' hb.den') (ev_ixT (ev_var 0 rfl) ev_int rfl) (ev_ixT (ev_var 1 rfl) ev_int rfl)) (Int.mul_ne_zero (Int.ne_of_gt (den_pos a)) (Int.ne_of_gt (den_pos b))) (Nat.lt_of_lt_of_le (mul_lt_pow ha.den' hb.den') (pow_mono (by omega)))) rfl
theorem ev_minusR {X : Cx} {G : List S} {R : Res} {x y : Expr} {pos p : Pos} {k j n m : Nat} {a b : Rat} (f : Fn X.prog X.w X.K X.mg X.base "minus" k C_minus) (hr : Room j X.A) (hk : k ≤ j) (ha : Ev X x G R (.d (ratD a))) (hb : Ev X y G R (.d (ratD b)))
    [da : Bd n a] [db : Bd m b] (h : n ≤ 4000 ∧ m ≤ 4000 := by omega) (hg : Gl X "minus" := by rfl) (he : starEach [x, y] X.env = (false, eval x X.env) :: starEach [y] X.env := by rfl) (he2 : starEach [y] X.env = (false, eval y X.env) :: starEach [] X.env := by rfl) (hpl : (backTo pos (starEach [y] X.env)).any (·.1) = false := by rfl) :
    Ev X (.Call (.Name "minus" p) [x, y] [] pos) G R (.d (ratD (a - b))) :=
  ev_call f hr hk (eva_cons ha (eva_cons hb eva_nil he2) he) ⟨a, b, n, m, rfl, da, db, h.1, h.2, rfl⟩ rfl hg (by decide) he hpl

theorem sc_times : FnScope ["first", "second"] ["first", "second"] (defScope st_times) := ⟨rfl, rfl, rfl, by decide +kernel, rfl, by decide +kernel, by decide +kernel⟩
def C_times : Ct := fun ss oc => ∃ (a b : Rat) (n m : Nat), ss = [.d (ratD a), .d (ratD b)] ∧ Bd n a ∧ Bd m b ∧ n ≤ 4000 ∧ m ≤ 4000 ∧ oc = .ret (.d (ratD (a * b)))
theorem ok_times {NE : Addr} (F : FnP K "times" st_times f fd) (f_number : Fn P w K mg base "number" 2 (C_number NE)) :
    FnOk P w K mg base (L2.CX P w) 3 f fd ["first", "second"] (spD K C_times) := by
  refine fn_mk F sc_times (fun ss oc h => by obtain ⟨a, b, n, m, rfl, _⟩ := h; rfl) fun cdv A outer s H E hr hp ss oc h => ?_
  obtain ⟨a, b, n, m, rfl, ha, hb, hn, hm, rfl⟩ := h
  have hn0 := ha.pos
  have hm0 := hb.pos
  have w {i j : Int} (hi : i.natAbs < 2 ^ n) (hj : j.natAbs < 2 ^ m) : CMulW i j := wide_mul hi hj hn0 hm0 (by omega)
  have w' {i j : Int} (hi : i.natAbs < 2 ^ m) (hj : j.natAbs < 2 ^ n) : CMulW i j := wide_mul hi hj hm0 hn0 (by omega)
  rw [← rat_mul a b]
  refine ex_ret (ev_number f_number hr (by decide) (ev_mulW (w ha.num hb.num) (ev_ixT (ev_var 0 rfl) ev_int rfl) (ev_ixT (ev_var 1 rfl) ev_int rfl)) (ev_mulW (w ha.den' hb.den') (ev_ixT (ev_var 0 rfl) ev_int rfl) (ev_ixT (ev_var 1 rfl) ev_int rfl)) (Int.mul_ne_zero (Int.ne_of_gt (den_pos a)) (Int.ne_of_gt (den_pos b))) (Nat.lt_of_lt_of_le (mul_lt_pow ha.den' hb.den') (pow_mono (by omega)))) rfl
theorem ev_times {X : Cx} {G : List S} {R : Res} {x y : Expr} {pos p : Pos} {k j n m : Nat} {a b : Rat} (f : Fn X.prog X.w X.K X.mg X.base "times" k C_times) (hr : Room j X.A) (hk : k ≤ j) (ha : Ev X x G R (.d (ratD a))) (hb : Ev X y G R (.d (ratD b)))
    [da : Bd n a] [db : Bd m b] (h : n ≤ 4000 ∧ m ≤ 4000 := by omega) (hg : Gl X "times" := by rfl) (he : starEach [x, y] X.env = (false, eval x X.env) :: starEach [y] X.env := by rfl) (he2 : starEach [y] X.env = (false, eval y X.env) :: starEach [] X.env := by rfl) (hpl : (backTo pos (starEach [y] X.env)).any (·.1) = false := by rfl) :
    Ev X (.Call (.Name "times" p) [x, y] [] pos) G R (.d (ratD (a * b))) :=
  ev_call f hr hk (eva_cons ha (eva_cons hb eva_nil he2) he) ⟨a, b, n, m, rfl, da, db, h.1, h.2, rfl⟩ rfl hg (by decide) he hpl

theorem sc_over : FnScope ["first", "second"] ["first", "second"] (defScope st_over) := ⟨rfl, rfl, rfl, by decide +kernel, rfl, by decide +kernel, by decide +kernel⟩
def C_over (NE : Addr) : Ct := fun ss oc => ∃ (a b : Rat) (n m : Nat), ss = [.d (ratD a), .d (ratD b)] ∧ Bd n a ∧ Bd m b ∧ n ≤ 4000 ∧ m ≤ 4000 ∧ ((b ≠ 0 ∧ oc = .ret (.d (ratD (a / b)))) ∨ (b = 0 ∧ oc = .exc ⟨NE, none⟩))
theorem ok_over {NE : Addr} (F : FnP K "over" st_over f fd) (f_number : Fn P w K mg base "number" 2 (C_number NE)) :
    FnOk P w K mg base (L2.CX P w) 3 f fd ["first", "second"] (spD K (C_over NE)) := by
  refine fn_mk F sc_over (fun ss oc h => by obtain ⟨a, b, n, m, rfl, _⟩ := h; rfl) fun cdv A outer s H E hr hp ss oc h => ?_
  obtain ⟨a, b, n, m, rfl, ha, hb, hn, hm, h⟩ := h
  have hn0 := ha.pos
  have hm0 := hb.pos
  have w {i j : Int} (hi : i.natAbs < 2 ^ n) (hj : j.natAbs < 2 ^ m) : CMulW i j := wide_mul hi hj hn0 hm0 (by omega)
  have w' {i j : Int} (hi : i.natAbs < 2 ^ m) (hj : j.natAbs < 2 ^ n) : CMulW i j := wide_mul hi hj hm0 hn0 (by omega)
  rcases h with ⟨h0, rfl⟩ | ⟨h0, rfl⟩
  · rw [← rat_div a b]
    refine ex_ret (ev_number f_number hr (by decide) (ev_mulW (w ha.num hb.den') (ev_ixT (ev_var 0 rfl) ev_int rfl) (ev_ixT (ev_var 1 rfl) ev_int rfl)) (ev_mulW (w ha.den' hb.num) (ev_ixT (ev_var 0 rfl) ev_int rfl) (ev_ixT (ev_var 1 rfl) ev_int rfl)) (Int.mul_ne_zero (Int.ne_of_gt (den_pos a)) (fun z => h0 (Rat.num_eq_zero.mp z))) (Nat.lt_of_lt_of_le (mul_lt_pow ha.den' hb.num) (pow_mono (by omega)))) rfl
  · refine ex_retX (evx_call f_number hr (by decide) (eva_cons (ev_mulW (w ha.num hb.den') (ev_ixT (ev_var 0 rfl) ev_int rfl) (ev_ixT (ev_var 1 rfl) ev_int rfl)) (eva_cons (ev_mulW (w ha.den' hb.num) (ev_ixT (ev_var 0 rfl) ev_int rfl) (ev_ixT (ev_var 1 rfl) ev_int rfl)) eva_nil)) ⟨a.num * b.den, a.den * b.num, rfl, (Nat.lt_of_lt_of_le (mul_lt_pow ha.den' hb.num) (pow_mono (by omega))), .inr ⟨by subst h0; simp, rfl⟩⟩) rfl
theorem ev_over {X : Cx} {G : List S} {R : Res} {x y : Expr} {pos p : Pos} {k j n m : Nat} {a b : Rat} {NE : Addr} (f : Fn X.prog X.w X.K X.mg X.base "over" k (C_over NE)) (hr : Room j X.A) (hk : k ≤ j) (ha : Ev X x G R (.d (ratD a))) (hb : Ev X y G R (.d (ratD b))) (h0 : b ≠ 0)
    [da : Bd n a] [db : Bd m b] (h : n ≤ 4000 ∧ m ≤ 4000 := by omega) (hg : Gl X "over" := by rfl) (he : starEach [x, y] X.env = (false, eval x X.env) :: starEach [y] X.env := by rfl) (he2 : starEach [y] X.env = (false, eval y X.env) :: starEach [] X.env := by rfl) (hpl : (backTo pos (starEach [y] X.env)).any (·.1) = false := by rfl) :
    Ev X (.Call (.Name "over" p) [x, y] [] pos) G R (.d (ratD (a / b))) :=
  ev_call f hr hk (eva_cons ha (eva_cons hb eva_nil he2) he) ⟨a, b, n, m, rfl, da, db, h.1, h.2, .inl ⟨h0, rfl⟩⟩ rfl hg (by decide) he hpl

theorem sc_compare : FnScope ["first", "second", "left", "right"] ["first", "second"] (defScope st_compare) := ⟨rfl, rfl, rfl, by decide +kernel, rfl, by decide +kernel, by decide +kernel⟩
def C_compare : Ct := fun ss oc => ∃ (a b : Rat) (n m : Nat), ss = [.d (ratD a), .d (ratD b)] ∧ Bd n a ∧ Bd m b ∧ n ≤ 4000 ∧ m ≤ 4000 ∧ oc = .ret (.d (.int (cmpR a b)))
theorem ok_compare (F : FnP K "compare" st_compare f fd) :
    FnOk P w K mg base (L2.CX P w) 1 f fd ["first", "second"] (spD K C_compare) := by
  refine fn_mk F sc_compare (fun ss oc h => by obtain ⟨a, b, n, m, rfl, _⟩ := h; rfl) fun cdv A outer s H E hr hp ss oc h => ?_
  have nd := sc_compare.nd
  obtain ⟨a, b, n, m, rfl, ha, hb, hn, hm, rfl⟩ := h
  have hn0 := ha.pos
  have hm0 := hb.pos
  have w1 : CMulW a.num b.den := wide_mul ha.num hb.den' hn0 hm0 (by omega)
  have w2 : CMulW b.num a.den := wide_mul hb.num ha.den' hm0 hn0 (by omega)
  refine ex_set 2 nd (ev_mulW w1 (ev_ixT (ev_var 0 rfl) ev_int rfl) (ev_ixT (ev_var 1 rfl) ev_int rfl)) ?_
  refine ex_set 3 nd (ev_mulW w2 (ev_ixT (ev_var 1 rfl) ev_int rfl) (ev_ixT (ev_var 0 rfl) ev_int rfl)) ?_
  have e1 : a < b ↔ a.num * b.den < b.num * a.den := Rat.lt_iff a b
  have e2 : b < a ↔ b.num * a.den < a.num * b.den := Rat.lt_iff b a
  refine ex_if (tv_lt (ev_var 2 rfl) (ev_var 3 rfl)) (fun hq => ?_) (fun hq => ?_)
  · refine ex_ret (ev_neg ev_int) ?_
    show Oc.ret _ = Oc.ret _
    rw [cmpR, if_pos (e1.mpr (of_decide_eq_true hq))]
  refine ex_nil ?_
  have h1 : ¬ a < b := fun z => of_decide_eq_false hq (e1.mp z)
  refine ex_if (tv_gt (ev_var 2 rfl) (ev_var 3 rfl)) (fun hq => ?_) (fun hq => ?_)
  · refine ex_ret ev_int ?_
    show Oc.ret _ = Oc.ret _
    rw [cmpR, if_neg h1, if_pos (e2.mpr (of_decide_eq_true hq))]
  refine ex_nil ?_
  have h2 : ¬ b < a := fun z => of_decide_eq_false hq (e2.mp z)
  refine ex_ret ev_int ?_
  show Oc.ret _ = Oc.ret _
  rw [cmpR, if_neg h1, if_neg h2]
theorem ev_compare {X : Cx} {G : List S} {R : Res} {x y : Expr} {pos p : Pos} {k j n m : Nat} {a b : Rat} (f : Fn X.prog X.w X.K X.mg X.base "compare" k C_compare) (hr : Room j X.A) (hk : k ≤ j) (ha : Ev X x G R (.d (ratD a))) (hb : Ev X y G R (.d (ratD b)))
    [da : Bd n a] [db : Bd m b] (h : n ≤ 4000 ∧ m ≤ 4000 := by omega) (hg : Gl X "compare" := by rfl) (he : starEach [x, y] X.env = (false, eval x X.env) :: starEach [y] X.env := by rfl) (he2 : starEach [y] X.env = (false, eval y X.env) :: starEach [] X.env := by rfl) (hpl : (backTo pos (starEach [y] X.env)).any (·.1) = false := by rfl) :
    Ev X (.Call (.Name "compare" p) [x, y] [] pos) G R (.d (.int (cmpR a b))) :=
  ev_call f hr hk (eva_cons ha (eva_cons hb eva_nil he2) he) ⟨a, b, n, m, rfl, da, db, h.1, h.2, rfl⟩ rfl hg (by decide) he hpl

theorem sc__law_cell : FnScope ["_law_script", "_law_k"] ["_law_script", "_law_k"] (defScope st__law_cell) := ⟨rfl, rfl, rfl, by decide +kernel, rfl, by decide +kernel, by decide +kernel⟩
/-- what a cell of the script holds -/
def cellL (ns : List Int) (k : Nat) : Int := ns.getD k 0
def C__law_cell : Ct := fun ss oc => ∃ (ns : List Int) (k : Nat), ss = [.scr ns, .d (.int k)] ∧ oc = .ret (.d (.int (cellL ns k)))
theorem ok__law_cell (F : FnP K "_law_cell" st__law_cell f fd) (m_len : mg "len" = none) : FnOk P w K mg base (L2.CX P w) 1 f fd ["_law_script", "_law_k"] (spD K C__law_cell) := by
  refine fn_mk F sc__law_cell (fun ss oc h => by obtain ⟨ns, k, rfl, _⟩ := h; rfl) fun cdv A outer s H E hr hp ss oc h => ?_
  have nd := sc__law_cell.nd
  obtain ⟨ns, k, rfl, rfl⟩ := h
  refine ex_if (tv_lt (ev_var 1 rfl) (ev_len ns.length m_len (ev_varS 0 rfl) (.inr ⟨ns, rfl, rfl⟩))) (fun hq => ?_) (fun hq => ?_)
  · have hlt : k < ns.length := by have := of_decide_eq_true hq; omega
    refine ex_ret (ev_ixS (ev_varS 0 rfl) (ev_var 1 rfl) (atI_nat (List.getElem?_eq_getElem hlt))) ?_
    rw [cellL, List.getD_eq_getElem?_getD, List.getElem?_eq_getElem hlt]
    rfl
  refine ex_nil ?_
  have hge : ns.length ≤ k := by have := of_decide_eq_false hq; omega
  refine ex_ret ev_int ?_
  rw [cellL, List.getD_eq_getElem?_getD, List.getElem?_eq_none hge]
  rfl

theorem sc__law_draw : FnScope ["_law_script", "_law_k", "_law_sizes", "_law_cell_here", "_law_drawn", "_law_size", "_law_stirred", "_law_j"] ["_law_script", "_law_k", "_law_sizes"] (defScope st__law_draw) := ⟨rfl, rfl, rfl, by decide +kernel, rfl, by decide +kernel, by decide +kernel⟩
/-- a great cell's digits; a small one's -/
def drawA : Int → List Nat → List Int
  | _, [] => []
  | c, n :: ns => c % (n : Int) :: drawA (c / (n : Int)) ns
def stir (m : Int) (j : Nat) : Int := ((m * 48271 + 11 + j) % 2147483647 * 69621 + 3) % 2147483647
def drawB : Int → Nat → List Nat → List Int
  | _, _, [] => []
  | m, j, n :: ns => stir m j / 7 % (n : Int) :: drawB (stir m j) (j + 1) ns
def drawL (ns : List Int) (k : Nat) (sz : List Nat) : List Int :=
  let c := (cellL ns k).natAbs
  if 10 ^ 18 ≤ (c : Int) then drawA (c - 10 ^ 18) sz else drawB (((c : Int) + 1 + 31 * k) % 2147483647) 0 sz
theorem drawA_ok : ∀ (sz : List Nat) (c : Int), (∀ n ∈ sz, 0 < n) → (drawA c sz).length = sz.length ∧ ∀ (i : Nat) (n : Nat), sz[i]? = some n → ∃ d : Int, (drawA c sz)[i]? = some d ∧ 0 ≤ d ∧ d < n
  | [], _, _ => ⟨rfl, fun i n h => by simp at h⟩
  | m :: sz, c, hp => by
    obtain ⟨h1, h2⟩ := drawA_ok sz (c / (m : Int)) fun n hn => hp n (List.mem_cons_of_mem _ hn)
    have hm : 0 < m := hp m List.mem_cons_self
    refine ⟨congrArg Nat.succ h1, fun i n h => ?_⟩
    cases i with
    | zero =>
      have e : m = n := Option.some.inj h
      subst e
      exact ⟨_, rfl, Int.emod_nonneg _ (by omega), Int.emod_lt_of_pos _ (by omega)⟩
    | succ i => exact h2 i n (by simpa using h)
theorem drawB_ok : ∀ (sz : List Nat) (c : Int) (j : Nat), (∀ n ∈ sz, 0 < n) → (drawB c j sz).length = sz.length ∧ ∀ (i : Nat) (n : Nat), sz[i]? = some n → ∃ d : Int, (drawB c j sz)[i]? = some d ∧ 0 ≤ d ∧ d < n
  | [], _, _, _ => ⟨rfl, fun i n h => by simp at h⟩
  | m :: sz, c, j, hp => by
    obtain ⟨h1, h2⟩ := drawB_ok sz (stir c j) (j + 1) fun n hn => hp n (List.mem_cons_of_mem _ hn)
    have hm : 0 < m := hp m List.mem_cons_self
    refine ⟨congrArg Nat.succ h1, fun i n h => ?_⟩
    cases i with
    | zero =>
      have e : m = n := Option.some.inj h
      subst e
      exact ⟨_, rfl, Int.emod_nonneg _ (by omega), Int.emod_lt_of_pos _ (by omega)⟩
    | succ i => exact h2 i n (by simpa using h)
/-- as many as asked, each below its size -/
theorem drawL_ok (ns : List Int) (k : Nat) (sz : List Nat) (hp : ∀ n ∈ sz, 0 < n) : (drawL ns k sz).length = sz.length ∧ ∀ (i : Nat) (n : Nat), sz[i]? = some n → ∃ d : Int, (drawL ns k sz)[i]? = some d ∧ 0 ≤ d ∧ d < n := by
  unfold drawL
  dsimp only
  split
  · exact drawA_ok sz _ hp
  · exact drawB_ok sz _ _ hp
/-- the digit at a place, as a number -/
def dig (ns : List Int) (k : Nat) (sz : List Nat) (i : Nat) : Nat := ((drawL ns k sz).getD i 0).toNat
theorem dig_ok {ns : List Int} {k : Nat} {sz : List Nat} (hp : ∀ n ∈ sz, 0 < n) {i n : Nat} (h : sz[i]? = some n) : (drawL ns k sz)[i]? = some ((dig ns k sz i : Nat) : Int) ∧ dig ns k sz i < n := by
  obtain ⟨d, h1, h2, h3⟩ := (drawL_ok ns k sz hp).2 i n h
  have e : dig ns k sz i = d.toNat := by rw [dig, List.getD_eq_getElem?_getD, h1]; rfl
  rw [e]
  refine ⟨?_, by omega⟩
  rw [h1]
  congr 1
  omega
theorem drawL_eq {ns : List Int} {k : Nat} {sz : List Nat} (hp : ∀ n ∈ sz, 0 < n) : drawL ns k sz = (List.range sz.length).map fun i => ((dig ns k sz i : Nat) : Int) := by
  refine List.ext_getElem? fun i => ?_
  rw [List.getElem?_map]
  rcases Nat.lt_or_ge i sz.length with z | z
  · rw [(dig_ok hp (List.getElem?_eq_getElem z)).1, List.getElem?_range z]
    rfl
  · rw [List.getElem?_eq_none (by rw [(drawL_ok ns k sz hp).1]; exact z), List.getElem?_eq_none (by rw [List.length_range]; exact z)]
    rfl
def natD (sz : List Nat) : List D := sz.map fun (n : Nat) => D.int (n : Int)
def intD (ns : List Int) : List D := ns.map D.int
def C__law_draw : Ct := fun ss oc => ∃ (ns : List Int) (k : Nat) (sz : List Nat), k < 1000000 ∧ sz.length ≤ 1000 ∧ (∀ n ∈ sz, 0 < n ∧ n < 2 ^ 60) ∧ ss = [.scr ns, .d (.int k), .bor (natD sz)] ∧ oc = .ret (.own (intD (drawL ns k sz)))
theorem natD_at {sz : List Nat} {i : Nat} {d : D} (h : (natD sz)[i]? = some d) : ∃ n, sz[i]? = some n ∧ d = .int (n : Nat) := by
  unfold natD at h
  rw [List.getElem?_map] at h
  cases e : sz[i]? with
  | none => rw [e] at h; cases h
  | some n => rw [e] at h; exact ⟨n, rfl, (Option.some.inj h).symm⟩
theorem drawA_app : ∀ (a b : List Nat) (c : Int), ∃ c', drawA c (a ++ b) = drawA c a ++ drawA c' b ∧ (∀ n ∈ a, 0 < n) → True
  | _, _, c => ⟨c, fun _ => trivial⟩
/-- behind i of the digits: the rest to be drawn -/
def restA : Int → List Nat → Int
  | c, [] => c
  | c, n :: ns => restA (c / (n : Int)) ns
theorem drawA_snoc : ∀ (a : List Nat) (n : Nat) (c : Int), drawA c (a ++ [n]) = drawA c a ++ [restA c a % (n : Int)] ∧ restA c (a ++ [n]) = restA c a / (n : Int)
  | [], _, _ => ⟨rfl, rfl⟩
  | m :: a, n, c => by
    obtain ⟨h1, h2⟩ := drawA_snoc a n (c / (m : Int))
    exact ⟨congrArg (c % (m : Int) :: ·) h1, h2⟩
def restB : Int → Nat → List Nat → Int
  | m, _, [] => m
  | m, j, _ :: ns => restB (stir m j) (j + 1) ns
theorem drawB_snoc : ∀ (a : List Nat) (n : Nat) (c : Int) (j : Nat), drawB c j (a ++ [n]) = drawB c j a ++ [stir (restB c j a) (j + a.length) / 7 % (n : Int)] ∧ restB c j (a ++ [n]) = stir (restB c j a) (j + a.length)
  | [], _, _, _ => ⟨rfl, rfl⟩
  | m :: a, n, c, j => by
    obtain ⟨h1, h2⟩ := drawB_snoc a n (stir c j) (j + 1)
    have e : j + 1 + a.length = j + (m :: a).length := by rw [List.length_cons]; omega
    rw [e] at h1 h2
    exact ⟨congrArg (stir c j / 7 % (m : Int) :: ·) h1, h2⟩
theorem take_snoc {α : Type} {l : List α} {i : Nat} {x : α} (h : l[i]? = some x) : l.take (i + 1) = l.take i ++ [x] := by
  rw [List.take_add_one, h]
  rfl
theorem intD_snoc (a : List Int) (n : Int) : intD (a ++ [n]) = intD a ++ [.int n] := by unfold intD; rw [List.map_append]; rfl
theorem intD_len (a : List Int) : (intD a).length = a.length := List.length_map ..
theorem drawA_len : ∀ (a : List Nat) (c : Int), (drawA c a).length = a.length
  | [], _ => rfl
  | _ :: a, c => congrArg Nat.succ (drawA_len a _)
theorem drawB_len : ∀ (a : List Nat) (c : Int) (j : Nat), (drawB c j a).length = a.length
  | [], _, _ => rfl
  | _ :: a, c, j => congrArg Nat.succ (drawB_len a _ _)
theorem stir_lt (m : Int) (j : Nat) : 0 ≤ stir m j ∧ stir m j < 2147483647 := ⟨Int.emod_nonneg _ (by decide), Int.emod_lt_of_pos _ (by decide)⟩
theorem restB_lt : ∀ (a : List Nat) (c : Int) (j : Nat), 0 ≤ c → c < 2147483647 → 0 ≤ restB c j a ∧ restB c j a < 2147483647
  | [], _, _, h, h' => ⟨h, h'⟩
  | _ :: a, c, j, _, _ => restB_lt a _ _ (stir_lt c j).1 (stir_lt c j).2
theorem ok__law_draw (F : FnP K "_law_draw" st__law_draw f fd) (f__law_cell : Fn P w K mg base "_law_cell" 1 C__law_cell) (m_len : mg "len" = none) (m_range : mg "range" = none) :
    FnOk P w K mg base (L2.CX P w) 2 f fd ["_law_script", "_law_k", "_law_sizes"] (spD K C__law_draw) := by
  refine fn_mk F sc__law_draw (fun ss oc h => by obtain ⟨ns, k, sz, _, _, _, rfl, _⟩ := h; rfl) fun cdv A outer s H E hr hp ss oc h => ?_
  have nd := sc__law_draw.nd
  obtain ⟨ns, k, sz, hk, hl, hz, rfl, rfl⟩ := h
  have ten : (10 : Int) ^ (18 : Int).toNat = 1000000000000000000 := by decide
  have c10 : CPow 10 18 := ⟨by decide, by decide, by decide⟩
  refine ex_set 3 nd (ev_call f__law_cell hr (by decide) (eva_cons (ev_varS 0 rfl) (eva_cons (ev_var 1 rfl) eva_nil)) ⟨ns, k, rfl, rfl⟩) ?_
  have go : Ex (cxOf (L2.CX P w) P w K mg base ["_law_script", "_law_k", "_law_sizes", "_law_cell_here", "_law_drawn", "_law_size", "_law_stirred", "_law_j"] "_law_draw" (defScope st__law_draw) f cdv A outer s H E) (fun x _ _ => Oc.ret (.own (intD (drawL ns k sz))) = .exc x)
      ((defBody st__law_draw).drop 2) [.scr ns, .d (.int k), .bor (natD sz), .d (.int ((cellL ns k).natAbs : Nat)), .any, .any, .any, .any] emp { nx := fun _ _ => Oc.ret (.own (intD (drawL ns k sz))) = .ret (.d .non), rt := fun s _ => Oc.ret (.own (intD (drawL ns k sz))) = .ret s } := by
    have hd : drawL ns k sz = if 10 ^ 18 ≤ ((cellL ns k).natAbs : Int) then drawA ((cellL ns k).natAbs - 10 ^ 18) sz else drawB ((((cellL ns k).natAbs : Int) + 1 + 31 * k) % 2147483647) 0 sz := rfl
    rw [hd]
    generalize (cellL ns k).natAbs = c
    refine ex_set 4 nd (ev_lst evd_nil) ?_
    refine ex_if (tv_ge (ev_var 3 rfl) (ev_pow c10 ev_int ev_int)) (fun hq => ?_) (fun hq => ?_)
    · have hc : (10 : Int) ^ 18 ≤ c := of_decide_eq_true hq
      rw [if_pos hc]
      refine ex_set 3 nd (ev_minus (ev_var 3 rfl) (ev_pow c10 ev_int ev_int)) ?_
      generalize hb : (c : Int) - 10 ^ (18 : Int).toNat = b
      have hb' : (c : Int) - 10 ^ 18 = b := hb
      rw [hb']
      refine ex_for (fun i G => ∃ u, G = [.scr ns, .d (.int k), .bor (natD sz), .d (.int (restA b (sz.take i))), .own (intD (drawA b (sz.take i))), u, .any, .any]) hp (evi_bor 2 rfl) ⟨_, rfl⟩ ?_ ?_
      · rintro i d G hi ⟨u, rfl⟩
        obtain ⟨n, hn, rfl⟩ := natD_at hi
        obtain ⟨hn0, hn1⟩ := hz n (List.mem_of_getElem? hn)
        refine ⟨_, tg_name 5 nd, ?_⟩
        refine ex_append 4 (ev_mod (by omega) (ev_var 3 rfl) (ev_var 5 rfl)) rfl ?_ ?_
        · rw [intD_len, drawA_len, List.length_take]
          exact Nat.lt_of_le_of_lt (Nat.min_le_right _ _) (Nat.lt_of_le_of_lt hl (by decide))
        refine ex_set 3 nd (ev_fdiv (wide_div (b := 60) (by omega) (by rw [Int.natAbs_natCast]; exact hn1) (by decide) (by decide)) (ev_var 3 rfl) (ev_var 5 rfl)) ?_
        refine ex_nil ⟨rfl, .d (.int n), ?_⟩
        obtain ⟨h1, h2⟩ := drawA_snoc (sz.take i) n b
        rw [take_snoc hn, h1, h2, intD_snoc]
        rfl
      · rintro G ⟨u, rfl⟩
        refine ex_retO 4 rfl ?_
        show Oc.ret _ = Oc.ret _
        have : (natD sz).length = sz.length := List.length_map ..
        rw [this, List.take_length]
    refine ex_nil ?_
    have hc : ¬ (10 : Int) ^ 18 ≤ c := of_decide_eq_false hq
    rw [if_neg hc]
    refine ex_set 6 nd (ev_mod (by decide) (ev_add (ev_add (ev_var 3 rfl) ev_int) (ev_mul (.inl ⟨by decide, by decide⟩) ev_int (ev_var 1 rfl))) ev_int) ?_
    generalize hb : ((c : Int) + 1 + 31 * k) % 2147483647 = b
    have b0 : 0 ≤ b := by rw [← hb]; exact Int.emod_nonneg _ (by decide)
    have b1 : b < 2147483647 := by rw [← hb]; exact Int.emod_lt_of_pos _ (by decide)
    have hnl : (natD sz).length = sz.length := List.length_map ..
    refine ex_for (fun i G => ∃ u, G = [.scr ns, .d (.int k), .bor (natD sz), .d (.int c), .own (intD (drawB b 0 (sz.take i))), .any, .d (.int (restB b 0 (sz.take i))), u]) hp (evi_range m_range (ev_len sz.length m_len (ev_varB 2 (.inr rfl)) (.inl ⟨_, .inl rfl, hnl⟩)) (by omega)) ⟨_, rfl⟩ ?_ ?_
    · rintro i d G hi ⟨u, rfl⟩
      obtain ⟨hi1, rfl⟩ := rangeD_at hi
      have hn : sz[i]? = some sz[i] := List.getElem?_eq_getElem hi1
      obtain ⟨hn0, hn1⟩ := hz _ (List.mem_of_getElem? hn)
      obtain ⟨r0, r1⟩ := restB_lt (sz.take i) b 0 b0 b1
      have htl : (sz.take i).length = i := by rw [List.length_take]; omega
      refine ⟨_, tg_name 7 nd, ?_⟩
      refine ex_set 6 nd (ev_mod (by decide) (ev_add (ev_add (ev_mul (.inr ⟨by decide, by decide⟩) (ev_var 6 rfl) ev_int) ev_int) (ev_var 7 rfl)) ev_int) ?_
      refine ex_set 6 nd (ev_mod (by decide) (ev_add (ev_mul (.inr ⟨by decide, by decide⟩) (ev_var 6 rfl) ev_int) ev_int) ev_int) ?_
      refine ex_append 4 (ev_mod (j := (sz[i] : Nat)) (by omega) (ev_fdiv (wide_div (b := 3) (by decide) (by decide) (by decide) (by decide)) (ev_var 6 rfl) ev_int) (ev_ixB (ev_varB 2 (.inr rfl)) (ev_var 7 rfl) ?_)) rfl ?_ ?_
      · have : (natD sz)[i]? = some (.int (sz[i] : Nat)) := by unfold natD; rw [List.getElem?_map, hn]; rfl
        rw [show ((0 : Int) + (i : Int)) = (i : Int) by omega]
        exact atI_nat this
      · rw [intD_len, drawB_len, htl]
        exact Nat.lt_of_lt_of_le hi1 (Nat.le_trans hl (by decide))
      refine ex_nil ⟨rfl, .d (.int (0 + (i : Int))), ?_⟩
      obtain ⟨h1, h2⟩ := drawB_snoc (sz.take i) sz[i] b 0
      rw [htl] at h1 h2
      rw [take_snoc hn, h1, h2, intD_snoc]
      rfl
    · rintro G ⟨u, rfl⟩
      refine ex_retO 4 rfl ?_
      show Oc.ret _ = Oc.ret _
      rw [rangeD_len, List.take_length]
  refine ex_if (tv_lt (ev_var 3 rfl) ev_int) (fun hq => ?_) (fun hq => ?_)
  · refine ex_set 3 nd (ev_neg (ev_var 3 rfl)) ?_
    refine ex_nil ?_
    have hlt : cellL ns k < 0 := of_decide_eq_true hq
    have e : ((cellL ns k).natAbs : Int) = -cellL ns k := by omega
    rw [e] at go
    exact go
  · refine ex_nil ?_
    have hge : ¬ cellL ns k < 0 := of_decide_eq_false hq
    have e : ((cellL ns k).natAbs : Int) = cellL ns k := by omega
    rw [e] at go
    exact go

theorem sc__law_f : FnScope ["_law_top", "_law_bottom", "_law_first", "_law_second"] ["_law_top", "_law_bottom"] (defScope st__law_f) := ⟨rfl, rfl, rfl, by decide +kernel, rfl, by decide +kernel, by decide +kernel⟩
def C__law_f : Ct := fun ss oc => ∃ t b : Int, ss = [.d (.int t), .d (.int b)] ∧ b.natAbs < 2 ^ 9000 ∧ b ≠ 0 ∧ oc = .ret (.d (ratD (Rat.divInt t b)))
theorem ok__law_f (F : FnP K "_law_f" st__law_f f fd) (m_max : mg "max" = none) : FnOk P w K mg base (L2.CX P w) 2 f fd ["_law_top", "_law_bottom"] (spD K C__law_f) := by
  refine fn_mk F sc__law_f (fun ss oc h => by obtain ⟨t, b, rfl, _⟩ := h; rfl) fun cdv A outer s H E hr hp ss oc h => ?_
  have nd := sc__law_f.nd
  obtain ⟨t, b, rfl, hb, hb0, rfl⟩ := h
  have go : ∀ t' b' : Int, b'.natAbs < 2 ^ 9000 → 0 < b' → Rat.divInt t' b' = Rat.divInt t b → Ex (cxOf (L2.CX P w) P w K mg base ["_law_top", "_law_bottom", "_law_first", "_law_second"] "_law_f" (defScope st__law_f) f cdv A outer s H E) (fun x _ _ => Oc.ret (.d (ratD (Rat.divInt t b))) = .exc x) ((defBody st__law_f).drop 1)
      [.d (.int t'), .d (.int b'), .any, .any] emp { nx := fun _ _ => Oc.ret (.d (ratD (Rat.divInt t b))) = .ret (.d .non), rt := fun s _ => Oc.ret (.d (ratD (Rat.divInt t b))) = .ret s } := by
    intro t b hb hpos he
    rw [← he]
    clear he
    refine ex_set 2 nd (ev_max2 rfl m_max (eva_cons (ev_var 0 rfl) (eva_cons (ev_neg (ev_var 0 rfl)) eva_nil))) ?_
    refine ex_set 3 nd (ev_var 1 rfl) ?_
    have em : max t (-t) = (t.natAbs : Nat) := by omega
    have eb : b = (b.natAbs : Nat) := by omega
    rw [em]
    refine ex_while (fun n G => ∃ x y : Nat, G = [.d (.int t), .d (.int b), .d (.int x), .d (.int y)] ∧ Nat.gcd x y = Nat.gcd t.natAbs b.natAbs ∧ n = y) hp ⟨t.natAbs, b.natAbs, by rw [← eb]; rfl, rfl, rfl⟩ ?_
    rintro n G ⟨x, y, rfl, hg, rfl⟩
    refine ⟨_, tv_neI (ev_var 3 rfl) ev_int, fun hq => ?_, fun hq => ?_⟩
    · have hb : n ≠ 0 := by
        intro z; subst z; simp at hq
      refine ex_par 2 3 nd (eva_cons (ev_var 3 rfl) (eva_cons (ev_mod (by omega) (ev_var 2 rfl) (ev_var 3 rfl)) eva_nil)) ?_
      refine ex_nil ⟨rfl, x % n, Nat.mod_lt _ (Nat.pos_of_ne_zero hb), n, x % n, rfl, ?_, rfl⟩
      rw [← hg, Nat.gcd_comm x n, Nat.gcd_rec n x]
      exact Nat.gcd_comm _ _
    · have hn : n = 0 := by
        by_cases z : n = 0
        · exact z
        · exfalso
          have : ¬ ((n : Int) = 0) := by omega
          simp [this] at hq
          omega
      subst hn
      rw [Nat.gcd_zero_right] at hg
      subst hg
      have hg0 : 0 < Nat.gcd t.natAbs b.natAbs := Nat.gcd_pos_of_pos_right _ (by omega)
      have hg1 : Nat.gcd t.natAbs b.natAbs ≤ b.natAbs := Nat.gcd_le_right _ (by omega)
      have hd : ∀ i : Int, CDivW i (Nat.gcd t.natAbs b.natAbs : Nat) := fun i => wide_div (b := 9000) (by omega) (by rw [Int.natAbs_natCast]; omega) (by decide) (by decide)
      refine ex_ret (ev_tup (evd_cons (ev_fdiv (hd t) (ev_var 0 rfl) (ev_var 2 rfl)) (evd_cons (ev_fdiv (hd b) (ev_var 1 rfl) (ev_var 2 rfl)) evd_nil))) ?_
      rw [divInt_pos hpos]
  refine ex_if (tv_lt (ev_var 1 rfl) ev_int) (fun hq => ?_) (fun hq => ?_)
  · refine ex_set 0 nd (ev_neg (ev_var 0 rfl)) ?_
    refine ex_set 1 nd (ev_neg (ev_var 1 rfl)) ?_
    refine ex_nil ?_
    have hlt : b < 0 := of_decide_eq_true hq
    exact go (-t) (-b) (by rw [Int.natAbs_neg]; exact hb) (by omega) (Rat.neg_divInt_neg t b)
  · refine ex_nil ?_
    have hge : ¬ b < 0 := of_decide_eq_false hq
    exact go t b hb (by omega) rfl
theorem ev_lf {X : Cx} {G : List S} {R : Res} {a b : Expr} {pos p : Pos} {k j : Nat} {t i : Int} (f : Fn X.prog X.w X.K X.mg X.base "_law_f" k C__law_f) (hr : Room j X.A) (hk : k ≤ j) (ha : Ev X a G R (.d (.int t))) (hb : Ev X b G R (.d (.int i)))
    (h0 : i ≠ 0) (hi : i.natAbs < 2 ^ 9000) (hg : Gl X "_law_f" := by rfl) (he : starEach [a, b] X.env = (false, eval a X.env) :: starEach [b] X.env := by rfl) (he2 : starEach [b] X.env = (false, eval b X.env) :: starEach [] X.env := by rfl) (hpl : (backTo pos (starEach [b] X.env)).any (·.1) = false := by rfl) :
    Ev X (.Call (.Name "_law_f" p) [a, b] [] pos) G R (.d (ratD (Rat.divInt t i))) :=
  ev_call f hr hk (eva_cons ha (eva_cons hb eva_nil he2) he) ⟨t, i, rfl, hi, h0, rfl⟩ rfl hg (by decide) he hpl

theorem sc__law_less : FnScope ["_law_a", "_law_b"] ["_law_a", "_law_b"] (defScope st__law_less) := ⟨rfl, rfl, rfl, by decide +kernel, rfl, by decide +kernel, by decide +kernel⟩
def C__law_less : Ct := fun ss oc => ∃ (a b : Rat) (n m : Nat), ss = [.d (ratD a), .d (ratD b)] ∧ Bd n a ∧ Bd m b ∧ n ≤ 4000 ∧ m ≤ 4000 ∧ oc = .ret (.d (.bl (decide (a < b))))
theorem ok__law_less (F : FnP K "_law_less" st__law_less f fd) :
    FnOk P w K mg base (L2.CX P w) 1 f fd ["_law_a", "_law_b"] (spD K C__law_less) := by
  refine fn_mk F sc__law_less (fun ss oc h => by obtain ⟨a, b, n, m, rfl, _⟩ := h; rfl) fun cdv A outer s H E hr hp ss oc h => ?_
  have nd := sc__law_less.nd
  obtain ⟨a, b, n, m, rfl, ha, hb, hn, hm, rfl⟩ := h
  have hn0 := ha.pos
  have hm0 := hb.pos
  have w1 : CMulW a.num b.den := wide_mul ha.num hb.den' hn0 hm0 (by omega)
  have w2 : CMulW b.num a.den := wide_mul hb.num ha.den' hm0 hn0 (by omega)
  refine ex_ret (ev_lt (ev_mulW w1 (ev_ixT (ev_var 0 rfl) ev_int rfl) (ev_ixT (ev_var 1 rfl) ev_int rfl)) (ev_mulW w2 (ev_ixT (ev_var 1 rfl) ev_int rfl) (ev_ixT (ev_var 0 rfl) ev_int rfl))) ?_
  show Oc.ret _ = Oc.ret _
  rw [decide_eq_decide.mpr (Rat.lt_iff a b)]
theorem ev__law_less {X : Cx} {G : List S} {R : Res} {x y : Expr} {pos p : Pos} {k j n m : Nat} {a b : Rat} (f : Fn X.prog X.w X.K X.mg X.base "_law_less" k C__law_less) (hr : Room j X.A) (hk : k ≤ j) (ha : Ev X x G R (.d (ratD a))) (hb : Ev X y G R (.d (ratD b)))
    [da : Bd n a] [db : Bd m b] (h : n ≤ 4000 ∧ m ≤ 4000 := by omega) (hg : Gl X "_law_less" := by rfl) (he : starEach [x, y] X.env = (false, eval x X.env) :: starEach [y] X.env := by rfl) (he2 : starEach [y] X.env = (false, eval y X.env) :: starEach [] X.env := by rfl) (hpl : (backTo pos (starEach [y] X.env)).any (·.1) = false := by rfl) :
    Ev X (.Call (.Name "_law_less" p) [x, y] [] pos) G R (.d (.bl (decide (a < b)))) :=
  ev_call f hr hk (eva_cons ha (eva_cons hb eva_nil he2) he) ⟨a, b, n, m, rfl, da, db, h.1, h.2, rfl⟩ rfl hg (by decide) he hpl

theorem sc_law : FnScope ["_law_script", "_law_k", "_law_digits", "_law_a", "_law_b", "_law_c", "_law_due"] ["_law_script"] (defScope st_law) := ⟨rfl, rfl, rfl, by decide +kernel, rfl, by decide +kernel, by decide +kernel⟩
theorem tv_neI_f {X : Cx} {G : List S} {R : Res} {a b : Expr} {pos : Pos} {i j : Int} (h : i = j) (ha : Ev X a G R (.d (.int i))) (hb : Ev X b G R (.d (.int j))) : Tv X (.Compare a [.NotEq] [b] pos) G R false := tv_eq (tv_neI ha hb) (by rw [decide_eq_true h]; rfl)
theorem ok_law {NE : Addr} (F : FnP K "law" st_law f fd) (f__law_draw : Fn P w K mg base "_law_draw" 2 C__law_draw) (f__law_f : Fn P w K mg base "_law_f" 2 C__law_f)
    (f_plus : Fn P w K mg base "plus" 3 C_plus) (f_minus : Fn P w K mg base "minus" 3 C_minus) (f_times : Fn P w K mg base "times" 3 C_times) (f_over : Fn P w K mg base "over" 3 (C_over NE)) (f_compare : Fn P w K mg base "compare" 1 C_compare)
    (f__law_less : Fn P w K mg base "_law_less" 1 C__law_less) (m_len : mg "len" = none) (m_range : mg "range" = none) (m_min : mg "min" = none) (m_max : mg "max" = none) :
    FnOk P w K mg base (L2.CX P w) 5 f fd ["_law_script"] (spD K C_law) := by
  refine fn_mk F sc_law (fun ss oc h => by obtain ⟨ns, _, rfl, _⟩ := h; rfl) fun cdv A outer s H E hr hp ss oc h => ?_
  have nd := sc_law.nd
  obtain ⟨ns, hl, rfl, rfl⟩ := h
  have hcnt : min 20 (max 1 (ns.length : Int)) = ((min 20 (max 1 ns.length) : Nat) : Int) := by omega
  refine ex_for (fun k G => ∃ u v w x y z, G = [.scr ns, u, v, w, x, y, z]) hp (evi_range (n := min 20 (max 1 ns.length)) m_range (ev_eq (ev_min2 rfl m_min (eva_cons ev_int (eva_cons (ev_max2 rfl m_max (eva_cons ev_int (eva_cons (ev_len ns.length m_len (ev_varS 0 rfl) (.inr ⟨ns, rfl, rfl⟩)) eva_nil))) eva_nil))) (by rw [hcnt])) (by omega)) ⟨_, _, _, _, _, _, rfl⟩ ?_ ?_
  · rintro k d G hd ⟨u1, u2, u3, u4, u5, u6, rfl⟩
    obtain ⟨hk, rfl⟩ := rangeD_at hd
    rw [show ((0 : Int) + (k : Int)) = (k : Int) by omega]
    refine ⟨_, tg_name 1 nd, ?_⟩
    have hsz : ∀ n ∈ ([31, 9, 31, 9, 31, 9] : List Nat), 0 < n := by decide
    have hd0 := (dig_ok (ns := ns) (k := k) hsz (i := 0) rfl).2
    have hd1 := (dig_ok (ns := ns) (k := k) hsz (i := 1) rfl).2
    have hd2 := (dig_ok (ns := ns) (k := k) hsz (i := 2) rfl).2
    have hd3 := (dig_ok (ns := ns) (k := k) hsz (i := 3) rfl).2
    have hd4 := (dig_ok (ns := ns) (k := k) hsz (i := 4) rfl).2
    have hd5 := (dig_ok (ns := ns) (k := k) hsz (i := 5) rfl).2
    refine ex_set 2 nd (ev_call f__law_draw hr (by decide) (eva_cons (ev_varS 0 rfl) (eva_cons (ev_var 1 rfl) (eva_cons (ev_ob (ev_lst (evd_cons ev_int (evd_cons ev_int (evd_cons ev_int (evd_cons ev_int (evd_cons ev_int (evd_cons ev_int evd_nil)))))))) eva_nil))) ⟨ns, k, [31, 9, 31, 9, 31, 9], by omega, by decide, by decide, rfl, rfl⟩) ?_
    rw [drawL_eq hsz]
    generalize dig ns k [31, 9, 31, 9, 31, 9] = dg at *
    show Ex _ _ _ [.scr ns, .d (.int k), .own [.int (dg 0 : Nat), .int (dg 1 : Nat), .int (dg 2 : Nat), .int (dg 3 : Nat), .int (dg 4 : Nat), .int (dg 5 : Nat)], u3, u4, u5, u6] emp _
    have sm : ∀ i : Int, i.natAbs < 100 → i.natAbs < 2 ^ 9000 := fun i hi => Nat.lt_of_lt_of_le (show i.natAbs < 2 ^ 7 by omega) (pow_mono (by decide))
    refine ex_set 3 nd (ev_lf f__law_f hr (by decide) (ev_minus (ev_ixB (ev_varB 2 (.inl rfl)) ev_int rfl) ev_int) (ev_add ev_int (ev_ixB (ev_varB 2 (.inl rfl)) ev_int rfl)) (by omega) (sm _ (by omega))) ?_
    refine ex_set 4 nd (ev_lf f__law_f hr (by decide) (ev_minus (ev_ixB (ev_varB 2 (.inl rfl)) ev_int rfl) ev_int) (ev_add ev_int (ev_ixB (ev_varB 2 (.inl rfl)) ev_int rfl)) (by omega) (sm _ (by omega))) ?_
    refine ex_set 5 nd (ev_lf f__law_f hr (by decide) (ev_minus (ev_ixB (ev_varB 2 (.inl rfl)) ev_int rfl) ev_int) (ev_add ev_int (ev_ixB (ev_varB 2 (.inl rfl)) ev_int rfl)) (by omega) (sm _ (by omega))) ?_
    generalize ha : Rat.divInt ((dg 0 : Int) - 15) (1 + (dg 1 : Int)) = a
    generalize hb : Rat.divInt ((dg 2 : Int) - 15) (1 + (dg 3 : Int)) = b
    generalize hc : Rat.divInt ((dg 4 : Int) - 15) (1 + (dg 5 : Int)) = c
    have Ba : Bd 5 a := by rw [← ha]; exact bd_divInt (by omega) (by omega) (by decide)
    have Bb : Bd 5 b := by rw [← hb]; exact bd_divInt (by omega) (by omega) (by decide)
    have Bc : Bd 5 c := by rw [← hc]; exact bd_divInt (by omega) (by omega) (by decide)
    refine ex_ifN (tw_tv (tw_orF (tv_neD_f hr (ratD_fit _) (ratD_fit _) (ratD_iff.mpr (by grind)) (ev_plus f_plus hr (by decide) (ev_plus f_plus hr (by decide) (ev_var 3 rfl) (ev_var 4 rfl)) (ev_var 5 rfl)) (ev_plus f_plus hr (by decide) (ev_var 3 rfl) (ev_plus f_plus hr (by decide) (ev_var 5 rfl) (ev_var 4 rfl))))
      (tw_or1 (tv_neD_f hr (ratD_fit _) (ratD_fit _) (ratD_iff.mpr (by grind)) (ev_times f_times hr (by decide) (ev_times f_times hr (by decide) (ev_var 3 rfl) (ev_var 4 rfl)) (ev_var 5 rfl)) (ev_times f_times hr (by decide) (ev_var 3 rfl) (ev_times f_times hr (by decide) (ev_var 5 rfl) (ev_var 4 rfl))))))) ?_
    refine ex_ifN (tw_tv (tw_orF (tv_neD_f hr (ratD_fit _) (ratD_fit _) (ratD_iff.mpr (by grind)) (ev_times f_times hr (by decide) (ev_var 3 rfl) (ev_plus f_plus hr (by decide) (ev_var 4 rfl) (ev_var 5 rfl))) (ev_plus f_plus hr (by decide) (ev_times f_times hr (by decide) (ev_var 3 rfl) (ev_var 4 rfl)) (ev_times f_times hr (by decide) (ev_var 3 rfl) (ev_var 5 rfl))))
      (tw_or1 (tv_neD_f hr (ratD_fit _) (ratD_fit _) (ratD_iff.mpr (by grind)) (ev_plus f_plus hr (by decide) (ev_minusR f_minus hr (by decide) (ev_var 3 rfl) (ev_var 4 rfl)) (ev_var 4 rfl)) (ev_var 3 rfl))))) ?_
    have hb0 : (!decide (b.num = 0)) = true → b ≠ 0 := fun hq z => by rw [z] at hq; simp at hq
    refine ex_ifN (tw_tv (tw_andF (tv_neI (ev_ixT (ev_var 4 rfl) ev_int rfl) ev_int) (fun hq => (tw_and1 (tv_neD_f hr (ratD_fit _) (ratD_fit _) (ratD_iff.mpr (Rat.div_mul_cancel (hb0 hq))) (ev_times f_times hr (by decide) (ev_over f_over hr (by decide) (ev_var 3 rfl) (ev_var 4 rfl) (hb0 hq)) (ev_var 4 rfl)) (ev_var 3 rfl)))))) ?_
    refine ex_set 6 nd ev_int ?_
    refine ex_ifJ [.scr ns, .d (.int k), .own [.int (dg 0 : Nat), .int (dg 1 : Nat), .int (dg 2 : Nat), .int (dg 3 : Nat), .int (dg 4 : Nat), .int (dg 5 : Nat)], .d (ratD a), .d (ratD b), .d (ratD c), .d (.int (if a < b then -1 else 0))] (tv_val (ev__law_less f__law_less hr (by decide) (ev_var 3 rfl) (ev_var 4 rfl))) (fun hq => ?_) (fun hq => ?_) ?_
    · refine ex_set 6 nd (ev_neg ev_int) ?_
      refine ex_nil ⟨?_, rfl⟩
      rw [if_pos (of_decide_eq_true hq)]
      rfl
    · refine ex_nil ⟨?_, rfl⟩
      rw [if_neg (of_decide_eq_false hq)]
      rfl
    refine ex_ifJ [.scr ns, .d (.int k), .own [.int (dg 0 : Nat), .int (dg 1 : Nat), .int (dg 2 : Nat), .int (dg 3 : Nat), .int (dg 4 : Nat), .int (dg 5 : Nat)], .d (ratD a), .d (ratD b), .d (ratD c), .d (.int (cmpR a b))] (tv_val (ev__law_less f__law_less hr (by decide) (ev_var 4 rfl) (ev_var 3 rfl))) (fun hq => ?_) (fun hq => ?_) ?_
    · refine ex_set 6 nd ev_int ?_
      refine ex_nil ⟨?_, rfl⟩
      have h1 : b < a := of_decide_eq_true hq
      have h2 : ¬ a < b := by grind
      have e : cmpR a b = 1 := by rw [cmpR, if_neg h2, if_pos h1]
      rw [e]
      rfl
    · refine ex_nil ⟨?_, rfl⟩
      have h1 : ¬ b < a := of_decide_eq_false hq
      have e : cmpR a b = if a < b then -1 else 0 := by rw [cmpR, if_neg h1]
      rw [e]
    have q1 : cmpR (a + c) (b + c) = cmpR a b := by
      have e1 : a + c < b + c ↔ a < b := Rat.add_lt_add_right
      have e2 : b + c < a + c ↔ b < a := Rat.add_lt_add_right
      simp only [cmpR, e1, e2]
    have q2 : cmpR b a = -cmpR a b := by
      unfold cmpR
      by_cases h1 : a < b
      · have h2 : ¬ b < a := by grind
        simp [h1, h2]
      · by_cases h2 : b < a <;> simp [h1, h2]
    refine ex_ifN (tw_tv (tw_orF (tv_neI_f rfl (ev_compare f_compare hr (by decide) (ev_var 3 rfl) (ev_var 4 rfl)) (ev_var 6 rfl)) (tw_orF (tv_neI_f q1 (ev_compare f_compare hr (by decide) (ev_plus f_plus hr (by decide) (ev_var 3 rfl) (ev_var 5 rfl)) (ev_plus f_plus hr (by decide) (ev_var 4 rfl) (ev_var 5 rfl))) (ev_var 6 rfl))
      (tw_or1 (tv_neI_f q2 (ev_compare f_compare hr (by decide) (ev_var 4 rfl) (ev_var 3 rfl)) (ev_neg (ev_var 6 rfl))))))) ?_
    exact ex_nil ⟨rfl, _, _, _, _, _, _, rfl⟩
  · rintro G ⟨u1, u2, u3, u4, u5, u6, rfl⟩
    exact ex_ret ev_bl rfl

end
end DL
namespace DL
open PySem PySem.Spec PyProof.Rows L2
def d_common_divisor : He.DefD := ⟨("common_divisor", none), "common_divisor", "common_divisor", defArgs st_common_divisor, defBody st_common_divisor, defScope st_common_divisor, [], []⟩
def d_number : He.DefD := ⟨("number", none), "number", "number", defArgs st_number, defBody st_number, defScope st_number, [], []⟩
def d_plus : He.DefD := ⟨("plus", none), "plus", "plus", defArgs st_plus, defBody st_plus, defScope st_plus, [], []⟩
def d_minus : He.DefD := ⟨("minus", none), "minus", "minus", defArgs st_minus, defBody st_minus, defScope st_minus, [], []⟩
def d_times : He.DefD := ⟨("times", none), "times", "times", defArgs st_times, defBody st_times, defScope st_times, [], []⟩
def d_over : He.DefD := ⟨("over", none), "over", "over", defArgs st_over, defBody st_over, defScope st_over, [], []⟩
def d_compare : He.DefD := ⟨("compare", none), "compare", "compare", defArgs st_compare, defBody st_compare, defScope st_compare, [], []⟩
def d__law_cell : He.DefD := ⟨("_law_cell", none), "_law_cell", "_law_cell", defArgs st__law_cell, defBody st__law_cell, defScope st__law_cell, [], []⟩
def d__law_draw : He.DefD := ⟨("_law_draw", none), "_law_draw", "_law_draw", defArgs st__law_draw, defBody st__law_draw, defScope st__law_draw, [], []⟩
def d__law_f : He.DefD := ⟨("_law_f", none), "_law_f", "_law_f", defArgs st__law_f, defBody st__law_f, defScope st__law_f, [], []⟩
def d__law_less : He.DefD := ⟨("_law_less", none), "_law_less", "_law_less", defArgs st__law_less, defBody st__law_less, defScope st__law_less, [], []⟩
def d_law : He.DefD := ⟨("law", none), "law", "law", defArgs st_law, defBody st_law, defScope st_law, [], []⟩
def fn : List He.DefD := ([d_common_divisor, d_number, d_plus, d_minus, d_times, d_over, d_compare, d__law_cell, d__law_draw, d__law_f, d__law_less, d_law] : List He.DefD)
def fa : List He.Fa := ([.free "abs", .free "len", .free "max", .free "min", .free "range", .glo "common_divisor", .glo "number", .glo "plus", .glo "minus", .glo "times", .glo "over", .glo "compare", .glo "_law_cell", .glo "_law_draw", .glo "_law_f", .glo "_law_less", .glo "law", .glo "NumberError", .exc "NumberError"] : List He.Fa)
def tu : List (Str × List He.Dv) := []
abbrev R : PySem.W.OpenRow := PySem.W.OpenLaw.row PySem.Challenge.rw_surecues_k02_rules_of_reckoning
/-- what is read off the heap: the facts, the defs, the tuples -/
def Says (K : PySem.W.Frag) : Prop := He.SaysD fa fn K ∧ ∀ (i : Nat) {p : Str × List He.Dv}, tu[i]? = some p → He.tupB K p.1 p.2 = true
abbrev AlX : Type := He.AlD × Bool
def obsX (K : PySem.W.Frag) : AlX := (He.obsD fa fn K, tu.all fun p => He.tupB K p.1 p.2)
theorem says_of {K : PySem.W.Frag} (e : obsX K = (He.valD fn, true)) : Says K := by
  have e1 : He.obsD fa fn K = He.valD fn := congrArg (fun z : AlX => z.1) e
  have e2 : (tu.all fun p => He.tupB K p.1 p.2) = true := congrArg (fun z : AlX => z.2) e
  exact ⟨e1, fun i p h => List.all_eq_true.mp e2 p (List.mem_of_getElem? h)⟩
def hk : PySem.W.Hook where
  α := AlX
  obs := fun s => obsX (He.frG s.heap.get? (He.asD s.heap.get? 4))
  val := fun _ => (He.valD fn, true)
  says := fun _ h => ∃ K : PySem.W.Frag, K.In h ∧ Says K
  of := fun _ _ e => ⟨_, He.frG_in, says_of e⟩
  keeps := fun _ _ _ ⟨K, hK, c⟩ k => ⟨K, PySem.W.Frag.In.keeps hK k, c⟩
def ob (s : PySem.W.SharedT) : AlX := obsX (He.frG (HandSHeadRun.getT s) (He.asD (HandSHeadRun.getT s) 4))
theorem ob_eq (s : PySem.W.SharedT) : ob s = hk.obs s.abs := by
  have e : HandSHeadRun.getT s = s.abs.heap.get? := funext (HandSHeadRun.getT_eq s)
  show obsX _ = obsX _
  rw [e]
def loose : List Str := (["CueError", "NumberError", "common_divisor", "number", "plus", "minus", "times", "over", "compare", "_law_cell", "_law_draw", "_law_f", "_law_less"] : List Str)
set_option maxHeartbeats 0 in
theorem run (w : World) : HandSHeadRun.RunEq R (PySem.W.view R.prog [16]) hk ob 2000 loose w := by
  intro os
  kernel_rfl
theorem facts {P : Program} {w : World} {K : PySem.W.Frag} {h : Heap} {mg : Str → Option Value} {f : Addr} (X : K.In h) (G : h.Ns mainGlobals mg) (hfa : mg ("law" : Str) = some (.ref f)) (c : Says K) :
    ∃ fd : FuncData, (∀ (s : Shared) (v : Value), BindsTo s fd ⟨[v], []⟩ [("_law_script", v)]) ∧ ∀ base : Heap, K.In base → base.Ns mainGlobals mg → FnOk P w K mg base (L2.CX P w) 5 f fd ["_law_script"] (spD K C_law) := by
  have m_abs : mg "abs" = none := He.free_ok X G (c.1.fact 0 (f := .free "abs") rfl)
  have m_len : mg "len" = none := He.free_ok X G (c.1.fact 1 (f := .free "len") rfl)
  have m_max : mg "max" = none := He.free_ok X G (c.1.fact 2 (f := .free "max") rfl)
  have m_min : mg "min" = none := He.free_ok X G (c.1.fact 3 (f := .free "min") rfl)
  have m_range : mg "range" = none := He.free_ok X G (c.1.fact 4 (f := .free "range") rfl)
  have T_NumberError : ExcC K mg "NumberError" (He.ga K "NumberError") := by
    obtain ⟨h1, h2, h3, h4⟩ := He.exc_ok (c.1.fact 18 (f := .exc "NumberError") rfl)
    exact ⟨He.glo_ok X G (c.1.fact 17 (f := .glo "NumberError") rfl), h1, h2, h3, h4⟩
  obtain ⟨fd_common_divisor, F_common_divisor⟩ := c.1.def_ 0 (d := d_common_divisor) rfl
  obtain ⟨fd_number, F_number⟩ := c.1.def_ 1 (d := d_number) rfl
  obtain ⟨fd_plus, F_plus⟩ := c.1.def_ 2 (d := d_plus) rfl
  obtain ⟨fd_minus, F_minus⟩ := c.1.def_ 3 (d := d_minus) rfl
  obtain ⟨fd_times, F_times⟩ := c.1.def_ 4 (d := d_times) rfl
  obtain ⟨fd_over, F_over⟩ := c.1.def_ 5 (d := d_over) rfl
  obtain ⟨fd_compare, F_compare⟩ := c.1.def_ 6 (d := d_compare) rfl
  obtain ⟨fd__law_cell, F__law_cell⟩ := c.1.def_ 7 (d := d__law_cell) rfl
  obtain ⟨fd__law_draw, F__law_draw⟩ := c.1.def_ 8 (d := d__law_draw) rfl
  obtain ⟨fd__law_f, F__law_f⟩ := c.1.def_ 9 (d := d__law_f) rfl
  obtain ⟨fd__law_less, F__law_less⟩ := c.1.def_ 10 (d := d__law_less) rfl
  obtain ⟨fd_law, F_law⟩ := c.1.def_ 11 (d := d_law) rfl
  have e := hfa.symm.trans (He.glo_ok X G (c.1.fact 16 (f := .glo "law") rfl))
  cases e
  refine ⟨fd_law, fun s v => FunD.bindsA (ps := ["_law_script"]) F_law (fun _ _ _ _ _ _ us hl => match us, hl with | [_], _ => rfl) s [v] rfl, fun base _ _ => ?_⟩
  have f_common_divisor : Fn P w K mg base "common_divisor" 1 C_common_divisor := ⟨_, _, _, ok_common_divisor F_common_divisor, He.glo_ok X G (c.1.fact 5 (f := .glo "common_divisor") rfl), F_common_divisor.kp, F_common_divisor.bindsN fun _ _ _ _ _ _ us hl => match us, hl with | [_, _], _ => rfl⟩
  have f_number : Fn P w K mg base "number" 2 (C_number (He.ga K "NumberError")) := ⟨_, _, _, ok_number F_number f_common_divisor T_NumberError m_abs, He.glo_ok X G (c.1.fact 6 (f := .glo "number") rfl), F_number.kp, F_number.bindsN fun _ _ _ _ _ _ us hl => match us, hl with | [_, _], _ => rfl⟩
  have f_plus : Fn P w K mg base "plus" 3 C_plus := ⟨_, _, _, ok_plus F_plus f_number, He.glo_ok X G (c.1.fact 7 (f := .glo "plus") rfl), F_plus.kp, F_plus.bindsN fun _ _ _ _ _ _ us hl => match us, hl with | [_, _], _ => rfl⟩
  have f_minus : Fn P w K mg base "minus" 3 C_minus := ⟨_, _, _, ok_minus F_minus f_number, He.glo_ok X G (c.1.fact 8 (f := .glo "minus") rfl), F_minus.kp, F_minus.bindsN fun _ _ _ _ _ _ us hl => match us, hl with | [_, _], _ => rfl⟩
  have f_times : Fn P w K mg base "times" 3 C_times := ⟨_, _, _, ok_times F_times f_number, He.glo_ok X G (c.1.fact 9 (f := .glo "times") rfl), F_times.kp, F_times.bindsN fun _ _ _ _ _ _ us hl => match us, hl with | [_, _], _ => rfl⟩
  have f_over : Fn P w K mg base "over" 3 (C_over (He.ga K "NumberError")) := ⟨_, _, _, ok_over F_over f_number, He.glo_ok X G (c.1.fact 10 (f := .glo "over") rfl), F_over.kp, F_over.bindsN fun _ _ _ _ _ _ us hl => match us, hl with | [_, _], _ => rfl⟩
  have f_compare : Fn P w K mg base "compare" 1 C_compare := ⟨_, _, _, ok_compare F_compare, He.glo_ok X G (c.1.fact 11 (f := .glo "compare") rfl), F_compare.kp, F_compare.bindsN fun _ _ _ _ _ _ us hl => match us, hl with | [_, _], _ => rfl⟩
  have f__law_cell : Fn P w K mg base "_law_cell" 1 C__law_cell := ⟨_, _, _, ok__law_cell F__law_cell m_len, He.glo_ok X G (c.1.fact 12 (f := .glo "_law_cell") rfl), F__law_cell.kp, F__law_cell.bindsN fun _ _ _ _ _ _ us hl => match us, hl with | [_, _], _ => rfl⟩
  have f__law_draw : Fn P w K mg base "_law_draw" 2 C__law_draw := ⟨_, _, _, ok__law_draw F__law_draw f__law_cell m_len m_range, He.glo_ok X G (c.1.fact 13 (f := .glo "_law_draw") rfl), F__law_draw.kp, F__law_draw.bindsN fun _ _ _ _ _ _ us hl => match us, hl with | [_, _, _], _ => rfl⟩
  have f__law_f : Fn P w K mg base "_law_f" 2 C__law_f := ⟨_, _, _, ok__law_f F__law_f m_max, He.glo_ok X G (c.1.fact 14 (f := .glo "_law_f") rfl), F__law_f.kp, F__law_f.bindsN fun _ _ _ _ _ _ us hl => match us, hl with | [_, _], _ => rfl⟩
  have f__law_less : Fn P w K mg base "_law_less" 1 C__law_less := ⟨_, _, _, ok__law_less F__law_less, He.glo_ok X G (c.1.fact 15 (f := .glo "_law_less") rfl), F__law_less.kp, F__law_less.bindsN fun _ _ _ _ _ _ us hl => match us, hl with | [_, _], _ => rfl⟩
  exact ok_law F_law f__law_draw f__law_f f_plus f_minus f_times f_over f_compare f__law_less m_len m_range m_min m_max
end DL
open PySem PySem.W PySem.Calls PyProof.Rows
set_option maxHeartbeats 0 in
theorem PySem.Challenge.cw_surecues_k02_rules_of_reckoning_holds : PySem.Challenge.rw_surecues_k02_rules_of_reckoning.Holds := by
  w_on; o_law
  refine HandSHeadRun.head_any (r := OpenLaw.row PySem.Challenge.rw_surecues_k02_rules_of_reckoning) (q := view (OpenLaw.row PySem.Challenge.rw_surecues_k02_rules_of_reckoning).prog [16]) (H := DL.hk) (ob := DL.ob) (M := 2000) (loose := DL.loose) (d := HandSHeadRun.topDef (OpenLaw.row PySem.Challenge.rw_surecues_k02_rules_of_reckoning).prog 16) (kwd := []) DL.ob_eq
    (by kernel_rfl) (fun s => by kernel_rfl) DL.run (by kernel_rfl) (by kernel_rfl) (by kernel_rfl) (by rfl) (by first | assumption | decide +kernel) (by decide +kernel) ⟨rfl, rfl, rfl, rfl, rfl, by decide +kernel⟩ ?hw ?hc
  case hw => w_witness2
  case hc =>
    refine L2.walk_ofE (l := PySem.Challenge.rw_surecues_k02_rules_of_reckoning) (n := 63) (k := 5) (x := "_law_script") (CX := L2.CX0) rfl (by decide) (by kernel_rfl) ⟨rfl, by decide, by decide⟩ ?F (fun _ _ _ _ z => z)
    intro w mg fa h Y G hmg0
    obtain ⟨K, KX, c⟩ := Y
    have hmg : mg ("law" : PySem.Str) = some (.ref fa) := by
      have e : (HandSHeadRun.topDef (OpenLaw.row PySem.Challenge.rw_surecues_k02_rules_of_reckoning).prog 16).name = ("law" : PySem.Str) := by kernel_rfl
      rw [← e]
      exact hmg0
    obtain ⟨fd, hb, hF⟩ := DL.facts (P := (PySem.Challenge.rw_surecues_k02_rules_of_reckoning).prog) (w := w) KX G hmg c
    exact ⟨K, fd, DL.spD K DL.C_law, KX, hb, fun H a ns hl _ hS => DL.law_sp hl hS, fun base b1 b2 => DL.cx0_law (hF base b1 b2)⟩
