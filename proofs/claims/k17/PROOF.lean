import PyProof.Rows.All
import Wide.All
import OpenK.AllK
import Wide.FinOn
import HandS.ForMost
import HandS.ForExc
import HandS.Flow
import HandS.IsInst
import HandS.TupAny
import HandS.TupMul
import HandS.Style
import KE.GoesEnum
import KE.GoesZip
import HandS.Zip
import HandS.Conv
import KE.KTupSum
import HandS.Deep
import HandS.Text
import HandS.SortInts
import HandS.Remove
import HandS.Comp
import HandS.ExcInit
import HandS.TryMany
import HandS.WordsExc
import PySem.Challenge.RW_rooksonstairs_k17_papers_looked_through
set_option Elab.async false
set_option linter.all false
set_option maxRecDepth 100000
set_option maxHeartbeats 4000000
namespace Rk
open PySem PySem.Spec PyProof.Rows L2

/-! ### values as trees -/
inductive D where
  | non | bl (b : Bool) | int (i : Int) | str (s : Str)
  | tup (ds : List D) | lst (ds : List D)
  | box | fn (x : Str) | dct (kvs : List (Str × D)) | scr (ns : List Int)
  deriving Inhabited

/-- the numbers of the box of draws -/
structure Bx where
  x : Int
  y : Int
  z : Int

/-- shared, fresh (no one else has it), borrowed (a name of the frame owns it) -/
inductive Kd where
  | sh | fr | bo
  deriving DecidableEq

inductive Sl where
  | none | val (d : D) | own (ds : List D)

abbrev Slots := List Sl

inductive Out where
  | ok (d : D) (k : Kd) (b : Bx)
  | exc (x : Str) (fs : List D) (b : Bx)
  | bad
inductive OutL where
  | ok (ds : List D) (b : Bx)
  | exc (x : Str) (fs : List D) (b : Bx)
  | bad
inductive OutB where
  | ok (t : Bool) (b : Bx)
  | exc (x : Str) (fs : List D) (b : Bx)
  | bad
inductive SOut where
  | nx (δ : Slots) (b : Bx)
  | bk (δ : Slots) (b : Bx)
  | ct (δ : Slots) (b : Bx)
  | ret (d : D) (k : Kd) (b : Bx)
  | exc (x : Str) (fs : List D) (δ : Slots) (b : Bx)
  | bad

abbrev EM := Slots → Bx → Out
abbrev LM := Slots → Bx → OutL
abbrev BM := Slots → Bx → OutB
abbrev SM := Slots → Bx → SOut
abbrev FM := List D → Bx → Out

/-! ### how a tree stands in the heap -/
/-- what stays the same through the whole run -/
structure Cn where
  P : Program
  w : World
  K : PySem.W.Frag
  mg : Str → Option Value
  base : Heap

mutual
def RV (c : Cn) (β : Option Addr) (S : Hp) : D → V → Prop
  | .non, v => v = .non
  | .bl b, v => v = .bl b
  | .int i, v => v = .int i
  | .str s, v => v = .str s
  | .tup ds, v => ∃ a vs, v = .ref a ∧ SqT c.K S a vs ∧ RVs c β S ds vs
  | .lst ds, v => ∃ a vs, v = .ref a ∧ S a = some (.lst vs) ∧ RVs c β S ds vs
  | .box, v => ∃ a, v = .ref a ∧ β = some a
  | .fn x, v => ∃ f, v = .ref f ∧ c.mg x = some (.ref f)
  | .dct _, _ => False
  | .scr ns, v => ∃ a, v = .ref a ∧ SqL c.K S a (ns.map V.int)
def RVs (c : Cn) (β : Option Addr) (S : Hp) : List D → List V → Prop
  | [], vs => vs = []
  | d :: ds, vs => ∃ v r, vs = v :: r ∧ RV c β S d v ∧ RVs c β S ds r
end

def Sub (S H : Hp) : Prop := ∀ a o, S a = some o → H a = some o
theorem Sub.refl (H : Hp) : Sub H H := fun _ _ h => h
theorem Sub.trans {A B C : Hp} (x : Sub A B) (y : Sub B C) : Sub A C := fun a o h => y a o (x a o h)
theorem Sub.sqT {K : PySem.W.Frag} {S T : Hp} {a : Addr} {xs : List V} (s : Sub S T) (h : SqT K S a xs) : SqT K T a xs := by
  rcases h with (h | ⟨o, h⟩) | h
  · exact .inl (.inl (s _ _ h))
  · exact .inl (.inr ⟨o, s _ _ h⟩)
  · exact .inr h
theorem Sub.sqL {K : PySem.W.Frag} {S T : Hp} {a : Addr} {xs : List V} (s : Sub S T) (h : SqL K S a xs) : SqL K T a xs := by
  rcases h with (h | ⟨o, h⟩) | h
  · exact .inl (.inl (s _ _ h))
  · exact .inl (.inr ⟨o, s _ _ h⟩)
  · exact .inr h

mutual
theorem RV.mono {c : Cn} {β : Option Addr} {S T : Hp} (s : Sub S T) : ∀ {d : D} {v : V}, RV c β S d v → RV c β T d v
  | .non, _, h => h
  | .bl _, _, h => h
  | .int _, _, h => h
  | .str _, _, h => h
  | .tup ds, v, h => by
    obtain ⟨a, vs, e, q, r⟩ := (show ∃ a vs, v = .ref a ∧ SqT c.K S a vs ∧ RVs c β S ds vs from h)
    exact (show ∃ a vs, v = .ref a ∧ SqT c.K T a vs ∧ RVs c β T ds vs from ⟨a, vs, e, s.sqT q, RVs.mono s r⟩)
  | .lst ds, v, h => by
    obtain ⟨a, vs, e, q, r⟩ := (show ∃ a vs, v = .ref a ∧ S a = some (.lst vs) ∧ RVs c β S ds vs from h)
    exact (show ∃ a vs, v = .ref a ∧ T a = some (.lst vs) ∧ RVs c β T ds vs from ⟨a, vs, e, s _ _ q, RVs.mono s r⟩)
  | .box, _, h => h
  | .fn _, _, h => h
  | .dct _, _, h => h
  | .scr ns, v, h => by
    obtain ⟨a, e, q⟩ := (show ∃ a, v = .ref a ∧ SqL c.K S a (ns.map V.int) from h)
    exact (show ∃ a, v = .ref a ∧ SqL c.K T a (ns.map V.int) from ⟨a, e, s.sqL q⟩)
theorem RVs.mono {c : Cn} {β : Option Addr} {S T : Hp} (s : Sub S T) : ∀ {ds : List D} {vs : List V}, RVs c β S ds vs → RVs c β T ds vs
  | [], _, h => h
  | d :: ds, vs, h => by
    obtain ⟨v, r, e, h1, h2⟩ := (show ∃ v r, vs = v :: r ∧ RV c β S d v ∧ RVs c β S ds r from h)
    exact (show ∃ v r, vs = v :: r ∧ RV c β T d v ∧ RVs c β T ds r from ⟨v, r, e, RV.mono s h1, RVs.mono s h2⟩)
end

theorem RVs.length {c : Cn} {β : Option Addr} {S : Hp} : ∀ {ds : List D} {vs : List V}, RVs c β S ds vs → vs.length = ds.length
  | [], vs, h => by rw [show vs = [] from h]; rfl
  | d :: ds, vs, h => by
    obtain ⟨v, r, rfl, _, h2⟩ := (show ∃ v r, vs = v :: r ∧ RV c β S d v ∧ RVs c β S ds r from h)
    rw [List.length_cons, List.length_cons, RVs.length h2]
theorem RVs.get {c : Cn} {β : Option Addr} {S : Hp} : ∀ {ds : List D} {vs : List V} {i : Nat} {d : D}, RVs c β S ds vs → ds[i]? = some d → ∃ v, vs[i]? = some v ∧ RV c β S d v
  | [], _, _, _, _, e => by simp at e
  | x :: ds, vs, 0, d, h, e => by
    obtain ⟨v, r, rfl, h1, _⟩ := (show ∃ v r, vs = v :: r ∧ RV c β S x v ∧ RVs c β S ds r from h)
    simp at e; subst e
    exact ⟨v, rfl, h1⟩
  | x :: ds, vs, i + 1, d, h, e => by
    obtain ⟨v, r, rfl, _, h2⟩ := (show ∃ v r, vs = v :: r ∧ RV c β S x v ∧ RVs c β S ds r from h)
    simpa using RVs.get h2 (show ds[i]? = some d by simpa using e)
theorem RVs.get' {c : Cn} {β : Option Addr} {S : Hp} : ∀ {ds : List D} {vs : List V} {i : Nat} {v : V}, RVs c β S ds vs → vs[i]? = some v → ∃ d, ds[i]? = some d ∧ RV c β S d v
  | [], vs, _, _, h, e => by rw [show vs = [] from h] at e; simp at e
  | x :: ds, vs, 0, v, h, e => by
    obtain ⟨u, r, rfl, h1, _⟩ := (show ∃ v r, vs = v :: r ∧ RV c β S x v ∧ RVs c β S ds r from h)
    simp at e; subst e
    exact ⟨x, rfl, h1⟩
  | x :: ds, vs, i + 1, v, h, e => by
    obtain ⟨u, r, rfl, _, h2⟩ := (show ∃ v r, vs = v :: r ∧ RV c β S x v ∧ RVs c β S ds r from h)
    simpa using RVs.get' h2 (show r[i]? = some v by simpa using e)
theorem RVs.nil {c : Cn} {β : Option Addr} {S : Hp} : RVs c β S [] [] := (show ([] : List V) = [] from rfl)
theorem RVs.cons {c : Cn} {β : Option Addr} {S : Hp} {d : D} {ds : List D} {v : V} {vs : List V} (h : RV c β S d v) (t : RVs c β S ds vs) : RVs c β S (d :: ds) (v :: vs) :=
  (show ∃ v' r, v :: vs = v' :: r ∧ RV c β S d v' ∧ RVs c β S ds r from ⟨v, vs, rfl, h, t⟩)
theorem RVs.uncons {c : Cn} {β : Option Addr} {S : Hp} {d : D} {ds : List D} {vs : List V} (h : RVs c β S (d :: ds) vs) : ∃ v r, vs = v :: r ∧ RV c β S d v ∧ RVs c β S ds r := h
theorem RVs.append {c : Cn} {β : Option Addr} {S : Hp} : ∀ {ds es : List D} {vs us : List V}, RVs c β S ds vs → RVs c β S es us → RVs c β S (ds ++ es) (vs ++ us)
  | [], _, vs, _, h, t => by rw [show vs = [] from h]; exact t
  | d :: ds, es, vs, us, h, t => by
    obtain ⟨v, r, rfl, h1, h2⟩ := h.uncons
    exact .cons h1 (RVs.append h2 t)
theorem RVs.take {c : Cn} {β : Option Addr} {S : Hp} : ∀ {ds : List D} {vs : List V} (n : Nat), RVs c β S ds vs → RVs c β S (ds.take n) (vs.take n)
  | [], vs, n, h => by rw [show vs = [] from h]; simp; exact .nil
  | d :: ds, vs, 0, h => by simp; exact .nil
  | d :: ds, vs, n + 1, h => by
    obtain ⟨v, r, rfl, h1, h2⟩ := h.uncons
    simp only [List.take_succ_cons]
    exact .cons h1 (RVs.take n h2)
theorem RVs.drop {c : Cn} {β : Option Addr} {S : Hp} : ∀ {ds : List D} {vs : List V} (n : Nat), RVs c β S ds vs → RVs c β S (ds.drop n) (vs.drop n)
  | [], vs, n, h => by rw [show vs = [] from h]; simp; exact .nil
  | d :: ds, vs, 0, h => by simpa using h
  | d :: ds, vs, n + 1, h => by
    obtain ⟨v, r, rfl, h1, h2⟩ := h.uncons
    simpa only [List.drop_succ_cons] using RVs.drop n h2
theorem RVs.set {c : Cn} {β : Option Addr} {S : Hp} {x : D} {u : V} (hx : RV c β S x u) : ∀ {ds : List D} {vs : List V} (i : Nat), RVs c β S ds vs → RVs c β S (ds.set i x) (vs.set i u)
  | [], vs, n, h => by rw [show vs = [] from h]; exact .nil
  | d :: ds, vs, 0, h => by
    obtain ⟨v, r, rfl, h1, h2⟩ := h.uncons
    exact .cons hx h2
  | d :: ds, vs, n + 1, h => by
    obtain ⟨v, r, rfl, h1, h2⟩ := h.uncons
    exact .cons h1 (RVs.set hx n h2)
theorem RVs.reverse {c : Cn} {β : Option Addr} {S : Hp} : ∀ {ds : List D} {vs : List V}, RVs c β S ds vs → RVs c β S ds.reverse vs.reverse
  | [], vs, h => by rw [show vs = [] from h]; exact .nil
  | d :: ds, vs, h => by
    obtain ⟨v, r, rfl, h1, h2⟩ := h.uncons
    rw [List.reverse_cons, List.reverse_cons]
    exact (RVs.reverse h2).append (.cons h1 .nil)
theorem RVs.ints {c : Cn} {β : Option Addr} {S : Hp} : ∀ (ns : List Int), RVs c β S (ns.map D.int) (ns.map V.int)
  | [] => .nil
  | n :: ns => .cons (show V.int n = V.int n from rfl) (RVs.ints ns)
theorem RVs.of_ints {c : Cn} {β : Option Addr} {S : Hp} : ∀ {ns : List Int} {vs : List V}, RVs c β S (ns.map D.int) vs → vs = ns.map V.int
  | [], vs, h => h
  | n :: ns, vs, h => by
    obtain ⟨v, r, rfl, h1, h2⟩ := RVs.uncons (ds := ns.map D.int) h
    rw [show v = V.int n from h1, RVs.of_ints h2]
    rfl

/-! ### states -/
def boxO (b : Bx) : HO := .lst [.int b.x, .int b.y, .int b.z]
def BxR (β : Option Addr) (H : Hp) (b : Bx) : Prop := ∀ a, β = some a → H a = some (boxO b)

/-- what happens between two states: nothing that stood is changed but the box; what is shared grows by new things alone -/
structure Ext (β : Option Addr) (H S H' S' : Hp) : Prop where
  hh : ∀ a o, H a = some o → β ≠ some a → H' a = some o
  bx : ∀ a, H a ≠ none → H' a ≠ none
  ss : Sub S S'
  nw : ∀ a, H a ≠ none → S a = none → S' a = none
  sub : Sub S' H'
theorem Ext.refl {β : Option Addr} {H S : Hp} (s : Sub S H) : Ext β H S H S := ⟨fun _ _ h _ => h, fun _ h => h, Sub.refl _, fun _ _ h => h, s⟩
theorem Ext.trans {β : Option Addr} {H S H1 S1 H2 S2 : Hp} (x : Ext β H S H1 S1) (y : Ext β H1 S1 H2 S2) : Ext β H S H2 S2 :=
  ⟨fun a o h n => y.hh a o (x.hh a o h n) n, fun a h => y.bx a (x.bx a h), x.ss.trans y.ss, fun a h n => y.nw a (x.bx a h) (x.nw a h n), y.sub⟩
/-- a new object, not shared -/
theorem Ext.laid {β : Option Addr} {H S : Hp} {p : Addr} {o : HO} (s : Sub S H) (hp : H p = none) : Ext β H S (upd H p o) S :=
  ⟨fun a u h _ => by rw [upd_ne (ne_of_none h hp)]; exact h, fun a h => by
    by_cases e : a = p
    · rw [e, upd_same]; simp
    · rw [upd_ne e]; exact h, Sub.refl _, fun _ _ h => h, fun a u h => by
    have h' := s a u h
    rw [upd_ne (ne_of_none h' hp)]; exact h'⟩
/-- a new object, shared -/
theorem Ext.laidS {β : Option Addr} {H S : Hp} {p : Addr} {o : HO} (s : Sub S H) (hp : H p = none) : Ext β H S (upd H p o) (upd S p o) := by
  have hs : S p = none := by
    cases e : S p with
    | none => rfl
    | some u => rw [s p u e] at hp; cases hp
  refine ⟨(Ext.laid s hp).hh, (Ext.laid (β := β) (o := o) s hp).bx, fun a u h => by rw [upd_ne (ne_of_none h hs)]; exact h, fun a h n => ?_, fun a u h => ?_⟩
  · have : a ≠ p := fun e => h (e ▸ hp)
    rw [upd_ne this]; exact n
  · by_cases e : a = p
    · rw [e, upd_same] at h ⊢; exact h
    · rw [upd_ne e] at h ⊢; exact s a u h
/-- a new object of this stretch becomes shared -/
theorem Ext.share {β : Option Addr} {H S H1 S1 : Hp} {a : Addr} {o : HO} (x : Ext β H S H1 S1) (n : H a = none) (h : H1 a = some o) (m : S1 a = none) : Ext β H S H1 (upd S1 a o) :=
  ⟨x.hh, x.bx, fun b u e => by rw [upd_ne (ne_of_none (x.ss b u e) m)]; exact x.ss b u e, fun b hb e => by
    have : b ≠ a := fun q => hb (q ▸ n)
    rw [upd_ne this]; exact x.nw b hb e, fun b u e => by
    by_cases q : b = a
    · rw [q, upd_same] at e; rw [q, h]; exact e
    · rw [upd_ne q] at e; exact x.sub b u e⟩

/-- a list that can be read -/
def LR (c : Cn) (β : Option Addr) (H S : Hp) (ds : List D) (v : V) : Prop := ∃ a vs, v = .ref a ∧ H a = some (.lst vs) ∧ RVs c β S ds vs
/-- a value behind an expression that began at H -/
def RR (c : Cn) (β : Option Addr) (H H' S' : Hp) (d : D) : Kd → V → Prop
  | .sh, v => RV c β S' d v
  | .fr, v => ∃ ds a vs, d = .lst ds ∧ v = .ref a ∧ H a = none ∧ H' a = some (.lst vs) ∧ S' a = none ∧ β ≠ some a ∧ RVs c β S' ds vs
  | .bo, v => ∃ ds a vs, d = .lst ds ∧ v = .ref a ∧ H' a = some (.lst vs) ∧ β ≠ some a ∧ RVs c β S' ds vs
/-- a value that can be read: of data -/
def RD (c : Cn) (β : Option Addr) (H S : Hp) (d : D) (v : V) : Prop := RV c β S d v ∨ ∃ ds a vs, d = .lst ds ∧ v = .ref a ∧ β ≠ some a ∧ H a = some (.lst vs) ∧ RVs c β S ds vs
theorem RR.rd {c : Cn} {β : Option Addr} {H H' S' : Hp} {d : D} {v : V} : ∀ {k : Kd}, RR c β H H' S' d k v → RD c β H' S' d v
  | .sh, h => .inl h
  | .fr, h => by
    obtain ⟨ds, a, vs, rfl, rfl, _, h1, _, hb, h2⟩ := (show ∃ ds a vs, d = .lst ds ∧ v = .ref a ∧ H a = none ∧ H' a = some (.lst vs) ∧ S' a = none ∧ β ≠ some a ∧ RVs c β S' ds vs from h)
    exact .inr ⟨ds, a, vs, rfl, rfl, hb, h1, h2⟩
  | .bo, h => by
    obtain ⟨ds, a, vs, rfl, rfl, h1, hb, h2⟩ := (show ∃ ds a vs, d = .lst ds ∧ v = .ref a ∧ H' a = some (.lst vs) ∧ β ≠ some a ∧ RVs c β S' ds vs from h)
    exact .inr ⟨ds, a, vs, rfl, rfl, hb, h1, h2⟩
theorem RD.ext {c : Cn} {β : Option Addr} {H S H' S' : Hp} {d : D} {v : V} (x : Ext β H S H' S') : RD c β H S d v → RD c β H' S' d v
  | .inl h => .inl (RV.mono x.ss h)
  | .inr ⟨ds, a, vs, e, e2, hb, h3, h4⟩ => .inr ⟨ds, a, vs, e, e2, hb, x.hh _ _ h3 hb, RVs.mono x.ss h4⟩
theorem RD.lr {c : Cn} {β : Option Addr} {H S : Hp} {ds : List D} {v : V} (s : Sub S H) : RD c β H S (.lst ds) v → LR c β H S ds v
  | .inl h => by
    obtain ⟨a, vs, e, q, r⟩ := (show ∃ a vs, v = .ref a ∧ S a = some (.lst vs) ∧ RVs c β S ds vs from h)
    exact ⟨a, vs, e, s _ _ q, r⟩
  | .inr ⟨es, a, vs, e, e2, hb, h3, h4⟩ => by cases e; exact ⟨a, vs, e2, h3, h4⟩
/-- what is not a list is shared -/
theorem RD.rv {c : Cn} {β : Option Addr} {H S : Hp} {d : D} {v : V} (n : ∀ ds, d ≠ .lst ds) : RD c β H S d v → RV c β S d v
  | .inl h => h
  | .inr ⟨ds, _, _, e, _⟩ => (n ds e).elim

/-- the state of a body: H0, S0 at the entry of the def -/
structure RS (c : Cn) (β : Option Addr) (H0 S0 H S : Hp) (δ : Slots) (σ : L2.St) (b : Bx) : Prop where
  ext : Ext β H0 S0 H S
  len : δ.length = σ.length
  bx : BxR β H b
  bs : ∀ a, β = some a → S a = none
  val : ∀ (i : Nat) (d : D), δ[i]? = some (Sl.val d) → ∃ v, σ[i]? = some (some v) ∧ RV c β S d v
  own : ∀ (i : Nat) (ds : List D), δ[i]? = some (Sl.own ds) → ∃ a vs, σ[i]? = some (some (.ref a)) ∧ H0 a = none ∧ H a = some (.lst vs) ∧ S a = none ∧ β ≠ some a ∧ RVs c β S ds vs
  dis : ∀ (i j : Nat) (ds es : List D) (a : Addr), i ≠ j → δ[i]? = some (Sl.own ds) → δ[j]? = some (Sl.own es) → σ[i]? = some (some (.ref a)) → σ[j]? ≠ some (some (.ref a))
theorem RS.sub {c : Cn} {β : Option Addr} {H0 S0 H S : Hp} {δ : Slots} {σ : L2.St} {b : Bx} (r : RS c β H0 S0 H S δ σ b) : Sub S H := r.ext.sub
theorem RS.step {c : Cn} {β : Option Addr} {H0 S0 H S H' S' : Hp} {δ : Slots} {σ : L2.St} {b b' : Bx} (r : RS c β H0 S0 H S δ σ b) (x : Ext β H S H' S') (hb : BxR β H' b') : RS c β H0 S0 H' S' δ σ b' :=
  ⟨r.ext.trans x, r.len, hb, fun a e => x.nw a (by rw [r.bx a e]; simp) (r.bs a e), fun i d e => by
    obtain ⟨v, h1, h2⟩ := r.val i d e
    exact ⟨v, h1, RV.mono x.ss h2⟩, fun i ds e => by
    obtain ⟨a, vs, h1, h2, h3, h4, h5, h6⟩ := r.own i ds e
    exact ⟨a, vs, h1, h2, x.hh _ _ h3 h5, x.nw a (by rw [h3]; simp) h4, h5, RVs.mono x.ss h6⟩, r.dis⟩

/-! ### exceptions -/
/-- an exception of the class x of the text, with its fields -/
def ExR (c : Cn) (β : Option Addr) (S : Hp) (x : Str) (fs : List D) (cls : Value) (dx : Option Addr) (H : Hp) : Prop :=
  ∃ C, c.mg x = some (.ref C) ∧ cls = .ref C ∧ match fs with
    | [] => dx = none
    | [d] => ∃ a f v, dx = some a ∧ H a = some (.xd [(f, v)]) ∧ RV c β S d v
    | _ => False

/-! ### readings by an evaluator -/
def OutE (c : Cn) (β : Option Addr) (W : WX) (σ : L2.St) (H S : Hp) (Q : VK) : Out → Prop
  | .ok d k b => ∀ v H' S', Ext β H S H' S' → BxR β H' b → RR c β H H' S' d k v → Q v H'
  | .exc x fs b => ∀ cls dx H' S', Ext β H S H' S' → BxR β H' b → ExR c β S' x fs cls dx H' → W cls dx σ H'
  | .bad => False
def tE (c : Cn) (m : EM) (W : WX) : TE := fun σ H Q => ∃ β H0 S0 S δ b, RS c β H0 S0 H S δ σ b ∧ OutE c β W σ H S Q (m δ b)
def OutLs (c : Cn) (β : Option Addr) (W : WX) (σ : L2.St) (H S : Hp) (Q : List V → Hp → Prop) : OutL → Prop
  | .ok ds b => ∀ vs H' S', Ext β H S H' S' → BxR β H' b → RVs c β S' ds vs → Q vs H'
  | .exc x fs b => ∀ cls dx H' S', Ext β H S H' S' → BxR β H' b → ExR c β S' x fs cls dx H' → W cls dx σ H'
  | .bad => False
def tL (c : Cn) (m : LM) (W : WX) : TA := fun σ H Q => ∃ β H0 S0 S δ b, RS c β H0 S0 H S δ σ b ∧ OutLs c β W σ H S Q (m δ b)
def OutBs (c : Cn) (β : Option Addr) (W : WX) (σ : L2.St) (H S : Hp) (Q : Bool → Hp → Prop) : OutB → Prop
  | .ok t b => ∀ H' S', Ext β H S H' S' → BxR β H' b → Q t H'
  | .exc x fs b => ∀ cls dx H' S', Ext β H S H' S' → BxR β H' b → ExR c β S' x fs cls dx H' → W cls dx σ H'
  | .bad => False
def tT (c : Cn) (m : BM) (W : WX) : TT := fun σ H Q => ∃ β H0 S0 S δ b, RS c β H0 S0 H S δ σ b ∧ OutBs c β W σ H S Q (m δ b)
def OutS (c : Cn) (β : Option Addr) (W : WX) (H0 S0 : Hp) (E : Ends) : SOut → Prop
  | .nx δ b => ∀ σ H S, RS c β H0 S0 H S δ σ b → E.nx σ H
  | .bk δ b => ∀ σ H S, RS c β H0 S0 H S δ σ b → E.bk σ H
  | .ct δ b => ∀ σ H S, RS c β H0 S0 H S δ σ b → E.ct σ H
  | .ret d k b => ∀ v H S, Ext β H0 S0 H S → BxR β H b → RR c β H0 H S d k v → k ≠ .bo → E.rt v H
  | .exc x fs δ b => ∀ cls dx σ H S, RS c β H0 S0 H S δ σ b → ExR c β S x fs cls dx H → W cls dx σ H
  | .bad => False
def tS (c : Cn) (m : SM) (W : WX) : TS := fun E σ H => ∃ β H0 S0 S δ b, RS c β H0 S0 H S δ σ b ∧ OutS c β W H0 S0 E (m δ b)

theorem _root_.L2.PE.imp {X : Cx} {e : Expr} {t t' : TE} (h : PE X e t) (f : ∀ σ H Q, t' σ H Q → t σ H Q) : PE X e t' := ⟨fun pins s σ H Q I q => h.run pins s σ H Q I (f σ H Q q)⟩
theorem _root_.L2.PA.imp {X : Cx} {e : List Expr} {t t' : TA} (h : PA X e t) (f : ∀ σ H Q, t' σ H Q → t σ H Q) : PA X e t' := ⟨fun p pins s σ H Q I q => h.run p pins s σ H Q I (f σ H Q q)⟩
theorem _root_.L2.PT.imp {X : Cx} {e : Expr} {t t' : TT} (h : PT X e t) (f : ∀ σ H Q, t' σ H Q → t σ H Q) : PT X e t' := ⟨fun pins s σ H Q I q => h.run pins s σ H Q I (f σ H Q q)⟩
theorem _root_.L2.PS.imp {X : Cx} {e : Stmt} {t t' : TS} (h : PS X e t) (f : ∀ D σ H, t' D σ H → t D σ H) : PS X e t' := ⟨fun pins s σ H Q I q => h.run pins s σ H Q I (f Q σ H q)⟩
theorem _root_.L2.PSs.imp {X : Cx} {e : List Stmt} {t t' : TS} (h : PSs X e t) (f : ∀ D σ H, t' D σ H → t D σ H) : PSs X e t' := ⟨fun pins s σ H Q I q => h.run pins s σ H Q I (f Q σ H q)⟩
end Rk

namespace Rk
open PySem PySem.Spec L2

abbrev cnOf (X : Cx) : Cn := ⟨X.prog, X.w, X.K, X.mg, X.base⟩
/-- what is known where a piece of a body runs -/
structure Cok (k : Nat) (W : WX) (X : Cx) : Prop where
  calm : X.calm = true
  room : Room k X.A
  tk : Takes X W
  nd : X.N.Nodup
  pass : PassesOwn (model X.prog X.w) X.A X.env X.xe

/-- as Ext, the box as it was -/
structure Px (β : Option Addr) (H S H' S' : Hp) : Prop where
  ext : Ext β H S H' S'
  all : ∀ a o, H a = some o → H' a = some o
theorem Px.refl {β : Option Addr} {H S : Hp} (s : Sub S H) : Px β H S H S := ⟨Ext.refl s, fun _ _ h => h⟩
theorem Px.bx {β : Option Addr} {H S H' S' : Hp} {b : Bx} (x : Px β H S H' S') (h : BxR β H b) : BxR β H' b := fun a e => x.all a _ (h a e)
theorem Px.laid {β : Option Addr} {H S : Hp} {p : Addr} {o : HO} (s : Sub S H) (hp : H p = none) : Px β H S (upd H p o) S :=
  ⟨Ext.laid s hp, fun a u h => by rw [upd_ne (ne_of_none h hp)]; exact h⟩
theorem Px.laidS {β : Option Addr} {H S : Hp} {p : Addr} {o : HO} (s : Sub S H) (hp : H p = none) : Px β H S (upd H p o) (upd S p o) :=
  ⟨Ext.laidS s hp, fun a u h => by rw [upd_ne (ne_of_none h hp)]; exact h⟩

/-! ### reading rules by data -/
/-- what a value-level reading must do: f says what comes -/
def OpOk (c : Cn) (r : R2) (f : D → D → Option (D × Kd)) : Prop :=
  ∀ β H S x y u v d k Q, Sub S H → (∀ a, β = some a → S a = none) → (∀ a, β = some a → H a ≠ none) → RD c β H S x u → RD c β H S y v → f x y = some (d, k) →
    (∀ w H' S', Px β H S H' S' → RR c β H H' S' d k w → Q w H') → r u v H Q
def UnOk (c : Cn) (r : V → Hp → VK → Prop) (f : D → Option (D × Kd)) : Prop :=
  ∀ β H S x u d k Q, Sub S H → (∀ a, β = some a → S a = none) → (∀ a, β = some a → H a ≠ none) → RD c β H S x u → f x = some (d, k) →
    (∀ w H' S', Px β H S H' S' → RR c β H H' S' d k w → Q w H') → r u H Q
inductive RDs (c : Cn) (β : Option Addr) (H S : Hp) : List D → List V → Prop
  | nil : RDs c β H S [] []
  | cons {d : D} {v : V} {ds : List D} {vs : List V} : RD c β H S d v → RDs c β H S ds vs → RDs c β H S (d :: ds) (v :: vs)
theorem RDs.ext {c : Cn} {β : Option Addr} {H S H' S' : Hp} (x : Ext β H S H' S') {ds : List D} {vs : List V} (h : RDs c β H S ds vs) : RDs c β H' S' ds vs := by
  induction h with
  | nil => exact .nil
  | cons h _ ih => exact .cons (h.ext x) ih
def CallOk (c : Cn) (r : List V → Hp → VK → Prop) (f : List D → Option (D × Kd)) : Prop :=
  ∀ β H S xs us d k Q, Sub S H → (∀ a, β = some a → S a = none) → (∀ a, β = some a → H a ≠ none) → RDs c β H S xs us → f xs = some (d, k) →
    (∀ w H' S', Px β H S H' S' → RR c β H H' S' d k w → Q w H') → r us H Q

theorem bne_of {β : Option Addr} {H : Hp} {p : Addr} (h : ∀ a, β = some a → H a ≠ none) (n : H p = none) : β ≠ some p := fun e => h p e n
theorem subn {S H : Hp} {p : Addr} (s : Sub S H) (n : H p = none) : S p = none := by
  cases e : S p with
  | none => rfl
  | some u => rw [s p u e] at n; cases n

/-- a new list as a result -/
theorem new_lst {c : Cn} {β : Option Addr} {H S : Hp} {ds : List D} {vs : List V} {Q : VK} (s : Sub S H) (hb : ∀ a, β = some a → H a ≠ none) (r : RVs c β S ds vs)
    (q : ∀ w H' S', Px β H S H' S' → RR c β H H' S' (.lst ds) .fr w → Q w H') : ∀ p, H p = none → Q (.ref p) (upd H p (.lst vs)) := fun p hp =>
  q _ _ S (Px.laid s hp) ⟨ds, p, vs, rfl, rfl, hp, upd_same, subn s hp, bne_of hb hp, r⟩
/-- a new tuple as a result -/
theorem new_tup {c : Cn} {β : Option Addr} {H S : Hp} {ds : List D} {vs : List V} {Q : VK} (s : Sub S H) (r : RVs c β S ds vs)
    (q : ∀ w H' S', Px β H S H' S' → RR c β H H' S' (.tup ds) .sh w → Q w H') : ∀ p, H p = none → Q (.ref p) (upd H p (.tup vs)) := fun p hp => by
  have x : Px β H S (upd H p (.tup vs)) (upd S p (.tup vs)) := Px.laidS s hp
  exact q _ _ _ x (show ∃ a us, V.ref p = .ref a ∧ SqT c.K _ a us ∧ RVs c β _ ds us from ⟨p, vs, rfl, .inl (.inl upd_same), RVs.mono x.ext.ss r⟩)
/-- a scalar as a result -/
theorem same_q {c : Cn} {β : Option Addr} {H S : Hp} {d : D} {v : V} {Q : VK} (s : Sub S H) (r : RV c β S d v) (q : ∀ w H' S', Px β H S H' S' → RR c β H H' S' d .sh w → Q w H') : Q v H :=
  q v H S (Px.refl s) r

/-! ### combinators of expressions -/
def eVar (i : Nat) : EM := fun δ b => match δ[i]? with
  | some (.val d) => .ok d .sh b
  | some (.own ds) => .ok (.lst ds) .bo b
  | _ => .bad
def eCst (d : D) : EM := fun _ b => .ok d .sh b
/-- for others: a list that is nobody's becomes shared -/
def esh (m : EM) : EM := fun δ b => match m δ b with
  | .ok _ .bo _ => .bad
  | .ok d _ b => .ok d .sh b
  | o => o
def e1 (f : D → Option (D × Kd)) (m : EM) : EM := fun δ b => match m δ b with
  | .ok x _ b1 => (match f x with
    | some (d, k) => .ok d k b1
    | none => .bad)
  | .exc x fs b => .exc x fs b
  | .bad => .bad
def e2 (f : D → D → Option (D × Kd)) (ma mb : EM) : EM := fun δ b => match ma δ b with
  | .ok x _ b1 => (match mb δ b1 with
    | .ok y _ b2 => (match f x y with
      | some (d, k) => .ok d k b2
      | none => .bad)
    | .exc x fs b => .exc x fs b
    | .bad => .bad)
  | .exc x fs b => .exc x fs b
  | .bad => .bad
/-- arguments, shared -/
def lNil : LM := fun _ b => .ok [] b
def lCons (m : EM) (r : LM) : LM := fun δ b => match m δ b with
  | .ok _ .bo _ => .bad
  | .ok d _ b1 => (match r δ b1 with
    | .ok ds b2 => .ok (d :: ds) b2
    | o => o)
  | .exc x fs b => .exc x fs b
  | .bad => .bad
/-- arguments, read alone -/
def rCons (m : EM) (r : LM) : LM := fun δ b => match m δ b with
  | .ok d _ b1 => (match r δ b1 with
    | .ok ds b2 => .ok (d :: ds) b2
    | o => o)
  | .exc x fs b => .exc x fs b
  | .bad => .bad
def eB (f : List D → Option (D × Kd)) (m : LM) : EM := fun δ b => match m δ b with
  | .ok ds b1 => (match f ds with
    | some (d, k) => .ok d k b1
    | none => .bad)
  | .exc x fs b => .exc x fs b
  | .bad => .bad
def eCall (f : FM) (m : LM) : EM := fun δ b => match m δ b with
  | .ok ds b1 => (match f ds b1 with
    | .ok _ .bo _ => .bad
    | o => o)
  | .exc x fs b => .exc x fs b
  | .bad => .bad
def eTup (m : LM) : EM := fun δ b => match m δ b with
  | .ok ds b1 => if ds.length ≤ 1000 then .ok (.tup ds) .sh b1 else .bad
  | .exc x fs b => .exc x fs b
  | .bad => .bad
def eLst (m : LM) : EM := fun δ b => match m δ b with
  | .ok ds b1 => if ds.length ≤ 1000 then .ok (.lst ds) .fr b1 else .bad
  | .exc x fs b => .exc x fs b
  | .bad => .bad
/-! tests -/
def tVal (m : EM) : BM := fun δ b => match m δ b with
  | .ok (.bl t) _ b1 => .ok t b1
  | .ok _ _ _ => .bad
  | .exc x fs b => .exc x fs b
  | .bad => .bad
def tNot_ (m : BM) : BM := fun δ b => match m δ b with
  | .ok t b1 => .ok (!t) b1
  | o => o
def tAnd_ (m r : BM) : BM := fun δ b => match m δ b with
  | .ok t b1 => if t = true then r δ b1 else .ok false b1
  | o => o
def tOr_ (m r : BM) : BM := fun δ b => match m δ b with
  | .ok t b1 => if t = true then .ok true b1 else r δ b1
  | o => o
/-- and, or, not of truth values -/
def eAnd (m r : EM) : EM := fun δ b => match m δ b with
  | .ok (.bl t) _ b1 => if t = true then r δ b1 else .ok (.bl false) .sh b1
  | .ok _ _ _ => .bad
  | o => o
def eOr (m r : EM) : EM := fun δ b => match m δ b with
  | .ok (.bl t) _ b1 => if t = true then .ok (.bl true) .sh b1 else r δ b1
  | .ok _ _ _ => .bad
  | o => o
def eNot (m : EM) : EM := fun δ b => match m δ b with
  | .ok (.bl t) _ b1 => .ok (.bl (!t)) .sh b1
  | .ok _ _ _ => .bad
  | o => o
def eIf (t : BM) (ma mb : EM) : EM := fun δ b => match t δ b with
  | .ok t b1 => if t = true then ma δ b1 else mb δ b1
  | .exc x fs b => .exc x fs b
  | .bad => .bad
/-- a < b <= c and the like -/
def eChain (f g : D → D → Option Bool) (ma mb mc : EM) : EM := fun δ b => match ma δ b with
  | .ok x _ b1 => (match mb δ b1 with
    | .ok y _ b2 => (match f x y with
      | some true => (match mc δ b2 with
        | .ok z _ b3 => (match g y z with
          | some t => .ok (.bl t) .sh b3
          | none => .bad)
        | o => o)
      | some false => .ok (.bl false) .sh b2
      | none => .bad)
    | .exc x fs b => .exc x fs b
    | .bad => .bad)
  | .exc x fs b => .exc x fs b
  | .bad => .bad

/-! ### what the readings of the parts give -/
section
variable {X : Cx} {W : WX} {e : Expr} {m : EM}

/-- how a part is used: behind it one goes on in the new state -/
theorem tE_use {c : Cn} {β : Option Addr} {H0 S0 H S : Hp} {σ : L2.St} {δ : Slots} {b : Bx} {Q : VK} (r : RS c β H0 S0 H S δ σ b)
    (h : OutE c β W σ H S Q (m δ b)) : tE c m W σ H Q := ⟨β, H0, S0, S, δ, b, r, h⟩

theorem OutE.exc {c : Cn} {β : Option Addr} {σ : L2.St} {H S H1 S1 : Hp} {Q Q' : VK} {x : Str} {fs : List D} {b : Bx} (e : Ext β H S H1 S1)
    (h : OutE c β W σ H S Q (.exc x fs b)) : OutE c β W σ H1 S1 Q' (.exc x fs b) := fun cls dx H' S' e2 hb he => h cls dx H' S' (e.trans e2) hb he

theorem s_var {i : Nat} {x : Str} {pos : Pos} (hN : X.N[i]? = some x) (hv : Vis X.env.scope x) (hd : (x == ("__debug__" : Str)) = false) (hcd : (x == ("__classdict__" : Str)) = false) :
    PE X (.Name x pos) (tE (cnOf X) (eVar i) W) := by
  refine (pe_var hN hv hd hcd).imp fun σ H Q h => ?_
  obtain ⟨β, H0, S0, S, δ, b, r, h⟩ := h
  unfold eVar at h
  cases e : δ[i]? with
  | none => rw [e] at h; exact h.elim
  | some u =>
    rw [e] at h
    cases u with
    | none => exact h.elim
    | val d =>
      obtain ⟨v, h1, h2⟩ := r.val i d e
      exact ⟨v, h1, h v H S (Ext.refl r.sub) r.bx h2⟩
    | own ds =>
      obtain ⟨a, vs, h1, h2, h3, h4, h5, h6⟩ := r.own i ds e
      exact ⟨.ref a, h1, h _ H S (Ext.refl r.sub) r.bx ⟨ds, a, vs, rfl, rfl, h3, h5, h6⟩⟩

theorem s_cst {d : D} {v : V} (hp : ∀ β S, RV (cnOf X) β S d v) (h : PE X e (tC v)) : PE X e (tE (cnOf X) (eCst d) W) := by
  refine h.imp fun σ H Q h => ?_
  obtain ⟨β, H0, S0, S, δ, b, r, h⟩ := h
  exact h v H S (Ext.refl r.sub) r.bx (hp β S)

theorem s_esh (h : PE X e (tE (cnOf X) m W)) : PE X e (tE (cnOf X) (esh m) W) := by
  refine h.imp fun σ H Q h => ?_
  obtain ⟨β, H0, S0, S, δ, b, r, h⟩ := h
  refine ⟨β, H0, S0, S, δ, b, r, ?_⟩
  unfold esh at h
  cases e : m δ b with
  | bad => rw [e] at h; exact h
  | exc x fs b1 => rw [e] at h; exact h
  | ok d kd b1 =>
    rw [e] at h
    cases kd with
    | bo => exact h.elim
    | sh => exact h
    | fr =>
      intro v H' S' x hb q
      obtain ⟨ds, a, vs, rfl, rfl, n, h1, h2, hne, h3⟩ := q
      have x' := x.share n h1 h2
      exact h _ H' _ x' hb (show ∃ a' us, V.ref a = .ref a' ∧ _ = some (HO.lst us) ∧ RVs (cnOf X) β _ ds us from ⟨a, vs, rfl, upd_same,
        RVs.mono (fun b u e => by rw [upd_ne (ne_of_none e h2)]; exact e) h3⟩)

theorem s_e2 {ea eb : Expr} {ma mb : EM} {r : R2} {f : D → D → Option (D × Kd)} (o : OpOk (cnOf X) r f) (hr : PE X ea (tE (cnOf X) ma W) → PE X eb (tE (cnOf X) mb W) → PE X e (tOp r (tE (cnOf X) ma W) (tE (cnOf X) mb W)))
    (ha : PE X ea (tE (cnOf X) ma W)) (hb : PE X eb (tE (cnOf X) mb W)) : PE X e (tE (cnOf X) (e2 f ma mb) W) := by
  refine (hr ha hb).imp fun σ H Q h => ?_
  obtain ⟨β, H0, S0, S, δ, b, rs, h⟩ := h
  refine ⟨β, H0, S0, S, δ, b, rs, ?_⟩
  unfold e2 at h
  cases e1 : ma δ b with
  | bad => rw [e1] at h; exact h
  | exc x fs b1 => rw [e1] at h; exact h
  | ok x kx b1 =>
    rw [e1] at h
    intro u H1 S1 x1 hb1 q1
    have rs1 := rs.step x1 hb1
    refine ⟨β, H0, S0, S1, δ, b1, rs1, ?_⟩
    dsimp only at h
    cases e2 : mb δ b1 with
    | bad => rw [e2] at h; exact h
    | exc y fs b2 => rw [e2] at h; exact OutE.exc (Q := Q) x1 h
    | ok y ky b2 =>
      rw [e2] at h
      dsimp only at h
      intro v H2 S2 x2 hb2 q2
      cases e3 : f x y with
      | none => rw [e3] at h; exact h.elim
      | some dk =>
        obtain ⟨d, kd⟩ := dk
        rw [e3] at h
        have rs2 := rs1.step x2 hb2
        refine o β H2 S2 x y u v d kd Q x2.sub rs2.bs (fun a ea => by rw [rs2.bx a ea]; simp) (q1.rd.ext x2) q2.rd e3 fun w H3 S3 x3 q3 => ?_
        have x12 := x1.trans x2
        refine h w H3 S3 (x12.trans x3.ext) (x3.bx hb2) ?_
        cases kd with
        | sh => exact q3
        | bo => exact q3
        | fr =>
          obtain ⟨ds, a, vs, h1, h2, h3, h4⟩ := q3
          refine ⟨ds, a, vs, h1, h2, ?_, h4⟩
          cases eh : H a with
          | none => rfl
          | some ob => exact absurd h3 (x12.bx a (by rw [eh]; simp))
end
end Rk

namespace Rk
open PySem PySem.Spec L2

theorem nl_bl {t : Bool} : ∀ ds, D.bl t ≠ .lst ds := by intro ds z; cases z
theorem nl_int {t : Int} : ∀ ds, D.int t ≠ .lst ds := by intro ds z; cases z
theorem nl_str {t : Str} : ∀ ds, D.str t ≠ .lst ds := by intro ds z; cases z
theorem nl_tup {t : List D} : ∀ ds, D.tup t ≠ .lst ds := by intro ds z; cases z
theorem nl_non : ∀ ds, D.non ≠ .lst ds := by intro ds z; cases z
theorem nl_box : ∀ ds, D.box ≠ .lst ds := by intro ds z; cases z
theorem RR.back {c : Cn} {β : Option Addr} {H S H2 S2 H3 S3 : Hp} {d : D} {k : Kd} {w : V} (x : Ext β H S H2 S2) (q : RR c β H2 H3 S3 d k w) : RR c β H H3 S3 d k w := by
  cases k with
  | sh => exact q
  | bo => exact q
  | fr =>
    obtain ⟨ds, a, vs, h1, h2, h3, h4⟩ := q
    refine ⟨ds, a, vs, h1, h2, ?_, h4⟩
    cases eh : H a with
    | none => rfl
    | some ob => exact absurd h3 (x.bx a (by rw [eh]; simp))
theorem OutE.back {c : Cn} {β : Option Addr} {W : WX} {σ : L2.St} {H S H1 S1 : Hp} {Q : VK} (x : Ext β H S H1 S1) : ∀ {o : Out}, OutE c β W σ H S Q o → OutE c β W σ H1 S1 Q o
  | .ok d k b, h => fun v H' S' e hb q => h v H' S' (x.trans e) hb (q.back x)
  | .exc y fs b, h => fun cls dx H' S' e hb q => h cls dx H' S' (x.trans e) hb q
  | .bad, h => h
theorem OutBs.back {c : Cn} {β : Option Addr} {W : WX} {σ : L2.St} {H S H1 S1 : Hp} {Q : Bool → Hp → Prop} (x : Ext β H S H1 S1) : ∀ {o : OutB}, OutBs c β W σ H S Q o → OutBs c β W σ H1 S1 Q o
  | .ok t b, h => fun H' S' e hb => h H' S' (x.trans e) hb
  | .exc y fs b, h => fun cls dx H' S' e hb q => h cls dx H' S' (x.trans e) hb q
  | .bad, h => h

/-- arguments that are read alone -/
def OutRs (c : Cn) (β : Option Addr) (W : WX) (σ : L2.St) (H S : Hp) (Q : List V → Hp → Prop) : OutL → Prop
  | .ok ds b => ∀ vs H' S', Ext β H S H' S' → BxR β H' b → RDs c β H' S' ds vs → Q vs H'
  | .exc x fs b => ∀ cls dx H' S', Ext β H S H' S' → BxR β H' b → ExR c β S' x fs cls dx H' → W cls dx σ H'
  | .bad => False
def tR (c : Cn) (m : LM) (W : WX) : TA := fun σ H Q => ∃ β H0 S0 S δ b, RS c β H0 S0 H S δ σ b ∧ OutRs c β W σ H S Q (m δ b)

section
variable {X : Cx} {W : WX} {e : Expr} {es : List Expr} {m : EM} {l : LM}

theorem s_e1 {ea : Expr} {ma : EM} {r : V → Hp → VK → Prop} {f : D → Option (D × Kd)} (o : UnOk (cnOf X) r f) (hr : PE X ea (tE (cnOf X) ma W) → PE X e (tUn r (tE (cnOf X) ma W)))
    (ha : PE X ea (tE (cnOf X) ma W)) : PE X e (tE (cnOf X) (e1 f ma) W) := by
  refine (hr ha).imp fun σ H Q h => ?_
  obtain ⟨β, H0, S0, S, δ, b, rs, h⟩ := h
  refine ⟨β, H0, S0, S, δ, b, rs, ?_⟩
  unfold e1 at h
  cases e1 : ma δ b with
  | bad => rw [e1] at h; exact h
  | exc x fs b1 => rw [e1] at h; exact h
  | ok x kx b1 =>
    rw [e1] at h
    intro u H1 S1 x1 hb1 q1
    have rs1 := rs.step x1 hb1
    dsimp only at h
    cases e3 : f x with
    | none => rw [e3] at h; exact h.elim
    | some dk =>
      obtain ⟨d, kd⟩ := dk
      rw [e3] at h
      exact o β H1 S1 x u d kd Q x1.sub rs1.bs (fun a ea => by rw [rs1.bx a ea]; simp) q1.rd e3 fun w H3 S3 x3 q3 => h w H3 S3 (x1.trans x3.ext) (x3.bx hb1) (q3.back x1)

theorem s_lNil : PA X [] (tL (cnOf X) lNil W) := pa_nil.imp fun σ H Q h => by
  obtain ⟨β, H0, S0, S, δ, b, r, h⟩ := h
  exact h [] H S (Ext.refl r.sub) r.bx RVs.nil
theorem s_rNil : PA X [] (tR (cnOf X) lNil W) := pa_nil.imp fun σ H Q h => by
  obtain ⟨β, H0, S0, S, δ, b, r, h⟩ := h
  exact h [] H S (Ext.refl r.sub) r.bx .nil
theorem s_lCons (ha : PE X e (tE (cnOf X) m W)) (hr : PA X es (tL (cnOf X) l W)) (hs : starEach (e :: es) X.env = (false, eval e X.env) :: starEach es X.env) : PA X (e :: es) (tL (cnOf X) (lCons m l) W) := by
  refine (pa_cons (s_esh ha) hr hs).imp fun σ H Q h => ?_
  obtain ⟨β, H0, S0, S, δ, b, r, h⟩ := h
  refine ⟨β, H0, S0, S, δ, b, r, ?_⟩
  unfold lCons at h
  unfold esh
  cases e : m δ b with
  | bad => rw [e] at h; exact h
  | exc x fs b1 => rw [e] at h; exact h
  | ok d kd b1 =>
    rw [e] at h
    have go : (∀ o, (match l δ b1 with | .ok ds b2 => OutL.ok (d :: ds) b2 | o => o) = o → OutLs (cnOf X) β W σ H S Q o) → OutE (cnOf X) β W σ H S (fun x H1 => tL (cnOf X) l W σ H1 fun xs H2 => Q (x :: xs) H2) (.ok d .sh b1) := by
      intro h v H1 S1 x1 hb1 q1
      have r1 := r.step x1 hb1
      refine ⟨β, H0, S0, S1, δ, b1, r1, ?_⟩
      have h := h _ rfl
      cases e2 : l δ b1 with
      | bad => rw [e2] at h; exact h
      | exc x fs b2 => rw [e2] at h; exact fun cls dx H' S' e hb q => h cls dx H' S' (x1.trans e) hb q
      | ok ds b2 =>
        rw [e2] at h
        intro vs H2 S2 x2 hb2 q2
        exact h (v :: vs) H2 S2 (x1.trans x2) hb2 (.cons (RV.mono x2.ss q1) q2)
    cases kd with
    | bo => exact h.elim
    | sh => exact go fun o e => e ▸ h
    | fr => exact go fun o e => e ▸ h
theorem s_rCons (ha : PE X e (tE (cnOf X) m W)) (hr : PA X es (tR (cnOf X) l W)) (hs : starEach (e :: es) X.env = (false, eval e X.env) :: starEach es X.env) : PA X (e :: es) (tR (cnOf X) (rCons m l) W) := by
  refine (pa_cons ha hr hs).imp fun σ H Q h => ?_
  obtain ⟨β, H0, S0, S, δ, b, r, h⟩ := h
  refine ⟨β, H0, S0, S, δ, b, r, ?_⟩
  unfold rCons at h
  cases e : m δ b with
  | bad => rw [e] at h; exact h
  | exc x fs b1 => rw [e] at h; exact h
  | ok d kd b1 =>
    rw [e] at h
    intro v H1 S1 x1 hb1 q1
    have r1 := r.step x1 hb1
    refine ⟨β, H0, S0, S1, δ, b1, r1, ?_⟩
    dsimp only at h
    cases e2 : l δ b1 with
    | bad => rw [e2] at h; exact h
    | exc x fs b2 => rw [e2] at h; exact fun cls dx H' S' e hb q => h cls dx H' S' (x1.trans e) hb q
    | ok ds b2 =>
      rw [e2] at h
      intro vs H2 S2 x2 hb2 q2
      exact h (v :: vs) H2 S2 (x1.trans x2) hb2 (.cons (q1.rd.ext x2) q2)

/-- a built-in of values -/
theorem s_eB {r : List V → Hp → VK → Prop} {f : List D → Option (D × Kd)} (o : CallOk (cnOf X) r f) (hr : PA X es (tR (cnOf X) l W) → PE X e (tCB r (tR (cnOf X) l W)))
    (ha : PA X es (tR (cnOf X) l W)) : PE X e (tE (cnOf X) (eB f l) W) := by
  refine (hr ha).imp fun σ H Q h => ?_
  obtain ⟨β, H0, S0, S, δ, b, rs, h⟩ := h
  refine ⟨β, H0, S0, S, δ, b, rs, ?_⟩
  unfold eB at h
  cases e1 : l δ b with
  | bad => rw [e1] at h; exact h
  | exc x fs b1 => rw [e1] at h; exact h
  | ok xs b1 =>
    rw [e1] at h
    intro us H1 S1 x1 hb1 q1
    have rs1 := rs.step x1 hb1
    dsimp only at h
    cases e3 : f xs with
    | none => rw [e3] at h; exact h.elim
    | some dk =>
      obtain ⟨d, kd⟩ := dk
      rw [e3] at h
      exact o β H1 S1 xs us d kd Q x1.sub rs1.bs (fun a ea => by rw [rs1.bx a ea]; simp) q1 e3 fun w H3 S3 x3 q3 => h w H3 S3 (x1.trans x3.ext) (x3.bx hb1) (q3.back x1)

theorem s_eTup {p : Pos} {x1 : Nat} (ha : PA X es (tL (cnOf X) l W)) : PE X (.Tuple es x1 p) (tE (cnOf X) (eTup l) W) := by
  refine (pe_tup ha).imp fun σ H Q h => ?_
  obtain ⟨β, H0, S0, S, δ, b, rs, h⟩ := h
  refine ⟨β, H0, S0, S, δ, b, rs, ?_⟩
  unfold eTup at h
  cases e1 : l δ b with
  | bad => rw [e1] at h; exact h
  | exc x fs b1 => rw [e1] at h; exact h
  | ok ds b1 =>
    rw [e1] at h
    intro vs H1 S1 x1 hb1 q1
    dsimp only at h
    by_cases hl : ds.length ≤ 1000
    · rw [if_pos hl] at h
      refine ⟨Nat.le_of_lt (small1000 (by rw [q1.length]; exact hl)), fun p hp => ?_⟩
      exact new_tup (Q := Q) x1.sub q1 (fun w H' S' x r => h w H' S' (x1.trans x.ext) (x.bx hb1) (r.back x1)) p hp
    · rw [if_neg hl] at h; exact h.elim
theorem s_eLst {p : Pos} (ha : PA X es (tL (cnOf X) l W)) : PE X (.List es p) (tE (cnOf X) (eLst l) W) := by
  refine (pe_lst ha).imp fun σ H Q h => ?_
  obtain ⟨β, H0, S0, S, δ, b, rs, h⟩ := h
  refine ⟨β, H0, S0, S, δ, b, rs, ?_⟩
  unfold eLst at h
  cases e1 : l δ b with
  | bad => rw [e1] at h; exact h
  | exc x fs b1 => rw [e1] at h; exact h
  | ok ds b1 =>
    rw [e1] at h
    intro vs H1 S1 x1 hb1 q1
    dsimp only at h
    by_cases hl : ds.length ≤ 1000
    · rw [if_pos hl] at h
      refine ⟨Nat.le_of_lt (small1000 (by rw [q1.length]; exact hl)), fun p hp => ?_⟩
      exact new_lst (Q := Q) x1.sub (fun a ea => by rw [hb1 a ea]; simp) q1 (fun w H' S' x r => h w H' S' (x1.trans x.ext) (x.bx hb1) (r.back x1)) p hp
    · rw [if_neg hl] at h; exact h.elim

/-! tests -/
theorem s_tVal (ha : PE X e (tE (cnOf X) m W)) (he : ∀ whole, isTrue e X.env whole = (do let v ← whole; standAt e.pos; holding [v] (truthy v))) : PT X e (tT (cnOf X) (tVal m) W) := by
  refine (pt_val ha he).imp fun σ H Q h => ?_
  obtain ⟨β, H0, S0, S, δ, b, rs, h⟩ := h
  refine ⟨β, H0, S0, S, δ, b, rs, ?_⟩
  unfold tVal at h
  cases e1 : m δ b with
  | bad => rw [e1] at h; exact h
  | exc x fs b1 => rw [e1] at h; exact h
  | ok d kd b1 =>
    rw [e1] at h
    intro v H1 S1 x1 hb1 q1
    cases d with
    | bl t => exact ⟨t, RD.rv nl_bl q1.rd, h H1 S1 x1 hb1⟩
    | _ => exact h.elim
theorem s_tNot {p : Pos} {t : BM} (ha : PT X e (tT (cnOf X) t W)) : PT X (.UnaryOp .Not e p) (tT (cnOf X) (tNot_ t) W) := by
  refine (pt_not ha).imp fun σ H Q h => ?_
  obtain ⟨β, H0, S0, S, δ, b, rs, h⟩ := h
  refine ⟨β, H0, S0, S, δ, b, rs, ?_⟩
  unfold tNot_ at h
  cases e1 : t δ b with
  | bad => rw [e1] at h; exact h
  | exc x fs b1 => rw [e1] at h; exact h
  | ok d b1 => rw [e1] at h; exact h
theorem s_tAnd1 {p : Pos} {t : BM} (ha : PT X e (tT (cnOf X) t W)) : PW X (.BoolOp .And [e] p) (tT (cnOf X) t W) := pw_and1 ha
theorem s_tOr1 {p : Pos} {t : BM} (ha : PT X e (tT (cnOf X) t W)) : PW X (.BoolOp .Or [e] p) (tT (cnOf X) t W) := pw_or1 ha
theorem _root_.L2.PW.imp {X : Cx} {e : Expr} {t t' : TT} (h : PW X e t) (f : ∀ σ H Q, t' σ H Q → t σ H Q) : PW X e t' := ⟨fun wh pins s σ H Q I q => h.run wh pins s σ H Q I (f σ H Q q)⟩
theorem s_tAnd {p : Pos} {e2 : Expr} {t u : BM} (ha : PT X e (tT (cnOf X) t W)) (hb : PW X (.BoolOp .And (e2 :: es) p) (tT (cnOf X) u W)) : PW X (.BoolOp .And (e :: e2 :: es) p) (tT (cnOf X) (tAnd_ t u) W) := by
  refine (pw_and ha hb).imp fun σ H Q h => ?_
  obtain ⟨β, H0, S0, S, δ, b, rs, h⟩ := h
  refine ⟨β, H0, S0, S, δ, b, rs, ?_⟩
  unfold tAnd_ at h
  cases e1 : t δ b with
  | bad => rw [e1] at h; exact h
  | exc x fs b1 => rw [e1] at h; exact h
  | ok d b1 =>
    rw [e1] at h
    intro H1 S1 x1 hb1
    cases d with
    | true => exact ⟨β, H0, S0, S1, δ, b1, rs.step x1 hb1, OutBs.back x1 h⟩
    | false => exact h H1 S1 x1 hb1
theorem s_tOr {p : Pos} {e2 : Expr} {t u : BM} (ha : PT X e (tT (cnOf X) t W)) (hb : PW X (.BoolOp .Or (e2 :: es) p) (tT (cnOf X) u W)) : PW X (.BoolOp .Or (e :: e2 :: es) p) (tT (cnOf X) (tOr_ t u) W) := by
  refine (pw_or ha hb).imp fun σ H Q h => ?_
  obtain ⟨β, H0, S0, S, δ, b, rs, h⟩ := h
  refine ⟨β, H0, S0, S, δ, b, rs, ?_⟩
  unfold tOr_ at h
  cases e1 : t δ b with
  | bad => rw [e1] at h; exact h
  | exc x fs b1 => rw [e1] at h; exact h
  | ok d b1 =>
    rw [e1] at h
    intro H1 S1 x1 hb1
    cases d with
    | false => exact ⟨β, H0, S0, S1, δ, b1, rs.step x1 hb1, OutBs.back x1 h⟩
    | true => exact h H1 S1 x1 hb1

/-! and, or, not, a if t else b as values -/
theorem s_eAnd {p : Pos} {e2 : Expr} {mb : EM} (ha : PE X e (tE (cnOf X) m W)) (hb : PE X (.BoolOp .And (e2 :: es) p) (tE (cnOf X) mb W)) : PE X (.BoolOp .And (e :: e2 :: es) p) (tE (cnOf X) (eAnd m mb) W) := by
  refine (pe_and ha hb).imp fun σ H Q h => ?_
  obtain ⟨β, H0, S0, S, δ, b, rs, h⟩ := h
  refine ⟨β, H0, S0, S, δ, b, rs, ?_⟩
  unfold eAnd at h
  cases e1 : m δ b with
  | bad => rw [e1] at h; exact h
  | exc x fs b1 => rw [e1] at h; exact h
  | ok d kd b1 =>
    rw [e1] at h
    intro v H1 S1 x1 hb1 q1
    cases d with
    | bl t =>
      refine ⟨t, RD.rv nl_bl q1.rd, ?_⟩
      cases t with
      | true => exact ⟨β, H0, S0, S1, δ, b1, rs.step x1 hb1, OutE.back x1 h⟩
      | false => exact h _ H1 S1 x1 hb1 (show V.bl false = V.bl false from rfl)
    | _ => exact h.elim
theorem s_eOr {p : Pos} {e2 : Expr} {mb : EM} (ha : PE X e (tE (cnOf X) m W)) (hb : PE X (.BoolOp .Or (e2 :: es) p) (tE (cnOf X) mb W)) : PE X (.BoolOp .Or (e :: e2 :: es) p) (tE (cnOf X) (eOr m mb) W) := by
  refine (pe_or ha hb).imp fun σ H Q h => ?_
  obtain ⟨β, H0, S0, S, δ, b, rs, h⟩ := h
  refine ⟨β, H0, S0, S, δ, b, rs, ?_⟩
  unfold eOr at h
  cases e1 : m δ b with
  | bad => rw [e1] at h; exact h
  | exc x fs b1 => rw [e1] at h; exact h
  | ok d kd b1 =>
    rw [e1] at h
    intro v H1 S1 x1 hb1 q1
    cases d with
    | bl t =>
      refine ⟨t, RD.rv nl_bl q1.rd, ?_⟩
      cases t with
      | false => exact ⟨β, H0, S0, S1, δ, b1, rs.step x1 hb1, OutE.back x1 h⟩
      | true => exact h _ H1 S1 x1 hb1 (show V.bl true = V.bl true from rfl)
    | _ => exact h.elim
theorem s_eOne {p : Pos} {op : BoolOp} (ha : PE X e (tE (cnOf X) m W)) : PE X (.BoolOp op [e] p) (tE (cnOf X) m W) := pe_one ha
theorem s_eNot {p : Pos} (ha : PE X e (tE (cnOf X) m W)) : PE X (.UnaryOp .Not e p) (tE (cnOf X) (eNot m) W) := by
  refine (pe_not ha).imp fun σ H Q h => ?_
  obtain ⟨β, H0, S0, S, δ, b, rs, h⟩ := h
  refine ⟨β, H0, S0, S, δ, b, rs, ?_⟩
  unfold eNot at h
  cases e1 : m δ b with
  | bad => rw [e1] at h; exact h
  | exc x fs b1 => rw [e1] at h; exact h
  | ok d kd b1 =>
    rw [e1] at h
    intro v H1 S1 x1 hb1 q1
    cases d with
    | bl t => exact ⟨t, RD.rv nl_bl q1.rd, h _ H1 S1 x1 hb1 (show V.bl (!t) = V.bl (!t) from rfl)⟩
    | _ => exact h.elim
theorem s_eIf {p : Pos} {c ea eb : Expr} {t : BM} {ma mb : EM} (hc : PT X c (tT (cnOf X) t W)) (ha : PE X ea (tE (cnOf X) ma W)) (hb : PE X eb (tE (cnOf X) mb W)) : PE X (.IfExp c ea eb p) (tE (cnOf X) (eIf t ma mb) W) := by
  refine (pe_ifExp hc ha hb).imp fun σ H Q h => ?_
  obtain ⟨β, H0, S0, S, δ, b, rs, h⟩ := h
  refine ⟨β, H0, S0, S, δ, b, rs, ?_⟩
  unfold eIf at h
  cases e1 : t δ b with
  | bad => rw [e1] at h; exact h
  | exc x fs b1 => rw [e1] at h; exact h
  | ok d b1 =>
    rw [e1] at h
    intro H1 S1 x1 hb1
    cases d with
    | true => exact ⟨β, H0, S0, S1, δ, b1, rs.step x1 hb1, OutE.back x1 h⟩
    | false => exact ⟨β, H0, S0, S1, δ, b1, rs.step x1 hb1, OutE.back x1 h⟩

/-- a test upon two values -/
def CmpOk (c : Cn) (r : R2) (f : D → D → Option Bool) : Prop :=
  ∀ β H S x y u v t Q, Sub S H → (∀ a, β = some a → S a = none) → (∀ a, β = some a → H a ≠ none) → RD c β H S x u → RD c β H S y v → f x y = some t → Q (V.bl t) H → r u v H Q
def fB (f : D → D → Option Bool) : D → D → Option (D × Kd) := fun x y => match f x y with
  | some t => some (.bl t, .sh)
  | none => none
theorem CmpOk.op {c : Cn} {r : R2} {f : D → D → Option Bool} (h : CmpOk c r f) : OpOk c r (fB f) := by
  intro β H S x y u v d k Q s b1 b2 q1 q2 e q
  unfold fB at e
  cases ef : f x y with
  | none => rw [ef] at e; cases e
  | some t =>
    rw [ef] at e; cases e
    exact h β H S x y u v t Q s b1 b2 q1 q2 ef (q _ H S (Px.refl s) (show V.bl t = V.bl t from rfl))

theorem s_chain {ea eb ec : Expr} {p : Pos} {op op' : CmpOp} {r r' : R2} {f g : D → D → Option Bool} {ma mb mc : EM} (of : CmpOk (cnOf X) r f) (og : CmpOk (cnOf X) r' g) (ho : OpR X (compareOp op) r) (ho' : OpR X (compareOp op') r')
    (hm : lastMarks [op, op'] [eb, ec] = false) (ha : PE X ea (tE (cnOf X) ma W)) (hb : PE X eb (tE (cnOf X) mb W)) (hc : PE X ec (tE (cnOf X) mc W)) :
    PE X (.Compare ea [op, op'] [eb, ec] p) (tE (cnOf X) (eChain f g ma mb mc) W) := by
  refine (pe_chain ho ho' ha hb hc hm).imp fun σ H Q h => ?_
  obtain ⟨β, H0, S0, S, δ, b, rs, h⟩ := h
  refine ⟨β, H0, S0, S, δ, b, rs, ?_⟩
  unfold eChain at h
  cases e1 : ma δ b with
  | bad => rw [e1] at h; exact h
  | exc x fs b1 => rw [e1] at h; exact h
  | ok x kx b1 =>
    rw [e1] at h
    intro u H1 S1 x1 hb1 q1
    have rs1 := rs.step x1 hb1
    refine ⟨β, H0, S0, S1, δ, b1, rs1, ?_⟩
    dsimp only at h
    cases e2 : mb δ b1 with
    | bad => rw [e2] at h; exact h
    | exc y fs b2 => rw [e2] at h; exact OutE.exc (Q := Q) x1 h
    | ok y ky b2 =>
      rw [e2] at h
      dsimp only at h
      intro v H2 S2 x2 hb2 q2
      have rs2 := rs1.step x2 hb2
      have q1' := q1.rd.ext x2
      cases e3 : f x y with
      | none => rw [e3] at h; exact h.elim
      | some t =>
        rw [e3] at h
        refine of β H2 S2 x y u v t _ x2.sub rs2.bs (fun a ea => by rw [rs2.bx a ea]; simp) q1' q2.rd e3 ⟨t, rfl, ?_⟩
        cases t with
        | false => exact h _ H2 S2 (x1.trans x2) hb2 (show V.bl false = V.bl false from rfl)
        | true =>
          rw [if_pos rfl]
          refine ⟨β, H0, S0, S2, δ, b2, rs2, ?_⟩
          dsimp only at h
          cases e4 : mc δ b2 with
          | bad => rw [e4] at h; exact h
          | exc y fs b2 => rw [e4] at h; exact OutE.exc (Q := Q) (x1.trans x2) h
          | ok z kz b3 =>
            rw [e4] at h
            dsimp only at h
            intro w H3 S3 x3 hb3 q3
            have rs3 := rs2.step x3 hb3
            cases e5 : g y z with
            | none => rw [e5] at h; exact h.elim
            | some t =>
              rw [e5] at h
              exact og β H3 S3 y z v w t Q x3.sub rs3.bs (fun a ea => by rw [rs3.bx a ea]; simp) (q2.rd.ext x3) q3.rd e5 (h _ H3 S3 ((x1.trans x2).trans x3) hb3 (show V.bl t = V.bl t from rfl))
end
end Rk

namespace Rk
open PySem PySem.Spec L2

/-! ### defs -/
def OutF (c : Cn) (β : Option Addr) (H S : Hp) (Q : VK) (E : XK) : Out → Prop
  | .ok d k b => ∀ v H' S', Ext β H S H' S' → BxR β H' b → RR c β H H' S' d k v → k ≠ .bo → Q v H'
  | .exc x fs b => ∀ cls dx H' S', Ext β H S H' S' → BxR β H' b → ExR c β S' x fs cls dx H' → E cls dx H'
  | .bad => False
/-- the promise of a def: it computes m -/
def spM (c : Cn) (n : Nat) (m : FM) : Sp := fun vs H Q E => vs.length = n ∧ ∃ β S ds b, Sub S H ∧ BxR β H b ∧ (∀ a, β = some a → S a = none) ∧ RVs c β S ds vs ∧ OutF c β H S Q E (m ds b)
theorem spM.len {c : Cn} {n : Nat} {m : FM} : ∀ vs H Q E, spM c n m vs H Q E → vs.length = n := fun _ _ _ _ h => h.1
/-- a def of the text that computes m -/
structure Fn (c : Cn) (k : Nat) (x : Str) (n : Nat) (m : FM) : Prop where
  ex : ∃ (f : Addr) (fd : FuncData) (ps : List Str), ps.length = n ∧ FnOk c.P c.w c.K c.mg c.base (L2.CX c.P c.w) k f fd ps (spM c n m) ∧ c.mg x = some (.ref f) ∧ PySem.W.keepIn c.K (.ref f) = true ∧ Binds c.K fd ps []
theorem Fn.mono {c : Cn} {j k : Nat} {x : Str} {n : Nat} {m : FM} (h : Fn c j x n m) (l : j ≤ k) : Fn c k x n m := by
  obtain ⟨f, fd, ps, e, F, r⟩ := h.ex
  exact ⟨f, fd, ps, e, F.mono l, r⟩

section
variable {X : Cx} {W : WX} {e : Expr} {es : List Expr} {l : LM} {k : Nat}
theorem s_call {x : Str} {p pos : Pos} {n : Nat} {m : FM} (C : Cok k W X) (F : Fn (cnOf X) k x n m) (hg : Gl X x) (hdb : (x == ("__debug__" : Str)) = false) (ha : PA X (e :: es) (tL (cnOf X) l W))
    (he : starEach (e :: es) X.env = (false, eval e X.env) :: starEach es X.env) (hpl : (backTo pos (starEach es X.env)).any (·.1) = false) (hn : (e :: es).length = n)
    (hlen : ∀ δ b ds b', l δ b = .ok ds b' → ds.length = n) :
    PE X (.Call (.Name x p) (e :: es) [] pos) (tE (cnOf X) (eCall m l) W) := by
  obtain ⟨f, fd, ps, hps, F, hm, hk, hb⟩ := F.ex
  refine (pe_callS F C.room hg hm hk hb (fun σ => passAt C.tk σ) ha hdb he hpl).imp fun σ H Q h => ?_
  obtain ⟨β, H0, S0, S, δ, b, rs, h⟩ := h
  refine ⟨β, H0, S0, S, δ, b, rs, ?_⟩
  unfold eCall at h
  cases e1 : l δ b with
  | bad => rw [e1] at h; exact h
  | exc x fs b1 => rw [e1] at h; exact h
  | ok ds b1 =>
    rw [e1] at h
    intro vs H1 S1 x1 hb1 q1
    have rs1 := rs.step x1 hb1
    refine ⟨by rw [q1.length]; exact hlen _ _ _ _ e1, β, S1, ds, b1, x1.sub, hb1, rs1.bs, q1, ?_⟩
    dsimp only at h
    cases e2 : m ds b1 with
    | bad => rw [e2] at h; exact h
    | exc x fs b2 =>
      rw [e2] at h
      exact fun cls dx H' S' e hb q => h cls dx H' S' (x1.trans e) hb q
    | ok d kd b2 =>
      rw [e2] at h
      intro v H' S' e hb q hk
      cases kd with
      | bo => exact h.elim
      | sh => exact h v H' S' (x1.trans e) hb (q.back x1)
      | fr => exact h v H' S' (x1.trans e) hb (q.back x1)
end

/-- a body as a def -/
def fBody (n : Nat) (m : SM) : FM := fun ds b => match m (ds.map Sl.val ++ List.replicate (n - ds.length) Sl.none) b with
  | .nx _ b => .ok .non .sh b
  | .ret d k b => .ok d k b
  | .exc x fs _ b => .exc x fs b
  | _ => .bad
theorem RS.entry {c : Cn} {β : Option Addr} {H S : Hp} {N : List Str} {ds : List D} {vs : List V} {b : Bx} (s : Sub S H) (hb : BxR β H b) (bs : ∀ a, β = some a → S a = none) (r : RVs c β S ds vs) :
    RS c β H S H S (ds.map Sl.val ++ List.replicate (N.length - ds.length) Sl.none) (L2.start N vs) b := by
  have hl := r.length
  refine ⟨Ext.refl s, ?_, hb, bs, fun i d e => ?_, fun i es e => ?_, fun i j es fs a _ e => ?_⟩
  · unfold L2.start; simp [hl]
  · by_cases hi : i < ds.length
    · rw [List.getElem?_append_left (by simpa using hi), List.getElem?_map] at e
      cases q : ds[i]? with
      | none => rw [q] at e; cases e
      | some d' =>
        rw [q] at e
        cases e
        obtain ⟨v, h1, h2⟩ := r.get q
        refine ⟨v, ?_, h2⟩
        unfold L2.start
        rw [List.getElem?_append_left (by rw [List.length_map]; omega), List.getElem?_map, h1]; rfl
    · rw [List.getElem?_append_right (by simpa using hi), List.getElem?_replicate] at e
      split at e <;> cases e
  · by_cases hi : i < ds.length
    · rw [List.getElem?_append_left (by simpa using hi), List.getElem?_map] at e
      cases q : ds[i]? with
      | none => rw [q] at e; cases e
      | some d' => rw [q] at e; cases e
    · rw [List.getElem?_append_right (by simpa using hi), List.getElem?_replicate] at e
      split at e <;> cases e
  · by_cases hi : i < ds.length
    · rw [List.getElem?_append_left (by simpa using hi), List.getElem?_map] at e
      cases q : ds[i]? with
      | none => rw [q] at e; cases e
      | some d' => rw [q] at e; cases e
    · rw [List.getElem?_append_right (by simpa using hi), List.getElem?_replicate] at e
      split at e <;> cases e

theorem fn_body {c : Cn} {k : Nat} {x : Str} {st : Stmt} {f : Addr} {fd : FuncData} {N ps : List Str} {m : SM} (F : L2.Fun c.K x x st f fd) (S : FnScope N ps (defScope st))
    (hmg : c.mg x = some (.ref f)) (hbd : Binds c.K fd ps [])
    (body : ∀ (X : Cx) (W : WX), cnOf X = c → Cok k W X → X.N = N → X.env.scope = defScope st → X.stack = X.env :: X.outer → X.env.frame = some X.env.locals → (∀ y, X.fn y = true) → PSs X (defBody st) (tS c m W)) :
    Fn c (k + 1) x ps.length (fBody N.length m) := by
  refine ⟨f, fd, ps, rfl, F.okX S spM.len fun cdv A outer s H vs Q E hr hsp => ?_, hmg, F.kp, hbd⟩
  obtain ⟨hl, β, Sh, ds, b, s1, hb, bs, r, h⟩ := hsp
  refine ⟨_, body (cxOf (L2.CX c.P c.w) c.P c.w c.K c.mg c.base N x (defScope st) f cdv A outer s H E) (fun cls d _ H => E cls d H) rfl ⟨rfl, hr, takes_of rfl rfl rfl rfl, S.nd, passes_of rfl⟩ rfl rfl rfl rfl (fun _ => rfl), ?_⟩
  refine ⟨β, H, Sh, Sh, _, b, RS.entry s1 hb bs r, ?_⟩
  unfold fBody at h
  have hlen : ds.length = vs.length := r.length.symm
  cases e : m (ds.map Sl.val ++ List.replicate (N.length - ds.length) Sl.none) b with
  | bad => rw [e] at h; exact h
  | nx δ b1 =>
    rw [e] at h
    exact fun σ H' S' q => h .non H' S' q.ext q.bx (show V.non = V.non from rfl) (by decide)
  | bk δ b1 => rw [e] at h; exact h.elim
  | ct δ b1 => rw [e] at h; exact h.elim
  | ret d kd b1 =>
    rw [e] at h
    exact fun v H' S' x hb q hk => h v H' S' x hb q hk
  | exc y fs δ b1 =>
    rw [e] at h
    exact fun cls dx σ H' S' q z => h cls dx H' S' q.ext q.bx z
end Rk

namespace Rk
open PySem PySem.Spec L2

/-! ### states: an earlier point of what is shared, slots set, lists given away -/
theorem RS.anchor {c : Cn} {β : Option Addr} {H0 S0 H S : Hp} {δ : Slots} {σ : L2.St} {b : Bx} (r : RS c β H0 S0 H S δ σ b) : RS c β H0 S H S δ σ b :=
  ⟨⟨r.ext.hh, r.ext.bx, Sub.refl _, fun _ _ h => h, r.ext.sub⟩, r.len, r.bx, r.bs, r.val, r.own, r.dis⟩
theorem RS.unanchor {c : Cn} {β : Option Addr} {H0 S0 H1 S1 H S : Hp} {δ : Slots} {σ : L2.St} {b : Bx} (x : Ext β H0 S0 H1 S1) (r : RS c β H0 S1 H S δ σ b) : RS c β H0 S0 H S δ σ b :=
  ⟨⟨r.ext.hh, r.ext.bx, x.ss.trans r.ext.ss, fun a h n => r.ext.nw a h (x.nw a h n), r.ext.sub⟩, r.len, r.bx, r.bs, r.val, r.own, r.dis⟩
theorem Ext.unanchor {β : Option Addr} {H0 S0 H1 S1 H S : Hp} (x : Ext β H0 S0 H1 S1) (r : Ext β H0 S1 H S) : Ext β H0 S0 H S :=
  ⟨r.hh, r.bx, x.ss.trans r.ss, fun a h n => r.nw a h (x.nw a h n), r.sub⟩
theorem OutS.anchor {c : Cn} {β : Option Addr} {W : WX} {H0 S0 H1 S1 : Hp} {E : Ends} (x : Ext β H0 S0 H1 S1) : ∀ {o : SOut}, OutS c β W H0 S0 E o → OutS c β W H0 S1 E o
  | .nx δ b, h => fun σ H S r => h σ H S (r.unanchor x)
  | .bk δ b, h => fun σ H S r => h σ H S (r.unanchor x)
  | .ct δ b, h => fun σ H S r => h σ H S (r.unanchor x)
  | .ret d k b, h => fun v H S e hb q hk => h v H S (x.unanchor e) hb q hk
  | .exc y fs δ b, h => fun cls dx σ H S r q => h cls dx σ H S (r.unanchor x) q
  | .bad, h => h

theorem RS.setV {c : Cn} {β : Option Addr} {H0 S0 H S : Hp} {δ : Slots} {σ : L2.St} {b : Bx} {d : D} {v : V} (i : Nat) (r : RS c β H0 S0 H S δ σ b) (h : RV c β S d v) : RS c β H0 S0 H S (δ.set i (.val d)) (σ.set i (some v)) b := by
  refine ⟨r.ext, by simp [r.len], r.bx, r.bs, fun j d' e => ?_, fun j ds e => ?_, fun j l ds es a n e1 e2 e3 => ?_⟩
  · by_cases hj : j = i
    · subst hj
      have hlt : j < δ.length := by
        rcases Nat.lt_or_ge j δ.length with q | q
        · exact q
        · rw [List.getElem?_eq_none (by simpa using q)] at e; cases e
      rw [List.getElem?_set_self hlt] at e
      cases e
      exact ⟨v, List.getElem?_set_self (by rw [← r.len]; exact hlt), h⟩
    · rw [List.getElem?_set_ne (Ne.symm hj)] at e ⊢
      exact r.val j d' e
  · by_cases hj : j = i
    · subst hj
      have hlt : j < δ.length := by
        rcases Nat.lt_or_ge j δ.length with q | q
        · exact q
        · rw [List.getElem?_eq_none (by simpa using q)] at e; cases e
      rw [List.getElem?_set_self hlt] at e
      cases e
    · rw [List.getElem?_set_ne (Ne.symm hj)] at e ⊢
      exact r.own j ds e
  · have hj : j ≠ i := fun q => by
      subst q
      have hlt : j < δ.length := by
        rcases Nat.lt_or_ge j δ.length with q | q
        · exact q
        · rw [List.getElem?_eq_none (by simpa using q)] at e1; cases e1
      rw [List.getElem?_set_self hlt] at e1
      cases e1
    have hl : l ≠ i := fun q => by
      subst q
      have hlt : l < δ.length := by
        rcases Nat.lt_or_ge l δ.length with q | q
        · exact q
        · rw [List.getElem?_eq_none (by simpa using q)] at e2; cases e2
      rw [List.getElem?_set_self hlt] at e2
      cases e2
    rw [List.getElem?_set_ne (Ne.symm hj)] at e1 e3
    rw [List.getElem?_set_ne (Ne.symm hl)] at e2 ⊢
    exact r.dis j l ds es a n e1 e2 e3
/-- a list that is nobody's gets a name -/
theorem RS.setO {c : Cn} {β : Option Addr} {H0 S0 H S : Hp} {δ : Slots} {σ : L2.St} {b : Bx} {ds : List D} {vs : List V} {a : Addr} (i : Nat) (r : RS c β H0 S0 H S δ σ b)
    (n0 : H0 a = none) (h1 : H a = some (.lst vs)) (h2 : S a = none) (h3 : β ≠ some a) (h4 : RVs c β S ds vs) (fr : ∀ (j : Nat) (es : List D), j ≠ i → δ[j]? = some (Sl.own es) → σ[j]? ≠ some (some (V.ref a))) :
    RS c β H0 S0 H S (δ.set i (.own ds)) (σ.set i (some (.ref a))) b := by
  have inn : ∀ {α : Type} {l : List α} {j : Nat} {x y : α}, (l.set j x)[j]? = some y → y = x ∧ j < l.length := fun {α l j x y} e => by
    rcases Nat.lt_or_ge j l.length with q | q
    · rw [List.getElem?_set_self q] at e; exact ⟨(Option.some.inj e).symm, q⟩
    · rw [List.getElem?_eq_none (by simpa using q)] at e; cases e
  refine ⟨r.ext, by simp [r.len], r.bx, r.bs, fun j d' e => ?_, fun j es e => ?_, fun j l es fs a' n e1 e2 e3 => ?_⟩
  · by_cases hj : j = i
    · subst hj
      cases (inn e).1
    · rw [List.getElem?_set_ne (Ne.symm hj)] at e ⊢
      exact r.val j d' e
  · by_cases hj : j = i
    · subst hj
      obtain ⟨e', hlt⟩ := inn e
      cases e'
      exact ⟨a, vs, List.getElem?_set_self (by rw [← r.len]; exact hlt), n0, h1, h2, h3, h4⟩
    · rw [List.getElem?_set_ne (Ne.symm hj)] at e ⊢
      exact r.own j es e
  · by_cases hj : j = i
    · subst hj
      have hl : l ≠ j := Ne.symm n
      have hs := (inn e3).1
      have ha : a' = a := V.ref.inj (Option.some.inj hs)
      rw [List.getElem?_set_ne (Ne.symm hl)] at e2 ⊢
      rw [ha]
      exact fr l fs hl e2
    · by_cases hl : l = i
      · subst hl
        rw [List.getElem?_set_ne (Ne.symm hj)] at e1 e3
        intro q
        have hs := (inn q).1
        have ha : a' = a := V.ref.inj (Option.some.inj hs)
        rw [ha] at e3
        exact fr j es hj e1 e3
      · rw [List.getElem?_set_ne (Ne.symm hj)] at e1 e3
        rw [List.getElem?_set_ne (Ne.symm hl)] at e2 ⊢
        exact r.dis j l es fs a' n e1 e2 e3

/-- a named list is given away: it stays as it is from now on -/
def frz1 (i : Nat) (δ : Slots) : Slots := match δ[i]? with
  | some (.own ds) => δ.set i (.val (.lst ds))
  | _ => δ
def frz (is : List Nat) (δ : Slots) : Slots := is.foldl (fun δ i => frz1 i δ) δ
theorem set_same {α : Type} : ∀ {l : List α} {i : Nat} {x : α}, l[i]? = some x → l.set i x = l
  | [], _, _, h => by simp at h
  | y :: l, 0, x, h => by simp at h; subst h; rfl
  | y :: l, i + 1, x, h => by
    rw [List.set_cons_succ, set_same (by simpa using h)]
theorem RS.frz1 {c : Cn} {β : Option Addr} {H0 S0 H S : Hp} {δ : Slots} {σ : L2.St} {b : Bx} (i : Nat) (r : RS c β H0 S0 H S δ σ b) : ∃ S', Sub S S' ∧ RS c β H0 S0 H S' (Rk.frz1 i δ) σ b := by
  unfold Rk.frz1
  split
  · rename_i ds e
    obtain ⟨a, vs, h1, h2, h3, h4, h5, h6⟩ := r.own i ds e
    have x : Ext β H0 S0 H (upd S a (.lst vs)) := r.ext.share h2 h3 h4
    have ss : Sub S (upd S a (.lst vs)) := fun b u e => by rw [upd_ne (ne_of_none e h4)]; exact e
    have r' : RS c β H0 S0 H (upd S a (.lst vs)) (δ.set i .none) σ b := by
      have keep : ∀ {j : Nat} {y : Sl}, (δ.set i Sl.none)[j]? = some y → y ≠ Sl.none → j ≠ i ∧ δ[j]? = some y := fun {j y} e n => by
        by_cases hj : j = i
        · subst hj
          rcases Nat.lt_or_ge j δ.length with q | q
          · rw [List.getElem?_set_self q] at e; exact absurd (Option.some.inj e).symm n
          · rw [List.getElem?_eq_none (by simpa using q)] at e; cases e
        · rw [List.getElem?_set_ne (Ne.symm hj)] at e; exact ⟨hj, e⟩
      refine ⟨x, by simp [r.len], r.bx, fun a' e' => ?_, fun j d e' => ?_, fun j es e' => ?_, fun j l es fs a' n e1 e2 e3 => ?_⟩
      · rw [upd_ne (fun q => h5 (by rw [← q]; exact e'))]; exact r.bs a' e'
      · obtain ⟨_, e'⟩ := keep e' (by intro z; cases z)
        obtain ⟨v, g1, g2⟩ := r.val j d e'
        exact ⟨v, g1, RV.mono ss g2⟩
      · obtain ⟨hj, e'⟩ := keep e' (by intro z; cases z)
        obtain ⟨a', us, g1, g2, g3, g4, g5, g6⟩ := r.own j es e'
        have : a' ≠ a := fun q => r.dis i j ds es a (Ne.symm hj) e e' h1 (by rw [← q]; exact g1)
        exact ⟨a', us, g1, g2, g3, by rw [upd_ne this]; exact g4, g5, RVs.mono ss g6⟩
      · obtain ⟨_, e1⟩ := keep e1 (by intro z; cases z)
        obtain ⟨_, e2⟩ := keep e2 (by intro z; cases z)
        exact r.dis j l es fs a' n e1 e2 e3
    have hv : RV c β (upd S a (.lst vs)) (.lst ds) (.ref a) := (show ∃ a' us, V.ref a = .ref a' ∧ _ = some (HO.lst us) ∧ RVs c β _ ds us from ⟨a, vs, rfl, upd_same, RVs.mono ss h6⟩)
    refine ⟨_, ss, ?_⟩
    have r'' := r'.setV i hv
    have e1 : (δ.set i Sl.none).set i (.val (.lst ds)) = δ.set i (.val (.lst ds)) := by simp
    rw [e1, set_same h1] at r''
    exact r''
  · exact ⟨S, Sub.refl _, r⟩
theorem RS.frz {c : Cn} {β : Option Addr} {H0 S0 H : Hp} {σ : L2.St} {b : Bx} : ∀ (is : List Nat) {S : Hp} {δ : Slots} (r : RS c β H0 S0 H S δ σ b), ∃ S', RS c β H0 S0 H S' (Rk.frz is δ) σ b
  | [], S, δ, r => ⟨S, r⟩
  | i :: is, S, δ, r => by
    obtain ⟨S', _, r'⟩ := r.frz1 i
    exact RS.frz is r'

/-! ### statements -/
def sFrz (is : List Nat) (m : SM) : SM := fun δ b => m (frz is δ) b
def sNext : SM := fun δ b => .nx δ b
def sBrk : SM := fun δ b => .bk δ b
def sCnt : SM := fun δ b => .ct δ b
def sSeq (m r : SM) : SM := fun δ b => match m δ b with
  | .nx δ1 b1 => r δ1 b1
  | o => o
def sIf (t : BM) (ma mb : SM) : SM := fun δ b => match t δ b with
  | .ok t b1 => if t = true then ma δ b1 else mb δ b1
  | .exc x fs b => .exc x fs δ b
  | .bad => .bad
def sRet (m : EM) : SM := fun δ b => match m δ b with
  | .ok _ .bo _ => .bad
  | .ok d k b1 => .ret d k b1
  | .exc x fs b => .exc x fs δ b
  | .bad => .bad
/-- return of a name -/
def sRetV (i : Nat) : SM := fun δ b => match δ[i]? with
  | some (.val d) => .ret d .sh b
  | some (.own ds) => .ret (.lst ds) .fr b
  | _ => .bad
def putSl (i : Nat) (d : D) (k : Kd) (δ : Slots) : Option Slots := match k, d with
  | .sh, d => some (δ.set i (.val d))
  | .fr, .lst ds => some (δ.set i (.own ds))
  | _, _ => none
def sAsg (i : Nat) (m : EM) : SM := fun δ b => match m δ b with
  | .ok d k b1 => (match putSl i d k δ with
    | some δ1 => .nx δ1 b1
    | none => .bad)
  | .exc x fs b => .exc x fs δ b
  | .bad => .bad
/-- an expression for its own sake -/
def sExp (m : EM) : SM := fun δ b => match m δ b with
  | .ok _ _ b1 => .nx δ b1
  | .exc x fs b => .exc x fs δ b
  | .bad => .bad

section
variable {X : Cx} {W : WX} {e : Expr} {st : Stmt} {sts : List Stmt} {m : EM} {ms rs : SM} {pos : Pos}
theorem tE_exc {c : Cn} {β : Option Addr} {H0 S0 H S : Hp} {δ : Slots} {σ : L2.St} {b b1 : Bx} {E : Ends} {Q : VK} {x : Str} {fs : List D} (r : RS c β H0 S0 H S δ σ b)
    (h : OutS c β W H0 S0 E (.exc x fs δ b1)) : OutE c β W σ H S Q (.exc x fs b1) := fun cls dx H' S' e hb q => h cls dx σ H' S' (r.step e hb) q
theorem tT_exc {c : Cn} {β : Option Addr} {H0 S0 H S : Hp} {δ : Slots} {σ : L2.St} {b b1 : Bx} {E : Ends} {Q : Bool → Hp → Prop} {x : Str} {fs : List D} (r : RS c β H0 S0 H S δ σ b)
    (h : OutS c β W H0 S0 E (.exc x fs δ b1)) : OutBs c β W σ H S Q (.exc x fs b1) := fun cls dx H' S' e hb q => h cls dx σ H' S' (r.step e hb) q

theorem s_sFrz (is : List Nat) (h : PS X st (tS (cnOf X) ms W)) : PS X st (tS (cnOf X) (sFrz is ms) W) := h.imp fun E σ H q => by
  obtain ⟨β, H0, S0, S, δ, b, r, q⟩ := q
  obtain ⟨S', r'⟩ := r.frz is
  exact ⟨β, H0, S0, S', _, b, r', q⟩
theorem s_nil : PSs X [] (tS (cnOf X) sNext W) := pss_nil.imp fun E σ H q => by
  obtain ⟨β, H0, S0, S, δ, b, r, q⟩ := q
  exact q σ H S r
theorem s_pass : PS X (.Pass pos) (tS (cnOf X) sNext W) := ps_pass.imp fun E σ H q => by
  obtain ⟨β, H0, S0, S, δ, b, r, q⟩ := q
  exact q σ H S r
theorem s_brk : PS X (.Break pos) (tS (cnOf X) sBrk W) := ps_break.imp fun E σ H q => by
  obtain ⟨β, H0, S0, S, δ, b, r, q⟩ := q
  exact q σ H S r
theorem s_cnt : PS X (.Continue pos) (tS (cnOf X) sCnt W) := ps_continue.imp fun E σ H q => by
  obtain ⟨β, H0, S0, S, δ, b, r, q⟩ := q
  exact q σ H S r
theorem s_one (h : PS X st (tS (cnOf X) ms W)) : PSs X [st] (tS (cnOf X) ms W) := pss_one h
theorem s_seq (h1 : PS X st (tS (cnOf X) ms W)) (h2 : PSs X sts (tS (cnOf X) rs W)) : PSs X (st :: sts) (tS (cnOf X) (sSeq ms rs) W) := by
  refine (pss_cons h1 h2).imp fun E σ H q => ?_
  obtain ⟨β, H0, S0, S, δ, b, r, q⟩ := q
  refine ⟨β, H0, S0, S, δ, b, r, ?_⟩
  unfold sSeq at q
  cases e : ms δ b with
  | nx δ1 b1 =>
    rw [e] at q
    exact fun σ1 H1 S1 r1 => ⟨β, H0, S0, S1, δ1, b1, r1, q⟩
  | _ => rw [e] at q; exact q
theorem s_if {t : BM} {a b : List Stmt} {ma mb : SM} (hc : PT X e (tT (cnOf X) t W)) (ha : PSs X a (tS (cnOf X) ma W)) (hb : PSs X b (tS (cnOf X) mb W)) : PS X (.If e a b pos) (tS (cnOf X) (sIf t ma mb) W) := by
  refine (ps_if hc ha hb).imp fun E σ H q => ?_
  obtain ⟨β, H0, S0, S, δ, b, r, q⟩ := q
  refine ⟨β, H0, S0, S, δ, b, r, ?_⟩
  unfold sIf at q
  cases e : t δ b with
  | bad => rw [e] at q; exact q
  | exc x fs b1 => rw [e] at q; exact tT_exc r q
  | ok t b1 =>
    rw [e] at q
    intro H1 S1 x1 hb1
    have r1 := r.step x1 hb1
    cases t with
    | true => exact ⟨β, H0, S0, S1, δ, b1, r1, q⟩
    | false => exact ⟨β, H0, S0, S1, δ, b1, r1, q⟩
theorem s_ret (h : PE X e (tE (cnOf X) m W)) : PS X (.Return (some e) pos) (tS (cnOf X) (sRet m) W) := by
  refine (ps_ret h).imp fun E σ H q => ?_
  obtain ⟨β, H0, S0, S, δ, b, r, q⟩ := q
  refine ⟨β, H0, S0, S, δ, b, r, ?_⟩
  unfold sRet at q
  cases e : m δ b with
  | bad => rw [e] at q; exact q
  | exc x fs b1 => rw [e] at q; exact tE_exc r q
  | ok d k b1 =>
    rw [e] at q
    intro v H1 S1 x1 hb1 q1
    have r1 := r.step x1 hb1
    cases k with
    | bo => exact q.elim
    | sh => exact q v H1 S1 r1.ext hb1 (q1.back r.ext) (by decide)
    | fr => exact q v H1 S1 r1.ext hb1 (q1.back r.ext) (by decide)
theorem s_retN : PS X (.Return none pos) (tS (cnOf X) (sRet (eCst .non)) W) := by
  refine ps_retN.imp fun E σ H q => ?_
  obtain ⟨β, H0, S0, S, δ, b, r, q⟩ := q
  exact q .non H S r.ext r.bx (show V.non = V.non from rfl) (by decide)
theorem s_retV {i : Nat} {x : Str} {p : Pos} (hN : X.N[i]? = some x) (hv : Vis X.env.scope x) (hd : (x == ("__debug__" : Str)) = false) (hcd : (x == ("__classdict__" : Str)) = false) :
    PS X (.Return (some (.Name x p)) pos) (tS (cnOf X) (sRetV i) W) := by
  refine (ps_ret (pe_var hN hv hd hcd)).imp fun E σ H q => ?_
  obtain ⟨β, H0, S0, S, δ, b, r, q⟩ := q
  unfold sRetV at q
  cases e : δ[i]? with
  | none => rw [e] at q; exact q.elim
  | some u =>
    rw [e] at q
    cases u with
    | none => exact q.elim
    | val d =>
      obtain ⟨v, h1, h2⟩ := r.val i d e
      exact ⟨v, h1, q v H S r.ext r.bx h2 (by decide)⟩
    | own ds =>
      obtain ⟨a, vs, h1, h2, h3, h4, h5, h6⟩ := r.own i ds e
      exact ⟨.ref a, h1, q _ H S r.ext r.bx ⟨ds, a, vs, rfl, rfl, h2, h3, h4, h5, h6⟩ (by decide)⟩

/-- a value gets a name -/
theorem RS.put {c : Cn} {β : Option Addr} {H0 S0 H S H1 S1 : Hp} {δ δ1 : Slots} {σ : L2.St} {b b1 : Bx} {d : D} {k : Kd} {v : V} {i : Nat} (r : RS c β H0 S0 H S δ σ b) (x : Ext β H S H1 S1) (hb : BxR β H1 b1)
    (q : RR c β H H1 S1 d k v) (e : putSl i d k δ = some δ1) : RS c β H0 S0 H1 S1 δ1 (σ.set i (some v)) b1 := by
  have r1 := r.step x hb
  unfold putSl at e
  split at e
  · cases e
    exact r1.setV i q
  · cases e
    obtain ⟨ds', a, vs, e1, rfl, h1, h2, h3, h4, h5⟩ := q
    cases e1
    refine r1.setO i ?_ h2 h3 h4 h5 fun j es hj e1 e2 => ?_
    · cases eh : H0 a with
      | none => rfl
      | some ob => exact absurd h1 (r.ext.bx a (by rw [eh]; simp))
    · obtain ⟨a', us, g1, g2, g3, _⟩ := r.own j es e1
      rw [g1] at e2
      cases e2
      rw [h1] at g3
      cases g3
  · cases e
theorem s_asg {i : Nat} {x : Str} {p : Pos} (hN : X.N.Nodup) (hi : X.N[i]? = some x) (hx : Loc X.env.scope x) (hf : X.fn x = true ∨ X.env.scope.names.lookup x = some .local) (hs : swapsWith e (some (.Name x p)) pos.line X.env = pure false)
    (h : PE X e (tE (cnOf X) m W)) : PS X (.Assign [.Name x p] e pos) (tS (cnOf X) (sAsg i m) W) := by
  refine (ps_set hN hi hx h hs hf).imp fun E σ H q => ?_
  obtain ⟨β, H0, S0, S, δ, b, r, q⟩ := q
  refine ⟨β, H0, S0, S, δ, b, r, ?_⟩
  unfold sAsg at q
  cases e : m δ b with
  | bad => rw [e] at q; exact q
  | exc x fs b1 => rw [e] at q; exact tE_exc r q
  | ok d k b1 =>
    rw [e] at q
    intro v H1 S1 x1 hb1 q1
    dsimp only at q
    cases e2 : putSl i d k δ with
    | none => rw [e2] at q; exact q.elim
    | some δ1 =>
      rw [e2] at q
      exact q _ H1 S1 (r.put x1 hb1 q1 e2)
theorem s_exp (h : PE X e (tE (cnOf X) m W)) (hs : swapsWith e none pos.line X.env = pure false) : PS X (.Expr e pos) (tS (cnOf X) (sExp m) W) := by
  refine (ps_expr h hs).imp fun E σ H q => ?_
  obtain ⟨β, H0, S0, S, δ, b, r, q⟩ := q
  refine ⟨β, H0, S0, S, δ, b, r, ?_⟩
  unfold sExp at q
  cases e : m δ b with
  | bad => rw [e] at q; exact q
  | exc x fs b1 => rw [e] at q; exact tE_exc r q
  | ok d k b1 =>
    rw [e] at q
    exact fun v H1 S1 x1 hb1 q1 => q σ H1 S1 (r.step x1 hb1)

/-! while -/
def whileL (t : BM) (body : SM) : Nat → SM
  | 0, _, _ => .bad
  | n + 1, δ, b => match t δ b with
    | .ok true b1 => (match body δ b1 with
      | .nx δ2 b2 => whileL t body n δ2 b2
      | .ct δ2 b2 => whileL t body n δ2 b2
      | .bk δ2 b2 => .nx δ2 b2
      | o => o)
    | .ok false b1 => .nx δ b1
    | .exc x fs b1 => .exc x fs δ b1
    | .bad => .bad
theorem s_while {t : BM} {body : List Stmt} (n : Nat) {k : Nat} (C : Cok k W X) (hc : PT X e (tT (cnOf X) t W)) (hb : PSs X body (tS (cnOf X) ms W)) : PS X (.While e body [] pos) (tS (cnOf X) (whileL t ms n) W) := by
  refine (ps_while C.pass hc hb).imp fun E σ H q => ?_
  obtain ⟨β, H0, S0, S, δ, b, r, q⟩ := q
  refine ⟨fun n σ H => ∃ S δ b, RS (cnOf X) β H0 S0 H S δ σ b ∧ OutS (cnOf X) β W H0 S0 E (whileL t ms n δ b), ⟨n, S, δ, b, r, q⟩, ?_⟩
  rintro n σ H ⟨S, δ, b, r, q⟩
  cases n with
  | zero => exact q.elim
  | succ n =>
    refine ⟨β, H0, S0, S, δ, b, r, ?_⟩
    unfold whileL at q
    cases e : t δ b with
    | bad => rw [e] at q; exact q
    | exc x fs b1 => rw [e] at q; exact tT_exc r q
    | ok t b1 =>
      rw [e] at q
      intro H1 S1 x1 hb1
      have r1 := r.step x1 hb1
      cases t with
      | false => exact q σ H1 S1 r1
      | true =>
        dsimp only at q
        refine ⟨fun σ' H' => ∃ S δ b, RS (cnOf X) β H0 S0 H' S δ σ' b ∧ OutS (cnOf X) β W H0 S0 E (whileL t ms n δ b), fun σ' H' h => ⟨n, Nat.lt_succ_self n, h⟩, β, H0, S0, S1, δ, b1, r1, ?_⟩
        cases e2 : ms δ b1 with
        | nx δ2 b2 => rw [e2] at q; exact fun σ2 H2 S2 r2 => ⟨S2, δ2, b2, r2, q⟩
        | ct δ2 b2 => rw [e2] at q; exact fun σ2 H2 S2 r2 => ⟨S2, δ2, b2, r2, q⟩
        | bk δ2 b2 => rw [e2] at q; exact fun σ2 H2 S2 r2 => q σ2 H2 S2 r2
        | ret d k b2 => rw [e2] at q; exact q
        | exc x fs δ2 b2 => rw [e2] at q; exact q
        | bad => rw [e2] at q; exact q
end
end Rk

namespace Rk
open PySem PySem.Spec L2

/-! ### what is walked -/
/-- the iterator gives the items ds -/
def ItOk (c : Cn) (β : Option Addr) (S0 : Hp) (ds : List D) (J : It) : Prop :=
  ∀ H S, Sub S0 S → Sub S H → (∀ a, β = some a → H a ≠ none) → ∀ i : Nat, (∀ d, ds[i]? = some d → J.go i H ∧ ∀ x H', J.yld i H x H' → ∃ S', Px β H S H' S' ∧ RV c β S' d x) ∧ (ds[i]? = none → J.stop i H)
def OutIs (c : Cn) (β : Option Addr) (W : WX) (σ : L2.St) (H S : Hp) (R : It → Hp → Prop) : OutL → Prop
  | .ok ds b => ∀ J H' S', Ext β H S H' S' → BxR β H' b → ItOk c β S' ds J → R J H'
  | .exc x fs b => ∀ cls dx H' S', Ext β H S H' S' → BxR β H' b → ExR c β S' x fs cls dx H' → W cls dx σ H'
  | .bad => False
def tI (c : Cn) (m : LM) (W : WX) : TI := fun σ H R => ∃ β H0 S0 S δ b, RS c β H0 S0 H S δ σ b ∧ OutIs c β W σ H S R (m δ b)
theorem _root_.L2.PI.imp {X : Cx} {tg e : Expr} {t t' : TI} (h : PI X tg e t) (f : ∀ σ H R, t' σ H R → t σ H R) : PI X tg e t' := ⟨fun pins s σ H Q I q => h.run pins s σ H Q I (f σ H Q q)⟩

/-! ### targets -/
abbrev GM := D → Slots → Option Slots
def gNm (i : Nat) : GM := fun d δ => some (δ.set i (.val d))
def gEach : List GM → List D → Slots → Option Slots
  | [], [], δ => some δ
  | g :: gs, d :: ds, δ => match g d δ with
    | some δ1 => gEach gs ds δ1
    | none => none
  | _, _, _ => none
def gTp (gs : List GM) : GM := fun d δ => match d with
  | .tup ds => gEach gs ds δ
  | _ => none
/-- but for the slots vs all stays -/
def Off (vs : List Nat) (σ σ' : L2.St) : Prop := σ'.length = σ.length ∧ ∀ j, j ∉ vs → σ'[j]? = σ[j]?
theorem Off.refl (vs : List Nat) (σ : L2.St) : Off vs σ σ := ⟨rfl, fun _ _ => rfl⟩
theorem Off.trans {vs : List Nat} {a b c : L2.St} (x : Off vs a b) (y : Off vs b c) : Off vs a c := ⟨y.1.trans x.1, fun j h => (y.2 j h).trans (x.2 j h)⟩
theorem Off.set {vs : List Nat} {σ : L2.St} {i : Nat} {v : Option V} (h : i ∈ vs) : Off vs σ (σ.set i v) := ⟨by simp, fun j hj => by
  rw [List.getElem?_set_ne (fun e : i = j => hj (by rw [← e]; exact h))]⟩
theorem wipe_get (σ : L2.St) (j : Nat) : ∀ vs : List Nat, (wipe σ vs)[j]? = if j ∈ vs then (if j < σ.length then some none else none) else σ[j]?
  | [] => by simp [wipe]
  | v :: vs => by
    have ih := wipe_get σ j vs
    unfold wipe
    by_cases hj : j = v
    · subst hj
      rw [if_pos (by simp)]
      by_cases hl : j < σ.length
      · rw [if_pos hl, List.getElem?_set_self (by rw [wipe_length]; exact hl)]
      · rw [if_neg hl, List.getElem?_eq_none (by rw [List.length_set, wipe_length]; omega)]
    · rw [List.getElem?_set_ne (Ne.symm hj), ih]
      by_cases hm : j ∈ vs
      · rw [if_pos hm, if_pos (List.mem_cons_of_mem _ hm)]
      · rw [if_neg hm, if_neg (by simp [hj, hm])]
theorem Off.wipe {vs : List Nat} {σ σ' : L2.St} (h : Off vs σ σ') : wipe σ' vs = wipe σ vs := by
  apply List.ext_getElem?
  intro j
  rw [wipe_get, wipe_get, h.1]
  by_cases hm : j ∈ vs
  · rw [if_pos hm, if_pos hm]
  · rw [if_neg hm, if_neg hm, h.2 j hm]

def tG (c : Cn) (vs : List Nat) (g : GM) : TG := fun v σ H Q => ∃ β H0 S0 S δ b d, RS c β H0 S0 H S δ σ b ∧ RV c β S d v ∧ match g d δ with
  | some δ' => ∀ σ', RS c β H0 S0 H S δ' σ' b → Off vs σ σ' → Q σ' H
  | none => False
def tGs (c : Cn) (vs : List Nat) (g : List GM) : TGs := fun us σ H Q => ∃ β H0 S0 S δ b ds, RS c β H0 S0 H S δ σ b ∧ RVs c β S ds us ∧ match gEach g ds δ with
  | some δ' => ∀ σ', RS c β H0 S0 H S δ' σ' b → Off vs σ σ' → Q σ' H
  | none => False
theorem _root_.L2.PG.imp {X : Cx} {tg : Expr} {t t' : TG} (h : PG X tg t) (f : ∀ v σ H R, t' v σ H R → t v σ H R) : PG X tg t' := ⟨fun pins s σ H v u Q I r q => h.run pins s σ H v u Q I r (f v σ H Q q)⟩
theorem _root_.L2.PGs.imp {X : Cx} {tg : List Expr} {t t' : TGs} (h : PGs X tg t) (f : ∀ v σ H R, t' v σ H R → t v σ H R) : PGs X tg t' := ⟨fun pins s σ H v u Q I r q => h.run pins s σ H v u Q I r (f v σ H Q q)⟩

section
variable {X : Cx} {W : WX} {e : Expr} {pos : Pos} {vs : List Nat}
theorem s_gNm {i : Nat} {x : Str} (hN : X.N.Nodup) (hi : X.N[i]? = some x) (hx : Loc X.env.scope x) (hf : X.fn x = true ∨ X.env.scope.names.lookup x = some .local) (hv : i ∈ vs) : PG X (.Name x pos) (tG (cnOf X) vs (gNm i)) :=
  (pg_name hN hi hx hf).imp fun v σ H Q h => by
    obtain ⟨β, H0, S0, S, δ, b, d, r, q, h⟩ := h
    exact h _ (r.setV i q) (Off.set hv)
theorem s_gNil : PGs X [] (tGs (cnOf X) vs []) := pgs_nil.imp fun us σ H Q h => by
  obtain ⟨β, H0, S0, S, δ, b, ds, r, q, h⟩ := h
  cases ds with
  | nil => exact ⟨q, h σ r (Off.refl _ _)⟩
  | cons d ds => exact h.elim
theorem s_gCons {es : List Expr} {g : GM} {gs : List GM} (h1 : PG X e (tG (cnOf X) vs g)) (h2 : PGs X es (tGs (cnOf X) vs gs)) (hs : (assignEach (e :: es) X.env).map (·.2) = assign e X.env :: (assignEach es X.env).map (·.2)) :
    PGs X (e :: es) (tGs (cnOf X) vs (g :: gs)) := (pgs_cons h1 h2 hs).imp fun us σ H Q h => by
  obtain ⟨β, H0, S0, S, δ, b, ds, r, q, h⟩ := h
  cases ds with
  | nil => exact h.elim
  | cons d ds =>
    obtain ⟨v, u, rfl, q1, q2⟩ := q.uncons
    refine ⟨v, u, rfl, β, H0, S0, S, δ, b, d, r, q1, ?_⟩
    unfold gEach at h
    cases e : g d δ with
    | none => rw [e] at h; exact h
    | some δ1 =>
      rw [e] at h
      intro σ1 r1 o1
      refine ⟨β, H0, S0, S, δ1, b, ds, r1, q2, ?_⟩
      dsimp only at h
      cases e2 : gEach gs ds δ1 with
      | none => rw [e2] at h; exact h
      | some δ2 => rw [e2] at h; exact fun σ2 r2 o2 => h σ2 r2 (o1.trans o2)
theorem s_gTp {es : List Expr} {k n : Nat} {gs : List GM} (hc : X.calm = true) (h : PGs X es (tGs (cnOf X) vs gs)) (hn : (assignEach es X.env).length = n) (hst : (assignEach es X.env).findIdx? (·.1) = none) (hl : gs.length = n) :
    PG X (.Tuple es k pos) (tG (cnOf X) vs (gTp gs)) := (pg_tup hc h hn hst).imp fun v σ H Q h => by
  obtain ⟨β, H0, S0, S, δ, b, d, r, q, h⟩ := h
  unfold gTp at h
  cases d with
  | tup ds =>
    obtain ⟨a, us, rfl, ht, q⟩ := (show ∃ a vs, v = .ref a ∧ SqT X.K S a vs ∧ RVs (cnOf X) β S ds vs from q)
    dsimp only at h
    have len : ∀ {gs : List GM} {ds : List D} {δ δ' : Slots}, gEach gs ds δ = some δ' → ds.length = gs.length := by
      intro gs
      induction gs with
      | nil => intro ds δ δ' e; cases ds with
        | nil => rfl
        | cons d ds => cases e
      | cons g gs ih => intro ds δ δ' e; cases ds with
        | nil => cases e
        | cons d ds =>
          unfold gEach at e
          cases e2 : g d δ with
          | none => rw [e2] at e; cases e
          | some δ1 => rw [e2] at e; rw [List.length_cons, List.length_cons, ih e]
    refine ⟨a, us, rfl, r.sub.sqT ht, ?_, β, H0, S0, S, δ, b, ds, r, q, ?_⟩
    · cases e : gEach gs ds δ with
      | none => rw [e] at h; exact h.elim
      | some δ' => rw [q.length, len e, hl]
    · exact h
  | _ => exact h.elim

/-! ### for -/
def forL (g : GM) (body : SM) : List D → Slots → Bx → SOut
  | [], δ, b => .nx δ b
  | d :: ds, δ, b => match g d δ with
    | none => .bad
    | some δ1 => (match body δ1 b with
      | .nx δ2 b2 => forL g body ds δ2 b2
      | .ct δ2 b2 => forL g body ds δ2 b2
      | .bk δ2 b2 => .nx δ2 b2
      | o => o)
def sFor (im : LM) (g : GM) (body : SM) : SM := fun δ b => match im δ b with
  | .ok ds b1 => forL g body ds δ b1
  | .exc x fs b1 => .exc x fs δ b1
  | .bad => .bad
theorem s_for {tg : Expr} {body : List Stmt} {im : LM} {g : GM} {ms : SM} {k : Nat} (C : Cok k W X) (hi : PI X tg e (tI (cnOf X) im W)) (hg : PG X tg (tG (cnOf X) vs g)) (hb : PSs X body (tS (cnOf X) ms W))
    (hs : ∀ x, foldedSetIterable e X.env x = pure x) : PS X (.For tg e body [] pos) (tS (cnOf X) (sFor im g ms) W) := by
  refine (ps_for C.pass C.calm hi hg hb hs).imp fun E σ H q => ?_
  obtain ⟨β, H0, S0, S, δ, b, r, q⟩ := q
  refine ⟨β, H0, S0, S, δ, b, r, ?_⟩
  unfold sFor at q
  cases e1 : im δ b with
  | bad => rw [e1] at q; exact q
  | exc x fs b1 =>
    rw [e1] at q
    exact fun cls dx H' S' e hb z => q cls dx σ H' S' (r.step e hb) z
  | ok ds b1 =>
    rw [e1] at q
    intro J H1 S1 x1 hb1 ho
    have r1 := r.step x1 hb1
    dsimp only at q
    refine ⟨fun i m σ H => m + i = ds.length ∧ ∃ S δ b, RS (cnOf X) β H0 S1 H S δ σ b ∧ OutS (cnOf X) β W H0 S1 E (forL g ms (ds.drop i) δ b), ⟨ds.length, by simp, S1, δ, b1, r1.anchor, OutS.anchor r1.ext q⟩, ?_⟩
    rintro i m σ H ⟨hm, S, δ, b, r, q⟩
    have hJ := ho H S r.ext.ss r.sub (fun a ea => by rw [r.bx a ea]; simp) i
    cases e2 : ds[i]? with
    | none =>
      have hd : ds.drop i = [] := by
        have := List.getElem?_eq_none_iff.mp e2
        exact List.drop_eq_nil_of_le this
      rw [hd] at q
      exact .inl ⟨hJ.2 e2, q σ H S r⟩
    | some d =>
      obtain ⟨hlt, hd⟩ : i < ds.length ∧ ds.drop i = d :: ds.drop (i + 1) := by
        obtain ⟨hlt, he⟩ := List.getElem?_eq_some_iff.mp e2
        exact ⟨hlt, by rw [← he]; exact List.drop_eq_getElem_cons hlt⟩
      rw [hd] at q
      obtain ⟨go, hy⟩ := hJ.1 d e2
      refine .inr ⟨go, fun σ' H' => ∃ S δ b, RS (cnOf X) β H0 S1 H' S δ σ' b ∧ OutS (cnOf X) β W H0 S1 E (forL g ms (ds.drop (i + 1)) δ b), fun σ' H' h => ⟨m - 1, by omega, by omega, h⟩, fun x H' y => ?_⟩
      obtain ⟨S', px, rx⟩ := hy x H' y
      have r' := r.step px.ext (px.bx r.bx)
      refine ⟨β, H0, S1, S', δ, b, d, r', rx, ?_⟩
      unfold forL at q
      cases e3 : g d δ with
      | none => rw [e3] at q; exact q
      | some δ1 =>
        rw [e3] at q
        intro σ1 r1 _
        refine ⟨β, H0, S1, S', δ1, b, r1, ?_⟩
        dsimp only at q
        cases e4 : ms δ1 b with
        | nx δ2 b2 => rw [e4] at q; exact fun σ2 H2 S2 r2 => ⟨S2, δ2, b2, r2, q⟩
        | ct δ2 b2 => rw [e4] at q; exact fun σ2 H2 S2 r2 => ⟨S2, δ2, b2, r2, q⟩
        | bk δ2 b2 => rw [e4] at q; exact fun σ2 H2 S2 r2 => q σ2 H2 S2 r2
        | ret d k b2 => rw [e4] at q; exact q
        | exc x fs δ2 b2 => rw [e4] at q; exact q
        | bad => rw [e4] at q; exact q
end

/-! ### lists made by a comprehension -/
/-- an object that no one shares is changed -/
theorem RS.poke {c : Cn} {β : Option Addr} {H0 S0 H S : Hp} {δ : Slots} {σ : L2.St} {b : Bx} {p : Addr} {o u : HO} (r : RS c β H0 S0 H S δ σ b) (n0 : H0 p = none) (hp : H p = some u) (ns : S p = none) (nb : β ≠ some p)
    (no : ∀ (j : Nat) (es : List D), δ[j]? = some (Sl.own es) → σ[j]? ≠ some (some (V.ref p))) : RS c β H0 S0 (upd H p o) S δ σ b := by
  refine ⟨⟨fun a w h n => ?_, fun a h => ?_, r.ext.ss, r.ext.nw, fun a w h => ?_⟩, r.len, fun a e => ?_, r.bs, r.val, fun i ds e => ?_, r.dis⟩
  · rw [upd_ne (ne_of_none h n0)]; exact r.ext.hh a w h n
  · by_cases q : a = p
    · rw [q, upd_same]; simp
    · rw [upd_ne q]; exact r.ext.bx a h
  · rw [upd_ne (ne_of_none h ns)]; exact r.sub a w h
  · rw [upd_ne (fun q => nb (by rw [← q]; exact e))]; exact r.bx a e
  · obtain ⟨a, vs, h1, h2, h3, h4, h5, h6⟩ := r.own i ds e
    have : a ≠ p := fun q => no i ds e (by rw [h1, q])
    exact ⟨a, vs, h1, h2, by rw [upd_ne this]; exact h3, h4, h5, h6⟩

theorem Ext.poke {β : Option Addr} {H S H' S' : Hp} {p : Addr} {o : HO} (x : Ext β H S H' S') (n : H p = none) (ns : S' p = none) : Ext β H S (upd H' p o) S' :=
  ⟨fun a w h nb => by rw [upd_ne (ne_of_none h n)]; exact x.hh a w h nb, fun a h => by
    by_cases q : a = p
    · rw [q, upd_same]; simp
    · rw [upd_ne q]; exact x.bx a h, x.ss, x.nw, fun a w h => by rw [upd_ne (ne_of_none h ns)]; exact x.sub a w h⟩
def wipeD (δ : Slots) : List Nat → Slots
  | [] => δ
  | v :: vs => (wipeD δ vs).set v .none
theorem RS.setN {c : Cn} {β : Option Addr} {H0 S0 H S : Hp} {δ : Slots} {σ : L2.St} {b : Bx} (i : Nat) (r : RS c β H0 S0 H S δ σ b) : RS c β H0 S0 H S (δ.set i .none) (σ.set i none) b := by
  have keep : ∀ {j : Nat} {y : Sl}, (δ.set i Sl.none)[j]? = some y → y ≠ Sl.none → j ≠ i ∧ δ[j]? = some y := fun {j y} e n => by
    by_cases hj : j = i
    · subst hj
      rcases Nat.lt_or_ge j δ.length with q | q
      · rw [List.getElem?_set_self q] at e; exact absurd (Option.some.inj e).symm n
      · rw [List.getElem?_eq_none (by simpa using q)] at e; cases e
    · rw [List.getElem?_set_ne (Ne.symm hj)] at e; exact ⟨hj, e⟩
  refine ⟨r.ext, by simp [r.len], r.bx, r.bs, fun j d e => ?_, fun j es e => ?_, fun j l es fs a n e1 e2 e3 => ?_⟩
  · obtain ⟨hj, e⟩ := keep e (by intro z; cases z)
    rw [List.getElem?_set_ne (Ne.symm hj)]
    exact r.val j d e
  · obtain ⟨hj, e⟩ := keep e (by intro z; cases z)
    rw [List.getElem?_set_ne (Ne.symm hj)]
    exact r.own j es e
  · obtain ⟨hj, e1⟩ := keep e1 (by intro z; cases z)
    obtain ⟨hl, e2⟩ := keep e2 (by intro z; cases z)
    rw [List.getElem?_set_ne (Ne.symm hj)] at e3
    rw [List.getElem?_set_ne (Ne.symm hl)]
    exact r.dis j l es fs a n e1 e2 e3
theorem RS.wipe {c : Cn} {β : Option Addr} {H0 S0 H S : Hp} {δ : Slots} {σ : L2.St} {b : Bx} (r : RS c β H0 S0 H S δ σ b) : ∀ vs : List Nat, RS c β H0 S0 H S (wipeD δ vs) (L2.wipe σ vs) b
  | [] => r
  | v :: vs => (RS.wipe r vs).setN v

def tTrue : BM := fun _ b => .ok true b
def compL (g : GM) (t : BM) (m : EM) (δ : Slots) : List D → Bx → OutL
  | [], b => .ok [] b
  | d :: ds, b => match g d δ with
    | none => .bad
    | some δ1 => (match t δ1 b with
      | .ok true b1 => (match m δ1 b1 with
        | .ok _ .bo _ => .bad
        | .ok y _ b2 => (match compL g t m δ ds b2 with
          | .ok ys b3 => .ok (y :: ys) b3
          | o => o)
        | _ => .bad)
      | .ok false b1 => compL g t m δ ds b1
      | _ => .bad)
def eComp (vs : List Nat) (im : LM) (g : GM) (t : BM) (m : EM) : EM := fun δ b => match im δ b with
  | .ok ds b1 => if ds.length ≤ 1000000 then (match compL g t m (wipeD δ vs) ds b1 with
    | .ok ys b2 => .ok (.lst ys) .fr b2
    | _ => .bad) else .bad
  | .exc x fs b1 => .exc x fs b1
  | .bad => .bad
def W0 : WX := fun _ _ _ _ => False

section
variable {X : Cx} {W : WX} {e : Expr} {pos : Pos} {vs : List Nat}
theorem s_tTrue : PTs X [] (tT (cnOf X) tTrue W) := ⟨fun pins s σ H Q I h => pts_nil.run pins s σ H Q I (by
  obtain ⟨β, H0, S0, S, δ, b, r, h⟩ := h
  exact h H S (Ext.refl r.sub) r.bx)⟩
theorem s_tIf {c : Expr} {t : BM} (h : PT X c (tT (cnOf X) t W)) : PTs X [c] (tT (cnOf X) t W) := pts_one h

/-- the reading of a comprehension -/
theorem comp_reads {tt : BM} {m : EM} {g : GM} {im : LM} {c : Cn} {σ : L2.St} {H : Hp} {Q : VK} (h : tE c (eComp vs im g tt m) W σ H Q) : tLc (tI c im W) (tG c vs g) (tT c tt W0) (tE c (esh m) W0) vs σ H Q := by
  obtain ⟨β, H0, S0, S, δ, b, r, q⟩ := h
  refine ⟨β, H0, S0, S, δ, b, r, ?_⟩
  unfold eComp at q
  cases e1 : im δ b with
  | bad => rw [e1] at q; exact q
  | exc x fs b1 => rw [e1] at q; exact q
  | ok ds b1 =>
    rw [e1] at q
    intro J H1 S1 x1 hb1 ho D hD
    have r1 := r.step x1 hb1
    dsimp only at q
    by_cases hl : ds.length ≤ 1000000
    · rw [if_pos hl] at q
      have nbD : β ≠ some D := fun e => by have := r1.bx D e; rw [hD] at this; cases this
      have n0D : H0 D = none := by
        cases eh : H0 D with
        | none => rfl
        | some ob => exact absurd hD (r1.ext.bx D (by rw [eh]; simp))
      have nHD : H D = none := by
        cases eh : H D with
        | none => rfl
        | some ob => exact absurd hD (x1.bx D (by rw [eh]; simp))
      have x2 : Ext β H S (upd H1 D (.lst [])) S1 := x1.trans (Ext.laid r1.sub hD)
      have noD : ∀ (j : Nat) (es : List Rk.D), (wipeD δ vs)[j]? = some (Sl.own es) → (L2.wipe σ vs)[j]? ≠ some (some (V.ref D)) := fun j es e z => by
        obtain ⟨a, us, g1, _, g3, _⟩ := (r1.wipe vs).own j es e
        rw [g1] at z
        cases z
        rw [hD] at g3; cases g3
      have r2 : RS c β H0 S1 (upd H1 D (.lst [])) S1 (wipeD δ vs) (L2.wipe σ vs) b1 := (r1.wipe vs).anchor.step (Ext.laid r1.sub hD) (fun a e => by rw [upd_ne (fun z => nbD (by rw [← z]; exact e))]; exact hb1 a e)
      refine ⟨fun i n H' => n + i = ds.length ∧ ∃ S' acc ys b', RS c β H0 S1 H' S' (wipeD δ vs) (L2.wipe σ vs) b' ∧ H' D = some (.lst acc) ∧ S' D = none ∧ RVs c β S' ys acc ∧ acc.length ≤ i ∧ Ext β H S H' S' ∧
        OutE c β W σ H S Q (match compL g tt m (wipeD δ vs) (ds.drop i) b' with
          | .ok zs b2 => .ok (.lst (ys ++ zs)) .fr b2
          | _ => .bad), ⟨ds.length, by simp, S1, [], [], b1, r2, upd_same, subn r1.sub hD, RVs.nil, Nat.le_refl _, x2, q⟩, ?_⟩
      rintro i n H' ⟨hm, S', acc, ys, b', r3, h1, h2, h3, h4, x3, q⟩
      have hJ := ho H' S' r3.ext.ss r3.sub (fun a ea => by rw [r3.bx a ea]; simp) i
      cases e2 : ds[i]? with
      | none =>
        have hd : ds.drop i = [] := List.drop_eq_nil_of_le (List.getElem?_eq_none_iff.mp e2)
        rw [hd] at q
        exact .inl ⟨hJ.2 e2, q (.ref D) H' S' x3 r3.bx ⟨_, D, acc, rfl, rfl, nHD, h1, h2, nbD, by rw [List.append_nil]; exact h3⟩⟩
      | some d =>
        obtain ⟨hlt, hd⟩ : i < ds.length ∧ ds.drop i = d :: ds.drop (i + 1) := by
          obtain ⟨hlt, he⟩ := List.getElem?_eq_some_iff.mp e2
          exact ⟨hlt, by rw [← he]; exact List.drop_eq_getElem_cons hlt⟩
        rw [hd] at q
        obtain ⟨go, hy⟩ := hJ.1 d e2
        refine .inr ⟨go, fun H' => ∃ S' acc ys b', RS c β H0 S1 H' S' (wipeD δ vs) (L2.wipe σ vs) b' ∧ H' D = some (.lst acc) ∧ S' D = none ∧ RVs c β S' ys acc ∧ acc.length ≤ i + 1 ∧ Ext β H S H' S' ∧
          OutE c β W σ H S Q (match compL g tt m (wipeD δ vs) (ds.drop (i + 1)) b' with
            | .ok zs b2 => .ok (.lst (ys ++ zs)) .fr b2
            | _ => .bad), fun H' h => ⟨n - 1, by omega, by omega, h⟩, fun x H4 y => ?_⟩
        obtain ⟨S4, px, rx⟩ := hy x H4 y
        have r4 := r3.step px.ext (px.bx r3.bx)
        have x4 := x3.trans px.ext
        refine ⟨β, H0, S1, S4, wipeD δ vs, b', d, r4, rx, ?_⟩
        unfold compL at q
        cases e3 : g d (wipeD δ vs) with
        | none => rw [e3] at q; exact q
        | some δ1 =>
          rw [e3] at q
          intro σ1 r5 o5
          refine ⟨o5.wipe.trans (by
            apply List.ext_getElem?
            intro j
            rw [wipe_get, wipe_length]
            by_cases hj : j ∈ vs
            · rw [if_pos hj, wipe_get, if_pos hj]
            · rw [if_neg hj]), β, H0, S1, S4, δ1, b', r5, ?_⟩
          dsimp only at q
          have again : ∀ {H6 S6 : Hp} {b6 : Bx}, Ext β H4 S4 H6 S6 → BxR β H6 b6 → ∀ {acc' : List V} {ys' : List Rk.D} {H7 : Hp}, (H7 = H6 ∨ ∃ o, H7 = upd H6 D o) → H7 D = some (.lst acc') → RVs c β S6 ys' acc' → acc'.length ≤ i + 1 →
              OutE c β W σ H S Q (match compL g tt m (wipeD δ vs) (ds.drop (i + 1)) b6 with
                | .ok zs b2 => .ok (.lst (ys' ++ zs)) .fr b2
                | _ => .bad) → ∃ S' acc ys b', RS c β H0 S1 H7 S' (wipeD δ vs) (L2.wipe σ vs) b' ∧ H7 D = some (.lst acc) ∧ S' D = none ∧ RVs c β S' ys acc ∧ acc.length ≤ i + 1 ∧ Ext β H S H7 S' ∧
                OutE c β W σ H S Q (match compL g tt m (wipeD δ vs) (ds.drop (i + 1)) b' with
                  | .ok zs b2 => .ok (.lst (ys ++ zs)) .fr b2
                  | _ => .bad) := fun {H6 S6 b6} x6 hb6 {acc' ys' H7} e7 h7 rv hl7 q => by
            have n6 : S6 D = none := x6.nw D (by rw [px.all D _ h1]; simp) (px.ext.nw D (by rw [h1]; simp) h2)
            have r6 := r4.step x6 hb6
            have h6 : H6 D = some (.lst acc) := x6.hh D _ (px.all D _ h1) nbD
            rcases e7 with rfl | ⟨o, rfl⟩
            · exact ⟨S6, acc', ys', b6, r6, h7, n6, rv, hl7, x4.trans x6, q⟩
            · exact ⟨S6, acc', ys', b6, r6.poke n0D h6 n6 nbD noD, h7, n6, rv, hl7, (x4.trans x6).poke nHD n6, q⟩
          cases e4 : tt δ1 b' with
          | bad => rw [e4] at q; exact q.elim
          | exc y fs b1 => rw [e4] at q; exact q.elim
          | ok t b5 =>
            rw [e4] at q
            intro H5 S5 x5 hb5
            cases t with
            | false =>
              rw [if_neg (by decide)]
              have h5 : H5 D = some (.lst acc) := x5.hh D _ (px.all D _ h1) nbD
              have n4 : S4 D = none := px.ext.nw D (by rw [h1]; simp) h2
              exact again x5 hb5 (.inl rfl) h5 (RVs.mono (px.ext.ss.trans x5.ss) h3) (by omega) q
            | true =>
              rw [if_pos rfl]
              have r6 := r5.step x5 hb5
              refine ⟨β, H0, S1, S5, δ1, b5, r6, ?_⟩
              dsimp only at q
              unfold esh
              have fin : ∀ {y : Rk.D} {b6 : Bx}, OutE c β W σ H S Q (match (match compL g tt m (wipeD δ vs) (ds.drop (i + 1)) b6 with
                    | .ok ys b3 => OutL.ok (y :: ys) b3
                    | o => o) with
                  | .ok zs b2 => .ok (.lst (ys ++ zs)) .fr b2
                  | _ => .bad) → OutE c β W0 σ1 H5 S5 (fun y H4 => ∃ acc, H4 D = some (.lst acc) ∧ acc.length < sizeLine ∧ ∃ S' acc_1 ys b', RS c β H0 S1 (upd H4 D (.lst (acc ++ [y]))) S' (wipeD δ vs) (L2.wipe σ vs) b' ∧
                    (upd H4 D (.lst (acc ++ [y]))) D = some (.lst acc_1) ∧ S' D = none ∧ RVs c β S' ys acc_1 ∧ acc_1.length ≤ i + 1 ∧ Ext β H S (upd H4 D (.lst (acc ++ [y]))) S' ∧
                    OutE c β W σ H S Q (match compL g tt m (wipeD δ vs) (ds.drop (i + 1)) b' with
                      | .ok zs b2 => .ok (.lst (ys ++ zs)) .fr b2
                      | _ => .bad)) (.ok y .sh b6) := fun {y b6} q => by
                intro v H6 S6 x6 hb6 q6
                have h6 : H6 D = some (.lst acc) := x6.hh D _ (x5.hh D _ (px.all D _ h1) nbD) nbD
                refine ⟨acc, h6, by rw [sizeLine_eq]; omega, again (x5.trans x6) hb6 (.inr ⟨_, rfl⟩) upd_same ((RVs.mono ((px.ext.ss.trans x5.ss).trans x6.ss) h3).append (.cons q6 .nil)) (by rw [List.length_append]; simp; omega) ?_⟩
                cases e8 : compL g tt m (wipeD δ vs) (ds.drop (i + 1)) b6 with
                | ok zs b7 =>
                  rw [e8] at q
                  have e9 : ys ++ [y] ++ zs = ys ++ y :: zs := by rw [List.append_assoc]; rfl
                  dsimp only
                  rw [e9]
                  exact q
                | exc z fs b7 => rw [e8] at q; exact q
                | bad => rw [e8] at q; exact q
              cases e5 : m δ1 b5 with
              | bad => rw [e5] at q; exact q.elim
              | exc y fs b1 => rw [e5] at q; exact q.elim
              | ok y ky b6 =>
                rw [e5] at q
                cases ky with
                | bo => exact q.elim
                | sh => exact fin q
                | fr => exact fin q
    · rw [if_neg hl] at q; exact q.elim
end
end Rk

namespace Rk
open PySem PySem.Spec L2

/-! ### enumerate(v), zip(v, w) for lists, tuples and texts in any mix -/
set_option maxHeartbeats 8000000 in
theorem meets_enum1 {v : Value} {o : Obj} {H : Heap → Prop} (B : Begins v o H) :
    Meets (Builtin.«enumerate.__new__» ⟨[.type "enumerate", v], []⟩) (fun _ R s => H s.heap ∧
      R (.ok (.ret (.ref (s.heap.push o).objs.size)))
        { s with heap := (s.heap.push o).push { cls := .type "enumerate", data := .fields #[.none, .bool false, .ref s.heap.objs.size, rawInt 0, .none, .none] } }) :=
  .of_wp fun prog w A R s h => by
    obtain ⟨hp, g, d, tk, os⟩ := s
    obtain ⟨hH, h⟩ := h
    have hsub := sub_enumerate
    have q1 : ∀ {A : Around} {E : Value → Shared → Prop} {Q : Value → Shared → Prop} {g d tk os}, Q (.ref hp.objs.size) ⟨hp.push o, g, d, tk, os⟩ → wpAny (model prog w) A (pyIter v) Q E ⟨hp, g, d, tk, os⟩ :=
      fun {A E Q g d tk os} hq => B.iter prog w A E ⟨hp, g, d, tk, os⟩ Q hH hq
    wp_walk
    refine wpAny_stack_any fun st => wpAny_pure ?_
    split
    · rename_i c _ _ _ _ _
      cases (c == Value.type "enumerate")
      · wp_walk using q1
        exact ⟨_, rfl, h⟩
      · wp_walk using q1
        exact ⟨_, rfl, h⟩
    · wp_walk using q1
      exact ⟨_, rfl, h⟩
section
variable {prog : Program} {w : World} {A : Around} {E : Value → Shared → Prop} {s : Shared}
theorem call_enum1 {v : Value} {o : Obj} {H : Heap → Prop} {Q : Value → Shared → Prop} (B : Begins v o H) (h1 : H s.heap)
    (h : ∀ h', IsEnum h' (s.heap.objs.size + 1) s.heap.objs.size 0 .none → h'.get? s.heap.objs.size = some o → (∀ b u, s.heap.get? b = some u → h'.get? b = some u) → Q (.ref (s.heap.objs.size + 1)) { s with heap := h' }) :
    wpAny (model prog w) A (call (.type "enumerate") [v]) Q E s := by
  refine callType_new F.called_enumerate (by decide) (F.typeCall_enumerate_1 _) (F.newCall_enumerate_1 _) (fun obj => F.args_object_init_2 obj _) F.entry_enumerate_new (meets_enum1 B) ⟨h1, ?_⟩
  have hz : (s.heap.push o).objs.size = s.heap.objs.size + 1 := Heap.size_push ..
  show _ ∧ _
  rw [hz]
  have he : IsEnum ((s.heap.push o).push { cls := .type "enumerate", data := .fields #[.none, .bool false, .ref s.heap.objs.size, rawInt 0, .none, .none] }) (s.heap.objs.size + 1) s.heap.objs.size 0 .none := by
    have q := Heap.get?_push_size (s.heap.push o) (o := { cls := .type "enumerate", data := .fields #[.none, .bool false, .ref s.heap.objs.size, rawInt 0, .none, .none] }) rfl
    rw [hz] at q
    exact q
  exact ⟨⟨_, he, rfl⟩, h _ he (Heap.get?_push_of_some _ (Heap.get?_push_size _ B.free)) fun b u x => Heap.get?_push_of_some _ (Heap.get?_push_of_some _ x)⟩
end

/-- what an iterator owns is none of what it reads -/
theorem out_fp {X : Cx} {pins : List (Addr × Obj)} {σ : L2.St} {H : Hp} {s : Shared} {fp : List Addr} {it c : Addr} (I : Inv X pins σ H s) (hc : FpOk X pins H c) (h : ∀ b ∈ fp, b = it ∨ H b ≠ none ∨ ∃ u, X.base.get? b = some u) (n : c ≠ it) : c ∉ fp := fun hm => by
  rcases h c hm with z | z | ⟨u, z⟩
  · exact n z
  · exact z hc.1
  · rcases hc.2.2.2.1 with q | q
    · exact I.ok.noex c u z q
    · exact absurd (Nat.lt_of_lt_of_le (Heap.lt_size z) (Nat.le_trans I.ok.bsz q)) (Nat.lt_irrefl _)
/-- something that is walked item by item: its iterator begins as o, stands as ist says -/
structure Src (P : Program) (w : World) (K : PySem.W.Frag) (v : Value) (o : Obj) (xs : List V) (hold : Hp → Prop) (ist : Addr → Nat → Heap → Prop) : Prop where
  beg : ∀ (X : Cx), X.prog = P → X.w = w → X.K = K → ∀ (pins : List (Addr × Obj)) (σ : L2.St) (H : Hp) (s : Shared), Inv X pins σ H s → hold H → ∃ HH : Heap → Prop, Begins v o HH ∧ HH s.heap
  ini : ∀ it h, h.get? it = some o → ist it 0 h
  obj : ∀ it i h, ist it i h → ∃ u, h.get? it = some u ∧ ∀ c, u.data ≠ .cell c
  at' : ∀ it i h h', ist it i h → (∀ u, h.get? it = some u → h'.get? it = some u) → ist it i h'
  draws : ∀ (X : Cx), X.prog = P → X.w = w → X.K = K → X.calm = true → ∀ (pins : List (Addr × Obj)) (σ : L2.St) (H : Hp) (s : Shared) (it : Addr) (i : Nat), Inv X pins σ H s → hold H → H it = none → ist it i s.heap →
    ∃ (fp : List Addr) (St : Nat → Heap → Prop), Draws P w X.A.in1 it fp xs.length (fun j u => ∃ x, xs[j]? = some x ∧ RelV x u) St ∧ St i s.heap ∧ (∀ j h, St j h → ist it j h) ∧ it ∈ fp ∧
      ∀ b ∈ fp, b = it ∨ H b ≠ none ∨ ∃ u, X.base.get? b = some u

section
variable {P : Program} {w : World} {K : PySem.W.Frag}
theorem vals_rel {xs : List V} {its : List Value} (r : Vals xs its) {j : Nat} {u : Value} (h : its.toArray[j]? = some u) : ∃ x, xs[j]? = some x ∧ RelV x u := by
  have h' : its[j]? = some u := by simpa using h
  cases e : xs[j]? with
  | none => rw [r.none_of e] at h'; cases h'
  | some x =>
    obtain ⟨u', e1, e2⟩ := r.get e
    rw [h'] at e1; cases e1
    exact ⟨x, rfl, e2⟩
theorem _root_.PySem.Draws.weak {prog : Program} {w : World} {A : Around} {it : Addr} {fp : List Addr} {n n' : Nat} {P P' : Nat → Value → Prop} {St : Nat → Heap → Prop} (D : PySem.Draws prog w A it fp n P St) (e : n = n') (h : ∀ i v, P i v → P' i v) : PySem.Draws prog w A it fp n' P' St := by
  subst e
  exact ⟨D.live, D.frame, fun i s Q E hi st hQ => D.item i s Q E hi st fun x h' tk p => hQ x h' tk (h i x p), D.done⟩
theorem src_list {a : Addr} {xs : List V} : Src P w K (.ref a) { cls := .type "list_iterator", data := .fields #[.ref a, .int 0 0] } xs (fun H => SqL K H a xs) (fun it i h => h.IsListIter it a i) where
  beg := by
    intro X hP hw hK pins σ H s I h
    subst hK
    obtain ⟨its, r, p, _⟩ := I.list h
    exact ⟨_, begins_list a its.toArray, p.isList⟩
  ini := fun it h e => ⟨_, e, rfl, rfl⟩
  obj := fun it i h ⟨o, e, c, d⟩ => ⟨o, e, fun v z => by rw [d] at z; cases z⟩
  at' := fun it i h h' st k => st.at k
  draws := by
    intro X hP hw hK hc pins σ H s it i I h hn st
    subst hP hw hK
    obtain ⟨its, r, p, _⟩ := I.list h
    have hne : a ≠ it := by
      rintro rfl
      obtain ⟨o, e, c, d⟩ := st
      obtain ⟨o', n', e', c', _, d'⟩ := p
      rw [e] at e'; cases e'
      rw [d] at d'; cases d'
    refine ⟨[it, a], fun i h => h.IsListIter it a i ∧ h.IsList a its.toArray, (Draws.list (A := X.A.in1) (show X.A.handled = none from I.ok.hd hc) it a hne its.toArray).weak (n' := xs.length) (by rw [r.length]; simp) fun j u q => vals_rel r q, ⟨st, p.isList⟩, fun j h z => z.1, by simp, fun b hb => ?_⟩
    have hb' : b = it ∨ b = a := by simpa using hb
    rcases hb' with e | e
    · exact .inl e
    · rw [e]
      rcases h with (h | ⟨o, h⟩) | ⟨o, _, _, h, _⟩
      · exact .inr (.inl (by rw [h]; simp))
      · exact .inr (.inl (by rw [h]; simp))
      · exact .inr (.inr ⟨o, I.ok.mod.kin a o h⟩)
theorem src_tup {a : Addr} {xs : List V} : Src P w K (.ref a) { cls := .type "tuple_iterator", data := .fields #[.ref a, .int 0 0] } xs (fun H => SqT K H a xs) (fun it i h => h.IsTupleIter it a i) where
  beg := by
    intro X hP hw hK pins σ H s I h
    subst hK
    obtain ⟨its, r, p, _⟩ := I.tuple h
    exact ⟨_, begins_tuple a its.toArray, (show s.heap.IsTuple a its.toArray from p)⟩
  ini := fun it h e => ⟨_, e, rfl, rfl⟩
  obj := fun it i h ⟨o, e, c, d⟩ => ⟨o, e, fun v z => by rw [d] at z; cases z⟩
  at' := fun it i h h' st k => st.at k
  draws := by
    intro X hP hw hK hc pins σ H s it i I h hn st
    subst hP hw hK
    obtain ⟨its, r, p, _⟩ := I.tuple h
    have hne : a ≠ it := by
      rintro rfl
      obtain ⟨o, e, c, d⟩ := st
      obtain ⟨o', e', c', n', d'⟩ := p
      rw [e] at e'; cases e'
      rw [d] at d'; cases d'
    refine ⟨[it, a], fun i h => h.IsTupleIter it a i ∧ h.IsTuple a its.toArray, (Draws.tuple (A := X.A.in1) (show X.A.handled = none from I.ok.hd hc) it a hne its.toArray).weak (n' := xs.length) (by rw [r.length]; simp) fun j u q => vals_rel r q, ⟨st, (show s.heap.IsTuple a its.toArray from p)⟩, fun j h z => z.1, by simp, fun b hb => ?_⟩
    have hb' : b = it ∨ b = a := by simpa using hb
    rcases hb' with e | e
    · exact .inl e
    · rw [e]
      rcases h with (h | ⟨o, h⟩) | ⟨o, _, _, h, _⟩
      · exact .inr (.inl (by rw [h]; simp))
      · exact .inr (.inl (by rw [h]; simp))
      · exact .inr (.inr ⟨o, I.ok.mod.kin a o h⟩)
/-- the signs of a text, as values -/
def signs (x : Str) : List V := x.cps.toList.map fun c => V.str ⟨#[c]⟩
theorem strIter_ty (x : Str) : strIterType x = "str_ascii_iterator" ∨ strIterType x = "str_iterator" := by
  unfold strIterType
  split
  · exact .inl rfl
  · exact .inr rfl
theorem src_str {x : Str} {t : Tok} : Src P w K (.str x t) { cls := .type (strIterType x), data := .fields #[.str x t, .int 0 0] } (signs x) (fun _ => True) (fun it i h => h.IsStrIter it (strIterType x) x t i) where
  beg := by
    intro X hP hw hK pins σ H s I h
    exact ⟨_, begins_text x t, trivial⟩
  ini := fun it h e => ⟨_, e, rfl, rfl⟩
  obj := fun it i h ⟨o, e, c, d⟩ => ⟨o, e, fun v z => by rw [d] at z; cases z⟩
  at' := fun it i h h' ⟨o, e, r⟩ k => ⟨o, k o e, r⟩
  draws := by
    intro X hP hw hK hc pins σ H s it i I h hn st
    subst hP hw hK
    refine ⟨[it], fun i h => h.IsStrIter it (strIterType x) x t i, (Draws.text (A := X.A.in1) (show X.A.handled = none from I.ok.hd hc) it x t).weak (n' := (signs x).length) (by unfold signs; simp) fun j u q => ?_, st, fun j h z => z, by simp, fun b hb => .inl (by simpa using hb)⟩
    obtain ⟨c, u', e, rfl⟩ := q
    have e' : x.cps.toList[j]? = some c := by simpa using e
    exact ⟨V.str ⟨#[c]⟩, by unfold signs; rw [List.getElem?_map, e']; rfl, ⟨u', rfl⟩⟩

/-- numbered items in new pairs -/
def ItE (xs : List V) (hold : Hp → Prop) : It :=
  ⟨fun i H => hold H ∧ i < xs.length, fun i H v H' => ∃ T x, v = .ref T ∧ H T = none ∧ H' = upd H T (.tup [.int (i : Nat), x]) ∧ xs[i]? = some x, fun i H => hold H ∧ xs.length ≤ i⟩
theorem turn_enumS {elts : List Expr} {kk : Nat} {tpos : Pos} {v : Value} {o : Obj} {xs : List V} {hold : Hp → Prop} {ist : Addr → Nat → Heap → Prop} (R : Src P w K v o xs hold ist) (e it : Addr) (hne : e ≠ it) :
    Turn P w K (.Tuple elts kk tpos) (ItE xs hold) [e, it] e (fun i h => i ≤ xs.length ∧ (∃ old, IsEnum h e it ((i : Nat) : Int) old) ∧ ist it i h) where
  mem := by simp
  obj := fun i h st b hb => by
    obtain ⟨_, ⟨old, he⟩, hi⟩ := st
    have e' : b = e ∨ b = it := by simpa using hb
    rcases e' with z | z
    · rw [z]; exact ⟨_, he, fun v q => nomatch q⟩
    · rw [z]; exact R.obj it i h hi
  keep := fun i h h' st k => let ⟨hl, ⟨old, he⟩, hi⟩ := st; ⟨hl, ⟨old, k e (by simp) _ he⟩, R.at' it i h h' hi fun o q => k it (by simp) o q⟩
  item := by
    intro X hP hw hK hc i pins s σ H E I hf st hg
    obtain ⟨hl, ⟨old, he⟩, hi⟩ := st
    obtain ⟨hh, hlt⟩ := hg
    obtain ⟨fp, St, D, hst, hback, hmem, hfp⟩ := R.draws X hP hw hK hc pins σ H s it i I hh (hf it (by simp)).1 hi
    subst hP hw hK
    have hef : e ∉ fp := out_fp I (hf e (by simp)) hfp hne
    have hel : e < s.heap.objs.size := Heap.lt_size he
    have hil : it < s.heap.objs.size := by obtain ⟨_, q⟩ := D.live _ _ hst; exact Heap.lt_size q
    refine wpAny_pyNext_enum_itemC D he hst hlt hne hef fun u h' tk hx ho hst' hT hsz hk => ?_
    obtain ⟨x, hx, rx⟩ := hx
    refine ⟨_, rfl, wpAny_letOwnedTupleGo_enum (s := { s with heap := h', toks := tk + 1 }) ho fun h'' he' sb => ?_⟩
    have hT2 : h''.get? s.heap.objs.size = some { cls := .type "tuple", data := .seq #[.int i tk, u] } := (sb.2 _ (Nat.ne_of_gt hel)).trans hT
    have new : ObjOk X.prog X.w (upd H s.heap.objs.size (.tup [.int (i : Nat), x])) h'' s.heap.objs.size (.tup [.int (i : Nat), x]) :=
      ⟨by show 2 ≤ sizeLine; decide, [.int i tk, u], .cons ⟨_, rfl⟩ (.cons rx .nil), ⟨_, hT2, rfl, _, rfl⟩⟩
    have I1 : Inv X pins σ (upd H s.heap.objs.size (.tup [.int (i : Nat), x])) { s with heap := h'', toks := tk + 1 } :=
      I.turnedNew (ch := [e, it]) (fun b ob hb q => (sb.2 b (fun z => hb (by simp [z]))).trans (hk b ob (fun z => hb (by simp [z])) (fun z => hb (by simp [z])) q)) hf (Nat.le_refl _) new
    refine ⟨.ref s.heap.objs.size, _, I1, rfl, ⟨_, x, rfl, I.hok.fresh (Nat.le_refl _), rfl, hx⟩, ⟨hlt, ⟨u, ?_⟩, R.at' it (i + 1) h' h'' (hback _ _ hst') fun o q => (sb.2 it (Ne.symm hne)).trans q⟩, fun b hb => ?_⟩
    · have e1 : ((i + 1 : Nat) : Int) = (i : Int) + 1 := by omega
      rw [e1]; exact he'
    · have hb' : b < s.heap.objs.size := by
        have e' : b = e ∨ b = it := by simpa using hb
        rcases e' with z | z
        · rw [z]; exact hel
        · rw [z]; exact hil
      rw [upd_ne (Nat.ne_of_lt hb')]
      exact (hf b hb).1
  done := by
    intro X hP hw hK hc i pins s σ H E I hf st hg
    obtain ⟨hl, ⟨old, he⟩, hi⟩ := st
    obtain ⟨hh, hle⟩ := hg
    obtain ⟨fp, St, D, hst, hback, hmem, hfp⟩ := R.draws X hP hw hK hc pins σ H s it i I hh (hf it (by simp)).1 hi
    subst hP hw hK
    obtain ⟨f0, f1, f2, f3, f4, f5⟩ := hf it (by simp)
    have hin : i = xs.length := Nat.le_antisymm hl hle
    subst hin
    exact wpAny_pyNext_enum_endD D he hst fun h' eb => ⟨rfl, I.turned (t' := s.toks) (fun b o hb q => eb b o hb q) f0 f1 f3 f4 f5⟩
  self := fun A i s Q E st h => let ⟨_, ⟨_, he⟩, _⟩ := st; wpAny_pyIter_enum he h

/-- items two by two in new pairs -/
def ItZ2 (xs ys : List V) (hold : Hp → Prop) : It :=
  ⟨fun i H => hold H ∧ i < xs.length ∧ i < ys.length, fun i H v H' => ∃ T x y, v = .ref T ∧ H T = none ∧ H' = upd H T (.tup [x, y]) ∧ xs[i]? = some x ∧ ys[i]? = some y, fun i H => hold H ∧ (xs.length ≤ i ∨ ys.length ≤ i)⟩
theorem turn_zipS {elts : List Expr} {kk : Nat} {tpos : Pos} {v1 v2 : Value} {o1 o2 : Obj} {xs ys : List V} {hold1 hold2 : Hp → Prop} {ist1 ist2 : Addr → Nat → Heap → Prop} (R1 : Src P w K v1 o1 xs hold1 ist1) (R2 : Src P w K v2 o2 ys hold2 ist2)
    (z TI TO i1 i2 : Addr) (n1 : TI ≠ z) (n2 : TO ≠ z) (n3 : TI ≠ TO) (n4 : TI ≠ i1) (n5 : TI ≠ i2) (n6 : i1 ≠ i2) (n7 : z ≠ i1) (n8 : z ≠ i2) (n9 : TO ≠ i1) (n10 : TO ≠ i2) :
    Turn P w K (.Tuple elts kk tpos) (ItZ2 xs ys fun H => hold1 H ∧ hold2 H) [z, TI, TO, i1, i2] z (fun i h => (i ≤ xs.length ∧ i ≤ ys.length) ∧ IsZip h z TI TO .none ∧ IsTupOf2 h TI (.ref i1) (.ref i2) ∧ (∃ x y, IsTupOf2 h TO x y) ∧ ist1 i1 i h ∧ ist2 i2 i h) where
  mem := by simp
  obj := fun i h st c hc => by
    obtain ⟨_, hz, hTI, ⟨x, y, hTO⟩, e1, e2⟩ := st
    have e' : c = z ∨ c = TI ∨ c = TO ∨ c = i1 ∨ c = i2 := by simpa using hc
    rcases e' with q | q | q | q | q
    · rw [q]; exact ⟨_, hz, fun v q => nomatch q⟩
    · rw [q]; exact ⟨_, hTI, fun v q => nomatch q⟩
    · rw [q]; exact ⟨_, hTO, fun v q => nomatch q⟩
    · rw [q]; exact R1.obj _ _ _ e1
    · rw [q]; exact R2.obj _ _ _ e2
  keep := fun i h h' st k => by
    obtain ⟨hl, hz, hTI, ⟨x, y, hTO⟩, e1, e2⟩ := st
    exact ⟨hl, k z (by simp) _ hz, k TI (by simp) _ hTI, ⟨x, y, k TO (by simp) _ hTO⟩, R1.at' _ _ _ _ e1 fun o q => k i1 (by simp) o q, R2.at' _ _ _ _ e2 fun o q => k i2 (by simp) o q⟩
  item := by
    intro X hP hw hK hc i pins s σ H E I hf st hg
    obtain ⟨hl, hz, hTI, ⟨x, y, hTO⟩, e1, e2⟩ := st
    obtain ⟨⟨hh1, hh2⟩, hlt1, hlt2⟩ := hg
    obtain ⟨fp1, St1, D1, st1, bk1, mem1, hfp1⟩ := R1.draws X hP hw hK hc pins σ H s i1 i I hh1 (hf i1 (by simp)).1 e1
    obtain ⟨fp2, St2, D2, st2, bk2, mem2, hfp2⟩ := R2.draws X hP hw hK hc pins σ H s i2 i I hh2 (hf i2 (by simp)).1 e2
    subst hP hw hK
    have SS : ZipSep2 z TI TO i1 i2 fp1 fp2 := ⟨n1, n2, n3, n4, mem1, out_fp I (hf z (by simp)) hfp1 n7, out_fp I (hf TO (by simp)) hfp1 n9, n5, mem2, out_fp I (hf z (by simp)) hfp2 n8, out_fp I (hf TO (by simp)) hfp2 n10,
      out_fp I (hf i1 (by simp)) hfp2 n6, out_fp I (hf i2 (by simp)) hfp1 (Ne.symm n6)⟩
    have lz : z < s.heap.objs.size := Heap.lt_size hz
    refine wpAny_pyNext_zipD2_item SS D1 D2 hz hTI hTO st1 st2 hlt1 hlt2 fun u1 u2 h' tk hx hy b1 b2 c1 c2 hT hsz hk => ?_
    obtain ⟨x, hx, rx⟩ := hx
    obtain ⟨y, hy, ry⟩ := hy
    refine ⟨_, rfl, wpAny_letOwnedTupleGo_zip (s := { s with heap := h', toks := tk }) b1 fun h'' hz' sb => ?_⟩
    have old : ∀ {b : Addr}, b ∈ [z, TI, TO, i1, i2] → b < s.heap.objs.size := fun {b} hb => by
      have e' : b = z ∨ b = TI ∨ b = TO ∨ b = i1 ∨ b = i2 := by simpa using hb
      rcases e' with q | q | q | q | q
      · rw [q]; exact lz
      · rw [q]; exact Heap.lt_size hTI
      · rw [q]; exact Heap.lt_size hTO
      · rw [q]; obtain ⟨_, q, _⟩ := R1.obj _ _ _ e1; exact Heap.lt_size q
      · rw [q]; obtain ⟨_, q, _⟩ := R2.obj _ _ _ e2; exact Heap.lt_size q
    have hT2 : h''.get? s.heap.objs.size = some { cls := .type "tuple", data := .seq #[u1, u2] } := (sb.2 _ (Nat.ne_of_gt lz)).trans hT
    have new : ObjOk X.prog X.w (upd H s.heap.objs.size (.tup [x, y])) h'' s.heap.objs.size (.tup [x, y]) :=
      ⟨by show 2 ≤ sizeLine; decide, [u1, u2], .cons rx (.cons ry .nil), ⟨_, hT2, rfl, _, rfl⟩⟩
    have I1 : Inv X pins σ (upd H s.heap.objs.size (.tup [x, y])) { s with heap := h'', toks := tk } :=
      I.turnedNew (ch := [z, TI, TO, i1, i2]) (fun b ob hb q => (sb.2 b (fun e => hb (by simp [e]))).trans (hk b ob (fun e => hb (by simp [e])) (fun e => hb (by simp [e])) (fun e => hb (by simp [e])) (fun e => hb (by simp [e])) q)) hf (Nat.le_refl _) new
    refine ⟨.ref s.heap.objs.size, _, I1, rfl, ⟨_, x, y, rfl, I.hok.fresh (Nat.le_refl _), rfl, hx, hy⟩, ⟨⟨hlt1, hlt2⟩, hz', (sb.2 TI n1).trans (hk TI _ n1 n3 n4 n5 hTI), ⟨_, _, (sb.2 TO n2).trans b2⟩,
      R1.at' _ _ _ _ (bk1 _ _ c1) fun o q => (sb.2 i1 (Ne.symm n7)).trans q, R2.at' _ _ _ _ (bk2 _ _ c2) fun o q => (sb.2 i2 (Ne.symm n8)).trans q⟩, fun b hb => ?_⟩
    rw [upd_ne (Nat.ne_of_lt (old hb))]
    exact (hf b hb).1
  done := by
    intro X hP hw hK hc i pins s σ H E I hf st hg
    obtain ⟨hl, hz, hTI, ⟨x, y, hTO⟩, e1, e2⟩ := st
    obtain ⟨⟨hh1, hh2⟩, hend⟩ := hg
    obtain ⟨fp1, St1, D1, st1, bk1, mem1, hfp1⟩ := R1.draws X hP hw hK hc pins σ H s i1 i I hh1 (hf i1 (by simp)).1 e1
    obtain ⟨fp2, St2, D2, st2, bk2, mem2, hfp2⟩ := R2.draws X hP hw hK hc pins σ H s i2 i I hh2 (hf i2 (by simp)).1 e2
    subst hP hw hK
    have SS : ZipSep2 z TI TO i1 i2 fp1 fp2 := ⟨n1, n2, n3, n4, mem1, out_fp I (hf z (by simp)) hfp1 n7, out_fp I (hf TO (by simp)) hfp1 n9, n5, mem2, out_fp I (hf z (by simp)) hfp2 n8, out_fp I (hf TO (by simp)) hfp2 n10,
      out_fp I (hf i1 (by simp)) hfp2 n6, out_fp I (hf i2 (by simp)) hfp1 (Ne.symm n6)⟩
    refine wpAny_pyNext_zipD2_end SS D1 D2 hz hTI hTO st1 st2 hl.1 hl.2 (by omega) fun h' tk hk => ⟨rfl, ?_⟩
    have nit : ∀ b u, H b = some u → b ∉ [z, TI, TO, i1, i2] := fun b u e q => by rw [(hf b q).1] at e; cases e
    have kk : ∀ b o, b ∉ [z, TI, TO, i1, i2] → s.heap.get? b = some o → h'.get? b = some o := fun b o hb q => hk b o (fun e => hb (by simp [e])) (fun e => hb (by simp [e])) (fun e => hb (by simp [e])) (fun e => hb (by simp [e])) q
    refine I.step (g' := s.gens) (d' := s.drawn) (ch := [z, TI, TO, i1, i2]) (fun b hb => ⟨(hf b hb).2.2.2.1, (hf b hb).2.1, (hf b hb).2.2.2.2.1, (hf b hb).2.2.2.2.2⟩) (fun b o _ _ hc q _ => kk b o hc q) (fun b o _ _ hc q _ => ⟨o.slots, kk b o hc q⟩)
      (fun b o _ q n => n) (fun b o hc q => ⟨o, kk b o hc q⟩) (fun _ _ q => q) (fun _ _ _ q => q) (fun b ps q => ⟨#[], by rw [q]; simp⟩) (fun m hm => ?_) (fun b u e => ?_) I.bare
    · obtain ⟨o, es, ep, ho, r⟩ := hm
      exact ⟨o, es, ep, kk _ o (fun q => (hf _ q).2.1 rfl) ho, r⟩
    · refine (I.hok b u e).stay (fun c v hc q => kk c v ?_ q) (fun _ q => q) fun _ _ q => q
      rcases hc with q | q
      · rw [q]; exact nit b u e
      · exact nit c _ q
  self := fun A i s Q E st h => wpAny_pyIter_zip st.2.1 h
end
end Rk

namespace Rk
open PySem PySem.Spec L2

def signsD (x : Str) : List D := x.cps.toList.map fun c => D.str ⟨#[c]⟩
def toItems : D → Option (List D)
  | .lst ds => some ds
  | .tup ds => some ds
  | .str x => some (signsD x)
  | _ => none
def rngD (lo : Int) (n : Nat) : List D := (List.range n).map fun k => D.int (lo + (k : Nat))
def enumD : Nat → List D → List D
  | _, [] => []
  | i, d :: ds => .tup [.int (i : Nat), d] :: enumD (i + 1) ds
def zipD (as bs : List D) : List D := List.zipWith (fun a b => D.tup [a, b]) as bs

/-- items of a value -/
def itSeq (m : EM) : LM := fun δ b => match esh m δ b with
  | .ok d _ b1 => (match toItems d with
    | some ds => .ok ds b1
    | none => .bad)
  | .exc x fs b1 => .exc x fs b1
  | .bad => .bad
def itRng (l : LM) : LM := fun δ b => match l δ b with
  | .ok [.int j] b1 => if -(2 ^ 62) ≤ j ∧ j < 2 ^ 62 then .ok (rngD 0 j.toNat) b1 else .bad
  | .ok [.int i, .int j] b1 => if -(2 ^ 62) ≤ i ∧ i < 2 ^ 62 ∧ -(2 ^ 62) ≤ j ∧ j < 2 ^ 62 then .ok (rngD i (j - i).toNat) b1 else .bad
  | .ok _ _ => .bad
  | o => o
def itEnum (l : LM) : LM := fun δ b => match l δ b with
  | .ok [d] b1 => (match toItems d with
    | some ds => .ok (enumD 0 ds) b1
    | none => .bad)
  | .ok _ _ => .bad
  | o => o
def itZip (l : LM) : LM := fun δ b => match l δ b with
  | .ok [d, e] b1 => (match toItems d, toItems e with
    | some ds, some es => .ok (zipD ds es) b1
    | _, _ => .bad)
  | .ok _ _ => .bad
  | o => o

section
variable {X : Cx} {W : WX} {e tg : Expr} {pos : Pos} {m : EM} {l : LM}
theorem Sub.rdL {K : PySem.W.Frag} {S T : Hp} {a : Addr} {xs : List V} (s : Sub S T) (h : S a = some (.lst xs)) : SqL K T a xs := .inl (.inl (s _ _ h))

theorem itok_l {c : Cn} {β : Option Addr} {S : Hp} {ds : List D} {a : Addr} {vs : List V} (h : S a = some (.lst vs)) (r : RVs c β S ds vs) : ItOk c β S ds (Itl c.K a) := by
  intro H S' s1 s2 hb i
  have q : SqL c.K H a vs := (s1.trans s2).rdL h
  refine ⟨fun d e => ?_, fun e => ?_⟩
  · obtain ⟨v, e1, e2⟩ := r.get e
    refine ⟨⟨vs, v, q, e1⟩, fun x H' y => ?_⟩
    obtain ⟨rfl, y⟩ := y
    have e3 := y vs q
    rw [e1] at e3; cases e3
    exact ⟨S', Px.refl s2, RV.mono s1 e2⟩
  · refine ⟨vs, q, ?_⟩
    have := List.getElem?_eq_none_iff.mp e
    rw [r.length]; exact this
theorem itok_t {c : Cn} {β : Option Addr} {S : Hp} {ds : List D} {a : Addr} {vs : List V} (h : SqT c.K S a vs) (r : RVs c β S ds vs) : ItOk c β S ds (Itt c.K a) := by
  intro H S' s1 s2 hb i
  have q : SqT c.K H a vs := (s1.trans s2).sqT h
  refine ⟨fun d e => ?_, fun e => ?_⟩
  · obtain ⟨v, e1, e2⟩ := r.get e
    refine ⟨⟨vs, v, q, e1⟩, fun x H' y => ?_⟩
    obtain ⟨rfl, y⟩ := y
    have e3 := y vs q
    rw [e1] at e3; cases e3
    exact ⟨S', Px.refl s2, RV.mono s1 e2⟩
  · refine ⟨vs, q, ?_⟩
    have := List.getElem?_eq_none_iff.mp e
    rw [r.length]; exact this
theorem rvs_signs {c : Cn} {β : Option Addr} {S : Hp} (x : Str) : RVs c β S (signsD x) (signs x) := by
  unfold signsD signs
  generalize x.cps.toList = l
  induction l with
  | nil => exact .nil
  | cons a l ih => exact .cons (show V.str ⟨#[a]⟩ = V.str ⟨#[a]⟩ from rfl) ih
theorem itok_s {c : Cn} {β : Option Addr} {S : Hp} (x : Str) : ItOk c β S (signsD x) (Its x) := by
  intro H S' s1 s2 hb i
  refine ⟨fun d e => ?_, fun e => ?_⟩
  · unfold signsD at e
    rw [List.getElem?_map] at e
    cases q : x.cps.toList[i]? with
    | none => rw [q] at e; cases e
    | some c' =>
      rw [q] at e; cases e
      have hi : i < x.cps.size := by
        obtain ⟨h, _⟩ := List.getElem?_eq_some_iff.mp q
        simpa using h
      refine ⟨hi, fun y H' hy => ?_⟩
      obtain ⟨rfl, c2, e2, rfl⟩ := hy
      have : x.cps.toList[i]? = some c2 := by simpa using e2
      rw [q] at this; cases this
      exact ⟨S', Px.refl s2, (show V.str ⟨#[c']⟩ = V.str ⟨#[c']⟩ from rfl)⟩
  · have := List.getElem?_eq_none_iff.mp e
    unfold signsD at this
    show x.cps.size ≤ i
    simpa using this
theorem itok_r {c : Cn} {β : Option Addr} {S : Hp} (lo : Int) (n : Nat) : ItOk c β S (rngD lo n) (Itr lo n) := by
  intro H S' s1 s2 hb i
  refine ⟨fun d e => ?_, fun e => ?_⟩
  · unfold rngD at e
    rw [List.getElem?_map] at e
    cases q : (List.range n)[i]? with
    | none => rw [q] at e; cases e
    | some c' =>
      rw [q] at e; cases e
      obtain ⟨h, e3⟩ := List.getElem?_eq_some_iff.mp q
      have h : i < n := by simpa using h
      have e3 : i = c' := by simpa using e3
      subst e3
      refine ⟨h, fun y H' hy => ?_⟩
      obtain ⟨rfl, rfl⟩ := hy
      exact ⟨S', Px.refl s2, (show V.int (lo + i) = V.int (lo + i) from rfl)⟩
  · have := List.getElem?_eq_none_iff.mp e
    unfold rngD at this
    show n ≤ i
    simpa using this

theorem s_itSeq (he : PE X e (tE (cnOf X) m W)) : PI X tg e (tI (cnOf X) (itSeq m) W) := by
  refine ⟨fun pins s σ H R I h => ?_⟩
  have key : tE (cnOf X) (esh m) W σ H (fun v H1 => (∃ a xs, v = .ref a ∧ SqL X.K H1 a xs ∧ R (Itl X.K a) H1) ∨ (∃ a xs, v = .ref a ∧ SqT X.K H1 a xs ∧ R (Itt X.K a) H1) ∨ ∃ x, v = .str x ∧ R (Its x) H1) := by
    obtain ⟨β, H0, S0, S, δ, b, r, h⟩ := h
    refine ⟨β, H0, S0, S, δ, b, r, ?_⟩
    unfold itSeq at h
    cases e1 : esh m δ b with
    | bad => rw [e1] at h; exact h
    | exc x fs b1 => rw [e1] at h; exact h
    | ok d k b1 =>
      rw [e1] at h
      intro v H1 S1 x1 hb1 q1
      have hk : k = .sh := by
        unfold esh at e1
        split at e1
        · cases e1
        · cases e1; rfl
        · rename_i o ho1 ho2
          exact absurd e1 (ho2 _ _ _)
      subst hk
      have q1 : RV (cnOf X) β S1 d v := q1
      dsimp only at h
      cases d with
      | lst ds =>
        obtain ⟨a, vs, rfl, g1, g2⟩ := (show ∃ a vs, v = .ref a ∧ S1 a = some (.lst vs) ∧ RVs (cnOf X) β S1 ds vs from q1)
        exact .inl ⟨a, vs, rfl, x1.sub.rdL g1, h _ H1 S1 x1 hb1 (itok_l g1 g2)⟩
      | tup ds =>
        obtain ⟨a, vs, rfl, g1, g2⟩ := (show ∃ a vs, v = .ref a ∧ SqT X.K S1 a vs ∧ RVs (cnOf X) β S1 ds vs from q1)
        exact .inr (.inl ⟨a, vs, rfl, x1.sub.sqT g1, h _ H1 S1 x1 hb1 (itok_t g1 g2)⟩)
      | str x => exact .inr (.inr ⟨x, q1, h _ H1 S1 x1 hb1 (itok_s x)⟩)
      | _ => exact h.elim
  refine thn ((s_esh he).run pins s σ H _ I key) fun v s1 ⟨y, H1, I1, r1, q⟩ => ?_
  rcases q with ⟨a, xs, rfl, hq, q⟩ | ⟨a, xs, rfl, hq, q⟩ | ⟨x, rfl, q⟩
  · cases r1
    obtain ⟨its, rv, p, hz⟩ := I1.list hq
    exact wpAny_pyIter_list p.isList (pi_one (tk := s1.toks) I1 _ (turn_list a _) ⟨_, Heap.get?_push_size _ rfl, rfl, rfl⟩ q)
  · cases r1
    obtain ⟨its, rv, p, hz⟩ := I1.tuple hq
    exact wpAny_pyIter_tuple (show s1.heap.IsTuple a its.toArray from p) (pi_one (tk := s1.toks) I1 _ (turn_tuple a _) ⟨_, Heap.get?_push_size _ rfl, rfl, rfl⟩ q)
  · obtain ⟨t, rfl⟩ := r1
    cases ha : x.cps.all (· < 128)
    · exact wpAny_pyIter_wide ha (pi_one (tk := s1.toks) I1 _ (turn_str _ x t "str_iterator" (.inr rfl)) ⟨_, Heap.get?_push_size _ rfl, rfl, rfl⟩ q)
    · exact wpAny_pyIter_ascii ha (pi_one (tk := s1.toks) I1 _ (turn_str _ x t "str_ascii_iterator" (.inl rfl)) ⟨_, Heap.get?_push_size _ rfl, rfl, rfl⟩ q)

theorem RDs.one {c : Cn} {β : Option Addr} {H S : Hp} {d : D} {vs : List V} (h : RDs c β H S [d] vs) : ∃ v, vs = [v] ∧ RD c β H S d v := by
  cases h with
  | cons h t => cases t; exact ⟨_, rfl, h⟩
theorem RDs.two {c : Cn} {β : Option Addr} {H S : Hp} {d e : D} {vs : List V} (h : RDs c β H S [d, e] vs) : ∃ v u, vs = [v, u] ∧ RD c β H S d v ∧ RD c β H S e u := by
  cases h with
  | cons h t => cases t with
    | cons h2 t => cases t; exact ⟨_, _, rfl, h, h2⟩

theorem s_itRng1 {a : Expr} {p : Pos} (hg : Gl X "range") (hm : X.mg "range" = none) (hs : starEach [a] X.env = [(false, eval a X.env)]) (ha : PA X [a] (tR (cnOf X) l W)) (hl : ∀ δ b ds b', l δ b = .ok ds b' → ds.length = 1) :
    PI X tg (.Call (.Name "range" p) [a] [] pos) (tI (cnOf X) (itRng l) W) := by
  refine (pi_range1 hg hm ha hs).imp fun σ H R h => ?_
  obtain ⟨β, H0, S0, S, δ, b, r, h⟩ := h
  refine ⟨β, H0, S0, S, δ, b, r, ?_⟩
  unfold itRng at h
  cases e1 : l δ b with
  | bad => rw [e1] at h; exact h
  | exc x fs b1 => rw [e1] at h; exact h
  | ok ds b1 =>
    rw [e1] at h
    intro vs H1 S1 x1 hb1 q1
    have hl := hl _ _ _ _ e1
    match ds, hl with
    | [d], _ =>
      obtain ⟨v, rfl, q⟩ := q1.one
      cases d with
      | int j =>
        have q := RD.rv nl_int q
        by_cases hj : -(2 ^ 62) ≤ j ∧ j < 2 ^ 62
        · dsimp only at h
          rw [if_pos hj] at h
          exact ⟨j, by rw [show v = V.int j from q], hj.1, hj.2, h _ H1 S1 x1 hb1 (itok_r 0 j.toNat)⟩
        · dsimp only at h
          rw [if_neg hj] at h; exact h.elim
      | _ => exact h.elim
theorem s_itRng2 {a a2 : Expr} {p : Pos} (hg : Gl X "range") (hm : X.mg "range" = none) (hs : starEach [a, a2] X.env = [(false, eval a X.env), (false, eval a2 X.env)]) (hs2 : starEach [a2] X.env = [(false, eval a2 X.env)]) (ha : PA X [a, a2] (tR (cnOf X) l W)) (hl : ∀ δ b ds b', l δ b = .ok ds b' → ds.length = 2) :
    PI X tg (.Call (.Name "range" p) [a, a2] [] pos) (tI (cnOf X) (itRng l) W) := by
  refine (pi_range2 hg hm ha hs hs2).imp fun σ H R h => ?_
  obtain ⟨β, H0, S0, S, δ, b, r, h⟩ := h
  refine ⟨β, H0, S0, S, δ, b, r, ?_⟩
  unfold itRng at h
  cases e1 : l δ b with
  | bad => rw [e1] at h; exact h
  | exc x fs b1 => rw [e1] at h; exact h
  | ok ds b1 =>
    rw [e1] at h
    intro vs H1 S1 x1 hb1 q1
    have hl := hl _ _ _ _ e1
    match ds, hl with
    | [d, e], _ =>
      obtain ⟨v, u, rfl, q, q'⟩ := q1.two
      cases d with
      | int i =>
        cases e with
        | int j =>
          have q := RD.rv nl_int q
          have q' := RD.rv nl_int q'
          by_cases hj : -(2 ^ 62) ≤ i ∧ i < 2 ^ 62 ∧ -(2 ^ 62) ≤ j ∧ j < 2 ^ 62
          · dsimp only at h
            rw [if_pos hj] at h
            exact ⟨i, j, by rw [show v = V.int i from q, show u = V.int j from q'], hj, h _ H1 S1 x1 hb1 (itok_r i (j - i).toNat)⟩
          · dsimp only at h
            rw [if_neg hj] at h; exact h.elim
        | _ => exact h.elim
      | _ => exact h.elim

/-- a shared value of items is something that is walked -/
theorem src_of {pins : List (Addr × Obj)} {σ : L2.St} {β : Option Addr} {H S : Hp} {s : Shared} {d : D} {ds : List D} {v : V} {u : Value} (I : Inv X pins σ H s) (e : toItems d = some ds) (q : RV (cnOf X) β S d v) (ru : RelV v u) :
    ∃ o xs hold ist, Src X.prog X.w X.K u o xs hold ist ∧ RVs (cnOf X) β S ds xs ∧ ∀ T, Sub S T → hold T := by
  cases d with
  | lst es =>
    cases e
    obtain ⟨a, vs, rfl, g1, g2⟩ := (show ∃ a vs, v = .ref a ∧ S a = some (.lst vs) ∧ RVs (cnOf X) β S ds vs from q)
    cases ru
    exact ⟨_, vs, _, _, src_list, g2, fun T h => h.rdL g1⟩
  | tup es =>
    cases e
    obtain ⟨a, vs, rfl, g1, g2⟩ := (show ∃ a vs, v = .ref a ∧ SqT X.K S a vs ∧ RVs (cnOf X) β S ds vs from q)
    cases ru
    exact ⟨_, vs, _, _, src_tup, g2, fun T h => h.sqT g1⟩
  | str x =>
    cases e
    have q : v = .str x := q
    subst q
    obtain ⟨t, rfl⟩ := ru
    exact ⟨_, signs x, _, _, src_str, rvs_signs x, fun _ _ => trivial⟩
  | _ => cases e

theorem enumD_get : ∀ {ds : List D} {k i : Nat} {d : D}, (enumD k ds)[i]? = some d → ∃ x, ds[i]? = some x ∧ d = .tup [.int ((k + i : Nat) : Int), x]
  | [], k, i, d, h => by simp [enumD] at h
  | x :: ds, k, 0, d, h => by
    unfold enumD at h
    simp at h
    exact ⟨x, rfl, by rw [← h]; simp⟩
  | x :: ds, k, i + 1, d, h => by
    unfold enumD at h
    have h : (enumD (k + 1) ds)[i]? = some d := by simpa using h
    obtain ⟨y, e1, e2⟩ := enumD_get h
    refine ⟨y, by simpa using e1, ?_⟩
    rw [e2, show k + 1 + i = k + (i + 1) by omega]
theorem enumD_none : ∀ {ds : List D} {k i : Nat}, (enumD k ds)[i]? = none → ds.length ≤ i
  | [], k, i, h => by simp
  | x :: ds, k, 0, h => by unfold enumD at h; simp at h
  | x :: ds, k, i + 1, h => by
    unfold enumD at h
    have h : (enumD (k + 1) ds)[i]? = none := by simpa using h
    have := enumD_none h
    simp; exact this
theorem itok_e {c : Cn} {β : Option Addr} {S : Hp} {ds : List D} {xs : List V} {hold : Hp → Prop} (r : RVs c β S ds xs) (hh : ∀ T, Sub S T → hold T) : ItOk c β S (enumD 0 ds) (ItE xs hold) := by
  intro H S' s1 s2 hb i
  refine ⟨fun d e => ?_, fun e => ?_⟩
  · obtain ⟨x, e1, rfl⟩ := enumD_get e
    obtain ⟨v, e2, q⟩ := r.get e1
    have hlt : i < xs.length := (List.getElem?_eq_some_iff.mp e2).1
    refine ⟨⟨hh H (s1.trans s2), hlt⟩, fun y H' hy => ?_⟩
    obtain ⟨T, x', rfl, nT, rfl, e3⟩ := hy
    rw [e2] at e3; cases e3
    have px : Px β H S' (upd H T (.tup [.int (i : Nat), v])) (upd S' T (.tup [.int (i : Nat), v])) := Px.laidS s2 nT
    refine ⟨_, px, (show ∃ a vs, V.ref T = .ref a ∧ SqT c.K _ a vs ∧ RVs c β _ [.int ((0 + i : Nat) : Int), x] vs from ⟨T, _, rfl, .inl (.inl upd_same), .cons ?_ (.cons (RV.mono (s1.trans px.ext.ss) q) .nil)⟩)⟩
    rw [Nat.zero_add]
    exact (show V.int (i : Nat) = V.int (i : Nat) from rfl)
  · exact ⟨hh H (s1.trans s2), by rw [r.length]; exact enumD_none e⟩
theorem itok_z {c : Cn} {β : Option Addr} {S : Hp} {ds es : List D} {xs ys : List V} {hold : Hp → Prop} (r : RVs c β S ds xs) (r' : RVs c β S es ys) (hh : ∀ T, Sub S T → hold T) : ItOk c β S (zipD ds es) (ItZ2 xs ys hold) := by
  intro H S' s1 s2 hb i
  refine ⟨fun d e => ?_, fun e => ?_⟩
  · unfold zipD at e
    rw [List.getElem?_zipWith] at e
    cases e1 : ds[i]? with
    | none => rw [e1] at e; simp at e
    | some x =>
      cases e2 : es[i]? with
      | none => rw [e1, e2] at e; simp at e
      | some y =>
        rw [e1, e2] at e
        simp at e
        subst e
        obtain ⟨v, g1, q⟩ := r.get e1
        obtain ⟨u, g2, q'⟩ := r'.get e2
        refine ⟨⟨hh H (s1.trans s2), (List.getElem?_eq_some_iff.mp g1).1, (List.getElem?_eq_some_iff.mp g2).1⟩, fun w H' hy => ?_⟩
        obtain ⟨T, x', y', rfl, nT, rfl, e3, e4⟩ := hy
        rw [g1] at e3; cases e3
        rw [g2] at e4; cases e4
        have px : Px β H S' (upd H T (.tup [v, u])) (upd S' T (.tup [v, u])) := Px.laidS s2 nT
        exact ⟨_, px, (show ∃ a vs, V.ref T = .ref a ∧ SqT c.K _ a vs ∧ RVs c β _ [x, y] vs from ⟨T, _, rfl, .inl (.inl upd_same), .cons (RV.mono (s1.trans px.ext.ss) q) (.cons (RV.mono (s1.trans px.ext.ss) q') .nil)⟩)⟩
  · refine ⟨hh H (s1.trans s2), ?_⟩
    have := List.getElem?_eq_none_iff.mp e
    unfold zipD at this
    rw [List.length_zipWith] at this
    rw [r.length, r'.length]
    omega

theorem s_itEnum {p tpos : Pos} {elts : List Expr} {kk : Nat} (hg : Gl X "enumerate") (hm : X.mg "enumerate" = none) (hs : starEach [e] X.env = [(false, eval e X.env)]) (ha : PA X [e] (tL (cnOf X) l W)) (hl : ∀ δ b ds b', l δ b = .ok ds b' → ds.length = 1) :
    PI X (.Tuple elts kk tpos) (.Call (.Name "enumerate" p) [e] [] pos) (tI (cnOf X) (itEnum l) W) := by
  refine ⟨fun pins s σ H R I h => ?_⟩
  have key : tL (cnOf X) l W σ H (fun vs H1 => ∃ v β S1 d ds, vs = [v] ∧ toItems d = some ds ∧ RV (cnOf X) β S1 d v ∧ Sub S1 H1 ∧ ∀ J, ItOk (cnOf X) β S1 (enumD 0 ds) J → R J H1) := by
    obtain ⟨β, H0, S0, S, δ, b, r, h⟩ := h
    refine ⟨β, H0, S0, S, δ, b, r, ?_⟩
    unfold itEnum at h
    cases e1 : l δ b with
    | bad => rw [e1] at h; exact h
    | exc x fs b1 => rw [e1] at h; exact h
    | ok ds b1 =>
      rw [e1] at h
      intro vs H1 S1 x1 hb1 q1
      have hl := hl _ _ _ _ e1
      match ds, hl with
      | [d], _ =>
        obtain ⟨v, r', rfl, q, q'⟩ := q1.uncons
        rw [show r' = [] from q']
        dsimp only at h
        cases e2 : toItems d with
        | none => rw [e2] at h; exact h.elim
        | some ds =>
          rw [e2] at h
          exact ⟨v, β, S1, d, ds, rfl, e2, q, x1.sub, fun J o => h J H1 S1 x1 hb1 o⟩
  refine PyProof.Rows.Call_ (ld_blt I hg hm PyProof.Rows.boot_enumerate (PyProof.Rows.callWith_type1 (thn (ha.run pos pins s σ H _ I key) fun us s1 ⟨vs, H1, I1, r1, q1⟩ => ?_) hs rfl))
  obtain ⟨v, β, S1, d, ds, rfl, e2, q, sub, hR⟩ := q1
  cases r1 with
  | cons ru rr =>
    cases rr
    obtain ⟨o, xs, hold, ist, SR, rv, hh⟩ := src_of I1 e2 q ru
    obtain ⟨HH, B, hHH⟩ := SR.beg X rfl rfl rfl pins σ H1 s1 I1 (hh H1 sub)
    refine call_enum1 B hHH fun h' he hit hk => wpAny_pyIter_enum he ?_
    have I2 : Inv X pins σ H1 { s1 with heap := h' } := I1.kept (t' := s1.toks) hk
    refine ⟨s1.heap.objs.size + 1, [s1.heap.objs.size + 1, s1.heap.objs.size], _, _, H1, rfl, I2, turn_enumS SR (s1.heap.objs.size + 1) s1.heap.objs.size (Nat.succ_ne_self _), ⟨Nat.zero_le _, ⟨.none, he⟩, SR.ini _ _ hit⟩, fun b hb => ?_, hR _ (itok_e rv hh)⟩
    have e' : b = s1.heap.objs.size + 1 ∨ b = s1.heap.objs.size := by simpa using hb
    have hle : s1.heap.objs.size ≤ b := by
      rcases e' with z | z
      · rw [z]; exact Nat.le_add_right _ _
      · rw [z]; exact Nat.le_refl _
    exact I1.fpOk hle (I1.hok.fresh hle)
theorem s_itZip {e2 : Expr} {p tpos : Pos} {elts : List Expr} {kk : Nat} (hg : Gl X "zip") (hm : X.mg "zip" = none) (hs : starEach [e, e2] X.env = (false, eval e X.env) :: starEach [e2] X.env) (hpl : (backTo pos (starEach [e2] X.env)).any (·.1) = false)
    (ha : PA X [e, e2] (tL (cnOf X) l W)) (hl : ∀ δ b ds b', l δ b = .ok ds b' → ds.length = 2) :
    PI X (.Tuple elts kk tpos) (.Call (.Name "zip" p) [e, e2] [] pos) (tI (cnOf X) (itZip l) W) := by
  refine ⟨fun pins s σ H R I h => ?_⟩
  have key : tL (cnOf X) l W σ H (fun vs H1 => ∃ v u β S1 d d2 ds es, vs = [v, u] ∧ toItems d = some ds ∧ toItems d2 = some es ∧ RV (cnOf X) β S1 d v ∧ RV (cnOf X) β S1 d2 u ∧ Sub S1 H1 ∧ ∀ J, ItOk (cnOf X) β S1 (zipD ds es) J → R J H1) := by
    obtain ⟨β, H0, S0, S, δ, b, r, h⟩ := h
    refine ⟨β, H0, S0, S, δ, b, r, ?_⟩
    unfold itZip at h
    cases e1 : l δ b with
    | bad => rw [e1] at h; exact h
    | exc x fs b1 => rw [e1] at h; exact h
    | ok ds b1 =>
      rw [e1] at h
      intro vs H1 S1 x1 hb1 q1
      have hl := hl _ _ _ _ e1
      match ds, hl with
      | [d, d2], _ =>
        obtain ⟨v, r', rfl, q, q'⟩ := q1.uncons
        obtain ⟨u, r', rfl, q2, q'⟩ := q'.uncons
        rw [show r' = [] from q']
        dsimp only at h
        cases g1 : toItems d with
        | none => rw [g1] at h; exact h.elim
        | some ds =>
          cases g2 : toItems d2 with
          | none => rw [g1, g2] at h; exact h.elim
          | some es =>
            rw [g1, g2] at h
            exact ⟨v, u, β, S1, d, d2, ds, es, rfl, g1, g2, q, q2, x1.sub, fun J o => h J H1 S1 x1 hb1 o⟩
  refine PyProof.Rows.Call_ (ld_blt I hg hm PyProof.Rows.boot_zip (PyProof.Rows.callWith_type1 (thn (ha.run pos pins s σ H _ I key) fun us s1 ⟨vs, H1, I1, r1, q1⟩ => ?_) hs hpl))
  obtain ⟨v, u, β, S1, d, d2, ds, es, rfl, g1, g2, q, q2, sub, hR⟩ := q1
  cases r1 with
  | cons ru rr =>
    cases rr with
    | cons ru2 rr =>
      cases rr
      obtain ⟨o1, xs, hold1, ist1, SR1, rv1, hh1⟩ := src_of I1 g1 q ru
      obtain ⟨o2, ys, hold2, ist2, SR2, rv2, hh2⟩ := src_of I1 g2 q2 ru2
      obtain ⟨HH1, B1, hHH1⟩ := SR1.beg X rfl rfl rfl pins σ H1 s1 I1 (hh1 H1 sub)
      obtain ⟨HH2, B2, hHH2⟩ := SR2.beg X rfl rfl rfl pins σ H1 s1 I1 (hh2 H1 sub)
      refine zip_begins2 B1 B2 hHH1 hHH2 fun h' hz hTI hTO e1 e2 hsz hk => wpAny_pyIter_zip hz ?_
      have I2 : Inv X pins σ H1 { s1 with heap := h' } := I1.kept (t' := s1.toks) hk
      refine ⟨s1.heap.objs.size + 4, [s1.heap.objs.size + 4, s1.heap.objs.size + 2, s1.heap.objs.size + 3, s1.heap.objs.size, s1.heap.objs.size + 1], _, _, H1, rfl, I2,
        turn_zipS SR1 SR2 (s1.heap.objs.size + 4) (s1.heap.objs.size + 2) (s1.heap.objs.size + 3) s1.heap.objs.size (s1.heap.objs.size + 1) ?_ ?_ ?_ ?_ ?_ ?_ ?_ ?_ ?_ ?_, ⟨⟨Nat.zero_le _, Nat.zero_le _⟩, hz, hTI, ⟨_, _, hTO⟩, SR1.ini _ _ e1, SR2.ini _ _ e2⟩, fun b hb => ?_, hR _ (itok_z rv1 rv2 fun T h => ⟨hh1 T h, hh2 T h⟩)⟩
      all_goals first
        | (intro z; have z' : (_ : Nat) = _ := z; omega)
        | skip
      have e' : b = s1.heap.objs.size + 4 ∨ b = s1.heap.objs.size + 2 ∨ b = s1.heap.objs.size + 3 ∨ b = s1.heap.objs.size ∨ b = s1.heap.objs.size + 1 := by simpa using hb
      have hle : s1.heap.objs.size ≤ b := by
        rcases e' with z | z | z | z | z
        · rw [z]; exact Nat.le_add_right _ _
        · rw [z]; exact Nat.le_add_right _ _
        · rw [z]; exact Nat.le_add_right _ _
        · rw [z]; exact Nat.le_refl _
        · rw [z]; exact Nat.le_add_right _ _
      exact I1.fpOk hle (I1.hok.fresh hle)
end
end Rk

namespace Rk
open PySem PySem.Spec L2

theorem RV.tup {c : Cn} {β : Option Addr} {S : Hp} {ds : List D} {v : V} (h : RV c β S (.tup ds) v) : ∃ a vs, v = .ref a ∧ SqT c.K S a vs ∧ RVs c β S ds vs := h
theorem RV.lst {c : Cn} {β : Option Addr} {S : Hp} {ds : List D} {v : V} (h : RV c β S (.lst ds) v) : ∃ a vs, v = .ref a ∧ S a = some (.lst vs) ∧ RVs c β S ds vs := h
theorem RV.scr {c : Cn} {β : Option Addr} {S : Hp} {ns : List Int} {v : V} (h : RV c β S (.scr ns) v) : ∃ a, v = .ref a ∧ SqL c.K S a (ns.map V.int) := h
theorem RD.int {c : Cn} {β : Option Addr} {H S : Hp} {i : Int} {v : V} (h : RD c β H S (.int i) v) : v = .int i := h.rv nl_int
theorem RD.bl {c : Cn} {β : Option Addr} {H S : Hp} {i : Bool} {v : V} (h : RD c β H S (.bl i) v) : v = .bl i := h.rv nl_bl
theorem RD.str {c : Cn} {β : Option Addr} {H S : Hp} {i : Str} {v : V} (h : RD c β H S (.str i) v) : v = .str i := h.rv nl_str
theorem RD.non {c : Cn} {β : Option Addr} {H S : Hp} {v : V} (h : RD c β H S .non v) : v = .non := h.rv nl_non
theorem RD.tup {c : Cn} {β : Option Addr} {H S : Hp} {ds : List D} {v : V} (h : RD c β H S (.tup ds) v) : ∃ a vs, v = .ref a ∧ SqT c.K S a vs ∧ RVs c β S ds vs := RV.tup (h.rv nl_tup)
theorem RD.scr {c : Cn} {β : Option Addr} {H S : Hp} {ns : List Int} {v : V} (h : RD c β H S (.scr ns) v) : ∃ a, v = .ref a ∧ SqL c.K S a (ns.map V.int) := RV.scr (h.rv (by intro ds z; cases z))
theorem RD.box {c : Cn} {β : Option Addr} {H S : Hp} {v : V} (h : RD c β H S .box v) : ∃ a, v = .ref a ∧ β = some a := h.rv nl_box

theorem int_q {c : Cn} {β : Option Addr} {H S : Hp} {i : Int} {Q : VK} (s : Sub S H) (q : ∀ w H' S', Px β H S H' S' → RR c β H H' S' (.int i) .sh w → Q w H') : Q (.int i) H := q _ H S (Px.refl s) (show V.int i = V.int i from rfl)
theorem str_q {c : Cn} {β : Option Addr} {H S : Hp} {i : Str} {Q : VK} (s : Sub S H) (q : ∀ w H' S', Px β H S H' S' → RR c β H H' S' (.str i) .sh w → Q w H') : Q (.str i) H := q _ H S (Px.refl s) (show V.str i = V.str i from rfl)
theorem bl_q {c : Cn} {β : Option Addr} {H S : Hp} {i : Bool} {Q : VK} (s : Sub S H) (q : ∀ w H' S', Px β H S H' S' → RR c β H H' S' (.bl i) .sh w → Q w H') : Q (.bl i) H := q _ H S (Px.refl s) (show V.bl i = V.bl i from rfl)
def big : Nat := 1000000
theorem big_line : big ≤ sizeLine := by rw [sizeLine_eq]; decide

/-! ### + - * // % ** -/
def fAdd : D → D → Option (D × Kd)
  | .int i, .int j => some (.int (i + j), .sh)
  | .tup a, .tup b => if a.length + b.length ≤ big then some (.tup (a ++ b), .sh) else none
  | .lst a, .lst b => if a.length + b.length ≤ big then some (.lst (a ++ b), .fr) else none
  | .str a, .str b => if a.length + b.length ≤ big then some (.str (a ++ b), .sh) else none
  | _, _ => none
def rAdd (K : PySem.W.Frag) : R2 := fun x y H Q => (rI0 fun i j => V.int (i + j)) x y H Q ∨ rCatA K x y H Q ∨ rCat x y H Q ∨ ∃ i j, x = .str i ∧ y = .str j ∧ i.length + j.length ≤ sizeLine ∧ Q (.str (i ++ j)) H
theorem op_Add {X : Cx} : OpR X (binaryOp .Add) (rAdd X.K) := OpR.or op_add (OpR.or op_catA (OpR.or op_cat op_add_str))
theorem o_add {c : Cn} : OpOk c (rAdd c.K) fAdd := by
  intro β H S x y u v d k Q s b1 b2 q1 q2 e q
  cases x <;> cases y <;> first | (simp only [fAdd] at e; cases e; done) | skip
  · simp only [fAdd] at e; cases e
    rw [q1.int, q2.int]
    exact .inl ⟨_, _, rfl, rfl, int_q s q⟩
  · simp only [fAdd] at e
    split at e
    · rename_i hz; cases e
      rw [q1.str, q2.str]
      exact .inr (.inr (.inr ⟨_, _, rfl, rfl, Nat.le_trans hz big_line, str_q s q⟩))
    · cases e
  · rename_i as bs
    simp only [fAdd] at e
    split at e
    · rename_i hz; cases e
      obtain ⟨a, vs, rfl, h1, h2⟩ := q1.tup
      obtain ⟨b, us, rfl, g1, g2⟩ := q2.tup
      have h1' := s.sqT h1
      have g1' := s.sqT g1
      refine .inr (.inl ⟨a, b, vs, us, rfl, rfl, h1', g1', Nat.le_trans (by rw [h2.length, g2.length]; exact hz) big_line, fun z => ?_, fun z z' => ?_, fun _ _ => new_tup (c := c) s (h2.append g2) q⟩)
      · subst z
        have : as = [] := by have := h2.length; exact List.eq_nil_of_length_eq_zero this.symm
        subst this
        exact q _ H S (Px.refl s) (show ∃ a' us', V.ref b = .ref a' ∧ SqT c.K S a' us' ∧ RVs c β S ([] ++ bs) us' from ⟨b, us, rfl, g1, g2⟩)
      · subst z'
        have : bs = [] := by have := g2.length; exact List.eq_nil_of_length_eq_zero this.symm
        subst this
        refine q _ H S (Px.refl s) (show ∃ a' us', V.ref a = .ref a' ∧ SqT c.K S a' us' ∧ RVs c β S (as ++ []) us' from ⟨a, vs, rfl, h1, ?_⟩)
        rw [List.append_nil]; exact h2
    · cases e
  · simp only [fAdd] at e
    split at e
    · rename_i hz; cases e
      obtain ⟨a, vs, rfl, h1, h2⟩ := q1.lr s
      obtain ⟨b, us, rfl, g1, g2⟩ := q2.lr s
      exact .inr (.inr (.inl ⟨a, b, vs, us, rfl, rfl, h1, g1, Nat.le_trans (by rw [h2.length, g2.length]; exact hz) big_line, new_lst (c := c) s b2 (h2.append g2) q⟩))
    · cases e

def fSub : D → D → Option (D × Kd)
  | .int i, .int j => some (.int (i - j), .sh)
  | _, _ => none
theorem o_sub {c : Cn} : OpOk c (rI0 fun i j => V.int (i - j)) fSub := by
  intro β H S x y u v d k Q s b1 b2 q1 q2 e q
  cases x <;> cases y <;> first | (simp only [fSub] at e; cases e; done) | skip
  simp only [fSub] at e; cases e
  rw [q1.int, q2.int]
  exact ⟨_, _, rfl, rfl, int_q s q⟩

def inW (i : Int) : Bool := decide (-(2 ^ 64) < i) && decide (i < 2 ^ 64)
def fMul : D → D → Option (D × Kd)
  | .int i, .int j => if inW i || inW j then some (.int (i * j), .sh) else none
  | .lst a, .int k => if -(2 ^ 63) ≤ k ∧ k < 2 ^ 63 ∧ a.length * k.toNat ≤ big then some (.lst (List.replicate k.toNat a).flatten, .fr) else none
  | .tup a, .int k => if a ≠ [] ∧ 2 ≤ k ∧ k ≤ 1000 ∧ a.length ≤ 1000 then some (.tup (List.replicate k.toNat a).flatten, .sh) else none
  | _, _ => none
def rMul (K : PySem.W.Frag) : R2 := fun x y H Q => (rI CMul fun i j => V.int (i * j)) x y H Q ∨ rRep x y H Q ∨ rRepT K x y H Q
theorem op_Mul {X : Cx} : OpR X (binaryOp .Mult) (rMul X.K) := OpR.or op_mul (OpR.or op_rep op_repT)
theorem RVs.rep {c : Cn} {β : Option Addr} {S : Hp} {ds : List D} {vs : List V} (r : RVs c β S ds vs) : ∀ n : Nat, RVs c β S (List.replicate n ds).flatten (List.replicate n vs).flatten
  | 0 => .nil
  | n + 1 => by
    rw [List.replicate_succ, List.replicate_succ, List.flatten_cons, List.flatten_cons]
    exact r.append (RVs.rep r n)
theorem cmul_of {i j : Int} (h : (inW i || inW j) = true) : CMul i j := by
  rw [Bool.or_eq_true] at h
  unfold inW at h
  simp only [Bool.and_eq_true, decide_eq_true_eq] at h
  exact h
theorem o_mul {c : Cn} : OpOk c (rMul c.K) fMul := by
  intro β H S x y u v d k Q s b1 b2 q1 q2 e q
  cases x <;> cases y <;> first | (simp only [fMul] at e; cases e; done) | skip
  · simp only [fMul] at e
    split at e
    · rename_i hz; cases e
      rw [q1.int, q2.int]
      exact .inl ⟨_, _, rfl, rfl, cmul_of hz, int_q s q⟩
    · cases e
  · simp only [fMul] at e
    split at e
    · rename_i hz; cases e
      obtain ⟨a, vs, rfl, h1, h2⟩ := q1.tup
      rw [q2.int]
      exact .inr (.inr ⟨a, _, vs, rfl, rfl, s.sqT h1, fun z => hz.1 (by subst z; exact List.eq_nil_of_length_eq_zero h2.length.symm), hz.2.1, hz.2.2.1, by rw [h2.length]; exact hz.2.2.2, new_tup (c := c) s (h2.rep _) q⟩)
    · cases e
  · simp only [fMul] at e
    split at e
    · rename_i hz; cases e
      obtain ⟨a, vs, rfl, h1, h2⟩ := q1.lr s
      rw [q2.int]
      exact .inr (.inl ⟨a, _, vs, rfl, rfl, h1, hz.1, hz.2.1, Nat.le_trans (by rw [h2.length]; exact hz.2.2) big_line, new_lst (c := c) s b2 (h2.rep _) q⟩)
    · cases e

def fDiv : D → D → Option (D × Kd)
  | .int i, .int j => if j ≠ 0 ∧ j.natAbs < 1073741824 then some (.int (i.fdiv j), .sh) else none
  | _, _ => none
theorem o_div {c : Cn} : OpOk c (rI CDivN fun i j => V.int (i.fdiv j)) fDiv := by
  intro β H S x y u v d k Q s b1 b2 q1 q2 e q
  cases x <;> cases y <;> first | (simp only [fDiv] at e; cases e; done) | skip
  simp only [fDiv] at e
  split at e
  · rename_i hz; cases e
    rw [q1.int, q2.int]
    exact ⟨_, _, rfl, rfl, hz, int_q s q⟩
  · cases e
def fMod : D → D → Option (D × Kd)
  | .int i, .int j => if j ≠ 0 then some (.int (i.fmod j), .sh) else none
  | _, _ => none
theorem o_mod {c : Cn} : OpOk c (rI (fun _ j => j ≠ 0) fun i j => V.int (i.fmod j)) fMod := by
  intro β H S x y u v d k Q s b1 b2 q1 q2 e q
  cases x <;> cases y <;> first | (simp only [fMod] at e; cases e; done) | skip
  simp only [fMod] at e
  split at e
  · rename_i hz; cases e
    rw [q1.int, q2.int]
    exact ⟨_, _, rfl, rfl, hz, int_q s q⟩
  · cases e
def fPow : D → D → Option (D × Kd)
  | .int i, .int j => if 0 ≤ j ∧ j ≤ 1000000 ∧ i.natAbs < 2 ^ 64 then some (.int (i ^ j.toNat), .sh) else none
  | _, _ => none
theorem o_pow {c : Cn} : OpOk c (rI CPow fun i j => V.int (i ^ j.toNat)) fPow := by
  intro β H S x y u v d k Q s b1 b2 q1 q2 e q
  cases x <;> cases y <;> first | (simp only [fPow] at e; cases e; done) | skip
  simp only [fPow] at e
  split at e
  · rename_i hz; cases e
    rw [q1.int, q2.int]
    exact ⟨_, _, rfl, rfl, hz, int_q s q⟩
  · cases e
def fNeg : D → Option (D × Kd)
  | .int i => some (.int (-i), .sh)
  | _ => none
theorem o_neg {c : Cn} : UnOk c (rU fun i => V.int (-i)) fNeg := by
  intro β H S x u d k Q s b1 b2 q1 e q
  cases x <;> first | (simp only [fNeg] at e; cases e; done) | skip
  simp only [fNeg] at e; cases e
  rw [q1.int]
  exact ⟨_, rfl, int_q s q⟩

/-! ### < <= > >= -/
def cI (f : Int → Int → Bool) : D → D → Option Bool
  | .int i, .int j => some (f i j)
  | _, _ => none
theorem o_cI {c : Cn} {f : Int → Int → Bool} : CmpOk c (rI0 fun i j => V.bl (f i j)) (cI f) := by
  intro β H S x y u v t Q s b1 b2 q1 q2 e q
  cases x <;> cases y <;> first | (simp only [cI] at e; cases e; done) | skip
  simp only [cI] at e; cases e
  rw [q1.int, q2.int]
  exact ⟨_, _, rfl, rfl, q⟩
abbrev cLt := cI fun i j => decide (i < j)
abbrev cLe := cI fun i j => decide (i ≤ j)
abbrev cGt := cI fun i j => decide (j < i)
abbrev cGe := cI fun i j => decide (j ≤ i)

/-! ### is None -/
def isNonD : D → Bool
  | .non => true
  | _ => false
theorem RD.isNon {c : Cn} {β : Option Addr} {H S : Hp} {d : D} {v : V} (h : RD c β H S d v) : decide (v = .non) = isNonD d := by
  rcases h with h | ⟨ds, a, vs, rfl, rfl, _⟩
  · cases d with
    | non => rw [show v = .non from h]; rfl
    | bl _ => rw [show v = V.bl _ from h]; rfl
    | int _ => rw [show v = V.int _ from h]; rfl
    | str _ => rw [show v = V.str _ from h]; rfl
    | tup ds => obtain ⟨a, vs, rfl, _⟩ := h.tup; rfl
    | lst ds => obtain ⟨a, vs, rfl, _⟩ := h.lst; rfl
    | box => obtain ⟨a, rfl, _⟩ := (show ∃ a, v = .ref a ∧ β = some a from h); rfl
    | fn x => obtain ⟨a, rfl, _⟩ := (show ∃ f, v = .ref f ∧ c.mg x = some (.ref f) from h); rfl
    | dct _ => exact (show False from h).elim
    | scr ns => obtain ⟨a, rfl, _⟩ := h.scr; rfl
  · rfl
def cIsN : D → D → Option Bool
  | x, .non => some (isNonD x)
  | _, _ => none
def cNotN : D → D → Option Bool
  | x, .non => some (!isNonD x)
  | _, _ => none
theorem o_isN {c : Cn} : CmpOk c (fun x y H Q => y = .non ∧ Q (.bl (decide (x = .non))) H) cIsN := by
  intro β H S x y u v t Q s b1 b2 q1 q2 e q
  cases y <;> first | (simp only [cIsN] at e; cases e; done) | skip
  simp only [cIsN] at e; cases e
  exact ⟨q2.non, by rw [q1.isNon]; exact q⟩
theorem o_notN {c : Cn} : CmpOk c (fun x y H Q => y = .non ∧ Q (.bl (!decide (x = .non))) H) cNotN := by
  intro β H S x y u v t Q s b1 b2 q1 q2 e q
  cases y <;> first | (simp only [cNotN] at e; cases e; done) | skip
  simp only [cNotN] at e; cases e
  exact ⟨q2.non, by rw [q1.isNon]; exact q⟩

/-! ### items -/
/-- the item at a place, of a list, a tuple, a text, the box -/
def fIdx (b : Bx) : D → D → Option D
  | .lst ds, .int i => atI ds i
  | .tup ds, .int i => atI ds i
  | .str z, .int i => if z.length ≤ big then (atI z.cps.toList i).map fun c => D.str ⟨#[c]⟩ else none
  | .scr ns, .int i => (atI ns i).map D.int
  | .box, .int i => (atI [b.x, b.y, b.z] i).map D.int
  | _, _ => none
def eIdx (ma mb : EM) : EM := fun δ b => match ma δ b with
  | .ok x _ b1 => (match mb δ b1 with
    | .ok y _ b2 => (match fIdx b2 x y with
      | some d => .ok d .sh b2
      | none => .bad)
    | .exc x fs b => .exc x fs b
    | .bad => .bad)
  | .exc x fs b => .exc x fs b
  | .bad => .bad
def rIdx (K : PySem.W.Frag) : R2 := fun x y H Q => rIxL K x y H Q ∨ rIxT K x y H Q ∨ rIxS x y H Q
theorem ix_any {X : Cx} : IxR X (rIdx X.K) := IxR.or ix_list (IxR.or ix_tup ix_str)
theorem atI_map {α γ : Type} (f : α → γ) {l : List α} {i : Int} {c : α} (e : L2.atI l i = some c) : L2.atI (l.map f) i = some (f c) := by
  unfold L2.atI at e ⊢
  rw [List.length_map]
  cases q : ixN l.length i with
  | none => rw [q] at e; cases e
  | some j =>
    rw [q] at e
    show (l.map f)[j]? = _
    rw [List.getElem?_map, show l[j]? = some c from e]; rfl
theorem RVs.atI {c : Cn} {β : Option Addr} {S : Hp} {ds : List D} {vs : List V} {i : Int} {d : D} (r : RVs c β S ds vs) (e : L2.atI ds i = some d) : ∃ v, L2.atI vs i = some v ∧ RV c β S d v := by
  unfold L2.atI at e ⊢
  rw [r.length]
  cases q : ixN ds.length i with
  | none => rw [q] at e; cases e
  | some j =>
    rw [q] at e
    obtain ⟨v, h1, h2⟩ := r.get (show ds[j]? = some d from e)
    exact ⟨v, h1, h2⟩
section
variable {X : Cx} {W : WX}
theorem s_idx {ea eb : Expr} {p : Pos} {ma mb : EM} (ha : PE X ea (tE (cnOf X) ma W)) (hb : PE X eb (tE (cnOf X) mb W)) (hp : PlainIx eb) : PE X (.Subscript ea eb p) (tE (cnOf X) (eIdx ma mb) W) := by
  refine (pe_ix ix_any ha hb hp).imp fun σ H Q h => ?_
  obtain ⟨β, H0, S0, S, δ, b, rs, h⟩ := h
  refine ⟨β, H0, S0, S, δ, b, rs, ?_⟩
  unfold eIdx at h
  cases e1 : ma δ b with
  | bad => rw [e1] at h; exact h
  | exc x fs b1 => rw [e1] at h; exact h
  | ok x kx b1 =>
    rw [e1] at h
    intro u H1 S1 x1 hb1 q1
    have rs1 := rs.step x1 hb1
    refine ⟨β, H0, S0, S1, δ, b1, rs1, ?_⟩
    dsimp only at h
    cases e2 : mb δ b1 with
    | bad => rw [e2] at h; exact h
    | exc y fs b2 => rw [e2] at h; exact OutE.exc (Q := Q) x1 h
    | ok y ky b2 =>
      rw [e2] at h
      dsimp only at h
      intro v H2 S2 x2 hb2 q2
      have rs2 := rs1.step x2 hb2
      have q1 := q1.rd.ext x2
      have q2 := q2.rd
      have x12 := x1.trans x2
      cases e3 : fIdx b2 x y with
      | none => rw [e3] at h; exact h.elim
      | some d =>
        rw [e3] at h
        cases x <;> cases y <;> first | (simp only [fIdx] at e3; cases e3; done) | skip
        · simp only [fIdx] at e3
          split at e3
          · rename_i hz
            rw [q1.str, q2.int]
            cases e4 : L2.atI (‹Str›).cps.toList (‹Int›) with
            | none => rw [e4] at e3; cases e3
            | some c =>
              rw [e4] at e3; cases e3
              exact .inr (.inr ⟨_, _, c, rfl, rfl, Nat.le_trans hz big_line, e4, h _ H2 S2 x12 hb2 (show V.str _ = V.str _ from rfl)⟩)
          · cases e3
        · simp only [fIdx] at e3
          obtain ⟨a, vs, rfl, g1, g2⟩ := q1.tup
          rw [q2.int]
          obtain ⟨w, h1, h2⟩ := g2.atI e3
          exact .inr (.inl ⟨a, vs, _, w, rfl, rfl, x2.sub.sqT g1, h1, h w H2 S2 x12 hb2 h2⟩)
        · simp only [fIdx] at e3
          obtain ⟨a, vs, rfl, g1, g2⟩ := q1.lr x2.sub
          rw [q2.int]
          obtain ⟨w, h1, h2⟩ := g2.atI e3
          exact .inl ⟨a, vs, _, w, rfl, rfl, .inl (.inl g1), h1, h w H2 S2 x12 hb2 h2⟩
        · simp only [fIdx] at e3
          obtain ⟨a, rfl, eb⟩ := q1.box
          rw [q2.int]
          cases e4 : L2.atI [b2.x, b2.y, b2.z] (‹Int›) with
          | none => rw [e4] at e3; cases e3
          | some c =>
            rw [e4] at e3; cases e3
            have g := hb2 a eb
            exact .inl ⟨a, [b2.x, b2.y, b2.z].map V.int, _, V.int c, rfl, rfl, .inl (.inl g), atI_map V.int e4, h _ H2 S2 x12 hb2 (show V.int c = V.int c from rfl)⟩
        · simp only [fIdx] at e3
          obtain ⟨a, rfl, g1⟩ := q1.scr
          rw [q2.int]
          cases e4 : L2.atI (‹List Int›) (‹Int›) with
          | none => rw [e4] at e3; cases e3
          | some c =>
            rw [e4] at e3; cases e3
            exact .inl ⟨a, _, _, V.int c, rfl, rfl, x2.sub.sqL g1, atI_map V.int e4, h _ H2 S2 x12 hb2 (show V.int c = V.int c from rfl)⟩
end
end Rk

namespace Rk
open PySem PySem.Spec L2

theorem CallR.or {X : Cx} {f : Value} {r r' : List V → Hp → VK → Prop} (h : CallR X f r) (h' : CallR X f r') : CallR X f (fun xs H Q => r xs H Q ∨ r' xs H Q) := by
  intro pins s σ H xs us Q I rx q
  rcases q with q | q
  · exact h pins s σ H xs us Q I rx q
  · exact h' pins s σ H xs us Q I rx q

section
variable {X : Cx} {W : WX} {e : Expr} {es : List Expr} {l : LM} {p pos : Pos} {x : Str}
/-- a built-in by its name -/
theorem s_bi {id : String} {r : List V → Hp → VK → Prop} {f : List D → Option (D × Kd)} (o : CallOk (cnOf X) r f) (hc : CallR X (.builtin id) r) (hg : Gl X x) (hm : X.mg x = none) (hv : bootBuiltins x = some (.builtin id))
    (ha : PA X (e :: es) (tR (cnOf X) l W)) (hn : x ≠ "__name__" := by decide) (hdb : (x == ("__debug__" : Str)) = false := by decide)
    (he : starEach (e :: es) X.env = (false, eval e X.env) :: starEach es X.env := by rfl) (hpl : (backTo pos (starEach es X.env)).any (·.1) = false := by rfl) :
    PE X (.Call (.Name x p) (e :: es) [] pos) (tE (cnOf X) (eB f l) W) := s_eB o (fun h => pe_callB hc hg hm hv h hn hdb he hpl) ha
theorem s_ty {T : String} {r : List V → Hp → VK → Prop} {f : List D → Option (D × Kd)} (o : CallOk (cnOf X) r f) (hc : CallR X (.type T) r) (hg : Gl X x) (hm : X.mg x = none) (hv : bootBuiltins x = some (.type T))
    (ha : PA X (e :: es) (tR (cnOf X) l W)) (hn : x ≠ "__name__" := by decide) (hdb : (x == ("__debug__" : Str)) = false := by decide)
    (he : starEach (e :: es) X.env = (false, eval e X.env) :: starEach es X.env := by rfl) (hpl : (backTo pos (starEach es X.env)).any (·.1) = false := by rfl) :
    PE X (.Call (.Name x p) (e :: es) [] pos) (tE (cnOf X) (eB f l) W) := s_eB o (fun h => pe_callTy hc hg hm hv h hn hdb he hpl) ha
end

def intsD : List D → Option (List Int)
  | [] => some []
  | .int i :: ds => (intsD ds).map (i :: ·)
  | _ :: _ => none
theorem intsD_eq : ∀ {ds : List D} {ns : List Int}, intsD ds = some ns → ds = ns.map D.int
  | [], ns, e => by simp only [intsD] at e; cases e; rfl
  | d :: ds, ns, e => by
    cases d <;> first | (simp only [intsD] at e; cases e; done) | skip
    simp only [intsD] at e
    cases q : intsD ds with
    | none => rw [q] at e; cases e
    | some ms => rw [q] at e; cases e; rw [intsD_eq q]; rfl
theorem intsD_map (ns : List Int) : intsD (ns.map D.int) = some ns := by
  induction ns with
  | nil => rfl
  | cons n ns ih => simp only [List.map_cons, intsD, ih, Option.map_some]
def blsD : List D → Option (List Bool)
  | [] => some []
  | .bl i :: ds => (blsD ds).map (i :: ·)
  | _ :: _ => none
theorem blsD_eq : ∀ {ds : List D} {ns : List Bool}, blsD ds = some ns → ds = ns.map D.bl
  | [], ns, e => by simp only [blsD] at e; cases e; rfl
  | d :: ds, ns, e => by
    cases d <;> first | (simp only [blsD] at e; cases e; done) | skip
    simp only [blsD] at e
    cases q : blsD ds with
    | none => rw [q] at e; cases e
    | some ms => rw [q] at e; cases e; rw [blsD_eq q]; rfl
theorem blsD_map (ns : List Bool) : blsD (ns.map D.bl) = some ns := by
  induction ns with
  | nil => rfl
  | cons n ns ih => simp only [List.map_cons, blsD, ih, Option.map_some]
theorem RVs.of_bls {c : Cn} {β : Option Addr} {S : Hp} : ∀ {ns : List Bool} {vs : List V}, RVs c β S (ns.map D.bl) vs → vs = ns.map V.bl
  | [], vs, h => h
  | n :: ns, vs, h => by
    obtain ⟨v, r, rfl, h1, h2⟩ := RVs.uncons (ds := ns.map D.bl) h
    rw [show v = V.bl n from h1, RVs.of_bls h2]
    rfl

/-! len -/
def fLen : List D → Option (D × Kd)
  | [.lst ds] => some (.int (ds.length : Nat), .sh)
  | [.tup ds] => some (.int (ds.length : Nat), .sh)
  | [.scr ns] => some (.int (ns.length : Nat), .sh)
  | [.str z] => if z.length ≤ big then some (.int (z.length : Nat), .sh) else none
  | _ => none
theorem o_len {X : Cx} : CallOk (cnOf X) (fun xs H Q => ∃ x n, xs = [x] ∧ LenV X.K x H n ∧ Q (.int n) H) fLen := by
  intro β H S xs us d k Q s b1 b2 q1 e q
  cases q1 with
  | nil => simp only [fLen] at e; cases e
  | cons h1 h2 =>
    cases h2 with
    | cons => unfold fLen at e; split at e <;> first | (rename_i hh; cases hh; done) | (cases e; done) | skip
    | nil =>
      rename_i d' v
      cases d' <;> first | (simp only [fLen] at e; cases e; done) | skip
      · simp only [fLen] at e
        split at e
        · rename_i hz; cases e
          rw [h1.str]
          exact ⟨_, _, rfl, ⟨Nat.le_trans hz big_line, rfl⟩, int_q s q⟩
        · cases e
      · simp only [fLen] at e; cases e
        obtain ⟨a, vs, rfl, g1, g2⟩ := h1.tup
        exact ⟨_, _, rfl, .inr ⟨vs, s.sqT g1, rfl⟩, by rw [g2.length]; exact int_q s q⟩
      · simp only [fLen] at e; cases e
        obtain ⟨a, vs, rfl, g1, g2⟩ := h1.lr s
        exact ⟨_, _, rfl, .inl ⟨vs, .inl (.inl g1), rfl⟩, by rw [g2.length]; exact int_q s q⟩
      · simp only [fLen] at e; cases e
        obtain ⟨a, rfl, g1⟩ := h1.scr
        exact ⟨_, _, rfl, .inl ⟨_, s.sqL g1, rfl⟩, by rw [List.length_map]; exact int_q s q⟩

theorem rds1 {c : Cn} {β : Option Addr} {H S : Hp} {xs : List D} {us : List V} {f : List D → Option (D × Kd)} {d : D × Kd} (h : RDs c β H S xs us) (e : f xs = some d) (hf : ∀ a b r, f (a :: b :: r) = none) (h0 : f [] = none) :
    ∃ x u, xs = [x] ∧ us = [u] ∧ RD c β H S x u := by
  cases h with
  | nil => rw [h0] at e; cases e
  | cons h1 h2 =>
    cases h2 with
    | nil => exact ⟨_, _, rfl, rfl, h1⟩
    | cons => rw [hf] at e; cases e
theorem rds2 {c : Cn} {β : Option Addr} {H S : Hp} {xs : List D} {us : List V} {f : List D → Option (D × Kd)} {d : D × Kd} (h : RDs c β H S xs us) (e : f xs = some d) (hf : ∀ a b c r, f (a :: b :: c :: r) = none) (h0 : f [] = none) (h1 : ∀ a, f [a] = none) :
    ∃ x y u v, xs = [x, y] ∧ us = [u, v] ∧ RD c β H S x u ∧ RD c β H S y v := by
  cases h with
  | nil => rw [h0] at e; cases e
  | cons g1 g2 =>
    cases g2 with
    | nil => rw [h1] at e; cases e
    | cons g2 g3 =>
      cases g3 with
      | nil => exact ⟨_, _, _, _, rfl, rfl, g1, g2⟩
      | cons => rw [hf] at e; cases e

/-! tuple(..), list(..) -/
def f1 (g : D → Option (D × Kd)) : List D → Option (D × Kd)
  | [x] => g x
  | _ => none
def f2 (g : D → D → Option (D × Kd)) : List D → Option (D × Kd)
  | [x, y] => g x y
  | _ => none
def gTuple : D → Option (D × Kd)
  | .lst ds => some (.tup ds, .sh)
  | .tup ds => some (.tup ds, .sh)
  | _ => none
theorem o_tuple {X : Cx} : CallOk (cnOf X) (fun xs H Q => ∃ p ys, xs = [.ref p] ∧ ((SqL X.K H p ys ∧ ∀ l, H l = none → Q (.ref l) (upd H l (.tup ys))) ∨ (SqT X.K H p ys ∧ Q (.ref p) H))) (f1 gTuple) := by
  intro β H S xs us d k Q s b1 b2 q1 e q
  obtain ⟨x, u, rfl, rfl, h1⟩ := rds1 q1 e (fun _ _ _ => rfl) rfl
  simp only [f1] at e
  cases x <;> first | (simp only [gTuple] at e; cases e; done) | skip
  · simp only [gTuple] at e; cases e
    obtain ⟨a, vs, rfl, g1, g2⟩ := h1.tup
    exact ⟨a, vs, rfl, .inr ⟨s.sqT g1, q _ H S (Px.refl s) (show ∃ a' us', V.ref a = .ref a' ∧ SqT X.K S a' us' ∧ RVs (cnOf X) β S _ us' from ⟨a, vs, rfl, g1, g2⟩)⟩⟩
  · simp only [gTuple] at e; cases e
    obtain ⟨a, vs, rfl, g1, g2⟩ := h1.lr s
    exact ⟨a, vs, rfl, .inl ⟨.inl (.inl g1), new_tup s g2 q⟩⟩
def gList : D → Option (D × Kd)
  | .lst ds => some (.lst ds, .fr)
  | .tup ds => some (.lst ds, .fr)
  | .scr ns => some (.lst (ns.map D.int), .fr)
  | _ => none
theorem o_list {X : Cx} : CallOk (cnOf X) (fun xs H Q => ∃ p ys, xs = [.ref p] ∧ (SqL X.K H p ys ∨ SqT X.K H p ys) ∧ ∀ l, H l = none → Q (.ref l) (upd H l (.lst ys))) (f1 gList) := by
  intro β H S xs us d k Q s b1 b2 q1 e q
  obtain ⟨x, u, rfl, rfl, h1⟩ := rds1 q1 e (fun _ _ _ => rfl) rfl
  simp only [f1] at e
  cases x <;> first | (simp only [gList] at e; cases e; done) | skip
  · simp only [gList] at e; cases e
    obtain ⟨a, vs, rfl, g1, g2⟩ := h1.tup
    exact ⟨a, vs, rfl, .inr (s.sqT g1), new_lst s b2 g2 q⟩
  · simp only [gList] at e; cases e
    obtain ⟨a, vs, rfl, g1, g2⟩ := h1.lr s
    exact ⟨a, vs, rfl, .inl (.inl (.inl g1)), new_lst s b2 g2 q⟩
  · simp only [gList] at e; cases e
    obtain ⟨a, rfl, g1⟩ := h1.scr
    exact ⟨a, _, rfl, .inl (s.sqL g1), new_lst s b2 (RVs.ints _) q⟩

/-! int, bool, abs, min, max of two, sum, all, any, str -/
def gInt : D → Option (D × Kd)
  | .int i => some (.int i, .sh)
  | .bl b => some (.int (if b then 1 else 0), .sh)
  | _ => none
theorem o_int {c : Cn} : CallOk c (fun xs H Q => (∃ i, xs = [.int i] ∧ Q (.int i) H) ∨ ∃ k, xs = [.bl k] ∧ Q (.int (if k then 1 else 0)) H) (f1 gInt) := by
  intro β H S xs us d k Q s b1 b2 q1 e q
  obtain ⟨x, u, rfl, rfl, h1⟩ := rds1 q1 e (fun _ _ _ => rfl) rfl
  simp only [f1] at e
  cases x <;> first | (simp only [gInt] at e; cases e; done) | skip
  · simp only [gInt] at e; cases e
    rw [h1.bl]
    exact .inr ⟨_, rfl, int_q s q⟩
  · simp only [gInt] at e; cases e
    rw [h1.int]
    exact .inl ⟨_, rfl, int_q s q⟩
def gAbs : D → Option (D × Kd)
  | .int i => some (.int (if i < 0 then -i else i), .sh)
  | _ => none
theorem o_abs {c : Cn} : CallOk c (fun xs H Q => ∃ i, xs = [.int i] ∧ Q (.int (if i < 0 then -i else i)) H) (f1 gAbs) := by
  intro β H S xs us d k Q s b1 b2 q1 e q
  obtain ⟨x, u, rfl, rfl, h1⟩ := rds1 q1 e (fun _ _ _ => rfl) rfl
  simp only [f1] at e
  cases x <;> first | (simp only [gAbs] at e; cases e; done) | skip
  simp only [gAbs] at e; cases e
  rw [h1.int]
  exact ⟨_, rfl, int_q s q⟩
def gMax2 : D → D → Option (D × Kd)
  | .int i, .int j => some (.int (if j > i then j else i), .sh)
  | _, _ => none
def gMin2 : D → D → Option (D × Kd)
  | .int i, .int j => some (.int (if j < i then j else i), .sh)
  | _, _ => none
theorem o_max2 {c : Cn} : CallOk c (fun xs H Q => ∃ i j, xs = [.int i, .int j] ∧ Q (.int (if j > i then j else i)) H) (f2 gMax2) := by
  intro β H S xs us d k Q s b1 b2 q1 e q
  obtain ⟨x, y, u, v, rfl, rfl, h1, h2⟩ := rds2 q1 e (fun _ _ _ _ => rfl) rfl (fun _ => rfl)
  simp only [f2] at e
  cases x <;> cases y <;> first | (simp only [gMax2] at e; cases e; done) | skip
  simp only [gMax2] at e; cases e
  rw [h1.int, h2.int]
  exact ⟨_, _, rfl, int_q s q⟩
theorem o_min2 {c : Cn} : CallOk c (fun xs H Q => ∃ i j, xs = [.int i, .int j] ∧ Q (.int (if j < i then j else i)) H) (f2 gMin2) := by
  intro β H S xs us d k Q s b1 b2 q1 e q
  obtain ⟨x, y, u, v, rfl, rfl, h1, h2⟩ := rds2 q1 e (fun _ _ _ _ => rfl) rfl (fun _ => rfl)
  simp only [f2] at e
  cases x <;> cases y <;> first | (simp only [gMin2] at e; cases e; done) | skip
  simp only [gMin2] at e; cases e
  rw [h1.int, h2.int]
  exact ⟨_, _, rfl, int_q s q⟩
/-- the ints of a list, of a tuple -/
def rds_ints {c : Cn} {β : Option Addr} {H S : Hp} {ds : List D} {ns : List Int} {u : V} (s : Sub S H) (h : RD c β H S (.lst ds) u) (e : intsD ds = some ns) : ∃ a, u = .ref a ∧ SqL c.K H a (ns.map V.int) := by
  obtain ⟨a, vs, rfl, g1, g2⟩ := h.lr s
  have e1 := intsD_eq e
  subst e1
  rw [g2.of_ints] at g1
  exact ⟨a, rfl, .inl (.inl g1)⟩
def rds_intsT {c : Cn} {β : Option Addr} {H S : Hp} {ds : List D} {ns : List Int} {u : V} (s : Sub S H) (h : RD c β H S (.tup ds) u) (e : intsD ds = some ns) : ∃ a, u = .ref a ∧ SqT c.K H a (ns.map V.int) := by
  obtain ⟨a, vs, rfl, g1, g2⟩ := h.tup
  have e1 := intsD_eq e
  subst e1
  rw [g2.of_ints] at g1
  exact ⟨a, rfl, s.sqT g1⟩

end Rk

namespace Rk
open PySem PySem.Spec L2
section
variable {prog : Program} {w : World} {A : Around} {E : Value → Shared → Prop} {s : Shared} {l : Addr} {its : List Value} {ns : List Int} {Q : Value → Shared → Prop}
theorem sumT_raw (hh : A.handled = none) (hl : s.heap.IsTuple l its.toArray) (hi : PyProof.Rows.IntsAre its ns)
    (h : ∀ h' tk t', (∀ b o, s.heap.get? b = some o → h'.get? b = some o) → Q (.int ns.sum t') { s with heap := h', toks := tk }) : wpAny (model prog w) A (call (.builtin "sum") [.ref l]) Q E s := by
  obtain ⟨xs, e⟩ := hi.allInts.items
  have hn : numsOf (intItems xs).toList = ns := by rw [← e]; exact hi.numsOf
  rw [nums_intItems] at hn
  rw [e] at hl
  refine PySem.W.ktm_sumG hh hl fun h' tk t' hk => ?_
  have := h h' tk t' hk
  rw [preSum_eq, List.take_of_length_le (by simp), hn]; exact this
theorem iter_intT {xs : Array (Int × Tok)} {Q : Value → Shared → Prop} (hl : s.heap.IsTuple l (intItems xs))
    (h : ∀ s₂ : Shared, s₂ = { s with heap := s.heap.push { cls := .type "tuple_iterator", data := .fields #[.ref l, .int 0 0] } } →
      (s₂.heap.IsTupleIter s.heap.objs.size l 0 ∧ s₂.heap.IsTuple l (intItems xs)) → (∀ b ∈ [s.heap.objs.size, l], b < s₂.heap.objs.size) → l ≠ s.heap.objs.size → Q (.ref s.heap.objs.size) s₂) :
    wpAny (model prog w) A (pyIter (.ref l)) Q E s := by
  have hlt : l < s.heap.objs.size := by obtain ⟨_, e, _⟩ := hl; exact Heap.lt_size e
  refine wpAny_pyIter_tuple hl (h _ rfl ⟨⟨_, Heap.get?_push_size _ rfl, rfl, rfl⟩, hl.at fun o e => Heap.get?_push_of_some _ e⟩ (fun b hb => ?_) (Nat.ne_of_lt hlt))
  show b < (s.heap.push _).objs.size
  rw [Heap.size_push]
  rcases List.mem_cons.mp hb with rfl | hb
  · exact Nat.lt_succ_self _
  · rcases List.mem_cons.mp hb with rfl | hb
    · exact Nat.lt_succ_of_lt hlt
    · cases hb
theorem old_keptT {h' : Heap} (hk : ∀ b o, b ∉ [s.heap.objs.size] → (s.heap.push { cls := .type "tuple_iterator", data := .fields #[.ref l, .int 0 0] }).get? b = some o → h'.get? b = some o) :
    ∀ b o, s.heap.get? b = some o → h'.get? b = some o := fun b o e => by
  refine hk b o (fun hm => ?_) (Heap.get?_push_of_some _ e)
  rcases List.mem_cons.mp hm with e1 | hm
  · exact absurd (e1 ▸ Heap.lt_size e) (Nat.lt_irrefl _)
  · cases hm
theorem maxT_raw (hh : A.handled = none) (hl : s.heap.IsTuple l its.toArray) (hi : PyProof.Rows.IntsAre its ns) (hne : 0 < ns.length)
    (h : ∀ h' tk M t', (∀ b o, s.heap.get? b = some o → h'.get? b = some o) → M ∈ ns → (∀ a, a ∈ ns → a ≤ M) → Q (.int M t') { s with heap := h', toks := tk }) : wpAny (model prog w) A (call (.builtin "max") [.ref l]) Q E s := by
  obtain ⟨xs, e⟩ := hi.allInts.items
  have hn : numsOf (intItems xs).toList = ns := by rw [← e]; exact hi.numsOf
  rw [nums_intItems] at hn
  subst hn
  rw [e] at hl
  have hsz : 0 < xs.size := by simpa using hne
  refine call_max_walk (iter_intT hl fun s₂ e st hfp hlI => ?_)
  subst e
  refine ⟨_, _, _, _, _, _, _, rfl, Walks.tuple (A := A.in1) hh _ l hlI (intItems xs), st, hfp, by simpa [intItems] using hsz, CmpOf.ints_gt (numAt xs) (fun _ _ => intItems_at), fun v h' tk hP hk => ?_⟩
  obtain ⟨t, rfl⟩ := intItems_at hP
  have hz : (intItems xs).size = xs.size := by simp [intItems]
  rw [hz]
  obtain ⟨h1, h2⟩ := argBest_gt (numAt xs) (xs.size - 1)
  refine h h' tk _ t (old_keptT hk) ?_ fun a ha => ?_
  · rw [numAt_eq]; exact PySem.getD_mem (by rw [List.length_map, Array.length_toList]; omega)
  · obtain ⟨j, hj, rfl⟩ := mem_getD ha
    rw [List.length_map, Array.length_toList] at hj
    rw [← numAt_eq]; exact h2 j (by omega)
theorem minT_raw (hh : A.handled = none) (hl : s.heap.IsTuple l its.toArray) (hi : PyProof.Rows.IntsAre its ns) (hne : 0 < ns.length)
    (h : ∀ h' tk M t', (∀ b o, s.heap.get? b = some o → h'.get? b = some o) → M ∈ ns → (∀ a, a ∈ ns → M ≤ a) → Q (.int M t') { s with heap := h', toks := tk }) : wpAny (model prog w) A (call (.builtin "min") [.ref l]) Q E s := by
  obtain ⟨xs, e⟩ := hi.allInts.items
  have hn : numsOf (intItems xs).toList = ns := by rw [← e]; exact hi.numsOf
  rw [nums_intItems] at hn
  subst hn
  rw [e] at hl
  have hsz : 0 < xs.size := by simpa using hne
  refine call_min_walk (iter_intT hl fun s₂ e st hfp hlI => ?_)
  subst e
  refine ⟨_, _, _, _, _, _, _, rfl, Walks.tuple (A := A.in1) hh _ l hlI (intItems xs), st, hfp, by simpa [intItems] using hsz, CmpOf.ints_lt (numAt xs) (fun _ _ => intItems_at), fun v h' tk hP hk => ?_⟩
  obtain ⟨t, rfl⟩ := intItems_at hP
  have hz : (intItems xs).size = xs.size := by simp [intItems]
  rw [hz]
  obtain ⟨h1, h2⟩ := argBest_lt (numAt xs) (xs.size - 1)
  refine h h' tk _ t (old_keptT hk) ?_ fun a ha => ?_
  · rw [numAt_eq]; exact PySem.getD_mem (by rw [List.length_map, Array.length_toList]; omega)
  · obtain ⟨j, hj, rfl⟩ := mem_getD ha
    rw [List.length_map, Array.length_toList] at hj
    rw [← numAt_eq]; exact h2 j (by omega)
end

def rSumT (K : PySem.W.Frag) : List V → Hp → VK → Prop := fun vs H Q => ∃ (a : Addr) (ns : List Int), vs = [V.ref a] ∧ SqT K H a (ns.map V.int) ∧ Q (.int ns.sum) H
def rMaxT (K : PySem.W.Frag) : List V → Hp → VK → Prop := fun vs H Q => ∃ (a : Addr) (ns : List Int), vs = [V.ref a] ∧ SqT K H a (ns.map V.int) ∧ 0 < ns.length ∧ ∀ m, m ∈ ns → (∀ y, y ∈ ns → y ≤ m) → Q (.int m) H
def rMinT (K : PySem.W.Frag) : List V → Hp → VK → Prop := fun vs H Q => ∃ (a : Addr) (ns : List Int), vs = [V.ref a] ∧ SqT K H a (ns.map V.int) ∧ 0 < ns.length ∧ ∀ m, m ∈ ns → (∀ y, y ∈ ns → m ≤ y) → Q (.int m) H
section
variable {X : Cx}
theorem isT {pins : List (Addr × Obj)} {σ : L2.St} {H : Hp} {s : Shared} {a : Addr} {xs : List V} (I : Inv X pins σ H s) (h : SqT X.K H a xs) : ∃ its, Vals xs its ∧ s.heap.IsTuple a its.toArray := by
  obtain ⟨its, r, ⟨⟨cls, dd, data, sl⟩, ho, hc, n, hd⟩, hs⟩ := I.tuple h
  exact ⟨its, r, ⟨_, ho, hc, n, hd⟩⟩
theorem cr_sumT (hc : X.calm = true) : CallR X (.builtin "sum") (rSumT X.K) := by
  intro pins s σ H vs us Q I r h
  obtain ⟨a, ns, rfl, hs, q⟩ := h
  obtain ⟨its, rv, hl⟩ := isT I hs
  rw [Vals.ref1 r]
  exact sumT_raw (I.ok.hd hc) hl rv.ints fun h' tk t' hk => ⟨.int _, H, I.kept hk, ⟨_, rfl⟩, q⟩
theorem cr_maxT (hc : X.calm = true) : CallR X (.builtin "max") (rMaxT X.K) := by
  intro pins s σ H vs us Q I r h
  obtain ⟨a, ns, rfl, hs, hne, q⟩ := h
  obtain ⟨its, rv, hl⟩ := isT I hs
  rw [Vals.ref1 r]
  exact maxT_raw (I.ok.hd hc) hl rv.ints hne fun h' tk m t' hk h1 h2 => ⟨.int _, H, I.kept hk, ⟨_, rfl⟩, q m h1 h2⟩
theorem cr_minT (hc : X.calm = true) : CallR X (.builtin "min") (rMinT X.K) := by
  intro pins s σ H vs us Q I r h
  obtain ⟨a, ns, rfl, hs, hne, q⟩ := h
  obtain ⟨its, rv, hl⟩ := isT I hs
  rw [Vals.ref1 r]
  exact minT_raw (I.ok.hd hc) hl rv.ints hne fun h' tk m t' hk h1 h2 => ⟨.int _, H, I.kept hk, ⟨_, rfl⟩, q m h1 h2⟩
end

/-- the greatest, the least of numbers -/
def maxI : List Int → Int
  | [] => 0
  | [a] => a
  | a :: b :: r => max a (maxI (b :: r))
def minI : List Int → Int
  | [] => 0
  | [a] => a
  | a :: b :: r => min a (minI (b :: r))
theorem maxI_mem : ∀ {l : List Int}, 0 < l.length → maxI l ∈ l ∧ ∀ y ∈ l, y ≤ maxI l
  | [], h => absurd h (by simp)
  | [a], _ => ⟨by simp [maxI], fun y hy => by rw [List.mem_singleton.mp hy]; exact Int.le_refl _⟩
  | a :: b :: r, _ => by
    obtain ⟨h1, h2⟩ := maxI_mem (l := b :: r) (by simp)
    refine ⟨?_, fun y hy => ?_⟩
    · unfold maxI
      rcases Int.le_total a (maxI (b :: r)) with q | q
      · rw [Int.max_eq_right q]; exact List.mem_cons_of_mem _ h1
      · rw [Int.max_eq_left q]; exact List.mem_cons_self
    · unfold maxI
      rcases List.mem_cons.mp hy with rfl | hy
      · exact Int.le_max_left _ _
      · exact Int.le_trans (h2 y hy) (Int.le_max_right _ _)
theorem minI_mem : ∀ {l : List Int}, 0 < l.length → minI l ∈ l ∧ ∀ y ∈ l, minI l ≤ y
  | [], h => absurd h (by simp)
  | [a], _ => ⟨by simp [minI], fun y hy => by rw [List.mem_singleton.mp hy]; exact Int.le_refl _⟩
  | a :: b :: r, _ => by
    obtain ⟨h1, h2⟩ := minI_mem (l := b :: r) (by simp)
    refine ⟨?_, fun y hy => ?_⟩
    · unfold minI
      rcases Int.le_total a (minI (b :: r)) with q | q
      · rw [Int.min_eq_left q]; exact List.mem_cons_self
      · rw [Int.min_eq_right q]; exact List.mem_cons_of_mem _ h1
    · unfold minI
      rcases List.mem_cons.mp hy with rfl | hy
      · exact Int.min_le_left _ _
      · exact Int.le_trans (Int.min_le_right _ _) (h2 y hy)

def gSum : D → Option (D × Kd)
  | .lst ds => (intsD ds).map fun ns => (.int ns.sum, .sh)
  | .tup ds => (intsD ds).map fun ns => (.int ns.sum, .sh)
  | _ => none
def intsNe (f : List Int → Int) (ds : List D) : Option (D × Kd) := match intsD ds with
  | some [] => none
  | some (a :: ns) => some (.int (f (a :: ns)), .sh)
  | none => none
def gMax : D → Option (D × Kd)
  | .lst ds => intsNe maxI ds
  | .tup ds => intsNe maxI ds
  | _ => none
def gMin : D → Option (D × Kd)
  | .lst ds => intsNe minI ds
  | .tup ds => intsNe minI ds
  | _ => none
theorem intsNe_eq {f : List Int → Int} {ds : List D} {r : D × Kd} (e : intsNe f ds = some r) : ∃ ns, intsD ds = some ns ∧ 0 < ns.length ∧ r = (.int (f ns), .sh) := by
  unfold intsNe at e
  split at e
  · cases e
  · rename_i a ns q; cases e; exact ⟨_, q, by simp, rfl⟩
  · cases e
theorem o_sum {X : Cx} : CallOk (cnOf X) (fun xs H Q => rSum X.K xs H Q ∨ rSumT X.K xs H Q) (f1 gSum) := by
  intro β H S xs us d k Q s b1 b2 q1 e q
  obtain ⟨x, u, rfl, rfl, h1⟩ := rds1 q1 e (fun _ _ _ => rfl) rfl
  simp only [f1] at e
  cases x <;> first | (simp only [gSum] at e; cases e; done) | skip
  · simp only [gSum] at e
    cases q5 : intsD (‹List D›) with
    | none => rw [q5] at e; cases e
    | some ns =>
      rw [q5] at e; cases e
      obtain ⟨a, rfl, g⟩ := rds_intsT s h1 q5
      exact .inr ⟨a, ns, rfl, g, int_q s q⟩
  · simp only [gSum] at e
    cases q5 : intsD (‹List D›) with
    | none => rw [q5] at e; cases e
    | some ns =>
      rw [q5] at e; cases e
      obtain ⟨a, rfl, g⟩ := rds_ints s h1 q5
      exact .inl ⟨a, ns, rfl, g, int_q s q⟩
theorem o_max {X : Cx} : CallOk (cnOf X) (fun xs H Q => rMax X.K xs H Q ∨ rMaxT X.K xs H Q) (f1 gMax) := by
  intro β H S xs us d k Q s b1 b2 q1 e q
  obtain ⟨x, u, rfl, rfl, h1⟩ := rds1 q1 e (fun _ _ _ => rfl) rfl
  simp only [f1] at e
  cases x <;> first | (simp only [gMax] at e; cases e; done) | skip
  · simp only [gMax] at e
    obtain ⟨ns, q5, hne, e⟩ := intsNe_eq e; cases e
    obtain ⟨a, rfl, g⟩ := rds_intsT s h1 q5
    refine .inr ⟨a, ns, rfl, g, hne, fun m h1 h2 => ?_⟩
    obtain ⟨g1, g2⟩ := maxI_mem hne
    rw [Int.le_antisymm (g2 _ h1) (h2 _ g1)]
    exact int_q s q
  · simp only [gMax] at e
    obtain ⟨ns, q5, hne, e⟩ := intsNe_eq e; cases e
    obtain ⟨a, rfl, g⟩ := rds_ints s h1 q5
    refine .inl ⟨a, ns, rfl, g, hne, fun m h1 h2 => ?_⟩
    obtain ⟨g1, g2⟩ := maxI_mem hne
    rw [Int.le_antisymm (g2 _ h1) (h2 _ g1)]
    exact int_q s q
theorem o_min {X : Cx} : CallOk (cnOf X) (fun xs H Q => rMin X.K xs H Q ∨ rMinT X.K xs H Q) (f1 gMin) := by
  intro β H S xs us d k Q s b1 b2 q1 e q
  obtain ⟨x, u, rfl, rfl, h1⟩ := rds1 q1 e (fun _ _ _ => rfl) rfl
  simp only [f1] at e
  cases x <;> first | (simp only [gMin] at e; cases e; done) | skip
  · simp only [gMin] at e
    obtain ⟨ns, q5, hne, e⟩ := intsNe_eq e; cases e
    obtain ⟨a, rfl, g⟩ := rds_intsT s h1 q5
    refine .inr ⟨a, ns, rfl, g, hne, fun m h1 h2 => ?_⟩
    obtain ⟨g1, g2⟩ := minI_mem hne
    rw [Int.le_antisymm (h2 _ g1) (g2 _ h1)]
    exact int_q s q
  · simp only [gMin] at e
    obtain ⟨ns, q5, hne, e⟩ := intsNe_eq e; cases e
    obtain ⟨a, rfl, g⟩ := rds_ints s h1 q5
    refine .inl ⟨a, ns, rfl, g, hne, fun m h1 h2 => ?_⟩
    obtain ⟨g1, g2⟩ := minI_mem hne
    rw [Int.le_antisymm (h2 _ g1) (g2 _ h1)]
    exact int_q s q
def gAll : D → Option (D × Kd)
  | .lst ds => (blsD ds).map fun ns => (.bl (ns.all id), .sh)
  | _ => none
def gAny : D → Option (D × Kd)
  | .lst ds => (blsD ds).map fun ns => (.bl (ns.any id), .sh)
  | _ => none
theorem rds_bls {c : Cn} {β : Option Addr} {H S : Hp} {ds : List D} {ns : List Bool} {u : V} (s : Sub S H) (h : RD c β H S (.lst ds) u) (e : blsD ds = some ns) : ∃ a, u = .ref a ∧ SqL c.K H a (ns.map V.bl) := by
  obtain ⟨a, vs, rfl, g1, g2⟩ := h.lr s
  have e1 := blsD_eq e
  subst e1
  rw [g2.of_bls] at g1
  exact ⟨a, rfl, .inl (.inl g1)⟩
theorem o_all {X : Cx} : CallOk (cnOf X) (rAll X.K) (f1 gAll) := by
  intro β H S xs us d k Q s b1 b2 q1 e q
  obtain ⟨x, u, rfl, rfl, h1⟩ := rds1 q1 e (fun _ _ _ => rfl) rfl
  simp only [f1] at e
  cases x <;> first | (simp only [gAll] at e; cases e; done) | skip
  simp only [gAll] at e
  cases q5 : blsD (‹List D›) with
  | none => rw [q5] at e; cases e
  | some ns =>
    rw [q5] at e; cases e
    obtain ⟨a, rfl, g⟩ := rds_bls s h1 q5
    exact ⟨a, ns, rfl, g, bl_q s q⟩
theorem o_any {X : Cx} : CallOk (cnOf X) (rAny X.K) (f1 gAny) := by
  intro β H S xs us d k Q s b1 b2 q1 e q
  obtain ⟨x, u, rfl, rfl, h1⟩ := rds1 q1 e (fun _ _ _ => rfl) rfl
  simp only [f1] at e
  cases x <;> first | (simp only [gAny] at e; cases e; done) | skip
  simp only [gAny] at e
  cases q5 : blsD (‹List D›) with
  | none => rw [q5] at e; cases e
  | some ns =>
    rw [q5] at e; cases e
    obtain ⟨a, rfl, g⟩ := rds_bls s h1 q5
    exact ⟨a, ns, rfl, g, bl_q s q⟩
end Rk

namespace Rk
open PySem PySem.Spec L2

/-! ### isinstance with built-in classes -/
def tyN : D → Option String
  | .non => some "NoneType"
  | .bl _ => some "bool"
  | .int _ => some "int"
  | .str _ => some "str"
  | .tup _ => some "tuple"
  | .lst _ => some "list"
  | .scr _ => some "list"
  | _ => none
def isTN (a b : String) : Bool := a == b || (a == "bool" && b == "int")
def KitT (T : String) : Prop := ∀ a ∈ ["NoneType", "bool", "int", "str", "tuple", "list"], kitB a T = some (isTN a T)
instance (T : String) : Decidable (KitT T) := by unfold KitT; infer_instance
theorem kt_int : KitT "int" := by decide +kernel
theorem kt_bool : KitT "bool" := by decide +kernel
theorem kt_str : KitT "str" := by decide +kernel
theorem kt_list : KitT "list" := by decide +kernel
theorem kt_tuple : KitT "tuple" := by decide +kernel
theorem tyN_mem {d : D} {t : String} (e : tyN d = some t) : t ∈ ["NoneType", "bool", "int", "str", "tuple", "list"] := by
  cases d <;> simp only [tyN] at e <;> cases e <;> decide
theorem sqT_ty {K : PySem.W.Frag} {H : Hp} {a : Addr} {xs : List V} (h : SqT K H a xs) : TyX K H (.ref a) (.type "tuple") := by
  rcases h with (h | ⟨o, h⟩) | ⟨o, its, n, h1, h2, _⟩
  · exact .base (.tup h)
  · exact .fTuple h
  · exact .kTuple h1 h2
theorem sqL_ty {K : PySem.W.Frag} {H : Hp} {a : Addr} {xs : List V} (h : SqL K H a xs) : TyX K H (.ref a) (.type "list") := by
  rcases h with (h | ⟨o, h⟩) | ⟨o, its, n, h1, h2, _⟩
  · exact .base (.lst h)
  · exact .base (.frz h)
  · exact .kList h1 h2
theorem rd_ty {c : Cn} {β : Option Addr} {H S : Hp} {d : D} {v : V} {t : String} (s : Sub S H) (h : RD c β H S d v) (e : tyN d = some t) : TyX c.K H v (.type t) := by
  cases d <;> simp only [tyN] at e <;> cases e
  · rw [h.non]; exact .base .non
  · rw [h.bl]; exact .base (.bl _)
  · rw [h.int]; exact .base (.int _)
  · rw [h.str]; exact .base (.str _)
  · obtain ⟨a, vs, rfl, g1, _⟩ := h.tup; exact sqT_ty (s.sqT g1)
  · obtain ⟨a, vs, rfl, g1, _⟩ := h.lr s; exact .base (.lst g1)
  · obtain ⟨a, rfl, g1⟩ := h.scr; exact sqL_ty (s.sqL g1)
def eIsi (Ts : List String) (m : EM) : EM := fun δ b => match m δ b with
  | .ok d _ b1 => (match tyN d with
    | some t => .ok (.bl (Ts.any (isTN t))) .sh b1
    | none => .bad)
  | .exc x fs b => .exc x fs b
  | .bad => .bad
theorem kitAny_all {K : PySem.W.Frag} {t : String} : ∀ {Ts : List String}, (∀ T ∈ Ts, kitB t T = some (isTN t T)) → PySem.W.kitAny K (.type t) (Ts.map Value.type) = some (Ts.any (isTN t))
  | [], _ => rfl
  | T :: Ts, h => by
    rw [List.map_cons, List.any_cons]
    refine kitAny_cons (kit_ty (h T List.mem_cons_self)) (fun e => ?_) (fun e => by rw [e]; rfl)
    rw [e, Bool.false_or]
    exact kitAny_all fun U hU => h U (List.mem_cons_of_mem _ hU)
theorem paired_ty : ∀ (Ts : List String), PySem.Paired ClsV (Ts.map V.ty) (Ts.map Value.type)
  | [] => .nil
  | T :: Ts => .cons (.ty T) (paired_ty Ts)
section
variable {X : Cx} {W : WX} {e : Expr} {m : EM} {p pos : Pos}
/-- a reading of a value, then something that is known -/
theorem s_isi1 {x : Str} {T : String} {pT : Pos} (ha : PE X e (tE (cnOf X) m W)) (kt : KitT T) (hg : Gl X "isinstance") (hm : X.mg "isinstance" = none) (hgT : Gl X x) (hmT : X.mg x = none) (hv : bootBuiltins x = some (.type T))
    (hn : x ≠ "__name__" := by decide) (hd : (x == ("__debug__" : Str)) = false := by decide)
    (h1 : starEach [e, .Name x pT] X.env = (false, eval e X.env) :: starEach [.Name x pT] X.env := by rfl) (hpl : (backTo pos (starEach [.Name x pT] X.env)).any (·.1) = false := by rfl) :
    PE X (.Call (.Name "isinstance" p) [e, .Name x pT] [] pos) (tE (cnOf X) (eIsi [T] m) W) := by
  refine (pe_callB call_isi hg hm PyProof.Rows.boot_isinstance (pa_cons ha (pa_cons (pe_bltn hgT hmT hv (v := .ty T) rfl hn hd) pa_nil rfl) h1) (by decide) (by decide) h1 hpl).imp fun σ H Q h => ?_
  obtain ⟨β, H0, S0, S, δ, b, rs, h⟩ := h
  refine ⟨β, H0, S0, S, δ, b, rs, ?_⟩
  unfold eIsi at h
  cases e1 : m δ b with
  | bad => rw [e1] at h; exact h
  | exc x fs b1 => rw [e1] at h; exact h
  | ok d kd b1 =>
    rw [e1] at h
    intro v H1 S1 x1 hb1 q1
    dsimp only at h
    cases e2 : tyN d with
    | none => rw [e2] at h; exact h.elim
    | some t =>
      rw [e2] at h
      refine ⟨v, .ty T, .type t, .type T, _, rfl, .ty T, rd_ty x1.sub q1.rd e2, kit_ty (kt t (tyN_mem e2)), ?_⟩
      refine h _ H1 S1 x1 hb1 (show V.bl (isTN t T) = V.bl ([T].any (isTN t)) from ?_)
      simp
/-- the names of some built-in types -/
inductive TyNames (X : Cx) : List Expr → List String → Prop
  | nil : TyNames X [] []
  | cons {x : Str} {T : String} {q : Pos} {es : List Expr} {Ts : List String} (kt : KitT T) (hgT : Gl X x) (hmT : X.mg x = none) (hv : bootBuiltins x = some (.type T)) (hn : x ≠ "__name__") (hd : (x == ("__debug__" : Str)) = false) (t : TyNames X es Ts) : TyNames X (.Name x q :: es) (T :: Ts)
def tTys (Ts : List String) : TA := fun σ H Q => Q (Ts.map V.ty) H
theorem TyNames.pa {es : List Expr} {Ts : List String} (h : TyNames X es Ts) : PA X es (tTys Ts) := by
  induction h with
  | nil => exact pa_nil
  | @cons x T q es Ts kt hgT hmT hv hn hd t ih => exact pa_cons (pe_bltn hgT hmT hv (v := .ty T) rfl hn hd) ih rfl
theorem TyNames.kt {es : List Expr} {Ts : List String} (h : TyNames X es Ts) : ∀ T ∈ Ts, KitT T := by
  induction h with
  | nil => intro T h; cases h
  | cons kt _ _ _ _ _ _ ih =>
    intro T h
    rcases List.mem_cons.mp h with rfl | h
    · exact kt
    · exact ih T h
theorem s_isiT {es : List Expr} {Ts : List String} {k : Nat} {pT : Pos} (ha : PE X e (tE (cnOf X) m W)) (tn : TyNames X es Ts) (hz : Ts.length ≤ 1000) (hg : Gl X "isinstance") (hm : X.mg "isinstance" = none)
    (h1 : starEach [e, .Tuple es k pT] X.env = (false, eval e X.env) :: starEach [.Tuple es k pT] X.env := by rfl) (hpl : (backTo pos (starEach [.Tuple es k pT] X.env)).any (·.1) = false := by rfl) :
    PE X (.Call (.Name "isinstance" p) [e, .Tuple es k pT] [] pos) (tE (cnOf X) (eIsi Ts m) W) := by
  refine (pe_callB call_isiT hg hm PyProof.Rows.boot_isinstance (pa_cons ha (pa_cons (pe_tup tn.pa) pa_nil rfl) h1) (by decide) (by decide) h1 hpl).imp fun σ H Q h => ?_
  obtain ⟨β, H0, S0, S, δ, b, rs, h⟩ := h
  refine ⟨β, H0, S0, S, δ, b, rs, ?_⟩
  unfold eIsi at h
  cases e1 : m δ b with
  | bad => rw [e1] at h; exact h
  | exc x fs b1 => rw [e1] at h; exact h
  | ok d kd b1 =>
    rw [e1] at h
    intro v H1 S1 x1 hb1 q1
    dsimp only at h
    cases e2 : tyN d with
    | none => rw [e2] at h; exact h.elim
    | some t =>
      rw [e2] at h
      refine ⟨Nat.le_of_lt (small1000 (by rw [List.length_map]; exact hz)), fun a hp => ?_⟩
      have x2 : Px β H1 S1 (upd H1 a (.tup (Ts.map V.ty))) S1 := Px.laid x1.sub hp
      have x12 := x1.trans x2.ext
      exact ⟨v, a, Ts.map V.ty, .type t, Ts.map Value.type, _, rfl, upd_same, paired_ty Ts, rd_ty x12.sub (q1.rd.ext x2.ext) e2, kitAny_all fun T hT => tn.kt T hT t (tyN_mem e2),
        h _ _ S1 x12 (x2.bx hb1) (show V.bl _ = V.bl _ from rfl)⟩
end

/-! ### == and != of data -/
mutual
def pyd : D → Option PyData
  | .non => some .none
  | .bl b => some (.bool b)
  | .int i => some (.int i)
  | .str s => some (.str s)
  | .tup ds => (pyds ds).map PyData.tuple
  | .lst ds => (pyds ds).map PyData.list
  | .scr ns => some (.list (ns.map PyData.int))
  | _ => none
def pyds : List D → Option (List PyData)
  | [] => some []
  | d :: ds => match pyd d, pyds ds with
    | some x, some xs => some (x :: xs)
    | _, _ => none
end
theorem dpAll_ints {K : PySem.W.Frag} {H : Hp} : ∀ (ns : List Int), DpAll K H (ns.map V.int) (ns.map PyData.int)
  | [] => .nil
  | n :: ns => .cons (.int n) (dpAll_ints ns)
mutual
theorem rv_dp {c : Cn} {β : Option Addr} {H S : Hp} (s : Sub S H) : ∀ {d : D} {v : V} {x : PyData}, RV c β S d v → pyd d = some x → Dp c.K H v x
  | .non, v, x, h, e => by simp only [pyd] at e; cases e; rw [show v = V.non from h]; exact .non
  | .bl b, v, x, h, e => by simp only [pyd] at e; cases e; rw [show v = V.bl b from h]; exact .bl b
  | .int i, v, x, h, e => by simp only [pyd] at e; cases e; rw [show v = V.int i from h]; exact .int i
  | .str z, v, x, h, e => by simp only [pyd] at e; cases e; rw [show v = V.str z from h]; exact .str z
  | .tup ds, v, x, h, e => by
    obtain ⟨a, vs, rfl, g1, g2⟩ := h.tup
    simp only [pyd] at e
    cases q : pyds ds with
    | none => rw [q] at e; cases e
    | some xs => rw [q] at e; cases e; exact .tup (s.sqT g1) (rvs_dp s g2 q)
  | .lst ds, v, x, h, e => by
    obtain ⟨a, vs, rfl, g1, g2⟩ := h.lst
    simp only [pyd] at e
    cases q : pyds ds with
    | none => rw [q] at e; cases e
    | some xs => rw [q] at e; cases e; exact .lst (.inl (.inl (s _ _ g1))) (rvs_dp s g2 q)
  | .scr ns, v, x, h, e => by
    obtain ⟨a, rfl, g1⟩ := h.scr
    simp only [pyd] at e; cases e
    exact .lst (s.sqL g1) (dpAll_ints ns)
  | .box, _, _, _, e => by simp only [pyd] at e; cases e
  | .fn _, _, _, _, e => by simp only [pyd] at e; cases e
  | .dct _, _, _, _, e => by simp only [pyd] at e; cases e
theorem rvs_dp {c : Cn} {β : Option Addr} {H S : Hp} (s : Sub S H) : ∀ {ds : List D} {vs : List V} {xs : List PyData}, RVs c β S ds vs → pyds ds = some xs → DpAll c.K H vs xs
  | [], vs, xs, h, e => by rw [show vs = [] from h]; simp only [pyds] at e; cases e; exact .nil
  | d :: ds, vs, xs, h, e => by
    obtain ⟨v, r, rfl, h1, h2⟩ := h.uncons
    simp only [pyds] at e
    cases q1 : pyd d with
    | none => rw [q1] at e; cases e
    | some y =>
      cases q2 : pyds ds with
      | none => rw [q1, q2] at e; cases e
      | some ys => rw [q1, q2] at e; cases e; exact .cons (rv_dp s h1 q1) (rvs_dp s h2 q2)
end
theorem rd_dp {c : Cn} {β : Option Addr} {H S : Hp} {d : D} {v : V} {x : PyData} (s : Sub S H) (h : RD c β H S d v) (e : pyd d = some x) : Dp c.K H v x := by
  rcases h with h | ⟨ds, a, vs, rfl, rfl, hb, g1, g2⟩
  · exact rv_dp s h e
  · simp only [pyd] at e
    cases q : pyds ds with
    | none => rw [q] at e; cases e
    | some xs => rw [q] at e; cases e; exact .lst (.inl (.inl g1)) (rvs_dp s g2 q)
/-- the answer of == -/
def cEq (x y : D) : Option Bool := match pyd x, pyd y with
  | some a, some b => if SeqAt.shaped a = true ∧ SeqAt.shaped b = true then some (PyData.eqv a b) else none
  | _, _ => none
def cNe (x y : D) : Option Bool := (cEq x y).map (!·)
theorem cEq_some {x y : D} {t : Bool} (e : cEq x y = some t) : ∃ a b, pyd x = some a ∧ pyd y = some b ∧ SeqAt.shaped a = true ∧ SeqAt.shaped b = true ∧ t = PyData.eqv a b := by
  unfold cEq at e
  split at e
  · rename_i a b h1 h2
    split at e
    · rename_i hs; cases e; exact ⟨a, b, h1, h2, hs.1, hs.2, rfl⟩
    · cases e
  · cases e
theorem o_eq {c : Cn} : CmpOk c (rEqD c.K) cEq := by
  intro β H S x y u v t Q s b1 b2 q1 q2 e q
  obtain ⟨a, b, h1, h2, h3, h4, rfl⟩ := cEq_some e
  exact ⟨a, b, rd_dp s q1 h1, rd_dp s q2 h2, h3, h4, q⟩
theorem o_ne {c : Cn} : CmpOk c (rNeD c.K) cNe := by
  intro β H S x y u v t Q s b1 b2 q1 q2 e q
  unfold cNe at e
  cases e1 : cEq x y with
  | none => rw [e1] at e; cases e
  | some r =>
    rw [e1] at e; cases e
    obtain ⟨a, b, h1, h2, h3, h4, rfl⟩ := cEq_some e1
    exact ⟨a, b, rd_dp s q1 h1, rd_dp s q2 h2, h3, h4, q⟩
end Rk

namespace Rk
open PySem PySem.Spec L2

/-! ### in, not in -/
def flatD : D → Option V
  | .non => some .non
  | .bl b => some (.bl b)
  | .int i => some (.int i)
  | .str s => some (.str s)
  | _ => none
def flatsD : List D → Option (List V)
  | [] => some []
  | d :: ds => match flatD d, flatsD ds with
    | some v, some vs => some (v :: vs)
    | _, _ => none
theorem flatD_eq {c : Cn} {β : Option Addr} {H S : Hp} {d : D} {v w : V} (h : RD c β H S d v) (e : flatD d = some w) : v = w ∧ flatV w = true := by
  cases d <;> simp only [flatD] at e <;> cases e
  · exact ⟨h.non, rfl⟩
  · exact ⟨h.bl, rfl⟩
  · exact ⟨h.int, rfl⟩
  · exact ⟨h.str, rfl⟩
theorem flatsD_eq {c : Cn} {β : Option Addr} {S : Hp} : ∀ {ds : List D} {vs ws : List V}, RVs c β S ds vs → flatsD ds = some ws → vs = ws ∧ ws.all flatV = true
  | [], vs, ws, h, e => by rw [show vs = [] from h]; simp only [flatsD] at e; cases e; exact ⟨rfl, rfl⟩
  | d :: ds, vs, ws, h, e => by
    obtain ⟨v, r, rfl, h1, h2⟩ := h.uncons
    simp only [flatsD] at e
    cases q1 : flatD d with
    | none => rw [q1] at e; cases e
    | some y =>
      cases q2 : flatsD ds with
      | none => rw [q1, q2] at e; cases e
      | some ys =>
        rw [q1, q2] at e; cases e
        obtain ⟨rfl, g1⟩ := flatD_eq (H := S) (.inl h1) q1
        obtain ⟨rfl, g2⟩ := flatsD_eq h2 q2
        exact ⟨rfl, by rw [List.all_cons, g1, g2]; rfl⟩
/-- x in y: of a tuple flat things alone; of a list data at any depth; of a text -/
def cIn : D → D → Option Bool
  | x, .tup ds => match flatD x, flatsD ds with
    | some v, some vs => some (inV v vs)
    | _, _ => none
  | x, .lst ds => match pyd x, pyds ds with
    | some d, some es => if SeqAt.shaped d = true ∧ SeqAt.shaped (.list es) = true then some (es.any fun z => PyData.eqv z d) else none
    | _, _ => none
  | .str i, .str j => some (!(Builtin.Str.occurrences j i 0 j.length 1).isEmpty)
  | _, _ => none
def cNotIn (x y : D) : Option Bool := (cIn x y).map (!·)
def rIn2 (K : PySem.W.Frag) : R2 := fun x y H Q => rIn K false x y H Q ∨ rInD K x y H Q ∨ ∃ i j, x = .str i ∧ y = .str j ∧ Q (.bl (!(Builtin.Str.occurrences j i 0 j.length 1).isEmpty)) H
def rNotIn2 (K : PySem.W.Frag) : R2 := fun x y H Q => rIn K true x y H Q ∨ rNotInD K x y H Q ∨ ∃ i j, x = .str i ∧ y = .str j ∧ Q (.bl (!(!(Builtin.Str.occurrences j i 0 j.length 1).isEmpty))) H
theorem op_In {X : Cx} (hu : X.A.units + 65 < cLine) : OpR X (compareOp .In) (rIn2 X.K) := OpR.or op_in_seq (OpR.or (op_inD hu) op_in_str)
theorem op_NotIn {X : Cx} (hu : X.A.units + 65 < cLine) : OpR X (compareOp .NotIn) (rNotIn2 X.K) := OpR.or op_notIn_seq (OpR.or (op_notInD hu) op_notIn_str)
theorem o_in {c : Cn} : CmpOk c (rIn2 c.K) cIn := by
  intro β H S x y u v t Q s b1 b2 q1 q2 e q
  cases y with
  | tup ds =>
    simp only [cIn] at e
    split at e
    · rename_i w ws h1 h2
      cases e
      obtain ⟨a, vs, rfl, g1, g2⟩ := q2.tup
      obtain ⟨rfl, f1⟩ := flatD_eq q1 h1
      obtain ⟨rfl, f2⟩ := flatsD_eq g2 h2
      exact .inl ⟨a, vs, rfl, .inr (s.sqT g1), f1, f2, q⟩
    · cases e
  | lst ds =>
    simp only [cIn] at e
    split at e
    · rename_i d es h1 h2
      split at e
      · rename_i hs; cases e
        exact .inr (.inl ⟨d, es, rd_dp s q1 h1, rd_dp s q2 (by simp only [pyd, h2, Option.map_some]), hs.1, hs.2, q⟩)
      · cases e
    · cases e
  | str j =>
    cases x <;> first | (simp only [cIn] at e; cases e; done) | skip
    simp only [cIn] at e; cases e
    rw [q1.str, q2.str]
    exact .inr (.inr ⟨_, _, rfl, rfl, q⟩)
  | _ => cases x <;> simp only [cIn] at e <;> cases e
theorem o_notIn {c : Cn} : CmpOk c (rNotIn2 c.K) cNotIn := by
  intro β H S x y u v t Q s b1 b2 q1 q2 e q
  unfold cNotIn at e
  cases y with
  | tup ds =>
    simp only [cIn] at e
    split at e
    · rename_i w ws h1 h2
      cases e
      obtain ⟨a, vs, rfl, g1, g2⟩ := q2.tup
      obtain ⟨rfl, f1⟩ := flatD_eq q1 h1
      obtain ⟨rfl, f2⟩ := flatsD_eq g2 h2
      exact .inl ⟨a, vs, rfl, .inr (s.sqT g1), f1, f2, q⟩
    · cases e
  | lst ds =>
    simp only [cIn] at e
    split at e
    · rename_i d es h1 h2
      split at e
      · rename_i hs; cases e
        exact .inr (.inl ⟨d, es, rd_dp s q1 h1, rd_dp s q2 (by simp only [pyd, h2, Option.map_some]), hs.1, hs.2, q⟩)
      · cases e
    · cases e
  | str j =>
    cases x <;> first | (simp only [cIn] at e; cases e; done) | skip
    simp only [cIn] at e; cases e
    rw [q1.str, q2.str]
    exact .inr (.inr ⟨_, _, rfl, rfl, q⟩)
  | _ => cases x <;> simp only [cIn] at e <;> cases e

/-! ### slices -/
/-- a part of a slice: left out, or an int -/
abbrev PtM := Option EM
inductive OutP where
  | ok (o : Option Int) (b : Bx)
  | exc (x : Str) (fs : List D) (b : Bx)
  | bad
def part : PtM → Slots → Bx → OutP
  | none, _, b => .ok none b
  | some m, δ, b => match m δ b with
    | .ok (.int i) _ b1 => .ok (some i) b1
    | .ok _ _ _ => .bad
    | .exc x fs b => .exc x fs b
    | .bad => .bad
def cutD {α : Type} (xs : List α) (lo hi : Option Int) : List α := (xs.drop (HT.sIx xs.length 0 lo)).take (HT.sIx xs.length xs.length hi - HT.sIx xs.length 0 lo)
def fSl (x : D) (lo hi : Option Int) : Option (D × Kd) := match x with
  | .lst ds => some (.lst (cutD ds lo hi), .fr)
  | .tup ds => some (.tup (cutD ds lo hi), .sh)
  | .scr ns => some (.lst ((cutD ns lo hi).map D.int), .fr)
  | .str z => if z.length ≤ big then some (.str (cutS z lo hi), .sh) else none
  | _ => none
def eSl (m : EM) (lo hi : PtM) : EM := fun δ b => match m δ b with
  | .ok x _ b1 => (match part lo δ b1 with
    | .ok l b2 => (match part hi δ b2 with
      | .ok h b3 => (match fSl x l h with
        | some (d, k) => .ok d k b3
        | none => .bad)
      | .exc x fs b => .exc x fs b
      | .bad => .bad)
    | .exc x fs b => .exc x fs b
    | .bad => .bad)
  | .exc x fs b => .exc x fs b
  | .bad => .bad
def OutPs (c : Cn) (β : Option Addr) (W : WX) (σ : L2.St) (H S : Hp) (Q : Option Int → Hp → Prop) : OutP → Prop
  | .ok o b => ∀ H' S', Ext β H S H' S' → BxR β H' b → Q o H'
  | .exc x fs b => ∀ cls dx H' S', Ext β H S H' S' → BxR β H' b → ExR c β S' x fs cls dx H' → W cls dx σ H'
  | .bad => False
def tP (c : Cn) (m : PtM) (W : WX) : TO := fun σ H Q => ∃ β H0 S0 S δ b, RS c β H0 S0 H S δ σ b ∧ OutPs c β W σ H S Q (part m δ b)
theorem _root_.L2.PO.imp {X : Cx} {e : Option Expr} {t t' : TO} (h : PO X e t) (f : ∀ σ H Q, t' σ H Q → t σ H Q) : PO X e t' := ⟨fun pins s σ H Q I q => h.run pins s σ H Q I (f σ H Q q)⟩
def rSl3 (K : PySem.W.Frag) : V → Option Int → Option Int → Hp → VK → Prop := fun x lo hi H Q => rSlL K x lo hi H Q ∨ rSlA K x lo hi H Q ∨ rSlS x lo hi H Q
theorem sl_any {X : Cx} : SlR X (rSl3 X.K) := SlR.or sl_list (SlR.or sl_tupA sl_str)
theorem RVs.cut {c : Cn} {β : Option Addr} {S : Hp} {ds : List D} {vs : List V} (r : RVs c β S ds vs) (lo hi : Option Int) : RVs c β S (cutD ds lo hi) (cutV vs lo hi) := by
  unfold cutD cutV
  rw [r.length]
  exact (r.drop _).take _
theorem cutV_ints (ns : List Int) (lo hi : Option Int) : cutV (ns.map V.int) lo hi = (cutD ns lo hi).map V.int := by
  unfold cutD cutV
  rw [List.length_map, List.map_take, List.map_drop]
theorem cutD_whole {α : Type} {xs : List α} {lo hi : Option Int} (h : HT.sIx xs.length 0 lo = 0 ∧ HT.sIx xs.length xs.length hi = xs.length) : cutD xs lo hi = xs := by
  unfold cutD
  rw [h.1, h.2]; simp
theorem o_sl {c : Cn} {β : Option Addr} {H S : Hp} {x : D} {u : V} {lo hi : Option Int} {d : D} {k : Kd} {Q : VK} (s : Sub S H) (b2 : ∀ a, β = some a → H a ≠ none) (q1 : RD c β H S x u) (e : fSl x lo hi = some (d, k))
    (q : ∀ w H' S', Px β H S H' S' → RR c β H H' S' d k w → Q w H') : rSl3 c.K u lo hi H Q := by
  cases x <;> first | (simp only [fSl] at e; cases e; done) | skip
  · simp only [fSl] at e
    split at e
    · rename_i hz; cases e
      rw [q1.str]
      exact .inr (.inr ⟨_, rfl, Nat.le_trans hz big_line, str_q s q⟩)
    · cases e
  · simp only [fSl] at e; cases e
    obtain ⟨a, vs, rfl, g1, g2⟩ := q1.tup
    refine .inr (.inl ⟨a, vs, rfl, s.sqT g1, fun hw => ?_, fun _ => new_tup s (g2.cut lo hi) q⟩)
    rw [g2.length] at hw
    refine q _ H S (Px.refl s) ?_
    rw [cutD_whole hw]
    exact (show ∃ a' us', V.ref a = .ref a' ∧ SqT c.K S a' us' ∧ RVs c β S _ us' from ⟨a, vs, rfl, g1, g2⟩)
  · simp only [fSl] at e; cases e
    obtain ⟨a, vs, rfl, g1, g2⟩ := q1.lr s
    exact .inl ⟨a, vs, rfl, .inl (.inl g1), new_lst s b2 (g2.cut lo hi) q⟩
  · simp only [fSl] at e; cases e
    obtain ⟨a, rfl, g1⟩ := q1.scr
    refine .inl ⟨a, _, rfl, s.sqL g1, ?_⟩
    rw [cutV_ints]
    exact new_lst s b2 (RVs.ints _) q
section
variable {X : Cx} {W : WX} {e : Expr} {m : EM}
theorem s_pNone : PO X none (tP (cnOf X) none W) := po_none.imp fun σ H Q h => by
  obtain ⟨β, H0, S0, S, δ, b, r, h⟩ := h
  exact h H S (Ext.refl r.sub) r.bx
theorem s_pSome (ha : PE X e (tE (cnOf X) m W)) : PO X (some e) (tP (cnOf X) (some m) W) := (po_some ha).imp fun σ H Q h => by
  obtain ⟨β, H0, S0, S, δ, b, r, h⟩ := h
  refine ⟨β, H0, S0, S, δ, b, r, ?_⟩
  unfold part at h
  dsimp only at h
  cases e1 : m δ b with
  | bad => rw [e1] at h; exact h
  | exc x fs b1 => rw [e1] at h; exact h
  | ok d kd b1 =>
    rw [e1] at h
    intro v H1 S1 x1 hb1 q1
    cases d with
    | int i => exact ⟨i, q1.rd.int, h H1 S1 x1 hb1⟩
    | _ => exact h.elim
theorem s_sl {lo hi : Option Expr} {ml mh : PtM} {p2 pos : Pos} (ha : PE X e (tE (cnOf X) m W)) (hl : PO X lo (tP (cnOf X) ml W)) (hh : PO X hi (tP (cnOf X) mh W)) : PE X (.Subscript e (.Slice lo hi none p2) pos) (tE (cnOf X) (eSl m ml mh) W) := by
  refine (pe_slice sl_any ha hl hh).imp fun σ H Q h => ?_
  obtain ⟨β, H0, S0, S, δ, b, rs, h⟩ := h
  refine ⟨β, H0, S0, S, δ, b, rs, ?_⟩
  unfold eSl at h
  cases e1 : m δ b with
  | bad => rw [e1] at h; exact h
  | exc x fs b1 => rw [e1] at h; exact h
  | ok x kx b1 =>
    rw [e1] at h
    intro u H1 S1 x1 hb1 q1
    have rs1 := rs.step x1 hb1
    refine ⟨β, H0, S0, S1, δ, b1, rs1, ?_⟩
    dsimp only at h
    cases e2 : part ml δ b1 with
    | bad => rw [e2] at h; exact h
    | exc y fs b2 => rw [e2] at h; exact fun cls dx H' S' e hb q => h cls dx H' S' (x1.trans e) hb q
    | ok l b2 =>
      rw [e2] at h
      intro H2 S2 x2 hb2
      have rs2 := rs1.step x2 hb2
      refine ⟨β, H0, S0, S2, δ, b2, rs2, ?_⟩
      dsimp only at h
      cases e3 : part mh δ b2 with
      | bad => rw [e3] at h; exact h
      | exc y fs b2 => rw [e3] at h; exact fun cls dx H' S' e hb q => h cls dx H' S' ((x1.trans x2).trans e) hb q
      | ok u b3 =>
        rw [e3] at h
        intro H3 S3 x3 hb3
        have rs3 := rs2.step x3 hb3
        dsimp only at h
        cases e4 : fSl x l u with
        | none => rw [e4] at h; exact h.elim
        | some dk =>
          obtain ⟨d, kd⟩ := dk
          rw [e4] at h
          have x13 := (x1.trans x2).trans x3
          exact o_sl x3.sub (fun a ea => by rw [rs3.bx a ea]; simp) ((q1.rd.ext x2).ext x3) e4 fun w H4 S4 x4 q4 => h w H4 S4 (x13.trans x4.ext) (x4.bx hb3) (q4.back x13)
end
end Rk

namespace Rk
open PySem PySem.Spec L2

/-! ### sorted of a tuple of ints -/
namespace So
open PyProof.Rows
section
variable {prog : Program} {w : World} {A : Around} {E : Value → Shared → Prop} {s : Shared}
theorem gather_tup {t : Addr} {us : List Value} {R : List Value → Shared → Prop} (hT : s.heap.IsTuple t us.toArray)
    (go : R us { s with heap := (s.heap.push (seqObj "list" #[] 0)).update s.heap.objs.size (Obj.mapSeq (· ++ us.toArray)) }) (hz : us.length ≤ sizeLine) : wpAny (model prog w) A (collect (.ref t)) R E s := by
  obtain ⟨ob, ob1, ob2, k, ob3⟩ := id hT
  have ob1' : (s.heap.push (seqObj "list" #[] 0)).get? t = some ob := Heap.get?_push_of_some _ ob1
  have tt : (Value.type "tuple" == Value.type "tuple") = true := rfl
  unfold collect
  refine wpAny_bind (wpAny_runValue (codeAny_builtin entry_proto_collect' ?_))
  show wpAny _ _ (do again (.builtin "list.__iadd__" ⟨[← newList [], .ref t], []⟩)) _ _ s
  refine wpAny_bind (wpAny_newList (wpAny_pure ⟨Code.quiet_builtin _ (by decide +kernel), codeAny_builtin entry_list_iadd' ?_⟩))
  show wpAny _ _ (Builtin.List.listExtendWith (.ref s.heap.objs.size) (.ref t) (.ref s.heap.objs.size)) _ _ { s with heap := s.heap.push (seqObj "list" #[] 0) }
  unfold Builtin.List.listExtendWith
  refine wpAny_bind (wpAny_typeOf (T := "tuple") ⟨ob, ob1', ob2⟩ ?_)
  rw [if_pos (by rw [tt]; simp)]
  refine wpAny_bind (listItems_at ob1' ob3 (wpAny_bind (listItems_at (xs := #[]) (n := 0) (Heap.get?_push_size _ rfl) rfl ?_)))
  rw [if_neg (by simp)]
  refine wpAny_bind (listUpdate_at (xs := #[]) (n := 0) (Heap.get?_push_size _ rfl) rfl (wpAny_pure ?_) (Nat.zero_le _) (by show (#[] ++ us.toArray).size ≤ sizeLine + 1; simp only [Array.size_append, List.size_toArray, List.length_nil]; omega))
  show wpAny (model prog w) A (do
      let q ← load s.heap.objs.size
      match q.data with
      | .seq ys _ => pure ys.toList
      | _ => unsupported "internal:collect") R E { s with heap := (s.heap.push (seqObj "list" #[] 0)).update s.heap.objs.size (Obj.mapSeq (· ++ us.toArray)) }
  refine wpAny_bind (wpAny_load (get?_update_seq (Heap.get?_push_size _ rfl) _) ?_)
  show wpAny _ _ (pure ((#[] : Array Value) ++ us.toArray).toList) R E _
  rw [show ((#[] : Array Value) ++ us.toArray).toList = us by simp]
  exact wpAny_pure go
theorem tup_ord {t : Addr} {us : List Value} {lt : Value → Value → Bool} {R : Value → Shared → Prop} (O : SrtO.Swo lt) (hT : s.heap.IsTuple t us.toArray) (hz : us.length ≤ sizeLine)
    (hS : 2 ≤ us.length → ∀ (h₁ : Heap) (a : Addr), h₁.get? a = some (seqObj "list" us.toArray 0) → (∀ b o, s.heap.get? b = some o → b ≠ a ∧ h₁.get? b = some o) → SrtO.SortableO prog w A.in1.in1 { s with heap := h₁ } a us lt)
    (go : ∀ out : List Value, SrtO.Srtd lt out → SrtO.Stb lt out us → R (.ref (s.heap.objs.size + 1)) { s with heap := sortedAll s.heap us out.toArray }) :
    wpAny (model prog w) A (call (.builtin "sorted") [.ref t]) R E s := by
  refine Calls.call_function_entry kind_sorted plain_sorted entry_sorted (args_sorted1 _) ?_
  unfold Builtin.«sorted»
  refine wpAny_bind (m := checkCount "sorted" 1 1 _) (wpAny_pure (wpAny_bind (gather_tup hT (wpAny_bind (wpAny_newList ?_ hz)) hz)))
  have sz : ((s.heap.push (seqObj "list" #[] 0)).update s.heap.objs.size (Obj.mapSeq (· ++ us.toArray))).objs.size = s.heap.objs.size + 1 := by
    rw [Heap.size_update, size_push']
  have atL : (((s.heap.push (seqObj "list" #[] 0)).update s.heap.objs.size (Obj.mapSeq (· ++ us.toArray))).push (seqObj "list" us.toArray 0)).get? (s.heap.objs.size + 1) = some (seqObj "list" us.toArray 0) := by
    rw [← sz]; exact Heap.get?_push_size _ rfl
  have kp : ∀ b o, s.heap.get? b = some o → b ≠ s.heap.objs.size + 1 ∧ (((s.heap.push (seqObj "list" #[] 0)).update s.heap.objs.size (Obj.mapSeq (· ++ us.toArray))).push (seqObj "list" us.toArray 0)).get? b = some o := fun b o q => by
    have lt' : b < s.heap.objs.size := Heap.lt_size q
    refine ⟨Nat.ne_of_lt (Nat.lt_succ_of_lt lt'), Heap.get?_push_of_some _ ?_⟩
    rw [Heap.get?_update_ne _ _ _ _ (Nat.ne_of_lt lt')]
    exact Heap.get?_push_of_some _ q
  show wpAny _ _ _ _ _ { s with heap := ((s.heap.push (seqObj "list" #[] 0)).update s.heap.objs.size (Obj.mapSeq (· ++ us.toArray))).push (seqObj "list" us.toArray 0) }
  rw [sz]
  exact wpAny_bind (wpAny_holding (wpAny_call_entry slot_list_sort ⟨_, atL, rfl⟩ entry_list_sort (SrtO.list_sort_ord O atL hz (fun h2 => hS h2 _ _ atL kp) fun out hs hb => ⟨_, rfl, wpAny_pure ⟨_, rfl, go out hs hb⟩⟩) (args_list_sort _)))
end
end So
def rSortIT (K : PySem.W.Frag) : List V → Hp → VK → Prop := fun vs H Q => ∃ (a : Addr) (ns : List Int), vs = [V.ref a] ∧ SqT K H a (ns.map V.int) ∧
  ∀ (ms : List Int) (p : Addr), ms.Perm ns → ms.Pairwise (· ≤ ·) → H p = none → Q (.ref p) (upd H p (.lst (ms.map V.int)))
theorem cr_sortIT {X : Cx} : CallR X (.builtin "sorted") (rSortIT X.K) := by
  intro pins s σ H vs us Q I r h
  obtain ⟨a, ns, rfl, hs, q⟩ := h
  obtain ⟨its, rv, ⟨ob, h1, h2, n, h3⟩⟩ := isT I hs
  obtain ⟨_, _, _, hz⟩ := I.tuple hs
  rw [Vals.ref1 r]
  have hi := rv.ints
  have hl := rv.length
  refine So.tup_ord SrtO.swo_int ⟨ob, h1, h2, n, h3⟩ (by omega) (fun g2 h₁ a' _ _ => SrtO.ints_sortable hi g2) fun out g1 g2 => ?_
  obtain ⟨k1, k2, k3⟩ := SrtO.ints_out hi g1 g2
  obtain ⟨ep, he⟩ := PyProof.Rows.sortedAll_at s.heap its out.toArray
  have hn : ((out.map SrtO.iv).map V.int).length ≤ sizeLine := by
    rw [List.length_map, k2.length_eq]
    rw [List.length_map] at hz hl
    omega
  exact ⟨.ref _, upd H (s.heap.objs.size + 1) (.lst ((out.map SrtO.iv).map V.int)), I.laid (t' := s.toks) (fun _ _ => PyProof.Rows.sortedAll_old) (Nat.le_succ _) ⟨hn, out, ep, vals_of_ints k1, he⟩, rfl, q _ _ k2 k3 (I.hok.fresh (Nat.le_succ _))⟩

/-- numbers in order -/
def insI (a : Int) : List Int → List Int
  | [] => [a]
  | b :: l => if a ≤ b then a :: b :: l else b :: insI a l
def sortI : List Int → List Int
  | [] => []
  | a :: l => insI a (sortI l)
theorem insI_perm (a : Int) : ∀ l : List Int, (insI a l).Perm (a :: l)
  | [] => .refl _
  | b :: l => by
    unfold insI
    split
    · exact .refl _
    · exact ((insI_perm a l).cons b).trans (List.Perm.swap a b l)
theorem sortI_perm : ∀ l : List Int, (sortI l).Perm l
  | [] => .refl _
  | a :: l => (insI_perm a _).trans ((sortI_perm l).cons a)
theorem insI_sorted (a : Int) : ∀ {l : List Int}, l.Pairwise (· ≤ ·) → (insI a l).Pairwise (· ≤ ·)
  | [], _ => by simp [insI]
  | b :: l, h => by
    unfold insI
    have hb := List.pairwise_cons.mp h
    split
    · rename_i hab
      refine List.pairwise_cons.mpr ⟨fun y hy => ?_, h⟩
      rcases List.mem_cons.mp hy with rfl | hy
      · exact hab
      · exact Int.le_trans hab (hb.1 y hy)
    · rename_i hab
      refine List.pairwise_cons.mpr ⟨fun y hy => ?_, insI_sorted a hb.2⟩
      rcases List.mem_cons.mp ((insI_perm a l).mem_iff.mp hy) with rfl | hy
      · omega
      · exact hb.1 y hy
theorem sortI_sorted : ∀ l : List Int, (sortI l).Pairwise (· ≤ ·)
  | [] => .nil
  | a :: l => insI_sorted a (sortI_sorted l)
theorem sorted_unique : ∀ {a b : List Int}, a.Perm b → a.Pairwise (· ≤ ·) → b.Pairwise (· ≤ ·) → a = b
  | [], b, p, _, _ => (List.Perm.nil_eq p)
  | x :: a, b, p, ha, hb => by
    cases b with
    | nil => exact absurd p.length_eq (by simp)
    | cons y b =>
      have h1 := List.pairwise_cons.mp ha
      have h2 := List.pairwise_cons.mp hb
      have e : x = y := by
        have m1 : x ∈ y :: b := p.mem_iff.mp List.mem_cons_self
        have m2 : y ∈ x :: a := p.mem_iff.mpr List.mem_cons_self
        rcases List.mem_cons.mp m1 with q | q
        · exact q
        · rcases List.mem_cons.mp m2 with q2 | q2
          · exact q2.symm
          · exact Int.le_antisymm (h1.1 _ q2) (h2.1 _ q)
      subst e
      rw [sorted_unique (List.Perm.cons_inv p) h1.2 h2.2]
theorem sortI_eq {a b : List Int} (p : a.Perm b) (h : a.Pairwise (· ≤ ·)) : a = sortI b := sorted_unique (p.trans (sortI_perm b).symm) h (sortI_sorted b)
/-- sorted(..) of ints -/
def gSortI : D → Option (D × Kd)
  | .lst ds => (intsD ds).map fun ns => (.lst ((sortI ns).map D.int), .fr)
  | .tup ds => (intsD ds).map fun ns => (.lst ((sortI ns).map D.int), .fr)
  | _ => none
theorem o_sortI {X : Cx} : CallOk (cnOf X) (fun xs H Q => rSortedI X.K xs H Q ∨ rSortIT X.K xs H Q) (f1 gSortI) := by
  intro β H S xs us d k Q s b1 b2 q1 e q
  obtain ⟨x, u, rfl, rfl, h1⟩ := rds1 q1 e (fun _ _ _ => rfl) rfl
  simp only [f1] at e
  cases x <;> first | (simp only [gSortI] at e; cases e; done) | skip
  · simp only [gSortI] at e
    cases q5 : intsD (‹List D›) with
    | none => rw [q5] at e; cases e
    | some ns =>
      rw [q5] at e; cases e
      obtain ⟨a, rfl, g⟩ := rds_intsT s h1 q5
      refine .inr ⟨a, ns, rfl, g, fun ms p hp hs hn => ?_⟩
      rw [sortI_eq hp hs]
      exact new_lst s b2 (RVs.ints _) q p hn
  · simp only [gSortI] at e
    cases q5 : intsD (‹List D›) with
    | none => rw [q5] at e; cases e
    | some ns =>
      rw [q5] at e; cases e
      obtain ⟨a, rfl, g⟩ := rds_ints s h1 q5
      refine .inl ⟨a, ns, rfl, g, fun ms p hp hs hn => ?_⟩
      rw [sortI_eq hp hs]
      exact new_lst s b2 (RVs.ints _) q p hn
end Rk

namespace Rk
open PySem PySem.Spec L2

/-! ### t * k, k < 2 or t empty -/
theorem mul_zero (l : Addr) (items : Array Value) (n : Nat) (dd : Option Addr) (sl : Array (Option Value)) (x : Int) (u : Tok) (c0 : (decide (x < -(2 ^ 63)) || decide (x ≥ 2 ^ 63)) = false) (c1 : (items.isEmpty || x == 1) = false) (c2 : (decide (x ≤ 0) || items.isEmpty) = true) :
    Meets (Builtin.«tuple.__mul__» ⟨[.ref l, .int x u], []⟩) (fun _ R s => s.heap.get? l = some { cls := .type "tuple", dict := dd, data := .seq items n, slots := sl } ∧
      R (.ok (.ret (Value.ref s.heap.objs.size))) { s with heap := s.heap.push { cls := Value.type "tuple", data := Data.seq #[] }, toks := s.toks }) :=
  .of_wp fun prog w A R s h => by
    obtain ⟨hp, g, d, tk, os⟩ := s
    obtain ⟨hl, h⟩ := h
    have f1 := AutoSeq1.idx_int
    wp_walk using wpAny_loadPart' hl
    repeat (first
      | (refine wpAny_ite_false (decide_eq_false (by rw [c0]; exact Bool.false_ne_true)) ?_; wp_walk using wpAny_loadPart' hl)
      | (refine wpAny_ite_false (decide_eq_false (by rw [c1]; exact Bool.false_ne_true)) ?_; wp_walk using wpAny_loadPart' hl)
      | (refine wpAny_ite_true (decide_eq_true (by rw [c2])) ?_; wp_walk using wpAny_loadPart' hl))
    exact ⟨_, rfl, h⟩
theorem mul_same (l : Addr) (items : Array Value) (n : Nat) (dd : Option Addr) (sl : Array (Option Value)) (x : Int) (u : Tok) (c0 : (decide (x < -(2 ^ 63)) || decide (x ≥ 2 ^ 63)) = false) (c1 : (items.isEmpty || x == 1) = true) :
    Meets (Builtin.«tuple.__mul__» ⟨[.ref l, .int x u], []⟩) (fun _ R s => s.heap.get? l = some { cls := .type "tuple", dict := dd, data := .seq items n, slots := sl } ∧
      R (.ok (.ret (Value.ref l))) s) :=
  .of_wp fun prog w A R s h => by
    obtain ⟨hp, g, d, tk, os⟩ := s
    obtain ⟨hl, h⟩ := h
    have f1 := AutoSeq1.idx_int
    wp_walk using wpAny_loadPart' hl
    repeat (first
      | (refine wpAny_ite_false (decide_eq_false (by rw [c0]; exact Bool.false_ne_true)) ?_; wp_walk using wpAny_loadPart' hl)
      | (refine wpAny_ite_true (decide_eq_true (by rw [c1])) ?_; wp_walk using wpAny_loadPart' hl))
    exact ⟨_, rfl, h⟩
/-- t * k: an empty t or k = 1 gives t itself, k below 1 the empty tuple -/
def rRepT0 (K : PySem.W.Frag) : R2 := fun x y H Q => ∃ l k xs, x = .ref l ∧ y = .int k ∧ SqT K H l xs ∧ -(2 ^ 63) ≤ k ∧ k < 2 ^ 63 ∧ ((xs = [] ∨ k = 1) ∧ Q (.ref l) H ∨ xs ≠ [] ∧ k ≤ 0 ∧ ∀ p, H p = none → Q (.ref p) (upd H p (.tup [])))
theorem op_repT0 {X : Cx} : OpR X (binaryOp .Mult) (rRepT0 X.K) := by
  intro pins s σ H x y v u Q I rx ry h
  obtain ⟨l, k, xs, rfl, rfl, hT, h1, h2, h⟩ := h
  cases rx
  obtain ⟨t, rfl⟩ := ry
  obtain ⟨its, r, ⟨⟨cls, dd, data, sl⟩, ho, hc, n, hd⟩, hs⟩ := I.tuple hT
  simp only at hc hd
  subst hc hd
  have hle : its.length = xs.length := r.length.symm
  have c0 : (decide (k < -(2 ^ 63)) || decide (k ≥ 2 ^ 63)) = false := by
    rw [decide_eq_false (by omega), decide_eq_false (by omega)] <;> rfl
  rcases h with ⟨hk, q⟩ | ⟨hne, hk, q⟩
  · have c1 : (its.toArray.isEmpty || k == 1) = true := by
      rcases hk with rfl | rfl
      · have : its = [] := List.eq_nil_of_length_eq_zero hle
        subst this; rfl
      · simp
    exact wpAny_binaryOp_repeat_ref (T := "tuple") (U := "int") (by decide) ⟨_, ho, rfl⟩ (fun s' => typeIs_int s' k t) noFill_tuple_mul F.fills_int_mul F.slot_int_rmul repeat_tuple F.slot_int_index.lookup
      (call_meets F.slot_int_rmul (typeIs_int s k t) F.entry_int_rmul (F.args_int_rmul_2 _ _) (int_rmul_tuple k t l its.toArray n dd sl)
        ⟨ho, rfl, ⟨_, ho, rfl⟩, call_meets F.slot_tuple_mul ⟨_, ho, rfl⟩ F.entry_tuple_mul (F.args_tuple_mul_2 _ _) (mul_same l its.toArray n dd sl k t c0 c1) ⟨ho, ⟨.ref l, H, I, rfl, q⟩⟩⟩)
  · have hi : its.toArray.isEmpty = false := by
      cases its with
      | nil => exact absurd (List.eq_nil_of_length_eq_zero hle.symm) hne
      | cons a b => rfl
    have c1 : (its.toArray.isEmpty || k == 1) = false := by
      rw [hi, Bool.false_or]
      exact beq_eq_false_iff_ne.mpr (by omega)
    have c2 : (decide (k ≤ 0) || its.toArray.isEmpty) = true := by rw [decide_eq_true hk]; rfl
    exact wpAny_binaryOp_repeat_ref (T := "tuple") (U := "int") (by decide) ⟨_, ho, rfl⟩ (fun s' => typeIs_int s' k t) noFill_tuple_mul F.fills_int_mul F.slot_int_rmul repeat_tuple F.slot_int_index.lookup
      (call_meets F.slot_int_rmul (typeIs_int s k t) F.entry_int_rmul (F.args_int_rmul_2 _ _) (int_rmul_tuple k t l its.toArray n dd sl)
        ⟨ho, rfl, ⟨_, ho, rfl⟩, call_meets F.slot_tuple_mul ⟨_, ho, rfl⟩ F.entry_tuple_mul (F.args_tuple_mul_2 _ _) (mul_zero l its.toArray n dd sl k t c0 c1 c2) ⟨ho, ⟨.ref s.heap.objs.size, _, I.laid (t' := s.toks) (o := .tup []) (fun b ob q => Heap.get?_push_of_some _ q) (Nat.le_refl _) ⟨Nat.zero_le _, [], .nil, PyProof.Rows.IsTup.new _ _⟩, rfl, q _ (I.hok.fresh (Nat.le_refl _))⟩⟩⟩)
/-- * of all kinds -/
def fMulT : D → D → Option (D × Kd)
  | .tup a, .int k => if -(2 ^ 63) ≤ k ∧ k < 2 ^ 63 ∧ (a = [] ∨ k ≤ 1 ∨ (k ≤ 1000 ∧ a.length ≤ 1000)) then some (.tup (List.replicate k.toNat a).flatten, .sh) else none
  | x, y => fMul x y
def rMulT (K : PySem.W.Frag) : R2 := fun x y H Q => rRepT0 K x y H Q ∨ rMul K x y H Q
theorem op_MulT {X : Cx} : OpR X (binaryOp .Mult) (rMulT X.K) := OpR.or op_repT0 op_Mul
theorem rep_nil (k : Nat) : (List.replicate k ([] : List D)).flatten = [] := by
  induction k with
  | zero => rfl
  | succ k ih => rw [List.replicate_succ, List.flatten_cons, ih]; rfl
theorem fMulT_other {x y : D} (h : ∀ a k, x = .tup a → y = .int k → False) : fMulT x y = fMul x y := by
  unfold fMulT
  split
  · exact (h _ _ rfl rfl).elim
  · rfl
theorem o_mulT {c : Cn} : OpOk c (rMulT c.K) fMulT := by
  intro β H S x y u v d k Q s b1 b2 q1 q2 e q
  by_cases hx : ∃ a k, x = .tup a ∧ y = .int k
  · obtain ⟨as, m, rfl, rfl⟩ := hx
    simp only [fMulT] at e
    split at e
    · rename_i hz; cases e
      obtain ⟨a, vs, rfl, g1, g2⟩ := q1.tup
      rw [q2.int]
      obtain ⟨z1, z2, z3⟩ := hz
      have g1' := s.sqT g1
      have same : (as = [] ∨ m = 1) → Q (.ref a) H := fun hk => by
        refine q _ H S (Px.refl s) ?_
        have e : (List.replicate m.toNat as).flatten = as := by
          rcases hk with rfl | rfl
          · exact rep_nil _
          · simp
        rw [e]
        exact (show ∃ a' us', V.ref a = .ref a' ∧ SqT c.K S a' us' ∧ RVs c β S as us' from ⟨a, vs, rfl, g1, g2⟩)
      have nil : vs = [] ↔ as = [] := by
        have := g2.length
        constructor <;> intro z <;> subst z <;> first | exact List.eq_nil_of_length_eq_zero this.symm | exact List.eq_nil_of_length_eq_zero this
      by_cases hs : as = [] ∨ m = 1
      · exact .inl ⟨a, m, vs, rfl, rfl, g1', z1, z2, .inl ⟨by rw [nil]; exact hs, same hs⟩⟩
      · have hne : as ≠ [] := fun z => hs (.inl z)
        have hm : m ≠ 1 := fun z => hs (.inr z)
        by_cases h0 : m ≤ 0
        · refine .inl ⟨a, m, vs, rfl, rfl, g1', z1, z2, .inr ⟨fun z => hne (nil.mp z), h0, ?_⟩⟩
          have e : (List.replicate m.toNat as).flatten = [] := by rw [show m.toNat = 0 by omega]; rfl
          rw [e] at q
          exact new_tup s RVs.nil q
        · rcases z3 with z | z | ⟨z3, z4⟩
          · exact absurd z hne
          · omega
          · exact .inr (.inr (.inr ⟨a, m, vs, rfl, rfl, g1', fun z => hne (nil.mp z), by omega, z3, by rw [g2.length]; exact z4, new_tup s (g2.rep m.toNat) q⟩))
    · cases e
  · rw [fMulT_other (fun a k h1 h2 => hx ⟨a, k, h1, h2⟩)] at e
    exact .inr (o_mul β H S x y u v d k Q s b1 b2 q1 q2 e q)
end Rk

namespace Rk
open PySem PySem.Spec L2

/-! ### x[::-1] of a list, of a tuple -/
theorem fm_congr {α γ : Type} {f g : α → Option γ} : ∀ {l : List α}, (∀ x ∈ l, f x = g x) → l.filterMap f = l.filterMap g
  | [], _ => rfl
  | x :: l, h => by
    rw [List.filterMap_cons, List.filterMap_cons, h x List.mem_cons_self, fm_congr fun y hy => h y (List.mem_cons_of_mem _ hy)]
namespace Rv
open PyProof.Rows
section
variable {prog : Program} {w : World} {A : Around} {E : Value → Shared → Prop} {s : Shared}
theorem places_back (n : Nat) : Builtin.Slice.slicePlaces ((n : Int) - 1) (-1) (-1) = n := by
  unfold Builtin.Slice.slicePlaces
  rw [if_neg (by decide)]
  by_cases h : n = 0
  · subst h; rfl
  · rw [if_pos (by omega)]
    show (((n : Int) - 1 - -1 - 1) / (- -1) + 1).toNat = n
    rw [show (- -1 : Int) = 1 from rfl, Int.ediv_one]
    omega
theorem pick_back (xs : List Value) : ((List.range xs.toArray.size).filterMap fun (m : Nat) => xs.toArray[(((xs.toArray.size : Nat) : Int) - 1 + (m : Int) * -1).toNat]?) = xs.reverse := by
  have sz : xs.toArray.size = xs.length := List.size_toArray
  rw [sz]
  have e : (List.range xs.length).filterMap (fun (m : Nat) => xs.toArray[(((xs.length : Nat) : Int) - 1 + (m : Int) * -1).toNat]?) = (List.range xs.length).filterMap (fun m => xs.reverse[m]?) := by
    refine fm_congr fun m hm => ?_
    have hm := List.mem_range.mp hm
    rw [List.getElem?_reverse hm, List.getElem?_toArray]
    congr 1
    omega
  rw [e]
  have := List.length_reverse (as := xs)
  rw [← this]
  clear e sz this
  generalize xs.reverse = l
  apply List.ext_getElem?
  intro i
  have q : (List.range l.length).filterMap (fun m => l[m]?) = l := by
    have h1 : (List.range l.length).map (fun m => l[m]?) = l.map some := by
      apply List.ext_getElem
      · simp
      · intro k h1 h2
        simp at h1
        simp [h1]
    have h2 : (List.range l.length).filterMap (fun m => l[m]?) = ((List.range l.length).map (fun m => l[m]?)).filterMap id := by
      rw [List.filterMap_map]; rfl
    rw [h2, h1, List.filterMap_map]
    simp
  rw [q]
theorem item_back {t sl : Addr} {xs : List Value} {u : Tok} {R : Value → Shared → Prop} (ht : IsTup s.heap t xs.toArray) (hs : s.heap.IsSliceOf sl .none .none (.int (-1) u)) (hz : xs.length ≤ sizeLine)
    (h : R (.ref s.heap.objs.size) { s with heap := s.heap.push { cls := .type "tuple", data := .seq xs.reverse.toArray } }) : wpAny (model prog w) A (getItem (.ref t) (.ref sl)) R E s := by
  obtain ⟨os, hos, hcs, hds⟩ := id hs
  have tS : s.TypeIs (.ref sl) "slice" := ⟨os, hos, hcs⟩
  have fits : sizeOk (.seq xs.reverse.toArray) := by
    show xs.reverse.toArray.size ≤ sizeLine
    rw [List.size_toArray, List.length_reverse]; exact hz
  unfold getItem
  try with_reducible refine wpAny_holding ?_
  first | refine wpAny_bind (wpAny_pure ?_) | skip
  refine wpAny_bind (wpAny_sequenceKey ht.typeIs (by decide) (wpAny_bind (wpAny_callSpecial?_slot (name := Str.ofString "__getitem__") ht.typeIs PyProof.Rows.slot_tuple_getitem
    (wpAny_call_entry PyProof.Rows.slot_tuple_getitem ht.typeIs entry_tuple_getitem ?_ (args_tuple_getitem _ _)))))
  show wpAny _ _ (Builtin.Tuple.tupleItemsOf (.ref t) >>= _) _ _ s
  refine wpAny_bind (tupleItemsOf_ ht (wpAny_bind (wpAny_typeOf tS ?_)))
  rw [if_pos (by decide)]
  refine wpAny_bind (m := Builtin.Slice.sliceApplied (.ref sl) _) ?_
  unfold Builtin.Slice.sliceApplied Builtin.Slice.sliceFields
  refine wpAny_bind (wpAny_bind (wpAny_field hos hds (x := .none) rfl (wpAny_bind (wpAny_field hos hds (x := .none) rfl (wpAny_bind (wpAny_field hos hds (x := .int (-1) u) rfl (wpAny_pure ?_)))))))
  refine wpAny_bind (slicePart_int ?_)
  show wpAny _ _ (if ((-1 : Int) == 0) = true then _ else _) _ _ s
  rw [if_neg (by decide)]
  refine wpAny_bind (slicePart_none (wpAny_bind (slicePart_none (wpAny_bind (wpAny_pure ?_)))))
  show wpAny _ _ (pure ((((xs.toArray.size : Nat) : Int) - 1), (-1 : Int), Builtin.Slice.slicePlaces (((xs.toArray.size : Nat) : Int) - 1) (-1) (-1))) _ _ s
  rw [places_back]
  refine wpAny_pure ?_
  have no : ¬ ((((xs.toArray.size : Nat) : Int) - 1 == 0 && (-1 : Int) == 1 && xs.toArray.size == xs.toArray.size) = true) := by
    rw [show ((-1 : Int) == 1) = false from rfl, Bool.and_false, Bool.false_and]; exact Bool.false_ne_true
  show wpAny _ _ (if ((((xs.toArray.size : Nat) : Int) - 1 == 0 && (-1 : Int) == 1 && xs.toArray.size == xs.toArray.size) = true) then _ else _) _ _ s
  rw [if_neg no, pick_back]
  first
    | exact wpAny_bind (m := Builtin.Tuple.tupleExact _) (wpAny_newObj_type (wpAny_pure ⟨_, rfl, wpAny_pure h⟩) fits)
    | exact wpAny_bind (m := Builtin.Tuple.tupleExact _) (wpAny_newObj_type (wpAny_bind (wpAny_pure (wpAny_pure ⟨_, rfl, wpAny_pure h⟩))) fits)
    | exact wpAny_bind (wpAny_bind (m := Builtin.Tuple.tupleExact _) (wpAny_newObj_type (wpAny_pure (wpAny_pure ⟨_, rfl, wpAny_pure h⟩)) fits))
    | exact wpAny_bind (wpAny_bind (m := Builtin.Tuple.tupleExact _) (wpAny_newObj_type (wpAny_pure ⟨_, rfl, wpAny_pure h⟩) fits))
end
end Rv
open PyProof.Rows in
def tRev (K : PySem.W.Frag) (te : TE) : TE := fun σ H Q => te σ H fun x H1 => (∃ a xs, x = .ref a ∧ SqL K H1 a xs ∧ ∀ p, H1 p = none → Q (.ref p) (upd H1 p (.lst xs.reverse))) ∨ (∃ a xs, x = .ref a ∧ SqT K H1 a xs ∧ ∀ p, H1 p = none → Q (.ref p) (upd H1 p (.tup xs.reverse)))
open PyProof.Rows in
theorem pe_rev {X : Cx} {e : Expr} {te : TE} {k : Nat} {p1 p2 p3 pos : Pos} (he : PE X e te) : PE X (.Subscript e (.Slice none none (some (.UnaryOp .USub (.Constant (.int 1) k p1) p2)) p3) pos) (tRev X.K te) := by
  refine ⟨fun pins s σ H Q I h => Subscript_ (thn (he.run pins s σ H _ I h) fun v s1 ⟨x, H1, I1, r1, q1⟩ => ?_)⟩
  have hst : PO X (some (.UnaryOp .USub (.Constant (.int 1) k p1) p2)) (tPart (tUn (rU fun i => .int (-i)) (tC (.int 1)))) := po_some (pe_un un_neg pe_int)
  refine wpAny_Slice (thn (po_none.run pins s1 σ H1 (fun o G => o = none ∧ G = H1) I1 ⟨rfl, rfl⟩) fun vl s2 ⟨l, G, I2, pl, el, e2⟩ => ?_)
  subst el e2
  refine thn (po_none.run pins s2 σ G (fun o F => o = none ∧ F = G) I2 ⟨rfl, rfl⟩) fun vu s3 ⟨u, F, I3, pu, eu, e3⟩ => ?_
  subst eu e3
  refine thn (hst.run pins s3 σ F (fun o T => o = some (-1) ∧ T = F) I3 ⟨1, rfl, -1, rfl, rfl, rfl⟩) fun vs s4 ⟨o, T, I4, ps, eo, e4⟩ => ?_
  subst eo e4
  cases pl
  cases pu
  cases ps with
  | int i tk =>
  have I5 : Inv X pins σ T { s4 with heap := s4.heap.push { cls := .type "slice", data := .fields #[.none, .none, .int (-1) tk] } } := I4.kept (t' := s4.toks) fun b ob q => Heap.get?_push_of_some _ q
  rcases q1 with ⟨a, xs, ex, hx, q⟩ | ⟨a, xs, ex, hx, q⟩
  · subst ex
    cases r1
    obtain ⟨its, r, ht, hz⟩ := I5.list hx
    have hlen := r.length
    show wpAny (model X.prog X.w) X.A (subscriptTail e (.Slice none none (some (.UnaryOp .USub (.Constant (.int 1) k p1) p2)) p3) (.ref a) (.ref s4.heap.objs.size)) (EP X pins σ Q) X.xe { s4 with heap := s4.heap.push { cls := .type "slice", data := .fields #[.none, .none, .int (-1) tk] } }
    refine tail_any (ops := [.ref a, .ref s4.heap.objs.size]) ht.isList.typeIs (PySem.slot_list_getitem.lookup) (wpAny_getItem_list_slice ht.isList (Heap.IsSliceOf.new _ .none .none (.int (-1) tk)) .none .none (.int (-1) tk) (by decide) ?_ (by rw [List.size_toArray]; omega)) (by with_unfolding_all rfl)
    rw [PySem.W.krv_pick]
    exact ⟨.ref _, _, I5.laid (t' := s4.toks) (o := .lst xs.reverse) (fun b ob q => Heap.get?_push_of_some _ q) (Nat.le_refl _) ⟨by rw [List.length_reverse]; exact hz, _, 0, r.reverse, Heap.get?_push_size _ rfl⟩, rfl, q _ (I5.hok.fresh (Nat.le_refl _))⟩
  · subst ex
    cases r1
    obtain ⟨its, r, ht, hz⟩ := I5.tuple hx
    have hlen := r.length
    show wpAny (model X.prog X.w) X.A (subscriptTail e (.Slice none none (some (.UnaryOp .USub (.Constant (.int 1) k p1) p2)) p3) (.ref a) (.ref s4.heap.objs.size)) (EP X pins σ Q) X.xe { s4 with heap := s4.heap.push { cls := .type "slice", data := .fields #[.none, .none, .int (-1) tk] } }
    refine tail_any (ops := [.ref a, .ref s4.heap.objs.size]) ht.typeIs PyProof.Rows.slot_tuple_getitem.lookup (Rv.item_back ht (Heap.IsSliceOf.new _ .none .none (.int (-1) tk)) (by omega) ?_) (by with_unfolding_all rfl)
    exact ⟨.ref _, _, I5.laid (t' := s4.toks) (o := .tup xs.reverse) (fun b ob q => Heap.get?_push_of_some _ q) (Nat.le_refl _) ⟨by rw [List.length_reverse]; exact hz, _, r.reverse, IsTup.new _ _⟩, rfl, q _ (I5.hok.fresh (Nat.le_refl _))⟩
def fRev : D → Option (D × Kd)
  | .lst ds => some (.lst ds.reverse, .fr)
  | .tup ds => some (.tup ds.reverse, .sh)
  | _ => none
def rRev (K : PySem.W.Frag) : V → Hp → VK → Prop := fun x H1 Q => (∃ a xs, x = .ref a ∧ SqL K H1 a xs ∧ ∀ p, H1 p = none → Q (.ref p) (upd H1 p (.lst xs.reverse))) ∨ (∃ a xs, x = .ref a ∧ SqT K H1 a xs ∧ ∀ p, H1 p = none → Q (.ref p) (upd H1 p (.tup xs.reverse)))
theorem o_rev {c : Cn} : UnOk c (rRev c.K) fRev := by
  intro β H S x u d k Q s b1 b2 q1 e q
  cases x <;> first | (simp only [fRev] at e; cases e; done) | skip
  · simp only [fRev] at e; cases e
    obtain ⟨a, vs, rfl, g1, g2⟩ := q1.tup
    exact .inr ⟨a, vs, rfl, s.sqT g1, new_tup s g2.reverse q⟩
  · simp only [fRev] at e; cases e
    obtain ⟨a, vs, rfl, g1, g2⟩ := q1.lr s
    exact .inl ⟨a, vs, rfl, .inl (.inl g1), new_lst s b2 g2.reverse q⟩
theorem s_rev {X : Cx} {W : WX} {e : Expr} {m : EM} {k : Nat} {p1 p2 p3 pos : Pos} (ha : PE X e (tE (cnOf X) m W)) : PE X (.Subscript e (.Slice none none (some (.UnaryOp .USub (.Constant (.int 1) k p1) p2)) p3) pos) (tE (cnOf X) (e1 fRev m) W) :=
  s_e1 (r := rRev X.K) o_rev (fun h => pe_rev h) ha

/-! ### list(range(..)), tuple(range(..)) -/
def rgOk (a b : Int) : Bool := decide (-1000000 ≤ a) && decide (a ≤ 1000000) && decide (-1000000 ≤ b) && decide (b ≤ 1000000)
theorem rgOk_of {a b : Int} (h : rgOk a b = true) : RgOk a b := by
  unfold rgOk at h
  simp only [Bool.and_eq_true, decide_eq_true_eq] at h
  exact ⟨by omega, by omega, by omega, by omega, by omega⟩
theorem rgV_rng {c : Cn} {β : Option Addr} {S : Hp} (a b : Int) : RVs c β S (rngD a (b - a).toNat) (rgV a b) := by
  unfold rngD rgV
  generalize List.range (b - a).toNat = l
  induction l with
  | nil => exact .nil
  | cons n l ih => exact .cons (show V.int (a + (n : Nat)) = V.int _ from rfl) ih
/-- the ends of a range, then what comes of it -/
def eRng (tp : Bool) (l : LM) : EM := fun δ b => match l δ b with
  | .ok [.int i, .int j] b1 => if rgOk i j = true then (if tp = true then .ok (.tup (rngD i (j - i).toNat)) .sh b1 else .ok (.lst (rngD i (j - i).toNat)) .fr b1) else .bad
  | .ok [.int j] b1 => if rgOk 0 j = true then (if tp = true then .ok (.tup (rngD 0 (j - 0).toNat)) .sh b1 else .ok (.lst (rngD 0 (j - 0).toNat)) .fr b1) else .bad
  | .ok _ _ => .bad
  | .exc x fs b => .exc x fs b
  | .bad => .bad
section
variable {X : Cx} {W : WX} {e : Expr} {ma mb : EM} {p pos p2 pos2 : Pos}
theorem one_ok {m : EM} {δ : Slots} {b : Bx} : rCons m lNil δ b = match m δ b with
    | .ok d _ b1 => .ok [d] b1
    | .exc x fs b => .exc x fs b
    | .bad => .bad := by
  unfold rCons lNil
  cases m δ b <;> rfl
theorem two_ok {m n : EM} {δ : Slots} {b : Bx} : rCons m (rCons n lNil) δ b = match m δ b with
    | .ok d _ b1 => (match n δ b1 with
      | .ok d' _ b2 => .ok [d, d'] b2
      | .exc x fs b => .exc x fs b
      | .bad => .bad)
    | .exc x fs b => .exc x fs b
    | .bad => .bad := by
  unfold rCons lNil
  cases m δ b with
  | ok d k b1 =>
    dsimp only
    cases n δ b1 <;> rfl
  | _ => rfl
theorem rng1_reads {c : Cn} {tp : Bool} {σ : L2.St} {H : Hp} {Q : VK} {K : PySem.W.Frag} (hK : K = c.K) (h : tE c (eRng tp (rCons ma lNil)) W σ H Q) :
    tRg1 (tE c ma W) σ H fun a b H1 => RgOk a b ∧ ∀ q, H1 q = none → Q (.ref q) (upd H1 q (if tp = true then .tup (rgV a b) else .lst (rgV a b))) := by
  obtain ⟨β, H0, S0, S, δ, b, rs, h⟩ := h
  refine ⟨β, H0, S0, S, δ, b, rs, ?_⟩
  unfold eRng at h
  rw [one_ok] at h
  cases e1 : ma δ b with
  | bad => rw [e1] at h; exact h
  | exc x fs b1 => rw [e1] at h; exact h
  | ok d kd b1 =>
    rw [e1] at h
    intro v H1 S1 x1 hb1 q1
    have rs1 := rs.step x1 hb1
    dsimp only at h
    cases d with
    | int j =>
      dsimp only at h
      split at h
      · rename_i ho
        refine ⟨j, q1.rd.int, rgOk_of ho, fun q hq => ?_⟩
        cases tp with
        | true => exact new_tup x1.sub (rgV_rng 0 j) (fun w H' S' x r => h w H' S' (x1.trans x.ext) (x.bx hb1) (r.back x1)) q hq
        | false => exact new_lst x1.sub (fun a ea => by rw [rs1.bx a ea]; simp) (rgV_rng 0 j) (fun w H' S' x r => h w H' S' (x1.trans x.ext) (x.bx hb1) (r.back x1)) q hq
      · exact h.elim
    | _ => exact h.elim
theorem rng2_reads {c : Cn} {tp : Bool} {σ : L2.St} {H : Hp} {Q : VK} (h : tE c (eRng tp (rCons ma (rCons mb lNil))) W σ H Q) :
    tRg2 (tE c ma W) (tE c mb W) σ H fun a b H1 => RgOk a b ∧ ∀ q, H1 q = none → Q (.ref q) (upd H1 q (if tp = true then .tup (rgV a b) else .lst (rgV a b))) := by
  obtain ⟨β, H0, S0, S, δ, b, rs, h⟩ := h
  refine ⟨β, H0, S0, S, δ, b, rs, ?_⟩
  unfold eRng at h
  rw [two_ok] at h
  cases e1 : ma δ b with
  | bad => rw [e1] at h; exact h
  | exc x fs b1 => rw [e1] at h; exact h
  | ok d kd b1 =>
    rw [e1] at h
    intro v H1 S1 x1 hb1 q1
    have rs1 := rs.step x1 hb1
    refine ⟨β, H0, S0, S1, δ, b1, rs1, ?_⟩
    dsimp only at h
    cases e2 : mb δ b1 with
    | bad => rw [e2] at h; exact h
    | exc x fs b2 => rw [e2] at h; exact fun cls dx H' S' e hb q => h cls dx H' S' (x1.trans e) hb q
    | ok d2 kd2 b2 =>
      rw [e2] at h
      intro u H2 S2 x2 hb2 q2
      have rs2 := rs1.step x2 hb2
      have x12 := x1.trans x2
      dsimp only at h
      cases d with
      | int i =>
        cases d2 with
        | int j =>
          dsimp only at h
          split at h
          · rename_i ho
            refine ⟨i, j, q1.rd.int, q2.rd.int, rgOk_of ho, fun q hq => ?_⟩
            cases tp with
            | true => exact new_tup x2.sub (rgV_rng i j) (fun w H' S' x r => h w H' S' (x12.trans x.ext) (x.bx hb2) (r.back x12)) q hq
            | false => exact new_lst x2.sub (fun a ea => by rw [rs2.bx a ea]; simp) (rgV_rng i j) (fun w H' S' x r => h w H' S' (x12.trans x.ext) (x.bx hb2) (r.back x12)) q hq
          · exact h.elim
        | _ => exact h.elim
      | _ => cases d2 <;> exact h.elim
theorem s_listRg1 (hc : X.calm = true) (hg : Gl X "list") (hm : X.mg "list" = none) (hgr : Gl X "range") (hmr : X.mg "range" = none) (ha : PE X e (tE (cnOf X) ma W)) (na : starEach [e] X.env = (false, eval e X.env) :: starEach [] X.env := by rfl) :
    PE X (.Call (.Name "list" p) [.Call (.Name "range" p2) [e] [] pos2] [] pos) (tE (cnOf X) (eRng false (rCons ma lNil)) W) :=
  (pe_listRg hc hg hm (prg_1 hgr hmr ha na)).imp fun σ H Q h => rng1_reads (K := X.K) rfl h
theorem s_tupRg1 (hc : X.calm = true) (hg : Gl X "tuple") (hm : X.mg "tuple" = none) (hgr : Gl X "range") (hmr : X.mg "range" = none) (ha : PE X e (tE (cnOf X) ma W)) (na : starEach [e] X.env = (false, eval e X.env) :: starEach [] X.env := by rfl) :
    PE X (.Call (.Name "tuple" p) [.Call (.Name "range" p2) [e] [] pos2] [] pos) (tE (cnOf X) (eRng true (rCons ma lNil)) W) :=
  (pe_tupRg hc hg hm (prg_1 hgr hmr ha na)).imp fun σ H Q h => rng1_reads (K := X.K) rfl h
theorem s_listRg2 {e2 : Expr} (hc : X.calm = true) (hg : Gl X "list") (hm : X.mg "list" = none) (hgr : Gl X "range") (hmr : X.mg "range" = none) (ha : PE X e (tE (cnOf X) ma W)) (hb : PE X e2 (tE (cnOf X) mb W)) (na : starEach [e, e2] X.env = (false, eval e X.env) :: starEach [e2] X.env := by rfl)
    (nb : starEach [e2] X.env = (false, eval e2 X.env) :: starEach [] X.env := by rfl) (hp : (backTo pos2 (starEach [e2] X.env)).any (·.1) = false := by rfl) (nl : starEach [Expr.Call (.Name "range" p2) [e, e2] [] pos2] X.env = (false, eval (Expr.Call (.Name "range" p2) [e, e2] [] pos2) X.env) :: starEach [] X.env := by rfl) :
    PE X (.Call (.Name "list" p) [.Call (.Name "range" p2) [e, e2] [] pos2] [] pos) (tE (cnOf X) (eRng false (rCons ma (rCons mb lNil))) W) :=
  (pe_listRg hc hg hm (prg_2 hgr hmr ha hb na nb hp) nl).imp fun σ H Q h => rng2_reads h
theorem s_tupRg2 {e2 : Expr} (hc : X.calm = true) (hg : Gl X "tuple") (hm : X.mg "tuple" = none) (hgr : Gl X "range") (hmr : X.mg "range" = none) (ha : PE X e (tE (cnOf X) ma W)) (hb : PE X e2 (tE (cnOf X) mb W)) (na : starEach [e, e2] X.env = (false, eval e X.env) :: starEach [e2] X.env := by rfl)
    (nb : starEach [e2] X.env = (false, eval e2 X.env) :: starEach [] X.env := by rfl) (hp : (backTo pos2 (starEach [e2] X.env)).any (·.1) = false := by rfl) (nl : starEach [Expr.Call (.Name "range" p2) [e, e2] [] pos2] X.env = (false, eval (Expr.Call (.Name "range" p2) [e, e2] [] pos2) X.env) :: starEach [] X.env := by rfl) :
    PE X (.Call (.Name "tuple" p) [.Call (.Name "range" p2) [e, e2] [] pos2] [] pos) (tE (cnOf X) (eRng true (rCons ma (rCons mb lNil))) W) :=
  (pe_tupRg hc hg hm (prg_2 hgr hmr ha hb na nb hp) nl).imp fun σ H Q h => rng2_reads h
end
end Rk

namespace Rk
open PySem PySem.Spec L2

theorem iop_Mul {X : Cx} : OpR X (inplaceOp .Mult) (rI CMul fun i j => .int (i * j)) := iop_mul

/-! ### changes of lists that a name owns, of the box -/
theorem slots_keep {δ : Slots} {i j : Nat} {y : Sl} (e : (δ.set i Sl.none)[j]? = some y) (n : y ≠ Sl.none) : j ≠ i ∧ δ[j]? = some y := by
  by_cases hj : j = i
  · subst hj
    rcases Nat.lt_or_ge j δ.length with q | q
    · rw [List.getElem?_set_self q] at e; exact absurd (Option.some.inj e).symm n
    · rw [List.getElem?_eq_none (by simpa using q)] at e; cases e
  · rw [List.getElem?_set_ne (Ne.symm hj)] at e; exact ⟨hj, e⟩
/-- the slot forgotten, the name as it was -/
theorem RS.forget {c : Cn} {β : Option Addr} {H0 S0 H S : Hp} {δ : Slots} {σ : L2.St} {b : Bx} (i : Nat) (r : RS c β H0 S0 H S δ σ b) : RS c β H0 S0 H S (δ.set i .none) σ b := by
  refine ⟨r.ext, by simp [r.len], r.bx, r.bs, fun j d e => ?_, fun j es e => ?_, fun j l es fs a n e1 e2 e3 => ?_⟩
  · exact r.val j d (slots_keep e (by intro z; cases z)).2
  · exact r.own j es (slots_keep e (by intro z; cases z)).2
  · exact r.dis j l es fs a n (slots_keep e1 (by intro z; cases z)).2 (slots_keep e2 (by intro z; cases z)).2 e3
/-- what stands at a name that owns a list -/
theorem RS.mut {c : Cn} {β : Option Addr} {H0 S0 H S : Hp} {δ : Slots} {σ : L2.St} {b : Bx} {i : Nat} {ds es : List D} {a : Addr} {us : List V} (r : RS c β H0 S0 H S δ σ b) (e : δ[i]? = some (.own ds)) (ha : σ[i]? = some (some (.ref a))) (q : RVs c β S es us) :
    RS c β H0 S0 (upd H a (.lst us)) S (δ.set i (.own es)) σ b := by
  obtain ⟨a', vs, h1, h2, h3, h4, h5, h6⟩ := r.own i ds e
  rw [ha] at h1
  cases h1
  have r1 := (r.forget i).poke (o := .lst us) h2 h3 h4 h5 fun j fs e1 e2 => by
    obtain ⟨hj, e1⟩ := slots_keep e1 (by intro z; cases z)
    exact r.dis i j ds fs a (Ne.symm hj) e e1 ha e2
  have r2 := r1.setO (vs := us) i h2 upd_same h4 h5 q fun j fs hj e1 e2 => by
    obtain ⟨_, e1⟩ := slots_keep e1 (by intro z; cases z)
    exact r.dis i j ds fs a (Ne.symm hj) e e1 ha e2
  rw [List.set_set, set_same ha] at r2
  exact r2
/-- other numbers in the box -/
theorem RS.rebox {c : Cn} {β : Option Addr} {H0 S0 H S : Hp} {δ : Slots} {σ : L2.St} {b b' : Bx} {a : Addr} (r : RS c β H0 S0 H S δ σ b) (e : β = some a) : RS c β H0 S0 (upd H a (boxO b')) S δ σ b' := by
  refine ⟨⟨fun p w h n => ?_, fun p h => ?_, r.ext.ss, r.ext.nw, fun p w h => ?_⟩, r.len, fun p ep => ?_, r.bs, r.val, fun i ds ei => ?_, r.dis⟩
  · have : p ≠ a := fun q => n (by rw [q]; exact e)
    rw [upd_ne this]; exact r.ext.hh p w h n
  · by_cases q : p = a
    · rw [q, upd_same]; simp
    · rw [upd_ne q]; exact r.ext.bx p h
  · have : p ≠ a := fun q => by rw [q, r.bs a e] at h; cases h
    rw [upd_ne this]; exact r.sub p w h
  · have : p = a := by rw [e] at ep; exact (Option.some.inj ep).symm
    rw [this, upd_same]
  · obtain ⟨p, vs, h1, h2, h3, h4, h5, h6⟩ := r.own i ds ei
    have : p ≠ a := fun q => h5 (by rw [q]; exact e)
    exact ⟨p, vs, h1, h2, by rw [upd_ne this]; exact h3, h4, h5, h6⟩

/-! ### name op= value -/
def sAug (f : D → D → Option (D × Kd)) (i : Nat) (m : EM) : SM := fun δ b => match δ[i]? with
  | some (.val x) => (match m δ b with
    | .ok y _ b1 => (match f x y with
      | some (d, k) => (match putSl i d k δ with
        | some δ1 => .nx δ1 b1
        | none => .bad)
      | none => .bad)
    | .exc x fs b => .exc x fs δ b
    | .bad => .bad)
  | _ => .bad
section
variable {X : Cx} {W : WX} {e : Expr} {m : EM} {pos : Pos}
theorem s_aug {i : Nat} {x : Str} {p : Pos} {op : Operator} {r : R2} {f : D → D → Option (D × Kd)} (o : OpOk (cnOf X) r f) (ho : PIp X op r) (hN : X.N.Nodup) (hi : X.N[i]? = some x) (hx : Loc X.env.scope x)
    (hf : X.fn x = true ∨ X.env.scope.names.lookup x = some .local) (h : PE X e (tE (cnOf X) m W)) : PS X (.AugAssign (.Name x p) op e pos) (tS (cnOf X) (sAug f i m) W) := by
  refine (ps_aug hN hi hx h ho hf).imp fun E σ H q => ?_
  obtain ⟨β, H0, S0, S, δ, b, rs, q⟩ := q
  unfold sAug at q
  cases e0 : δ[i]? with
  | none => rw [e0] at q; exact q.elim
  | some sl =>
    rw [e0] at q
    cases sl with
    | none => exact q.elim
    | own ds => exact q.elim
    | val xv =>
      dsimp only at q
      obtain ⟨v, g1, g2⟩ := rs.val i xv e0
      refine ⟨v, g1, β, H0, S0, S, δ, b, rs, ?_⟩
      cases e1 : m δ b with
      | bad => rw [e1] at q; exact q
      | exc y fs b1 => rw [e1] at q; exact tE_exc rs q
      | ok y ky b1 =>
        rw [e1] at q
        intro u H1 S1 x1 hb1 q1
        have rs1 := rs.step x1 hb1
        dsimp only at q
        cases e2 : f xv y with
        | none => rw [e2] at q; exact q.elim
        | some dk =>
          obtain ⟨d, kd⟩ := dk
          rw [e2] at q
          dsimp only at q
          cases e3 : putSl i d kd δ with
          | none => rw [e3] at q; exact q.elim
          | some δ1 =>
            rw [e3] at q
            refine o β H1 S1 xv y v u d kd _ x1.sub rs1.bs (fun a ea => by rw [rs1.bx a ea]; simp) (.inl (RV.mono x1.ss g2)) q1.rd e2 fun w H2 S2 x2 q2 => ?_
            exact q _ H2 S2 (rs1.put x2.ext (x2.bx hb1) q2 e3)
end

/-! ### xs.append(e), xs.extend(e), xs.remove(e), found.append(pool.pop(e)) -/
def own? (i : Nat) (δ : Slots) : Option (List D) := match δ[i]? with
  | some (.own ds) => some ds
  | _ => none
theorem own?_eq {i : Nat} {δ : Slots} {ds : List D} (h : own? i δ = some ds) : δ[i]? = some (.own ds) := by
  unfold own? at h
  split at h
  · rename_i es q; cases h; exact q
  · cases h
def sApp (i : Nat) (m : EM) : SM := fun δ b => match own? i δ with
  | none => .bad
  | some ds => match esh m δ b with
    | .ok d _ b1 => if ds.length ≤ big then .nx (δ.set i (.own (ds ++ [d]))) b1 else .bad
    | .exc x fs b => .exc x fs δ b
    | .bad => .bad
/-- a list that no one has, or that a name has, or that is shared: read alone -/
def sExt (i : Nat) (m : EM) : SM := fun δ b => match own? i δ with
  | none => .bad
  | some ds => match m δ b with
    | .ok (.lst es) _ b1 => if ds.length + es.length ≤ big then .nx (δ.set i (.own (ds ++ es))) b1 else .bad
    | .ok _ _ _ => .bad
    | .exc x fs b => .exc x fs δ b
    | .bad => .bad
def sRem (i : Nat) (m : EM) : SM := fun δ b => match own? i δ with
  | none => .bad
  | some ds => match m δ b with
    | .ok (.int k) _ b1 => (match intsD ds with
      | some ns => if k ∈ ns then .nx (δ.set i (.own ((ns.erase k).map D.int))) b1 else .bad
      | none => .bad)
    | .ok _ _ _ => .bad
    | .exc x fs b => .exc x fs δ b
    | .bad => .bad
/-- found.append(pool.pop(e)) -/
def sPick (i j : Nat) (m : EM) : SM := fun δ b => match own? i δ, own? j δ with
  | some fs, some ps => if i = j then .bad else match m δ b with
    | .ok (.int k) _ b1 => (match ixN ps.length k with
      | some n => (match ps[n]? with
        | some d => if fs.length ≤ big ∧ ps.length ≤ big then .nx ((δ.set j (.own (ps.eraseIdx n))).set i (.own (fs ++ [d]))) b1 else .bad
        | none => .bad)
      | none => .bad)
    | .ok _ _ _ => .bad
    | .exc x fs b => .exc x fs δ b
    | .bad => .bad
  | _, _ => .bad
/-- xs[e] = v: xs a list that a name owns, or the box -/
def setBx (b : Bx) (k : Int) (v : Int) : Option Bx := if k = 0 then some ⟨v, b.y, b.z⟩ else if k = 1 then some ⟨b.x, v, b.z⟩ else if k = 2 then some ⟨b.x, b.y, v⟩ else none
def sSet (i : Nat) (mk mv : EM) : SM := fun δ b => match esh mv δ b with
  | .ok v _ b1 => (match δ[i]? with
    | some (.own ds) => (match mk δ b1 with
      | .ok (.int k) _ b2 => (match ixN ds.length k with
        | some n => .nx (δ.set i (.own (ds.set n v))) b2
        | none => .bad)
      | .ok _ _ _ => .bad
      | .exc x fs b => .exc x fs δ b
      | .bad => .bad)
    | some (.val .box) => (match mk δ b1 with
      | .ok (.int k) _ b2 => (match v with
        | .int z => (match setBx b2 k z with
          | some b3 => .nx δ b3
          | none => .bad)
        | _ => .bad)
      | .ok _ _ _ => .bad
      | .exc x fs b => .exc x fs δ b
      | .bad => .bad)
    | _ => .bad)
  | .exc x fs b => .exc x fs δ b
  | .bad => .bad
section
variable {X : Cx} {W : WX} {e : Expr} {m : EM} {pos : Pos}
theorem esh_sh {m : EM} {δ : Slots} {b b1 : Bx} {d : D} {k : Kd} (h : esh m δ b = .ok d k b1) : k = .sh := by
  unfold esh at h
  cases e : m δ b with
  | ok d' k' b' => rw [e] at h; cases k' <;> first | cases h; rfl | cases h
  | exc x fs b' => rw [e] at h; cases h
  | bad => rw [e] at h; cases h
theorem big_ok {n : Nat} (h : n ≤ big) : n < sizeLine := by rw [sizeLine_eq]; unfold big at h; omega
theorem OutS.exc_of {c : Cn} {β : Option Addr} {H0 S0 H S : Hp} {δ : Slots} {σ : L2.St} {b b1 : Bx} {E : Ends} {Q : VK} {x : Str} {fs : List D} (r : RS c β H0 S0 H S δ σ b) (h : OutS c β W H0 S0 E (.exc x fs δ b1)) : OutE c β W σ H S Q (.exc x fs b1) := tE_exc r h
/-- the name of a list in front of a method: its reading -/
theorem own_var {c : Cn} {β : Option Addr} {H0 S0 H S : Hp} {δ : Slots} {σ : L2.St} {b : Bx} {i : Nat} {ds : List D} (rs : RS c β H0 S0 H S δ σ b) (h : own? i δ = some ds) :
    ∃ a vs, σ[i]? = some (some (.ref a)) ∧ H a = some (.lst vs) ∧ RVs c β S ds vs ∧ β ≠ some a := by
  obtain ⟨a, vs, h1, h2, h3, h4, h5, h6⟩ := rs.own i ds (own?_eq h)
  exact ⟨a, vs, h1, h3, h6, h5⟩
theorem s_app {i : Nat} {x : Str} {p ap cp : Pos} (hi : X.N[i]? = some x) (hv : Vis X.env.scope x) (hd : (x == ("__debug__" : Str)) = false) (hcd : (x == ("__classdict__" : Str)) = false) (h : PE X e (tE (cnOf X) m W))
    (hs : swapsWith (.Call (.Attribute (.Name x p) "append" ap) [e] [] cp) none pos.line X.env = pure false := by rfl)
    (hbase : attributeBase (.Name x p) "append" X.env (eval (.Name x p) X.env) = eval (.Name x p) X.env := by rfl)
    (hfew : ((backTo cp (starEach [e] X.env)).all (fun x => !x.1) && (backToKw cp (keywordEach [] X.env)).all (fun x => x.1.isSome)
      && decide (([e] : List Expr).length + ([] : List Keyword).length + (if ([] : List Keyword).isEmpty then 0 else 1) < 30)) = true := by rfl)
    (hline : (ap.endLine == cp.line) = true := by rfl) (hst : starEach [e] X.env = (false, eval e X.env) :: starEach [] X.env := by rfl) :
    PS X (.Expr (.Call (.Attribute (.Name x p) "append" ap) [e] [] cp) pos) (tS (cnOf X) (sApp i m) W) := by
  refine (ps_expr (pe_bm PySem.F.plainAttrs_list PySem.F.slot_list_append PySem.F.type_list_append mt_append (pe_var hi hv hd hcd) (pa_cons (s_esh h) pa_nil hst) hbase hfew hline hst rfl) hs).imp fun E σ H q => ?_
  obtain ⟨β, H0, S0, S, δ, b, rs, q⟩ := q
  unfold sApp at q
  cases e1 : own? i δ with
  | none => rw [e1] at q; exact q.elim
  | some ds =>
    rw [e1] at q
    obtain ⟨a, vs, h1, h3, h6, h5⟩ := own_var rs e1
    refine ⟨.ref a, h1, .inl ⟨rfl, vs, .inl (.inl h3)⟩, β, H0, S0, S, δ, b, rs, ?_⟩
    dsimp only at q
    cases e2 : esh m δ b with
    | bad => rw [e2] at q; exact q
    | exc y fs b1 => rw [e2] at q; exact tE_exc rs q
    | ok d kd b1 =>
      rw [e2] at q
      dsimp only at q
      split at q
      · rename_i hz
        intro v H1 S1 x1 hb1 q1
        have rs1 := rs.step x1 hb1
        obtain ⟨a', us, g1, g3, g6, g5⟩ := own_var rs1 e1
        rw [h1] at g1
        cases g1
        cases esh_sh e2
        have qv : RV (cnOf X) β S1 d v := q1
        refine ⟨a, us, v, rfl, rfl, g3, big_ok (by rw [g6.length]; exact hz), q _ _ S1 (rs1.mut (own?_eq e1) h1 (g6.append (.cons qv .nil)))⟩
      · exact q.elim
theorem s_ext {i : Nat} {x : Str} {p ap cp : Pos} (hi : X.N[i]? = some x) (hv : Vis X.env.scope x) (hd : (x == ("__debug__" : Str)) = false) (hcd : (x == ("__classdict__" : Str)) = false) (h : PE X e (tE (cnOf X) m W))
    (hs : swapsWith (.Call (.Attribute (.Name x p) "extend" ap) [e] [] cp) none pos.line X.env = pure false := by rfl)
    (hbase : attributeBase (.Name x p) "extend" X.env (eval (.Name x p) X.env) = eval (.Name x p) X.env := by rfl)
    (hfew : ((backTo cp (starEach [e] X.env)).all (fun x => !x.1) && (backToKw cp (keywordEach [] X.env)).all (fun x => x.1.isSome)
      && decide (([e] : List Expr).length + ([] : List Keyword).length + (if ([] : List Keyword).isEmpty then 0 else 1) < 30)) = true := by rfl)
    (hline : (ap.endLine == cp.line) = true := by rfl) (hst : starEach [e] X.env = (false, eval e X.env) :: starEach [] X.env := by rfl) :
    PS X (.Expr (.Call (.Attribute (.Name x p) "extend" ap) [e] [] cp) pos) (tS (cnOf X) (sExt i m) W) := by
  refine (ps_expr (pe_bm PySem.F.plainAttrs_list PySem.F.slot_list_extend PySem.F.type_list_extend mt_extend (pe_var hi hv hd hcd) (pa_cons h pa_nil hst) hbase hfew hline hst rfl) hs).imp fun E σ H q => ?_
  obtain ⟨β, H0, S0, S, δ, b, rs, q⟩ := q
  unfold sExt at q
  cases e1 : own? i δ with
  | none => rw [e1] at q; exact q.elim
  | some ds =>
    rw [e1] at q
    obtain ⟨a, vs, h1, h3, h6, h5⟩ := own_var rs e1
    refine ⟨.ref a, h1, .inl ⟨rfl, vs, .inl (.inl h3)⟩, β, H0, S0, S, δ, b, rs, ?_⟩
    dsimp only at q
    cases e2 : m δ b with
    | bad => rw [e2] at q; exact q
    | exc y fs b1 => rw [e2] at q; exact tE_exc rs q
    | ok d kd b1 =>
      rw [e2] at q
      cases d <;> first | exact q.elim | skip
      rename_i es
      dsimp only at q
      split at q
      · rename_i hz
        intro v H1 S1 x1 hb1 q1
        have rs1 := rs.step x1 hb1
        obtain ⟨a', us, g1, g3, g6, g5⟩ := own_var rs1 e1
        rw [h1] at g1
        cases g1
        obtain ⟨p, ws, rfl, k1, k2⟩ := q1.rd.lr x1.sub
        exact ⟨a, p, us, ws, rfl, rfl, g3, k1, Nat.le_of_lt (big_ok (by rw [g6.length, k2.length]; exact hz)), q _ _ S1 (rs1.mut (own?_eq e1) h1 (g6.append k2))⟩
      · exact q.elim
theorem s_rem {i : Nat} {x : Str} {p ap cp : Pos} (hc : X.calm = true) (tk : Takes X W) (hi : X.N[i]? = some x) (hv : Vis X.env.scope x) (hd : (x == ("__debug__" : Str)) = false) (hcd : (x == ("__classdict__" : Str)) = false) (h : PE X e (tE (cnOf X) m W))
    (hs : swapsWith (.Call (.Attribute (.Name x p) "remove" ap) [e] [] cp) none pos.line X.env = pure false := by rfl)
    (hbase : attributeBase (.Name x p) "remove" X.env (eval (.Name x p) X.env) = eval (.Name x p) X.env := by rfl)
    (hfew : ((backTo cp (starEach [e] X.env)).all (fun x => !x.1) && (backToKw cp (keywordEach [] X.env)).all (fun x => x.1.isSome)
      && decide (([e] : List Expr).length + ([] : List Keyword).length + (if ([] : List Keyword).isEmpty then 0 else 1) < 30)) = true := by rfl)
    (hline : (ap.endLine == cp.line) = true := by rfl) (hst : starEach [e] X.env = (false, eval e X.env) :: starEach [] X.env := by rfl) :
    PS X (.Expr (.Call (.Attribute (.Name x p) "remove" ap) [e] [] cp) pos) (tS (cnOf X) (sRem i m) W) := by
  refine (ps_expr (pe_remX hc tk (pe_var hi hv hd hcd) h hbase hfew hline hst rfl) hs).imp fun E σ H q => ?_
  obtain ⟨β, H0, S0, S, δ, b, rs, q⟩ := q
  unfold sRem at q
  cases e1 : own? i δ with
  | none => rw [e1] at q; exact q.elim
  | some ds =>
    rw [e1] at q
    obtain ⟨a, vs, h1, h3, h6, h5⟩ := own_var rs e1
    refine ⟨.ref a, h1, .inl ⟨rfl, vs, .inl (.inl h3)⟩, β, H0, S0, S, δ, b, rs, ?_⟩
    dsimp only at q
    cases e2 : m δ b with
    | bad => rw [e2] at q; exact q
    | exc y fs b1 => rw [e2] at q; exact tE_exc rs q
    | ok d kd b1 =>
      rw [e2] at q
      cases d <;> first | exact q.elim | skip
      rename_i k
      dsimp only at q
      cases e3 : intsD ds with
      | none => rw [e3] at q; exact q.elim
      | some ns =>
        rw [e3] at q
        dsimp only at q
        split at q
        · rename_i hz
          intro v H1 S1 x1 hb1 q1
          have rs1 := rs.step x1 hb1
          obtain ⟨a', us, g1, g3, g6, g5⟩ := own_var rs1 e1
          rw [h1] at g1
          cases g1
          have e4 := intsD_eq e3
          subst e4
          rw [g6.of_ints] at g3
          exact ⟨a, ns, k, rfl, q1.rd.int, g3, fun _ => q _ _ S1 (rs1.mut (own?_eq e1) h1 (RVs.ints _)), fun n => absurd hz n⟩
        · exact q.elim
end
end Rk

namespace Rk
open PySem PySem.Spec L2

theorem RVs.eraseIdx {c : Cn} {β : Option Addr} {S : Hp} {ds : List D} {vs : List V} (r : RVs c β S ds vs) (n : Nat) : RVs c β S (ds.eraseIdx n) (vs.eraseIdx n) := by
  rw [List.eraseIdx_eq_take_drop_succ, List.eraseIdx_eq_take_drop_succ]
  exact (r.take n).append (r.drop (n + 1))
section
variable {X : Cx} {W : WX} {e : Expr} {m : EM} {pos : Pos}
theorem s_pick {i j : Nat} {x y : Str} {p ap cp p2 ap2 cp2 : Pos} (hi : X.N[i]? = some x) (hv : Vis X.env.scope x) (hd : (x == ("__debug__" : Str)) = false) (hcd : (x == ("__classdict__" : Str)) = false)
    (hj : X.N[j]? = some y) (hvy : Vis X.env.scope y) (hdy : (y == ("__debug__" : Str)) = false) (hcdy : (y == ("__classdict__" : Str)) = false) (h : PE X e (tE (cnOf X) m W))
    (hs : swapsWith (.Call (.Attribute (.Name x p) "append" ap) [.Call (.Attribute (.Name y p2) "pop" ap2) [e] [] cp2] [] cp) none pos.line X.env = pure false := by rfl)
    (hbase : attributeBase (.Name x p) "append" X.env (eval (.Name x p) X.env) = eval (.Name x p) X.env := by rfl)
    (hfew : ((backTo cp (starEach [.Call (.Attribute (.Name y p2) "pop" ap2) [e] [] cp2] X.env)).all (fun x => !x.1) && (backToKw cp (keywordEach [] X.env)).all (fun x => x.1.isSome)
      && decide (([.Call (.Attribute (.Name y p2) "pop" ap2) [e] [] cp2] : List Expr).length + ([] : List Keyword).length + (if ([] : List Keyword).isEmpty then 0 else 1) < 30)) = true := by rfl)
    (hline : (ap.endLine == cp.line) = true := by rfl) (hst : starEach [.Call (.Attribute (.Name y p2) "pop" ap2) [e] [] cp2] X.env = (false, eval (.Call (.Attribute (.Name y p2) "pop" ap2) [e] [] cp2) X.env) :: starEach [] X.env := by rfl)
    (hbase2 : attributeBase (.Name y p2) "pop" X.env (eval (.Name y p2) X.env) = eval (.Name y p2) X.env := by rfl)
    (hfew2 : ((backTo cp2 (starEach [e] X.env)).all (fun x => !x.1) && (backToKw cp2 (keywordEach [] X.env)).all (fun x => x.1.isSome)
      && decide (([e] : List Expr).length + ([] : List Keyword).length + (if ([] : List Keyword).isEmpty then 0 else 1) < 30)) = true := by rfl)
    (hline2 : (ap2.endLine == cp2.line) = true := by rfl) (hst2 : starEach [e] X.env = (false, eval e X.env) :: starEach [] X.env := by rfl) :
    PS X (.Expr (.Call (.Attribute (.Name x p) "append" ap) [.Call (.Attribute (.Name y p2) "pop" ap2) [e] [] cp2] [] cp) pos) (tS (cnOf X) (sPick i j m) W) := by
  refine (ps_expr (pe_bm PySem.F.plainAttrs_list PySem.F.slot_list_append PySem.F.type_list_append mt_append (pe_var hi hv hd hcd)
    (pa_cons (pe_bm PySem.F.plainAttrs_list PySem.F.slot_list_pop PySem.F.type_list_pop mt_popAt (pe_var hj hvy hdy hcdy) (pa_cons h pa_nil hst2) hbase2 hfew2 hline2 hst2 rfl) pa_nil hst) hbase hfew hline hst rfl) hs).imp fun E σ H q => ?_
  obtain ⟨β, H0, S0, S, δ, b, rs, q⟩ := q
  unfold sPick at q
  cases e1 : own? i δ with
  | none => rw [e1] at q; exact q.elim
  | some fs =>
    cases e1' : own? j δ with
    | none => rw [e1, e1'] at q; exact q.elim
    | some ps =>
      rw [e1, e1'] at q
      dsimp only at q
      split at q
      · exact q.elim
      · rename_i hij
        obtain ⟨a, vs, h1, h3, h6, h5⟩ := own_var rs e1
        obtain ⟨a2, vs2, k1, k3, k6, k5⟩ := own_var rs e1'
        refine ⟨.ref a, h1, .inl ⟨rfl, vs, .inl (.inl h3)⟩, .ref a2, k1, .inl ⟨rfl, vs2, .inl (.inl k3)⟩, β, H0, S0, S, δ, b, rs, ?_⟩
        cases e2 : m δ b with
        | bad => rw [e2] at q; exact q
        | exc y fs b1 => rw [e2] at q; exact tE_exc rs q
        | ok d kd b1 =>
          rw [e2] at q
          cases d <;> first | exact q.elim | skip
          rename_i k
          dsimp only at q
          cases e3 : ixN ps.length k with
          | none => rw [e3] at q; exact q.elim
          | some n =>
            rw [e3] at q
            dsimp only at q
            cases e4 : ps[n]? with
            | none => rw [e4] at q; exact q.elim
            | some d =>
              rw [e4] at q
              dsimp only at q
              split at q
              · rename_i hz
                intro v H1 S1 x1 hb1 q1
                have rs1 := rs.step x1 hb1
                obtain ⟨a', us, g1, g3, g6, g5⟩ := own_var rs1 e1
                obtain ⟨a2', us2, l1, l3, l6, l5⟩ := own_var rs1 e1'
                rw [h1] at g1
                cases g1
                rw [k1] at l1
                cases l1
                obtain ⟨u, m1, m2⟩ := l6.get e4
                obtain ⟨ix1, ix2, ix3, ix4⟩ := ixN_seq e3
                have hzz : ps.length ≤ 1000000 := hz.2
                have hne : a ≠ a2 := fun z => rs1.dis i j fs ps a hij (own?_eq e1) (own?_eq e1') h1 (by rw [z]; exact k1)
                have rs2 := rs1.mut (own?_eq e1') k1 (l6.eraseIdx n)
                have e1b : (δ.set j (.own (ps.eraseIdx n)))[i]? = some (.own fs) := by rw [List.getElem?_set_ne (fun z => hij z.symm)]; exact own?_eq e1
                have rs3 := rs2.mut e1b h1 (g6.append (.cons m2 .nil))
                refine ⟨a2, us2, k, n, u, rfl, by rw [q1.rd.int], l3, by omega, by omega, by rw [l6.length]; exact ix1, m1, ?_⟩
                exact ⟨a, us, u, rfl, rfl, by rw [upd_ne hne]; exact g3, big_ok (by rw [g6.length]; exact hz.1), q _ _ S1 rs3⟩
              · exact q.elim
theorem boxO_set {b b' : Bx} {k z : Int} (e : setBx b k z = some b') : ∃ n, ixN 3 k = some n ∧ boxO b' = .lst ([V.int b.x, V.int b.y, V.int b.z].set n (.int z)) := by
  unfold setBx at e
  split at e
  · rename_i h; subst h; cases e; exact ⟨0, rfl, rfl⟩
  · split at e
    · rename_i h; subst h; cases e; exact ⟨1, rfl, rfl⟩
    · split at e
      · rename_i h; subst h; cases e; exact ⟨2, rfl, rfl⟩
      · cases e
theorem s_set {ek : Expr} {mk mv : EM} {i : Nat} {x : Str} {p sp : Pos} (hi : X.N[i]? = some x) (hv : Vis X.env.scope x) (hd : (x == ("__debug__" : Str)) = false) (hcd : (x == ("__classdict__" : Str)) = false) (hk : PE X ek (tE (cnOf X) mk W)) (h : PE X e (tE (cnOf X) mv W))
    (ha : ∀ v, assign (.Subscript (.Name x p) ek sp) X.env v = (do
      let ov ← holding [v] (eval (.Name x p) X.env)
      let iv ← holding [v, ov] (eval ek X.env)
      standAt sp
      holding [v, ov, iv] (setItem ov iv v)
      release [v, ov, iv] []) := by intro _; rfl)
    (hs : swapsWithSole [.Subscript (.Name x p) ek sp] e pos.line X.env = pure false := by rfl) (hw : swappedStores [.Subscript (.Name x p) ek sp] e X.env = pure none := by rfl)
    (h1 : (assignEach [.Subscript (.Name x p) ek sp] X.env).map (·.2) = [assign (.Subscript (.Name x p) ek sp) X.env] := by rfl) :
    PS X (.Assign [.Subscript (.Name x p) ek sp] e pos) (tS (cnOf X) (sSet i mk mv) W) := by
  refine (ps_asg (s_esh h) (pg_sub (pe_var hi hv hd hcd) hk set_list ha) hs hw h1).imp fun E σ H q => ?_
  obtain ⟨β, H0, S0, S, δ, b, rs, q⟩ := q
  refine ⟨β, H0, S0, S, δ, b, rs, ?_⟩
  unfold sSet at q
  cases e1 : esh mv δ b with
  | bad => rw [e1] at q; exact q
  | exc y fs b1 => rw [e1] at q; exact tE_exc rs q
  | ok v kv b1 =>
    rw [e1] at q
    dsimp only at q
    cases esh_sh e1
    intro vv H1 S1 x1 hb1 q1
    have q1 : RV (cnOf X) β S1 v vv := q1
    have rs1 := rs.step x1 hb1
    cases e2 : δ[i]? with
    | none => rw [e2] at q; exact q.elim
    | some sl =>
      rw [e2] at q
      cases sl with
      | none => exact q.elim
      | own ds =>
        dsimp only at q
        obtain ⟨a, us, g1, g3, g6, g5⟩ := own_var rs1 (ds := ds) (i := i) (by unfold own?; rw [e2])
        refine ⟨.ref a, g1, β, H0, S0, S1, δ, b1, rs1, ?_⟩
        cases e3 : mk δ b1 with
        | bad => rw [e3] at q; exact q
        | exc y fs b2 => rw [e3] at q; exact tE_exc rs1 q
        | ok kk kkd b2 =>
          rw [e3] at q
          cases kk <;> first | exact q.elim | skip
          rename_i k
          dsimp only at q
          cases e4 : ixN ds.length k with
          | none => rw [e4] at q; exact q.elim
          | some n =>
            rw [e4] at q
            intro w H2 S2 x2 hb2 q2
            have rs2 := rs1.step x2 hb2
            obtain ⟨a', us2, l1, l3, l6, l5⟩ := own_var rs2 (ds := ds) (i := i) (by unfold own?; rw [e2])
            rw [g1] at l1
            cases l1
            exact ⟨a, us2, k, n, rfl, q2.rd.int, l3, by rw [l6.length]; exact e4, q _ _ S2 (rs2.mut e2 g1 (l6.set (RV.mono x2.ss q1) n))⟩
      | val d =>
        cases d <;> first | exact q.elim | skip
        dsimp only at q
        obtain ⟨ov, g1, g2⟩ := rs1.val i .box e2
        obtain ⟨a, rfl, eb⟩ := (show ∃ a, ov = .ref a ∧ β = some a from g2)
        refine ⟨.ref a, g1, β, H0, S0, S1, δ, b1, rs1, ?_⟩
        cases e3 : mk δ b1 with
        | bad => rw [e3] at q; exact q
        | exc y fs b2 => rw [e3] at q; exact tE_exc rs1 q
        | ok kk kkd b2 =>
          rw [e3] at q
          cases kk <;> first | exact q.elim | skip
          rename_i k
          dsimp only at q
          intro w H2 S2 x2 hb2 q2
          have rs2 := rs1.step x2 hb2
          obtain ⟨z, rfl⟩ : ∃ z, v = .int z := by cases v <;> first | exact ⟨_, rfl⟩ | exact q.elim
          dsimp only at q
          cases e5 : setBx b2 k z with
          | none => rw [e5] at q; exact q.elim
          | some b3 =>
            rw [e5] at q
            obtain ⟨n, i1, i2⟩ := boxO_set e5
            refine ⟨a, _, k, n, rfl, q2.rd.int, hb2 a eb, i1, ?_⟩
            have r3 := rs2.rebox (b' := b3) eb
            rw [i2] at r3
            have hz : vv = .int z := q1
            rw [hz]
            exact q _ _ S2 r3
end
end Rk

namespace Rk
open PySem PySem.Spec L2

/-! ### where a piece of a body runs -/
abbrev Nms := List (Str × NameKind)
def ownB (O : Option Nms) (y : Str) : Bool := match O with
  | none => true
  | some ns => ns.lookup y == some NameKind.cell
structure Dx (Γ : Cn → Prop) (O : Option Nms) (L : Nms) (N : List Str) (k : Nat) (W : WX) (X : Cx) : Prop where
  hy : Γ (cnOf X)
  nm : X.env.scope.names = L
  kd : X.env.scope.kind = .function
  nN : X.N = N
  ok : Cok k W X
  fn : ∀ y, ownB O y = true → X.fn y = true
  tp : O = none → X.stack = X.env :: X.outer ∧ X.env.frame = some X.env.locals
def lk (L : Nms) (x : Str) (k : NameKind) : Bool := match L.lookup x with
  | some j => decide (j = k)
  | none => false
def seen (L : Nms) (x : Str) : Bool := lk L x .local || lk L x .cell || lk L x .free
def mine (L : Nms) (x : Str) : Bool := lk L x .local || lk L x .cell
theorem lk_eq {L : Nms} {x : Str} {k : NameKind} (h : lk L x k = true) : L.lookup x = some k := by
  unfold lk at h
  split at h
  · rename_i j e; rw [e, of_decide_eq_true h]
  · cases h
section
variable {Γ : Cn → Prop} {O : Option Nms} {L : Nms} {N : List Str} {k : Nat} {W : WX} {X : Cx}
theorem Dx.vis (h : Dx Γ O L N k W X) {x : Str} (e : seen L x = true) : Vis X.env.scope x := by
  unfold seen at e
  rw [Bool.or_eq_true, Bool.or_eq_true] at e
  unfold Vis
  rw [h.nm]
  rcases e with (e | e) | e
  · exact .inl (lk_eq e)
  · exact .inr (.inl (lk_eq e))
  · exact .inr (.inr (lk_eq e))
theorem Dx.loc (h : Dx Γ O L N k W X) {x : Str} (e : mine L x = true) : L2.Loc X.env.scope x := by
  unfold mine at e
  rw [Bool.or_eq_true] at e
  unfold L2.Loc
  rw [h.nm]
  rcases e with e | e
  · exact .inl (lk_eq e)
  · exact .inr (lk_eq e)
theorem Dx.lcl (h : Dx Γ O L N k W X) {x : Str} (e : lk L x .local = true) : X.env.scope.names.lookup x = some .local := by rw [h.nm]; exact lk_eq e
theorem Dx.gl (h : Dx Γ O L N k W X) {x : Str} (e : lk L x .globalImplicit = true) : Gl X x := by
  show X.env.scope.names.lookup x = some .globalImplicit
  rw [h.nm]; exact lk_eq e
theorem Dx.nd (h : Dx Γ O L N k W X) : X.N.Nodup := h.ok.nd
theorem Dx.ix (h : Dx Γ O L N k W X) {i : Nat} {x : Str} (e : N[i]? = some x) : X.N[i]? = some x := by rw [h.nN]; exact e
theorem Dx.st (h : Dx Γ O L N k W X) {x : Str} (e : (ownB O x || lk L x .local) = true) : X.fn x = true ∨ X.env.scope.names.lookup x = some .local := by
  rw [Bool.or_eq_true] at e
  rcases e with e | e
  · exact .inl (h.fn x e)
  · exact .inr (h.lcl e)
/-- the names of a comprehension's own block -/
def relN (names L : Nms) : Nms := names.map fun (n, k) => if (k == NameKind.free && true && L.lookup n == some NameKind.cell) then (n, NameKind.cell) else (n, k)
theorem Dx.blk (h : Dx Γ O L N k W X) (s : Shared) (H : Hp) (scope : Scope) (C : Addr) (cl : List (Str × Addr)) (fp : List Addr) (hk : scope.kind = .function) :
    Dx Γ (some scope.names) (relN scope.names L) N k W0 (X.blk s H scope (compEnvC scope cl C X.env) fp) where
  nm := by
    have e1 : (X.env.scope.kind == ScopeKind.function) = true := by rw [h.kd]; rfl
    show (scope.names.map fun (n, k) => if (k == NameKind.free && X.env.scope.kind == ScopeKind.function && X.env.kindOf n == some NameKind.cell) then (n, NameKind.cell) else (n, k)) = _
    unfold relN
    apply List.map_congr_left
    intro (n, k) _
    dsimp only
    rw [e1, show X.env.kindOf n = L.lookup n from by rw [← h.nm]; rfl]
  kd := hk
  hy := h.hy
  nN := h.nN
  ok := ⟨h.ok.calm, h.ok.room, fun u s' ⟨a, B, sI, pins, σ, H, cls, d, e, I, nb, up, sky, na, os, ag, w⟩ => w.elim, h.ok.nd, PassesOwn.never⟩
  fn := fun y e => e
  tp := fun e => by cases e
end
end Rk

namespace Rk
open PySem PySem.Spec L2

/-! ### readings that the tests share with the values -/
theorem e2_reads {c : Cn} {W : WX} {ma mb : EM} {r : R2} {f : D → D → Option (D × Kd)} (o : OpOk c r f) {σ : L2.St} {H : Hp} {Q : VK} (h : tE c (e2 f ma mb) W σ H Q) : tOp r (tE c ma W) (tE c mb W) σ H Q := by
  obtain ⟨β, H0, S0, S, δ, b, rs, h⟩ := h
  refine ⟨β, H0, S0, S, δ, b, rs, ?_⟩
  unfold e2 at h
  cases e1 : ma δ b with
  | bad => rw [e1] at h; exact h
  | exc x fs b1 => rw [e1] at h; exact h
  | ok x kx b1 =>
    rw [e1] at h
    intro u H1 S1 x1 hb1 q1
    have rs1 := rs.step x1 hb1
    refine ⟨β, H0, S0, S1, δ, b1, rs1, ?_⟩
    dsimp only at h
    cases e2 : mb δ b1 with
    | bad => rw [e2] at h; exact h
    | exc y fs b2 => rw [e2] at h; exact OutE.exc (Q := Q) x1 h
    | ok y ky b2 =>
      rw [e2] at h
      dsimp only at h
      intro v H2 S2 x2 hb2 q2
      cases e3 : f x y with
      | none => rw [e3] at h; exact h.elim
      | some dk =>
        obtain ⟨d, kd⟩ := dk
        rw [e3] at h
        have rs2 := rs1.step x2 hb2
        have x12 := x1.trans x2
        exact o β H2 S2 x y u v d kd Q x2.sub rs2.bs (fun a ea => by rw [rs2.bx a ea]; simp) (q1.rd.ext x2) q2.rd e3 fun w H3 S3 x3 q3 => h w H3 S3 (x12.trans x3.ext) (x3.bx hb2) (q3.back x12)
theorem chain_reads {c : Cn} {W : WX} {r r' : R2} {f g : D → D → Option Bool} {ma mb mc : EM} (of : CmpOk c r f) (og : CmpOk c r' g) {σ : L2.St} {H : Hp} {Q : VK} (h : tE c (eChain f g ma mb mc) W σ H Q) : tChain r r' (tE c ma W) (tE c mb W) (tE c mc W) σ H Q := by
  obtain ⟨β, H0, S0, S, δ, b, rs, h⟩ := h
  refine ⟨β, H0, S0, S, δ, b, rs, ?_⟩
  unfold eChain at h
  cases e1 : ma δ b with
  | bad => rw [e1] at h; exact h
  | exc x fs b1 => rw [e1] at h; exact h
  | ok x kx b1 =>
    rw [e1] at h
    intro u H1 S1 x1 hb1 q1
    have rs1 := rs.step x1 hb1
    refine ⟨β, H0, S0, S1, δ, b1, rs1, ?_⟩
    dsimp only at h
    cases e2 : mb δ b1 with
    | bad => rw [e2] at h; exact h
    | exc y fs b2 => rw [e2] at h; exact OutE.exc (Q := Q) x1 h
    | ok y ky b2 =>
      rw [e2] at h
      dsimp only at h
      intro v H2 S2 x2 hb2 q2
      have rs2 := rs1.step x2 hb2
      have q1' := q1.rd.ext x2
      cases e3 : f x y with
      | none => rw [e3] at h; exact h.elim
      | some t =>
        rw [e3] at h
        refine of β H2 S2 x y u v t _ x2.sub rs2.bs (fun a ea => by rw [rs2.bx a ea]; simp) q1' q2.rd e3 ⟨t, rfl, ?_⟩
        cases t with
        | false => exact h _ H2 S2 (x1.trans x2) hb2 (show V.bl false = V.bl false from rfl)
        | true =>
          rw [if_pos rfl]
          refine ⟨β, H0, S0, S2, δ, b2, rs2, ?_⟩
          dsimp only at h
          cases e4 : mc δ b2 with
          | bad => rw [e4] at h; exact h
          | exc y fs b2 => rw [e4] at h; exact OutE.exc (Q := Q) (x1.trans x2) h
          | ok z kz b3 =>
            rw [e4] at h
            dsimp only at h
            intro w H3 S3 x3 hb3 q3
            have rs3 := rs2.step x3 hb3
            cases e5 : g y z with
            | none => rw [e5] at h; exact h.elim
            | some t =>
              rw [e5] at h
              exact og β H3 S3 y z v w t Q x3.sub rs3.bs (fun a ea => by rw [rs3.bx a ea]; simp) (q2.rd.ext x3) q3.rd e5 (h _ H3 S3 ((x1.trans x2).trans x3) hb3 (show V.bl t = V.bl t from rfl))
theorem tval_reads {c : Cn} {W : WX} {m : EM} {σ : L2.St} {H : Hp} {Q : Bool → Hp → Prop} (h : tT c (tVal m) W σ H Q) : tE c m W σ H fun x H' => ∃ k, x = .bl k ∧ Q k H' := by
  obtain ⟨β, H0, S0, S, δ, b, rs, h⟩ := h
  refine ⟨β, H0, S0, S, δ, b, rs, ?_⟩
  unfold tVal at h
  cases e1 : m δ b with
  | bad => rw [e1] at h; exact h
  | exc x fs b1 => rw [e1] at h; exact h
  | ok d kd b1 =>
    rw [e1] at h
    intro v H1 S1 x1 hb1 q1
    cases d with
    | bl t => exact ⟨t, RD.rv nl_bl q1.rd, h H1 S1 x1 hb1⟩
    | _ => exact h.elim
/-! truth of lists and the like in or, and -/
def truD : D → Option Bool
  | .non => some false
  | .bl b => some b
  | .int i => some (i != 0)
  | .lst ds => some (!ds.isEmpty)
  | _ => none
def eOrT (m r : EM) : EM := fun δ b => match m δ b with
  | .ok d k b1 => (match truD d with
    | some true => .ok d k b1
    | some false => r δ b1
    | none => .bad)
  | o => o

section
variable {Γ : Cn → Prop} {O : Option Nms} {L : Nms} {N : List Str} {k : Nat} {W : WX} {X : Cx} {e ea eb ec : Expr} {es : List Expr} {m ma mb mc : EM} {l : LM} {p pos p2 pos2 : Pos} {x : Str}

/-! ### names, constants -/
theorem d_var (h : Dx Γ O L N k W X) (i : Nat) (hi : N[i]? = some x) (hv : seen L x = true) (hd : (x == ("__debug__" : Str)) = false) (hc : (x == ("__classdict__" : Str)) = false) : PE X (.Name x p) (tE (cnOf X) (eVar i) W) :=
  s_var (h.ix hi) (h.vis hv) hd hc
theorem d_int {i : Int} {j : Nat} : PE X (.Constant (.int i) j p) (tE (cnOf X) (eCst (.int i)) W) := s_cst (fun _ _ => rfl) pe_int
theorem d_str {z : Str} {j : Nat} : PE X (.Constant (.str z) j p) (tE (cnOf X) (eCst (.str z)) W) := s_cst (fun _ _ => rfl) pe_str
theorem d_bl {z : Bool} {j : Nat} : PE X (.Constant (.bool z) j p) (tE (cnOf X) (eCst (.bl z)) W) := s_cst (fun _ _ => rfl) pe_bl
theorem d_non {j : Nat} : PE X (.Constant .none j p) (tE (cnOf X) (eCst .non) W) := s_cst (fun _ _ => rfl) pe_non
/-- a constant of the module -/
structure Gc (c : Cn) (x : Str) (d : D) : Prop where
  ex : ∃ (u : Value) (v : V), c.mg x = some u ∧ RelV v u ∧ ∀ β S, RV c β S d v
theorem d_glob (h : Dx Γ O L N k W X) {d : D} (g : Gc (cnOf X) x d) (hg : lk L x .globalImplicit = true) (hd : (x == ("__debug__" : Str)) = false) : PE X (.Name x p) (tE (cnOf X) (eCst d) W) := by
  obtain ⟨u, v, h1, h2, h3⟩ := g.ex
  exact s_cst h3 (pe_glob (h.gl hg) h1 h2 hd)

/-! ### operators -/
theorem d_add (ha : PE X ea (tE (cnOf X) ma W)) (hb : PE X eb (tE (cnOf X) mb W)) : PE X (.BinOp ea .Add eb p) (tE (cnOf X) (e2 fAdd ma mb) W) := s_e2 (r := rAdd X.K) o_add (fun a b => pe_op op_Add a b) ha hb
theorem d_sub (ha : PE X ea (tE (cnOf X) ma W)) (hb : PE X eb (tE (cnOf X) mb W)) : PE X (.BinOp ea .Sub eb p) (tE (cnOf X) (e2 fSub ma mb) W) := s_e2 o_sub (fun a b => pe_op op_sub a b) ha hb
theorem d_mul (ha : PE X ea (tE (cnOf X) ma W)) (hb : PE X eb (tE (cnOf X) mb W)) : PE X (.BinOp ea .Mult eb p) (tE (cnOf X) (e2 fMulT ma mb) W) := s_e2 (r := rMulT X.K) o_mulT (fun a b => pe_op op_MulT a b) ha hb
theorem d_fdiv (ha : PE X ea (tE (cnOf X) ma W)) (hb : PE X eb (tE (cnOf X) mb W)) : PE X (.BinOp ea .FloorDiv eb p) (tE (cnOf X) (e2 fDiv ma mb) W) := s_e2 o_div (fun a b => pe_op op_fdivN a b) ha hb
theorem d_mod (ha : PE X ea (tE (cnOf X) ma W)) (hb : PE X eb (tE (cnOf X) mb W)) : PE X (.BinOp ea .Mod eb p) (tE (cnOf X) (e2 fMod ma mb) W) := s_e2 o_mod (fun a b => pe_op op_modN a b) ha hb
theorem d_pow (ha : PE X ea (tE (cnOf X) ma W)) (hb : PE X eb (tE (cnOf X) mb W)) : PE X (.BinOp ea .Pow eb p) (tE (cnOf X) (e2 fPow ma mb) W) := s_e2 o_pow (fun a b => pe_op op_pow a b) ha hb
theorem d_neg (ha : PE X ea (tE (cnOf X) ma W)) : PE X (.UnaryOp .USub ea p) (tE (cnOf X) (e1 fNeg ma) W) := s_e1 o_neg (fun a => pe_un un_neg a) ha
/-- a comparison -/
structure Cm (X : Cx) (op : CmpOp) (f : D → D → Option Bool) : Prop where
  ex : ∃ r, OpR X (compareOp op) r ∧ CmpOk (cnOf X) r f
theorem Dx.m_lt (h : Dx Γ O L N k W X) : Cm X .Lt cLt := ⟨_, op_lt, o_cI⟩
theorem Dx.m_le (h : Dx Γ O L N k W X) : Cm X .LtE cLe := ⟨_, op_le, o_cI⟩
theorem Dx.m_gt (h : Dx Γ O L N k W X) : Cm X .Gt cGt := ⟨_, op_gt, o_cI⟩
theorem Dx.m_ge (h : Dx Γ O L N k W X) : Cm X .GtE cGe := ⟨_, op_ge, o_cI⟩
theorem Dx.units (h : Dx Γ O L N k W X) : X.A.units + 65 < cLine := by
  have := h.ok.room.un
  omega
theorem Dx.m_eq (h : Dx Γ O L N k W X) : Cm X .Eq cEq := ⟨_, op_eqD (by have := h.units; omega), o_eq⟩
theorem Dx.m_ne (h : Dx Γ O L N k W X) : Cm X .NotEq cNe := ⟨_, op_neD (by have := h.units; omega), o_ne⟩
theorem Dx.m_in (h : Dx Γ O L N k W X) : Cm X .In cIn := ⟨_, op_In h.units, o_in⟩
theorem Dx.m_notIn (h : Dx Γ O L N k W X) : Cm X .NotIn cNotIn := ⟨_, op_NotIn h.units, o_notIn⟩
theorem Dx.m_is (h : Dx Γ O L N k W X) : Cm X .Is cIsN := ⟨_, op_isN, o_isN⟩
theorem Dx.m_isNot (h : Dx Γ O L N k W X) : Cm X .IsNot cNotN := ⟨_, op_notN, o_notN⟩
theorem d_cmp {op : CmpOp} {f : D → D → Option Bool} (o : Cm X op f) (ha : PE X ea (tE (cnOf X) ma W)) (hb : PE X eb (tE (cnOf X) mb W)) (hm : behindInMarks op eb = false) : PE X (.Compare ea [op] [eb] p) (tE (cnOf X) (e2 (fB f) ma mb) W) := by
  obtain ⟨r, h1, h2⟩ := o.ex
  exact s_e2 h2.op (fun a b => pe_cmpR h1 a b hm) ha hb
theorem d_tcmp {op : CmpOp} {f : D → D → Option Bool} (o : Cm X op f) (ha : PE X ea (tE (cnOf X) ma W)) (hb : PE X eb (tE (cnOf X) mb W)) (hm : behindInMarks op eb = false) : PT X (.Compare ea [op] [eb] p) (tT (cnOf X) (tVal (e2 (fB f) ma mb)) W) := by
  obtain ⟨r, h1, h2⟩ := o.ex
  exact (pt_cmpR h1 ha hb hm).imp fun σ H Q h => e2_reads h2.op (tval_reads h)
theorem d_chain {op op' : CmpOp} {f g : D → D → Option Bool} (o : Cm X op f) (o' : Cm X op' g) (ha : PE X ea (tE (cnOf X) ma W)) (hb : PE X eb (tE (cnOf X) mb W)) (hc : PE X ec (tE (cnOf X) mc W)) (hm : lastMarks [op, op'] [eb, ec] = false) :
    PE X (.Compare ea [op, op'] [eb, ec] p) (tE (cnOf X) (eChain f g ma mb mc) W) := by
  obtain ⟨r, h1, h2⟩ := o.ex
  obtain ⟨r', h1', h2'⟩ := o'.ex
  exact s_chain h2 h2' h1 h1' hm ha hb hc
theorem d_tchain {op op' : CmpOp} {f g : D → D → Option Bool} (o : Cm X op f) (o' : Cm X op' g) (ha : PE X ea (tE (cnOf X) ma W)) (hb : PE X eb (tE (cnOf X) mb W)) (hc : PE X ec (tE (cnOf X) mc W)) (hm : lastMarks [op, op'] [eb, ec] = false) :
    PT X (.Compare ea [op, op'] [eb, ec] p) (tT (cnOf X) (tVal (eChain f g ma mb mc)) W) := by
  obtain ⟨r, h1, h2⟩ := o.ex
  obtain ⟨r', h1', h2'⟩ := o'.ex
  exact (pt_chain h1 h1' ha hb hc hm).imp fun σ H Q h => chain_reads h2 h2' (tval_reads h)
theorem d_orT {rest : List Expr} (ha : PE X ea (tE (cnOf X) ma W)) (hb : PE X (.BoolOp .Or (eb :: rest) p) (tE (cnOf X) mb W)) : PE X (.BoolOp .Or (ea :: eb :: rest) p) (tE (cnOf X) (eOrT ma mb) W) := by
  refine (pe_orT ha hb).imp fun σ H Q h => ?_
  obtain ⟨β, H0, S0, S, δ, b, rs, h⟩ := h
  refine ⟨β, H0, S0, S, δ, b, rs, ?_⟩
  unfold eOrT at h
  cases e1 : ma δ b with
  | bad => rw [e1] at h; exact h
  | exc x fs b1 => rw [e1] at h; exact h
  | ok d kd b1 =>
    rw [e1] at h
    intro v H1 S1 x1 hb1 q1
    have rs1 := rs.step x1 hb1
    dsimp only at h
    cases e2 : truD d with
    | none => rw [e2] at h; exact h.elim
    | some t =>
      rw [e2] at h
      refine ⟨t, ?_, ?_⟩
      · have q := q1.rd
        cases d <;> simp only [truD] at e2 <;> cases e2
        · rw [q.non]; exact rfl
        · rw [q.bl]; exact rfl
        · rw [q.int]; exact rfl
        · obtain ⟨a, vs, rfl, g1, g2⟩ := q.lr x1.sub
          have hl := g2.length
          refine .inl ⟨vs, .inl (.inl g1), ?_⟩
          rename_i ds
          cases ds <;> cases vs <;> first | rfl | (simp at hl; done)
      · cases t with
        | true => rw [if_pos rfl]; exact h v H1 S1 x1 hb1 q1
        | false => exact ⟨β, H0, S0, S1, δ, b1, rs1, OutE.back x1 h⟩
end
end Rk

namespace Rk
open PySem PySem.Spec L2

/-- how many a list of arguments gives -/
def Ar (l : LM) (n : Nat) : Prop := ∀ δ b ds b', l δ b = .ok ds b' → ds.length = n
theorem ar0 : Ar lNil 0 := fun δ b ds b' h => by unfold lNil at h; cases h; rfl
theorem arL {m : EM} {l : LM} {n : Nat} (h : Ar l n) : Ar (lCons m l) (n + 1) := fun δ b ds b' e => by
  unfold lCons at e
  have key : ∀ {d : D} {b1 : Bx}, (match l δ b1 with | .ok ds b2 => OutL.ok (d :: ds) b2 | o => o) = .ok ds b' → ds.length = n + 1 := fun {d b1} e => by
    cases q : l δ b1 with
    | ok es b2 => rw [q] at e; cases e; rw [List.length_cons, h _ _ _ _ q]
    | exc x fs b2 => rw [q] at e; cases e
    | bad => rw [q] at e; cases e
  cases q : m δ b with
  | exc x fs b1 => rw [q] at e; cases e
  | bad => rw [q] at e; cases e
  | ok d k b1 =>
    rw [q] at e
    cases k with
    | bo => cases e
    | sh => exact key e
    | fr => exact key e
theorem arR {m : EM} {l : LM} {n : Nat} (h : Ar l n) : Ar (rCons m l) (n + 1) := fun δ b ds b' e => by
  unfold rCons at e
  cases q : m δ b with
  | exc x fs b1 => rw [q] at e; cases e
  | bad => rw [q] at e; cases e
  | ok d k b1 =>
    rw [q] at e
    dsimp only at e
    cases q : l δ b1 with
    | ok es b2 => rw [q] at e; cases e; rw [List.length_cons, h _ _ _ _ q]
    | exc x fs b2 => rw [q] at e; cases e
    | bad => rw [q] at e; cases e

/-- a comprehension's block, by names alone -/
def blkL (N : List Str) (L : Nms) (scope : Scope) (own : List (Str × Nat)) : Bool := blkC N { kind := .function, names := L, isGenerator := false, isCoroutine := false, more := [] } scope own
section
variable {Γ : Cn → Prop} {O : Option Nms} {L : Nms} {N : List Str} {k : Nat} {W : WX} {X : Cx} {e e2 ea eb ec : Expr} {es : List Expr} {m ma mb mc : EM} {l : LM} {p pos p2 pos2 : Pos} {x : Str}
theorem Dx.bok (h : Dx Γ O L N k W X) {scope : Scope} {own : List (Str × Nat)} (e : blkL N L scope own = true) : BlkOk X.N X.env.scope scope own := by
  refine blkOk_by ?_
  unfold blkL blkC at e
  unfold blkC
  rw [h.nN, h.nm]
  exact e
theorem bl_kind {scope : Scope} {own : List (Str × Nat)} (e : blkL N L scope own = true) : scope.kind = .function := (blkOk_by e).kind

/-! ### calls -/
theorem d_call (h : Dx Γ O L N k W X) {j n : Nat} {f : FM} (F : Fn (cnOf X) j x n f) (hj : j ≤ k) (hg : lk L x .globalImplicit = true) (hdb : (x == ("__debug__" : Str)) = false) (ha : PA X (e :: es) (tL (cnOf X) l W)) (hl : Ar l n)
    (hn : (e :: es).length = n) (he : starEach (e :: es) X.env = (false, eval e X.env) :: starEach es X.env := by rfl) (hpl : (backTo pos (starEach es X.env)).any (·.1) = false := by rfl) :
    PE X (.Call (.Name x p) (e :: es) [] pos) (tE (cnOf X) (eCall f l) W) := s_call h.ok (F.mono hj) (h.gl hg) hdb ha he hpl hn hl
theorem d_a0 : PA X [] (tL (cnOf X) lNil W) := s_lNil
theorem d_aL (ha : PE X e (tE (cnOf X) m W)) (hr : PA X es (tL (cnOf X) l W)) (hs : starEach (e :: es) X.env = (false, eval e X.env) :: starEach es X.env := by rfl) : PA X (e :: es) (tL (cnOf X) (lCons m l) W) := s_lCons ha hr hs
theorem d_r0 : PA X [] (tR (cnOf X) lNil W) := s_rNil
theorem d_aR (ha : PE X e (tE (cnOf X) m W)) (hr : PA X es (tR (cnOf X) l W)) (hs : starEach (e :: es) X.env = (false, eval e X.env) :: starEach es X.env := by rfl) : PA X (e :: es) (tR (cnOf X) (rCons m l) W) := s_rCons ha hr hs
/-- a built-in: what it is -/
structure Bf (X : Cx) (x : Str) (f : List D → Option (D × Kd)) : Prop where
  ex : (∃ id r, CallR X (.builtin id) r ∧ CallOk (cnOf X) r f ∧ bootBuiltins x = some (.builtin id)) ∨ ∃ T r, CallR X (.type T) r ∧ CallOk (cnOf X) r f ∧ bootBuiltins x = some (.type T)
theorem d_bi (h : Dx Γ O L N k W X) {f : List D → Option (D × Kd)} (b : Bf X x f) (hm : (cnOf X).mg x = none) (hg : lk L x .globalImplicit = true) (ha : PA X (e :: es) (tR (cnOf X) l W)) (hn : x ≠ "__name__" := by decide) (hdb : (x == ("__debug__" : Str)) = false := by decide)
    (he : starEach (e :: es) X.env = (false, eval e X.env) :: starEach es X.env := by rfl) (hpl : (backTo pos (starEach es X.env)).any (·.1) = false := by rfl) : PE X (.Call (.Name x p) (e :: es) [] pos) (tE (cnOf X) (eB f l) W) := by
  rcases b.ex with ⟨id, r, h1, h2, h3⟩ | ⟨T, r, h1, h2, h3⟩
  · exact s_bi h2 h1 (h.gl hg) hm h3 ha hn hdb he hpl
  · exact s_ty h2 h1 (h.gl hg) hm h3 ha hn hdb he hpl
theorem Dx.b_len (h : Dx Γ O L N k W X) : Bf X "len" fLen := ⟨.inl ⟨_, _, call_len, o_len, by decide +kernel⟩⟩
theorem Dx.b_tuple (h : Dx Γ O L N k W X) : Bf X "tuple" (f1 gTuple) := ⟨.inr ⟨_, _, call_tuple_of, o_tuple, by decide +kernel⟩⟩
theorem Dx.b_list (h : Dx Γ O L N k W X) : Bf X "list" (f1 gList) := ⟨.inr ⟨_, _, call_list_of, o_list, by decide +kernel⟩⟩
theorem Dx.b_int (h : Dx Γ O L N k W X) : Bf X "int" (f1 gInt) := ⟨.inr ⟨_, _, call_int1, o_int, by decide +kernel⟩⟩
theorem Dx.b_abs (h : Dx Γ O L N k W X) : Bf X "abs" (f1 gAbs) := ⟨.inl ⟨_, _, call_abs, o_abs, by decide +kernel⟩⟩
theorem Dx.b_max2 (h : Dx Γ O L N k W X) : Bf X "max" (f2 gMax2) := ⟨.inl ⟨_, _, call_max2 h.ok.calm, o_max2, by decide +kernel⟩⟩
theorem Dx.b_min2 (h : Dx Γ O L N k W X) : Bf X "min" (f2 gMin2) := ⟨.inl ⟨_, _, call_min2 h.ok.calm, o_min2, by decide +kernel⟩⟩
theorem Dx.b_max (h : Dx Γ O L N k W X) : Bf X "max" (f1 gMax) := ⟨.inl ⟨_, _, CallR.or (cr_max h.ok.calm) (cr_maxT h.ok.calm), o_max, by decide +kernel⟩⟩
theorem Dx.b_min (h : Dx Γ O L N k W X) : Bf X "min" (f1 gMin) := ⟨.inl ⟨_, _, CallR.or (cr_min h.ok.calm) (cr_minT h.ok.calm), o_min, by decide +kernel⟩⟩
theorem Dx.b_sum (h : Dx Γ O L N k W X) : Bf X "sum" (f1 gSum) := ⟨.inl ⟨_, _, CallR.or (cr_sum h.ok.calm) (cr_sumT h.ok.calm), o_sum, by decide +kernel⟩⟩
theorem Dx.b_all (h : Dx Γ O L N k W X) : Bf X "all" (f1 gAll) := ⟨.inl ⟨_, _, cr_all h.ok.calm, o_all, by decide +kernel⟩⟩
theorem Dx.b_any (h : Dx Γ O L N k W X) : Bf X "any" (f1 gAny) := ⟨.inl ⟨_, _, cr_any h.ok.calm, o_any, by decide +kernel⟩⟩
theorem Dx.b_sorted (h : Dx Γ O L N k W X) : Bf X "sorted" (f1 gSortI) := ⟨.inl ⟨_, _, CallR.or cr_sortedI cr_sortIT, o_sortI, by decide +kernel⟩⟩

/-! ### isinstance -/
theorem d_isi1 (h : Dx Γ O L N k W X) {T : String} {pT : Pos} (ha : PE X e (tE (cnOf X) m W)) (kt : KitT T) (hmi : (cnOf X).mg "isinstance" = none) (hgi : lk L "isinstance" .globalImplicit = true) (hmT : (cnOf X).mg x = none) (hgT : lk L x .globalImplicit = true) (hv : bootBuiltins x = some (.type T))
    (hn : x ≠ "__name__" := by decide) (hd : (x == ("__debug__" : Str)) = false := by decide)
    (h1 : starEach [e, .Name x pT] X.env = (false, eval e X.env) :: starEach [.Name x pT] X.env := by rfl) :
    PE X (.Call (.Name "isinstance" p) [e, .Name x pT] [] pos) (tE (cnOf X) (eIsi [T] m) W) := s_isi1 ha kt (h.gl hgi) hmi (h.gl hgT) hmT hv hn hd h1 rfl
theorem d_isiT (h : Dx Γ O L N k W X) {Ts : List String} {kk : Nat} {pT : Pos} (ha : PE X e (tE (cnOf X) m W)) (tn : TyNames X es Ts) (hz : Ts.length ≤ 1000) (hmi : (cnOf X).mg "isinstance" = none) (hgi : lk L "isinstance" .globalImplicit = true)
    (h1 : starEach [e, .Tuple es kk pT] X.env = (false, eval e X.env) :: starEach [.Tuple es kk pT] X.env := by rfl) :
    PE X (.Call (.Name "isinstance" p) [e, .Tuple es kk pT] [] pos) (tE (cnOf X) (eIsi Ts m) W) := s_isiT ha tn hz (h.gl hgi) hmi h1 rfl
theorem d_tn0 : TyNames X [] [] := .nil
theorem d_tn (h : Dx Γ O L N k W X) {T : String} {Ts : List String} (kt : KitT T) (hmT : (cnOf X).mg x = none) (hgT : lk L x .globalImplicit = true) (hv : bootBuiltins x = some (.type T)) (t : TyNames X es Ts) (hn : x ≠ "__name__" := by decide) (hd : (x == ("__debug__" : Str)) = false := by decide) : TyNames X (.Name x p :: es) (T :: Ts) :=
  .cons kt (h.gl hgT) hmT hv hn hd t

/-! ### what is walked -/
theorem d_seq {tg : Expr} (he : PE X e (tE (cnOf X) m W)) : PI X tg e (tI (cnOf X) (itSeq m) W) := s_itSeq he
theorem d_rng1 {tg : Expr} (h : Dx Γ O L N k W X) (hmr : (cnOf X).mg "range" = none) (hgr : lk L "range" .globalImplicit = true) (ha : PA X [e] (tR (cnOf X) l W)) (hl : Ar l 1) (hs : starEach [e] X.env = [(false, eval e X.env)] := by rfl) : PI X tg (.Call (.Name "range" p) [e] [] pos) (tI (cnOf X) (itRng l) W) :=
  s_itRng1 (h.gl hgr) hmr hs ha hl
theorem d_rng2 {tg : Expr} (h : Dx Γ O L N k W X) (hmr : (cnOf X).mg "range" = none) (hgr : lk L "range" .globalImplicit = true) (ha : PA X [e, e2] (tR (cnOf X) l W)) (hl : Ar l 2) (hs : starEach [e, e2] X.env = [(false, eval e X.env), (false, eval e2 X.env)] := by rfl) (hs2 : starEach [e2] X.env = [(false, eval e2 X.env)] := by rfl) :
    PI X tg (.Call (.Name "range" p) [e, e2] [] pos) (tI (cnOf X) (itRng l) W) := s_itRng2 (h.gl hgr) hmr hs hs2 ha hl
end
end Rk

namespace Rk
open PySem PySem.Spec L2

/-! ints alone -/
def fAddI : D → D → Option (D × Kd)
  | .int i, .int j => some (.int (i + j), .sh)
  | _, _ => none
theorem o_addI {c : Cn} : OpOk c (ipI fun i j => i + j) fAddI := by
  intro β H S x y u v d k Q s b1 b2 q1 q2 e q
  cases x <;> cases y <;> first | (simp only [fAddI] at e; cases e; done) | skip
  simp only [fAddI] at e; cases e
  rw [q1.int, q2.int]
  exact ⟨_, _, rfl, rfl, int_q s q⟩
def fMulI : D → D → Option (D × Kd)
  | .int i, .int j => if inW i || inW j then some (.int (i * j), .sh) else none
  | _, _ => none
theorem o_mulI {c : Cn} : OpOk c (rI CMul fun i j => .int (i * j)) fMulI := by
  intro β H S x y u v d k Q s b1 b2 q1 q2 e q
  cases x <;> cases y <;> first | (simp only [fMulI] at e; cases e; done) | skip
  simp only [fMulI] at e
  split at e
  · rename_i hz; cases e
    rw [q1.int, q2.int]
    exact ⟨_, _, rfl, rfl, cmul_of hz, int_q s q⟩
  · cases e
section
variable {Γ : Cn → Prop} {O : Option Nms} {L : Nms} {N : List Str} {k : Nat} {W : WX} {X : Cx} {e e2 ea eb ec : Expr} {es : List Expr} {m ma mb mc : EM} {l : LM} {p pos p2 pos2 : Pos} {x : Str} {t : BM} {ms rs : SM} {st : Stmt} {sts : List Stmt}
theorem d_enum (h : Dx Γ O L N k W X) {tpos : Pos} {elts : List Expr} {kk : Nat} (hm : (cnOf X).mg "enumerate" = none) (hg : lk L "enumerate" .globalImplicit = true) (ha : PA X [e] (tL (cnOf X) l W)) (hl : Ar l 1) (hs : starEach [e] X.env = [(false, eval e X.env)] := by rfl) :
    PI X (.Tuple elts kk tpos) (.Call (.Name "enumerate" p) [e] [] pos) (tI (cnOf X) (itEnum l) W) := s_itEnum (h.gl hg) hm hs ha hl
theorem d_zip (h : Dx Γ O L N k W X) {tpos : Pos} {elts : List Expr} {kk : Nat} (hm : (cnOf X).mg "zip" = none) (hg : lk L "zip" .globalImplicit = true) (ha : PA X [e, e2] (tL (cnOf X) l W)) (hl : Ar l 2) (hs : starEach [e, e2] X.env = (false, eval e X.env) :: starEach [e2] X.env := by rfl) (hpl : (backTo pos (starEach [e2] X.env)).any (·.1) = false := by rfl) :
    PI X (.Tuple elts kk tpos) (.Call (.Name "zip" p) [e, e2] [] pos) (tI (cnOf X) (itZip l) W) := s_itZip (h.gl hg) hm hs hpl ha hl

/-! ### targets -/
theorem d_gNm (h : Dx Γ O L N k W X) {vs : List Nat} (i : Nat) (hi : N[i]? = some x) (hx : mine L x = true) (hf : (ownB O x || lk L x .local) = true) (hv : i ∈ vs) : PG X (.Name x p) (tG (cnOf X) vs (gNm i)) := s_gNm h.nd (h.ix hi) (h.loc hx) (h.st hf) hv
theorem d_g0 {vs : List Nat} : PGs X [] (tGs (cnOf X) vs []) := s_gNil
theorem d_gC {vs : List Nat} {g : GM} {gs : List GM} (h1 : PG X e (tG (cnOf X) vs g)) (h2 : PGs X es (tGs (cnOf X) vs gs)) (hs : (assignEach (e :: es) X.env).map (·.2) = assign e X.env :: (assignEach es X.env).map (·.2) := by rfl) : PGs X (e :: es) (tGs (cnOf X) vs (g :: gs)) := s_gCons h1 h2 hs
theorem d_gT (h : Dx Γ O L N k W X) {vs : List Nat} {kk n : Nat} {gs : List GM} (hg : PGs X es (tGs (cnOf X) vs gs)) (hl : gs.length = n) (hn : (assignEach es X.env).length = n := by rfl) (hst : (assignEach es X.env).findIdx? (·.1) = none := by rfl) :
    PG X (.Tuple es kk p) (tG (cnOf X) vs (gTp gs)) := s_gTp h.ok.calm hg hn hst hl

/-! ### comprehensions -/
theorem d_lc (h : Dx Γ O L N k W X) {elt tg iter : Expr} {ifs : List Expr} {scope : Scope} {im : LM} {g : GM} {t : BM} {m : EM} (own : List (Str × Nat)) (ok : blkL N L scope own = true) (hi : PI X tg iter (tI (cnOf X) im W))
    (hg : ∀ Y, Dx Γ (some scope.names) (relN scope.names L) N k W0 Y → PG Y tg (tG (cnOf Y) (own.map (·.2)) g)) (ht : ∀ Y, Dx Γ (some scope.names) (relN scope.names L) N k W0 Y → PTs Y ifs (tT (cnOf Y) t W0))
    (he : ∀ Y, Dx Γ (some scope.names) (relN scope.names L) N k W0 Y → PE Y elt (tE (cnOf Y) m W0)) (hs : ∀ x, foldedSetIterable iter X.env x = pure x := by intro _; rfl) :
    PE X (.ListComp elt [⟨tg, iter, ifs, 0⟩] scope pos) (tE (cnOf X) (eComp (own.map (·.2)) im g t m) W) :=
  (pe_lc h.ok.calm h.nd hi (h.bok ok) (fun s H C cl fp => hg _ (h.blk s H scope C cl fp (bl_kind ok))) (fun s H C cl fp => ht _ (h.blk s H scope C cl fp (bl_kind ok)))
    (fun s H C cl fp => s_esh (he _ (h.blk s H scope C cl fp (bl_kind ok)))) hs).imp fun σ H Q q => comp_reads q
/-- asg_reads: a value, then its name -/
theorem asg_reads {c : Cn} {i : Nat} {E : Ends} {σ : L2.St} {H : Hp} (q : tS c (sAsg i m) W E σ H) : tAsg (tE c m W) (gName i) E σ H := by
  obtain ⟨β, H0, S0, S, δ, b, r, q⟩ := q
  refine ⟨β, H0, S0, S, δ, b, r, ?_⟩
  unfold sAsg at q
  cases e : m δ b with
  | bad => rw [e] at q; exact q
  | exc x fs b1 => rw [e] at q; exact tE_exc r q
  | ok d k b1 =>
    rw [e] at q
    intro v H1 S1 x1 hb1 q1
    dsimp only at q
    cases e2 : putSl i d k δ with
    | none => rw [e2] at q; exact q.elim
    | some δ1 =>
      rw [e2] at q
      exact q _ H1 S1 (r.put x1 hb1 q1 e2)
theorem d_setLc (h : Dx Γ O L N k W X) {elt tg iter : Expr} {ifs : List Expr} {scope : Scope} {im : LM} {g : GM} {t : BM} {m : EM} {y : Str} {py spos : Pos} (i : Nat) (own : List (Str × Nat)) (ok : blkL N L scope own = true) (hi : PI X tg iter (tI (cnOf X) im W))
    (hg : ∀ Y, Dx Γ (some scope.names) (relN scope.names L) N k W0 Y → PG Y tg (tG (cnOf Y) (own.map (·.2)) g)) (ht : ∀ Y, Dx Γ (some scope.names) (relN scope.names L) N k W0 Y → PTs Y ifs (tT (cnOf Y) t W0))
    (he : ∀ Y, Dx Γ (some scope.names) (relN scope.names L) N k W0 Y → PE Y elt (tE (cnOf Y) m W0)) (hy : N[i]? = some y) (hyl : lk L y .local = true) (hl : (py.line == pos.line) = true) (hna : (scope.names.any fun (n, k) => n == y && (k == .local || k == .cell)) = false)
    (hs : ∀ x, foldedSetIterable iter X.env x = pure x := by intro _; rfl) :
    PS X (.Assign [.Name y py] (.ListComp elt [⟨tg, iter, ifs, 0⟩] scope pos) spos) (tS (cnOf X) (sAsg i (eComp (own.map (·.2)) im g t m)) W) :=
  (ps_setLc h.ok.calm h.nd (h.ix hy) (h.lcl hyl) (sw_true h.kd (h.lcl hyl) hl hna) hi (h.bok ok) (fun s H C cl fp => hg _ (h.blk s H scope C cl fp (bl_kind ok))) (fun s H C cl fp => ht _ (h.blk s H scope C cl fp (bl_kind ok)))
    (fun s H C cl fp => s_esh (he _ (h.blk s H scope C cl fp (bl_kind ok)))) hs).imp fun E σ H q => by
      obtain ⟨β, H0, S0, S, δ, b, r, q⟩ := asg_reads q
      exact comp_reads ⟨β, H0, S0, S, δ, b, r, q⟩

/-! ### displays, items, slices -/
theorem d_tup {kk : Nat} (ha : PA X es (tL (cnOf X) l W)) : PE X (.Tuple es kk p) (tE (cnOf X) (eTup l) W) := s_eTup ha
theorem d_lst (ha : PA X es (tL (cnOf X) l W)) : PE X (.List es p) (tE (cnOf X) (eLst l) W) := s_eLst ha
theorem d_idx (ha : PE X ea (tE (cnOf X) ma W)) (hb : PE X eb (tE (cnOf X) mb W)) (hp : PlainIx eb := by intro _ _; rfl) : PE X (.Subscript ea eb p) (tE (cnOf X) (eIdx ma mb) W) := s_idx ha hb hp
theorem d_sl {lo hi : Option Expr} {ml mh : PtM} (ha : PE X e (tE (cnOf X) m W)) (hl : PO X lo (tP (cnOf X) ml W)) (hh : PO X hi (tP (cnOf X) mh W)) : PE X (.Subscript e (.Slice lo hi none p2) pos) (tE (cnOf X) (eSl m ml mh) W) := s_sl ha hl hh

/-! ### tests -/
theorem d_tval (ha : PE X e (tE (cnOf X) m W)) (he : ∀ whole, isTrue e X.env whole = (do let v ← whole; standAt e.pos; holding [v] (truthy v)) := by intro _; rfl) : PT X e (tT (cnOf X) (tVal m) W) := s_tVal ha he

/-! ### statements -/
theorem d_asg (h : Dx Γ O L N k W X) (i : Nat) (hi : N[i]? = some x) (hx : mine L x = true) (hf : (ownB O x || lk L x .local) = true) (ha : PE X e (tE (cnOf X) m W)) (hs : swapsWith e (some (.Name x p)) pos.line X.env = pure false := by rfl) : PS X (.Assign [.Name x p] e pos) (tS (cnOf X) (sAsg i m) W) :=
  s_asg h.nd (h.ix hi) (h.loc hx) (h.st hf) hs ha
theorem d_exp (ha : PE X e (tE (cnOf X) m W)) (hs : swapsWith e none pos.line X.env = pure false := by rfl) : PS X (.Expr e pos) (tS (cnOf X) (sExp m) W) := s_exp ha hs
theorem d_retV (h : Dx Γ O L N k W X) (i : Nat) (hi : N[i]? = some x) (hv : seen L x = true) (hd : (x == ("__debug__" : Str)) = false) (hc : (x == ("__classdict__" : Str)) = false) : PS X (.Return (some (.Name x p)) pos) (tS (cnOf X) (sRetV i) W) := s_retV (h.ix hi) (h.vis hv) hd hc
/-- op= -/
structure Ag (X : Cx) (op : Operator) (f : D → D → Option (D × Kd)) : Prop where
  ex : ∃ r, PIp X op r ∧ OpOk (cnOf X) r f
theorem Dx.a_add (h : Dx Γ O L N k W X) : Ag X .Add fAddI := ⟨_, ip_add, o_addI⟩
theorem Dx.a_sub (h : Dx Γ O L N k W X) : Ag X .Sub fSub := ⟨_, ip_sub, o_sub⟩
theorem Dx.a_mul (h : Dx Γ O L N k W X) : Ag X .Mult fMulI := ⟨_, iop_Mul, o_mulI⟩
theorem d_aug (h : Dx Γ O L N k W X) {op : Operator} {f : D → D → Option (D × Kd)} (o : Ag X op f) (i : Nat) (hi : N[i]? = some x) (hx : mine L x = true) (hf : (ownB O x || lk L x .local) = true) (ha : PE X e (tE (cnOf X) m W)) : PS X (.AugAssign (.Name x p) op e pos) (tS (cnOf X) (sAug f i m) W) := by
  obtain ⟨r, h1, h2⟩ := o.ex
  exact s_aug h2 h1 h.nd (h.ix hi) (h.loc hx) (h.st hf) ha
theorem d_for (h : Dx Γ O L N k W X) {tg : Expr} {body : List Stmt} {im : LM} {g : GM} {vs : List Nat} (hi : PI X tg e (tI (cnOf X) im W)) (hg : PG X tg (tG (cnOf X) vs g)) (hb : PSs X body (tS (cnOf X) ms W)) (hs : ∀ x, foldedSetIterable e X.env x = pure x := by intro _; rfl) :
    PS X (.For tg e body [] pos) (tS (cnOf X) (sFor im g ms) W) := s_for h.ok hi hg hb hs
theorem d_while (h : Dx Γ O L N k W X) (n : Nat) {body : List Stmt} (hc : PT X e (tT (cnOf X) t W)) (hb : PSs X body (tS (cnOf X) ms W)) : PS X (.While e body [] pos) (tS (cnOf X) (whileL t ms n) W) := s_while n h.ok hc hb
theorem d_app (h : Dx Γ O L N k W X) (i : Nat) {ap cp : Pos} (hi : N[i]? = some x) (hv : seen L x = true) (hd : (x == ("__debug__" : Str)) = false) (hcd : (x == ("__classdict__" : Str)) = false) (ha : PE X e (tE (cnOf X) m W))
    (hs : swapsWith (.Call (.Attribute (.Name x p) "append" ap) [e] [] cp) none pos.line X.env = pure false := by rfl)
    (hbase : attributeBase (.Name x p) "append" X.env (eval (.Name x p) X.env) = eval (.Name x p) X.env := by rfl)
    (hfew : ((backTo cp (starEach [e] X.env)).all (fun x => !x.1) && (backToKw cp (keywordEach [] X.env)).all (fun x => x.1.isSome)
      && decide (([e] : List Expr).length + ([] : List Keyword).length + (if ([] : List Keyword).isEmpty then 0 else 1) < 30)) = true := by rfl)
    (hline : (ap.endLine == cp.line) = true := by rfl) (hst : starEach [e] X.env = (false, eval e X.env) :: starEach [] X.env := by rfl) :
    PS X (.Expr (.Call (.Attribute (.Name x p) "append" ap) [e] [] cp) pos) (tS (cnOf X) (sApp i m) W) := s_app (h.ix hi) (h.vis hv) hd hcd ha hs hbase hfew hline hst
theorem d_ext (h : Dx Γ O L N k W X) (i : Nat) {ap cp : Pos} (hi : N[i]? = some x) (hv : seen L x = true) (hd : (x == ("__debug__" : Str)) = false) (hcd : (x == ("__classdict__" : Str)) = false) (ha : PE X e (tE (cnOf X) m W))
    (hs : swapsWith (.Call (.Attribute (.Name x p) "extend" ap) [e] [] cp) none pos.line X.env = pure false := by rfl)
    (hbase : attributeBase (.Name x p) "extend" X.env (eval (.Name x p) X.env) = eval (.Name x p) X.env := by rfl)
    (hfew : ((backTo cp (starEach [e] X.env)).all (fun x => !x.1) && (backToKw cp (keywordEach [] X.env)).all (fun x => x.1.isSome)
      && decide (([e] : List Expr).length + ([] : List Keyword).length + (if ([] : List Keyword).isEmpty then 0 else 1) < 30)) = true := by rfl)
    (hline : (ap.endLine == cp.line) = true := by rfl) (hst : starEach [e] X.env = (false, eval e X.env) :: starEach [] X.env := by rfl) :
    PS X (.Expr (.Call (.Attribute (.Name x p) "extend" ap) [e] [] cp) pos) (tS (cnOf X) (sExt i m) W) := s_ext (h.ix hi) (h.vis hv) hd hcd ha hs hbase hfew hline hst
theorem d_rem (h : Dx Γ O L N k W X) (i : Nat) {ap cp : Pos} (hi : N[i]? = some x) (hv : seen L x = true) (hd : (x == ("__debug__" : Str)) = false) (hcd : (x == ("__classdict__" : Str)) = false) (ha : PE X e (tE (cnOf X) m W))
    (hs : swapsWith (.Call (.Attribute (.Name x p) "remove" ap) [e] [] cp) none pos.line X.env = pure false := by rfl)
    (hbase : attributeBase (.Name x p) "remove" X.env (eval (.Name x p) X.env) = eval (.Name x p) X.env := by rfl)
    (hfew : ((backTo cp (starEach [e] X.env)).all (fun x => !x.1) && (backToKw cp (keywordEach [] X.env)).all (fun x => x.1.isSome)
      && decide (([e] : List Expr).length + ([] : List Keyword).length + (if ([] : List Keyword).isEmpty then 0 else 1) < 30)) = true := by rfl)
    (hline : (ap.endLine == cp.line) = true := by rfl) (hst : starEach [e] X.env = (false, eval e X.env) :: starEach [] X.env := by rfl) :
    PS X (.Expr (.Call (.Attribute (.Name x p) "remove" ap) [e] [] cp) pos) (tS (cnOf X) (sRem i m) W) := s_rem h.ok.calm h.ok.tk (h.ix hi) (h.vis hv) hd hcd ha hs hbase hfew hline hst
theorem d_set (h : Dx Γ O L N k W X) (i : Nat) {ek : Expr} {mk mv : EM} {sp : Pos} (hi : N[i]? = some x) (hv : seen L x = true) (hd : (x == ("__debug__" : Str)) = false) (hcd : (x == ("__classdict__" : Str)) = false) (hk : PE X ek (tE (cnOf X) mk W)) (ha : PE X e (tE (cnOf X) mv W))
    (hA : ∀ v, assign (.Subscript (.Name x p) ek sp) X.env v = (do
      let ov ← holding [v] (eval (.Name x p) X.env)
      let iv ← holding [v, ov] (eval ek X.env)
      standAt sp
      holding [v, ov, iv] (setItem ov iv v)
      release [v, ov, iv] []) := by intro _; rfl)
    (hs : swapsWithSole [.Subscript (.Name x p) ek sp] e pos.line X.env = pure false := by rfl) (hw : swappedStores [.Subscript (.Name x p) ek sp] e X.env = pure none := by rfl)
    (h1 : (assignEach [.Subscript (.Name x p) ek sp] X.env).map (·.2) = [assign (.Subscript (.Name x p) ek sp) X.env] := by rfl) :
    PS X (.Assign [.Subscript (.Name x p) ek sp] e pos) (tS (cnOf X) (sSet i mk mv) W) := s_set (h.ix hi) (h.vis hv) hd hcd hk ha hA hs hw h1
end
end Rk

namespace Rk
open PySem PySem.Spec L2

/-- a def of the text stands in the module -/
structure Df (c : Cn) (x : Str) (st : Stmt) (ps : List Str) : Prop where
  ex : ∃ (f : Addr) (fd : FuncData), L2.Fun c.K x x st f fd ∧ c.mg x = some (.ref f) ∧ Binds c.K fd ps []
theorem Df.gc {c : Cn} {x : Str} {st : Stmt} {ps : List Str} (D : Df c x st ps) : Gc c x (.fn x) := by
  obtain ⟨f, fd, F, hm, _⟩ := D.ex
  exact ⟨_, .ref f, hm, rfl, fun β S => (show ∃ g, V.ref f = .ref g ∧ c.mg x = some (.ref g) from ⟨f, rfl, hm⟩)⟩
theorem fn_bodyD {c : Cn} {Γ : Cn → Prop} (g : Γ c) {k n : Nat} {x : Str} {st : Stmt} {L : Nms} {N ps : List Str} {m : SM} (D : Df c x st ps) (S : FnScope N ps (defScope st)) (hL : (defScope st).names = L) (hn : ps.length = n)
    (body : ∀ (X : Cx) (W : WX), Dx Γ none L N k W X → PSs X (defBody st) (tS (cnOf X) m W)) : Fn c (k + 1) x n (fBody N.length m) := by
  obtain ⟨f, fd, F, hm, hb⟩ := D.ex
  rw [← hn]
  refine fn_body F S hm hb fun X W e C hN hs hst hfr hfn => ?_
  subst e
  exact body X W ⟨g, by rw [hs]; exact hL, by rw [hs]; exact S.kind, hN, C, fun y _ => hfn y, fun _ => ⟨hst, hfr⟩⟩
/-- nothing is told -/
theorem fn_bad {c : Cn} {Γ : Cn → Prop} (g : Γ c) {k n : Nat} {x : Str} {st : Stmt} {L : Nms} {N ps : List Str} (D : Df c x st ps) (S : FnScope N ps (defScope st)) (hL : (defScope st).names = L) (hn : ps.length = n) : Fn c (k + 1) x n (fun _ _ => .bad) := by
  have : (fun _ _ => Out.bad : FM) = fBody N.length (fun _ _ => .bad) := by funext ds b; rfl
  rw [this]
  exact fn_bodyD g D S hL hn fun X W h => ⟨fun pins s σ H Q I q => by obtain ⟨_, _, _, _, _, _, _, z⟩ := q; exact z.elim⟩
theorem Gc.int {c : Cn} {x : Str} {i : Int} {t : Tok} (h : c.mg x = some (.int i t)) : Gc c x (.int i) := ⟨_, .int i, h, ⟨t, rfl⟩, fun _ _ => rfl⟩
theorem Gc.str {c : Cn} {x : Str} {i : Str} {t : Tok} (h : c.mg x = some (.str i t)) : Gc c x (.str i) := ⟨_, .str i, h, ⟨t, rfl⟩, fun _ _ => rfl⟩
theorem Df.mk' {c : Cn} {x : Str} {st : Stmt} {ps : List Str} {f : Addr} {oc : Value} {od an : Option Addr} {osl : Array (Option Value)} {kV doc pm cdv ct : Value} (hm : c.mg x = some (.ref f))
    (l : c.K.lookup f = some ⟨oc, od, .func (PySem.W.fnOf x x (defArgs st) (defBody st) (defScope st) .none kV doc pm an cdv ct), osl⟩) (h2 : PySem.W.codeIn c.K cdv x = true) (h3 : PySem.W.keepIn c.K (.ref f) = true)
    (h : ∀ (kV doc pm : Value) (an : Option Addr) (cdv ct : Value) (us : List Value), us.length = ps.length → bindArgs (PySem.W.fnOf x x (defArgs st) (defBody st) (defScope st) .none kV doc pm an cdv ct) ⟨us, []⟩ = pure (ps.zip us)) : Df c x st ps :=
  ⟨f, _, fun_mk l h2 h3, hm, (fun_mk l h2 h3).binds h⟩
end Rk

namespace Rk
open PySem PySem.Spec L2

/-! ### an own error class without fields: C() -/
/-- what the written part says of the class at C over the base B -/
structure Xb (K : PySem.W.Frag) (C : Addr) (B newId initId : String) (bmB : List Value) : Prop where
  F : ExcBaseFacts B newId initId bmB
  cls : ∃ nm q N bs sn sub ab col dd k0 k1 k2 k3 k5, K.lookup C = some (excClassObj nm q C N bs bmB true sn sub ab col dd k0 k1 k2 k3 k5 newId)
  exC : PySem.W.subIn K (.ref C) (.type "BaseException") = some true
  tyC : PySem.W.typeIn K (.ref C) = some (.type "type")
  kC : PySem.W.keepIn K (.ref C) = true
section
variable {X : Cx} {pins : List (Addr × Obj)} {σ : L2.St} {H : Hp} {s : Shared} {a C : Addr} {A : Around} {E : Value → Shared → Prop} {B newId initId : String} {bmB : List Value}
/-- B.__init__(self, ..) of an exception that is being made -/
theorem xb_init {us : List Value} {R : Value → Shared → Prop} (T : Xb X.K C B newId initId bmB) (I : Inv X pins σ H s) (e : H a = some (exo a C none)) (hz : us.length ≤ sizeLine) (go : ∀ s', Inv X pins σ H s' → R .none s') :
    wpAny (model X.prog X.w) A (call (.builtin initId) (.ref a :: us)) R E s := by
  obtain ⟨nm, qn, N, bs, sn, sub, ab, col, dd, k0, k1, k2, k3, k5, atC⟩ := T.cls
  obtain ⟨t1, atA⟩ := exo_at I.hok e
  obtain ⟨hp, g, d, tk, os⟩ := s
  have same : upd H a (exo a C none) = H := funext fun b => by
    by_cases q : b = a
    · rw [q, upd_same, e]
    · exact upd_ne q
  refine wpAny_call (PySem.HandSPX.init_base T.F (fun _ => rfl) (I.kIn _ _ atC) atA hz fun h' t2 kp at' => go _ ?_)
  have J := I.write (t' := tk) (x := a) (e := a) (o := exo a C none) (by rw [e]; exact True.intro) (.inl rfl) kp ⟨_, at'⟩ (exo_ok at')
  rwa [same] at J
end
section
variable {X : Cx} {e : Expr} {es : List Expr} {ta : TA} {p1 p2 pos : Pos} {B newId initId : String} {bmB : List Value} {nB : Str}
def tXi (K : PySem.W.Frag) (B newId initId : String) (bmB : List Value) (ta : TA) : TE := fun σ H Q => ta σ H fun vs H1 => ∃ (a C : Addr) (ws : List V), vs = .ref a :: ws ∧ ws.length ≤ 1000 ∧ Xb K C B newId initId bmB ∧ H1 a = some (exo a C none) ∧ Q .non H1
/-- B.__init__(self, ..) as an expression -/
theorem pe_binit {pl : Sem Bool} (hg : Gl X nB) (hm : X.mg nB = none) (hv : bootBuiltins nB = some (.type B)) (hn : nB ≠ "__name__") (hd : (nB == ("__debug__" : Str)) = false) (ty : typeOf (.type B) = pure (.type "type")) (st : Manifest.isStub B = false) (fc : PySem.W.findCls X.K (.type B) (.type "type") "__init__" = some (.val (.builtin initId))) (hi : PySem.W.handedIn (.builtin initId) = true)
    (ha : PA X (e :: es) ta) (hc : eval (.Call (.Attribute (.Name nB p1) "__init__" p2) (e :: es) [] pos) X.env = (do
      let ov ← eval (.Name nB p1) X.env
      standAt p2.atName
      let (f, first) ← holding [ov] (getMethod ov "__init__" pl)
      callWith pos f first (backTo pos (starEach (e :: es) X.env)) (backToKw pos (keywordEach [] X.env))) := by rfl)
    (he : starEach (e :: es) X.env = (false, eval e X.env) :: starEach es X.env := by rfl) (hpl : (backTo pos (starEach es X.env)).any (·.1) = false := by rfl) :
    PE X (.Call (.Attribute (.Name nB p1) "__init__" p2) (e :: es) [] pos) (tXi X.K B newId initId bmB ta) := by
  refine ⟨fun pins s σ H Q I h => PySem.W.methodCall_KW (ld_blt I hg hm hv ?_ hn hd) hc⟩
  obtain ⟨m, fr⟩ := I.fr
  refine PySem.W.method_type fr I.ok.mod.kin ty st fc hi ?_
  show wpAny _ _ (callWith pos (Value.builtin initId) [] (backTo pos (starEach (e :: es) X.env)) []) _ _ _
  refine PyProof.Rows.callWith_method1 (thn (ha.run pos pins _ σ H _ (I.tok _) h) fun us s1 ⟨vs, H1, I1, r1, a, C, ws, ev, hz, T, ea, q⟩ => ?_) he hpl
  subst ev
  cases r1 with
  | @cons _ u0 _ ur ra rw' =>
    obtain rfl : u0 = Value.ref a := ra
    exact xb_init T I1 ea (by rw [← PySem.Paired.length rw', sizeLine_eq]; omega) fun s' J => ⟨.non, H1, J, rfl, q⟩
end
/-- what such an __init__ keeps -/
def spI0 (C : Addr) : Sp := fun vs H Q _ => ∃ a, vs = [.ref a] ∧ H a = some (exo a C none) ∧ Q .non H
section
variable {X : Cx} {p pos : Pos} {B newId initId : String} {bmB : List Value} {C fI : Addr} {fd : FuncData} {ps : List Str} {k : Nat} {x : Str} {CX : CXT}
theorem pmk0 (T : Xb X.K C B newId initId bmB) (iC : PySem.W.findIn X.K (.ref C) "__init__" = some (some (.ref fI))) (tI : PySem.W.typeIn X.K (.ref fI) = some (.type "function")) (F1 : FnOk X.prog X.w X.K X.mg X.base CX k fI fd ps (spI0 C)) (hr : Room (k + 1) X.A)
    (hb : Binds X.K fd ps []) (hx : Passes CX X (fun _ _ _ => False)) (hg : Gl X x) (hm : X.mg x = some (.ref C)) (hdb : (x == ("__debug__" : Str)) = false) : PMk X (.Call (.Name x p) [] [] pos) (fun _ H Q => Q (.ref C) none H) := by
  intro pins s σ H Q I h
  obtain ⟨nm, qn, N, bs, sn, sub, ab, col, dd, k0, k1, k2, k3, k5, atC⟩ := T.cls
  refine wpAny_Call_Name_kw (ld_glob I hg hm (PySem.W.callWith_K0 I.kIn T.kC ?_) hdb)
  show wpAny _ _ (call (.ref C) []) _ _ _
  obtain ⟨hp, g, dr, tk, os⟩ := s
  have sz : hp.objs.size ≤ hp.objs.size + 1 := Nat.le_succ _
  have nw : H (hp.objs.size + 1) = none := I.hok.fresh sz
  have kk : ∀ b o, hp.get? b = some o → ((hp.push (PySem.W.kdv_tup [])).push (PySem.HandSPX.excO C hp.objs.size)).get? b = some o := fun b o e => Heap.get?_push_of_some _ (Heap.get?_push_of_some _ e)
  have got : ((hp.push (PySem.W.kdv_tup [])).push (PySem.HandSPX.excO C hp.objs.size)).get? (hp.objs.size + 1) = some (PySem.HandSPX.excO C hp.objs.size) := by heap_get
  have I2 : Inv X pins σ (upd H (hp.objs.size + 1) (exo (hp.objs.size + 1) C none)) ⟨(hp.push (PySem.W.kdv_tup [])).push (PySem.HandSPX.excO C hp.objs.size), g, dr, tk, os⟩ :=
    I.laid (t' := tk) (a := hp.objs.size + 1) (o := exo (hp.objs.size + 1) C none) (h' := (hp.push (PySem.W.kdv_tup [])).push (PySem.HandSPX.excO C hp.objs.size)) kk sz (exo_ok got)
  have hq : spI0 C [.ref (hp.objs.size + 1)] (upd H (hp.objs.size + 1) (exo (hp.objs.size + 1) C none)) (fun v H2 => v = .non ∧ H2 = upd H (hp.objs.size + 1) (exo (hp.objs.size + 1) C none)) (fun _ _ _ => False) := ⟨_, rfl, upd_same, rfl, rfl⟩
  have r2 : Vals [V.ref (hp.objs.size + 1)] [Value.ref (hp.objs.size + 1)] := .cons rfl .nil
  have hl : ([Value.ref (hp.objs.size + 1)] ++ ([] : List Value)).length = ps.length := by
    have := F1.len _ _ _ _ hq
    exact this
  refine wpAny_call (PySem.HandSPX.call_own T.F (fun _ => rfl) (I.kIn _ _ atC) (PySem.W.looks_findIn I.kIn iC) (fun self => PySem.W.bind_fn I.kIn self tI) (Nat.zero_le _)
    (codeAny_mono (F1.run _ X.stack _ _ ⟨[Value.ref (hp.objs.size + 1)], []⟩ [Value.ref (hp.objs.size + 1)] _ _ (fun _ _ _ => False) (hr.make C [] []) (I2.env0.make C [] []) (hb _ [Value.ref (hp.objs.size + 1)] I2.kIn hl) r2 hq) fun r s' hq' => ?_))
  cases r with
  | error er => exact hx pins σ _ _ er s' I2 hq'
  | ok fl =>
    cases fl with
    | next => exact False.elim hq'
    | brk => exact False.elim hq'
    | cont => exact False.elim hq'
    | ret u =>
      obtain ⟨v, H2, os2, bare2, un2, hok2, rv, ev, eH⟩ := hq'
      subst ev eH
      obtain ⟨h2, g2, d2, t2, os'⟩ := s'
      obtain ⟨t0, hoe⟩ := exo_at hok2 upd_same
      obtain ⟨G, g1', g2'⟩ := restrict h2 fun b => decide (b ≠ hp.objs.size + 1)
      have gk : ∀ b, b ≠ hp.objs.size + 1 → G.get? b = h2.get? b := fun b hb => g1' b (decide_eq_true hb)
      have ge : G.get? (hp.objs.size + 1) = none := g2' _ (by simp)
      have nha : ∀ {b : Addr} {o : Obj}, hp.get? b = some o → b ≠ hp.objs.size + 1 := fun {b o} z => Nat.ne_of_lt (Nat.lt_of_lt_of_le (Heap.lt_size z) sz)
      have up : ∀ {b : Addr}, b ≠ hp.objs.size + 1 → H b = none → upd H (hp.objs.size + 1) (exo (hp.objs.size + 1) C none) b = none := fun {b} hb n => by rw [upd_ne hb]; exact n
      have un3 : Un (frs X.stack) [] H H hp G := {
        keep := fun b o z n hf hx => (gk b (nha z)).trans (un2.keep b o (kk b o z) (up (nha z) n) hf hx)
        slot := fun b o z n hf hx => by rw [gk b (nha z)]; exact un2.slot b o (kk b o z) (up (nha z) n) hf hx
        free := fun b o z n hx => n
        there := fun b o z hx => by rw [gk b (nha z)]; exact un2.there b o (kk b o z) hx
        tups := fun b xs z => z
        frzs := fun b o v z => z
        tbls := fun b ps z => ⟨#[], by rw [z]; simp⟩ }
      have hok3 : HOk X.prog X.w H G := fun b o z => by
        have nb : b ≠ hp.objs.size + 1 := fun e => by rw [e, nw] at z; cases z
        refine (hok2 b o (by rw [upd_ne nb]; exact z)).stay (fun c v hc y => ?_) (fun c hc => ?_) (fun c xs hc => ?_)
        · have nc : c ≠ hp.objs.size + 1 := by
            rcases hc with hc | hc
            · rw [hc]; exact nb
            · exact at_ne upd_same hc exo_own
          rw [gk c nc]; exact y
        · rwa [upd_ne (at_ne upd_same hc exo_own)] at hc
        · rwa [upd_ne (at_ne upd_same hc exo_tup)] at hc
      have J : Inv X pins σ H ⟨G, g2, d2, t2, os'⟩ := I.call' (ch := []) os2 un3 hok3 bare2 (fun b z => absurd z (by simp))
      refine ⟨rv, _, _, _, ⟨G, g2, d2, t2, os'⟩, _, .ref C, none, rfl, J, fun b o z => ?_, ge, hoe, ⟨rfl, rfl⟩, rfl, rfl, nw, rfl, bare2, raises_own T.exC T.tyC, h⟩
      by_cases q : b = hp.objs.size + 1
      · rw [q, ge] at z; cases z
      · exact (gk b q).symm.trans z
end
end Rk

namespace Rk
open PySem PySem.Spec L2

/-- nothing is told of a statement -/
def sBad : SM := fun _ _ => .bad
theorem d_bad {X : Cx} {W : WX} {st : Stmt} : PS X st (tS (cnOf X) sBad W) := ⟨fun pins s σ H Q I q => by obtain ⟨_, _, _, _, _, _, _, z⟩ := q; exact z.elim⟩

/-! ### raise C() -/
/-- the first statement of a class -/
def clsDef (st : Stmt) : Stmt := match st with
  | .ClassDef _ _ _ b _ _ _ _ _ _ _ => b.headD (.Pass ⟨0, 0, 0, 0⟩)
  | _ => .Pass ⟨0, 0, 0, 0⟩
structure Xc (c : Cn) (x : Str) : Prop where
  ex : ∃ (C fI : Addr) (fd : FuncData) (B newId initId : String) (bmB : List Value), Xb c.K C B newId initId bmB ∧ c.mg x = some (.ref C) ∧ PySem.W.findIn c.K (.ref C) "__init__" = some (some (.ref fI)) ∧ PySem.W.typeIn c.K (.ref fI) = some (.type "function") ∧
    FnOk c.P c.w c.K c.mg c.base (L2.CX c.P c.w) 1 fI fd ["self"] (spI0 C) ∧ Binds c.K fd ["self"] []
/-- the __init__ of such a class, by its text -/
theorem init0 {c : Cn} {x q : Str} {st : Stmt} {fI C : Addr} {fd : FuncData} {B newId initId : String} {bmB : List Value} {nB z : Str} {p1 p2 p3 p4 p5 p6 : Pos} {j : Nat} (T : Xb c.K C B newId initId bmB) (F : L2.Fun c.K x q st fI fd) (S : FnScope ["self"] ["self"] (defScope st))
    (hb : defBody st = [.Expr (.Call (.Attribute (.Name nB p1) "__init__" p2) [.Name "self" p3, .Constant (.str z) j p4] [] p5) p6]) (hg : (defScope st).names.lookup nB = some NameKind.globalImplicit) (hl : (defScope st).names.lookup ("self" : Str) = some NameKind.local)
    (hm : c.mg nB = none) (hv : bootBuiltins nB = some (.type B)) (hn : nB ≠ "__name__") (hd : (nB == ("__debug__" : Str)) = false) (ty : typeOf (.type B) = pure (.type "type")) (sb : Manifest.isStub B = false) (fc : PySem.W.findCls c.K (.type B) (.type "type") "__init__" = some (.val (.builtin initId))) (hi : PySem.W.handedIn (.builtin initId) = true)
    (hc : ∀ env, ∃ pl : Sem Bool, eval (.Call (.Attribute (.Name nB p1) "__init__" p2) [.Name "self" p3, .Constant (.str z) j p4] [] p5) env = (do
      let ov ← eval (.Name nB p1) env
      standAt p2.atName
      let (f, first) ← holding [ov] (getMethod ov "__init__" pl)
      callWith p5 f first (backTo p5 (starEach [.Name "self" p3, .Constant (.str z) j p4] env)) (backToKw p5 (keywordEach [] env)))) :
    FnOk c.P c.w c.K c.mg c.base (L2.CX c.P c.w) 1 fI fd ["self"] (spI0 C) := by
  refine F.okX S (fun vs H Q E h => by obtain ⟨a, rfl, _⟩ := h; rfl) fun cdv A outer s H vs Q E hr h => ?_
  obtain ⟨a, rfl, ea, q⟩ := h
  rw [hb]
  obtain ⟨pl, hc⟩ := hc _
  refine ⟨_, pss_one (ps_expr (pe_binit (bmB := bmB) (newId := newId) (pl := pl) hg hm hv hn hd ty sb fc hi (pa_cons (pe_var (i := 0) rfl (.inl hl) (by decide) (by decide)) (pa_cons pe_str pa_nil)) hc) rfl), ?_⟩
  exact ⟨.ref a, rfl, a, C, [.str z], rfl, (by show 1 ≤ 1000; omega), T, ea, q⟩
theorem Xc.mg {c : Cn} {x : Str} (T : Xc c x) : ∃ C : Addr, c.mg x = some (.ref C) := by
  obtain ⟨C, _, _, _, _, _, _, _, h, _⟩ := T.ex
  exact ⟨C, h⟩
def sRaise0 (x : Str) : SM := fun δ b => .exc x [] δ b
section
variable {Γ : Cn → Prop} {O : Option Nms} {L : Nms} {N : List Str} {k : Nat} {W : WX} {X : Cx} {p pos pos2 : Pos} {x : Str}
theorem d_raise0 (h : Dx Γ O L N k W X) (T : Xc (cnOf X) x) (hk : 2 ≤ k) (hg : lk L x .globalImplicit = true) (hd : (x == ("__debug__" : Str)) = false) : PS X (.Raise (some (.Call (.Name x p) [] [] pos)) none pos2) (tS (cnOf X) (sRaise0 x) W) := by
  obtain ⟨C, fI, fd, B, newId, initId, bmB, T, hm, iC, tI, F1, hb⟩ := T.ex
  refine (ps_raise h.ok.calm h.ok.tk (pmk0 T iC tI F1 (h.ok.room.mono hk) hb passL (h.gl hg) hm hd)).imp fun E σ H q => ?_
  obtain ⟨β, H0, S0, S, δ, b, r, q⟩ := q
  exact q (.ref C) none σ H S r ⟨C, hm, rfl, rfl⟩
end

/-! ### try, with names of classes -/
/-- what an except suite stands in -/
structure Dq (Γ : Cn → Prop) (L : Nms) (N : List Str) (X : Cx) : Prop where
  hy : Γ (cnOf X)
  nm : X.env.scope.names = L
  nN : X.N = N
  nd : X.N.Nodup
  fn : ∀ y, X.fn y = true
theorem Dx.suite {Γ : Cn → Prop} {L : Nms} {N : List Str} {k : Nat} {W : WX} {X : Cx} (h : Dx Γ none L N k W X) (a : Addr) (pn : List (Addr × Obj)) : Dq Γ L N (X.suite a pn) := ⟨h.hy, h.nm, h.nN, h.ok.nd, fun y => h.fn y rfl⟩
theorem Dx.tr {Γ : Cn → Prop} {L : Nms} {N : List Str} {k : Nat} {W W' : WX} {X : Cx} (h : Dx Γ none L N k W X) {pn : List (Addr × Obj)} {xe : Value → Shared → Prop} (tk : Takes (X.tr pn xe) W') (ps : PassesOwn (model X.prog X.w) X.A X.env xe) : Dx Γ none L N k W' (X.tr pn xe) :=
  ⟨h.hy, h.nm, h.kd, h.nN, ⟨h.ok.calm, h.ok.room, tk, h.ok.nd, ps⟩, h.fn, h.tp⟩
section
variable {Γ : Cn → Prop} {L : Nms} {N : List Str} {W : WX} {X : Cx} {p pos : Pos} {x : Str} {e : Expr} {m : EM}
theorem q_var (h : Dq Γ L N X) (i : Nat) (hi : N[i]? = some x) (hv : seen L x = true) (hd : (x == ("__debug__" : Str)) = false) (hc : (x == ("__classdict__" : Str)) = false) : PE X (.Name x p) (tE (cnOf X) (eVar i) W) := by
  refine s_var (by rw [h.nN]; exact hi) ?_ hd hc
  unfold seen at hv
  rw [Bool.or_eq_true, Bool.or_eq_true] at hv
  unfold Vis
  rw [h.nm]
  rcases hv with (e | e) | e
  · exact .inl (lk_eq e)
  · exact .inr (.inl (lk_eq e))
  · exact .inr (.inr (lk_eq e))
theorem q_asg (h : Dq Γ L N X) (i : Nat) (hi : N[i]? = some x) (hx : mine L x = true) (ha : PE X e (tE (cnOf X) m W)) (hs : swapsWith e (some (.Name x p)) pos.line X.env = pure false := by rfl) : PS X (.Assign [.Name x p] e pos) (tS (cnOf X) (sAsg i m) W) := by
  refine s_asg h.nd (by rw [h.nN]; exact hi) ?_ (.inl (h.fn x)) hs ha
  unfold mine at hx
  rw [Bool.or_eq_true] at hx
  unfold L2.Loc
  rw [h.nm]
  rcases hx with e | e
  · exact .inl (lk_eq e)
  · exact .inr (lk_eq e)
end
/-- which errors are which -/
def XeAll (c : Cn) (KS : List Str) : Prop := ∀ x ∈ KS, ∀ y ∈ KS, ∀ C D : Addr, c.mg x = some (.ref C) → c.mg y = some (.ref D) → PySem.W.exmOne c.K (.ref C) (.ref D) = some (decide (x = y))
def caught : List (Str × SM) → Str → List D → Slots → Bx → SOut
  | [], x, fs, δ, b => .exc x fs δ b
  | (y, m) :: r, x, fs, δ, b => if x = y then (match m δ b with | .exc _ _ _ _ => .bad | o => o) else caught r x fs δ b
def sTry (KS : List Str) (mb : SM) (hs : List (Str × SM)) : SM := fun δ b => match mb δ b with
  | .exc x fs δ1 b1 => if x ∈ KS then caught hs x fs δ1 b1 else .bad
  | o => o
/-- the except clauses of a try -/
inductive Hd (Γ : Cn → Prop) (L : Nms) (N : List Str) (KS : List Str) (X : Cx) : List ExceptHandler → List (Str × SM) → Prop
  | nil : Hd Γ L N KS X [] []
  | cons {y : Str} {b₀ : Stmt} {suite : List Stmt} {np pos : Pos} {hds : List ExceptHandler} {m : SM} {l : List (Str × SM)} (hy : y ∈ KS) (hg : Gl X y) (hd : (y == ("__debug__" : Str)) = false) (hm : ∃ C : Addr, X.mg y = some (.ref C))
      (hs : ∀ Y, Dq Γ L N Y → PSs Y (b₀ :: suite) (tS (cnOf Y) m W0)) (t : Hd Γ L N KS X hds l) : Hd Γ L N KS X (.ExceptHandler (some (.Name y np)) none (b₀ :: suite) pos :: hds) ((y, m) :: l)
theorem d_try {Γ : Cn → Prop} {L : Nms} {N : List Str} {k : Nat} {W : WX} {X : Cx} {body : List Stmt} {h0 : ExceptHandler} {hds : List ExceptHandler} {mb : SM} {l : List (Str × SM)} {pos : Pos} {KS : List Str} (h : Dx Γ none L N k W X) (xe : XeAll (cnOf X) KS)
    (hb : ∀ Y W', Dx Γ none L N k W' Y → PSs Y body (tS (cnOf Y) mb W')) (hh : Hd Γ L N KS X (h0 :: hds) l) : PS X (.Try body (h0 :: hds) [] [] pos) (tS (cnOf X) (sTry KS mb l) W) := by
  obtain ⟨hs, hf⟩ := h.tp rfl
  have key : ∀ {hs' : List ExceptHandler} {l : List (Str × SM)}, Hd Γ L N KS X hs' l → ∃ l', HdsOk X hs' l' ∧ ∀ {β H0 S0 E x fs δ b cls dx σ H S}, x ∈ KS → RS (cnOf X) β H0 S0 H S δ σ b → ExR (cnOf X) β S x fs cls dx H → OutS (cnOf X) β W H0 S0 E (caught l x fs δ b) → wMany X.K W E l' cls dx σ H := by
    intro hs' l t
    induction t with
    | nil => exact ⟨[], .nil, fun {β H0 S0 E x fs δ b cls dx σ H S} _ r e q => q cls dx σ H S r e⟩
    | @cons y b₀ suite np pos hds m l hy hg hd hm hsu t ih =>
      obtain ⟨l', k1, k2⟩ := ih
      obtain ⟨D, hm⟩ := hm
      refine ⟨(.ref D, fun a cls d => tS (cnOf X) m W0) :: l', .cons ⟨hg, hd, .inl hm⟩ (fun a oe cls d pn _ _ => hsu _ (h.suite a _)) k1, fun {β H0 S0 E x fs δ b cls dx σ H S} hx r e q => ?_⟩
      have e' := e
      obtain ⟨C, g1, g2, g3⟩ := e'
      subst g2
      refine ⟨decide (x = y), xe x hx y hy C D g1 hm, fun et a _ => ?_, fun ef => ?_⟩
      · have et := of_decide_eq_true et
        unfold caught at q
        rw [if_pos et] at q
        refine ⟨β, H0, S0, S, δ, b, r, ?_⟩
        cases eo : m δ b with
        | exc z fs' δ' b' => rw [eo] at q; exact q.elim
        | _ => rw [eo] at q; exact q
      · have ef := of_decide_eq_false ef
        unfold caught at q
        rw [if_neg ef] at q
        exact k2 hx r e q
  obtain ⟨l', k1, k2⟩ := key hh
  refine (ps_try_many (tb := fun W' => tS (cnOf X) mb W') hs hf h.ok.tk (fun W' pn xe' tk ps => hb _ W' (h.tr tk ps)) k1).imp fun E σ H q => ?_
  obtain ⟨β, H0, S0, S, δ, b, r, q⟩ := q
  refine ⟨β, H0, S0, S, δ, b, r, ?_⟩
  unfold sTry at q
  show OutS (cnOf X) β (wMany X.K W E l') H0 S0 E (mb δ b)
  cases eo : mb δ b with
  | exc x fs δ1 b1 =>
    rw [eo] at q
    dsimp only at q
    split at q
    · rename_i hx
      exact fun cls dx σ1 H1 S1 r1 e1 => k2 hx r1 e1 q
    · exact q.elim
  | _ => rw [eo] at q; exact q
end Rk

namespace Rk
open PySem PySem.Spec L2

/-! ### a, b = x, y -/
/-- the same place, its names alone -/
def envL (L : Nms) (env : Env) : Env := { env with scope := { kind := .function, names := L, isGenerator := false, isCoroutine := false, more := [] } }
section
variable {Γ : Cn → Prop} {O : Option Nms} {L : Nms} {N : List Str} {k : Nat} {W : WX} {X : Cx} {e ea eb ec : Expr} {es : List Expr} {m ma mb mc : EM} {l : LM} {p pos p2 pos2 : Pos} {x y z : Str}
theorem Dx.sw (h : Dx Γ O L N k W X) (tg : List Expr) (v : Expr) : swappedStores tg v X.env = swappedStores tg v (envL L X.env) := by
  have hb : X.env.blockKind = .function := by unfold Env.blockKind; rw [h.kd]; rfl
  have hb0 : (envL L X.env).blockKind = .function := rfl
  have hk : X.env.kindOf = (envL L X.env).kindOf := by funext id; show X.env.scope.names.lookup id = L.lookup id; rw [h.nm]
  unfold swappedStores
  simp only [hb, hb0, hk]
def sPar2 (i j : Nat) (ma mb : EM) : SM := fun δ b => match ma δ b with
  | .ok d kd b1 => (match mb δ b1 with
    | .ok d' kd' b2 => (match putSl i d kd δ with
      | some δ1 => (match putSl j d' kd' δ1 with
        | some δ2 => .nx δ2 b2
        | none => .bad)
      | none => .bad)
    | .exc x fs b => .exc x fs δ b
    | .bad => .bad)
  | .exc x fs b => .exc x fs δ b
  | .bad => .bad
/-- a value stays as it is while others are made -/
theorem RR.fwd {c : Cn} {β : Option Addr} {H H1 S1 H2 S2 : Hp} {d : D} {v : V} {kd : Kd} (x : Ext β H1 S1 H2 S2) (q : RR c β H H1 S1 d kd v) : RR c β H H2 S2 d kd v := by
  cases kd with
  | sh => exact RV.mono x.ss q
  | fr =>
    obtain ⟨ds, a, vs, e1, e2, h1, h2, h3, h4, h5⟩ := q
    exact ⟨ds, a, vs, e1, e2, h1, x.hh _ _ h2 h4, x.nw _ (by rw [h2]; simp) h3, h4, RVs.mono x.ss h5⟩
  | bo =>
    obtain ⟨ds, a, vs, e1, e2, h2, h4, h5⟩ := q
    exact ⟨ds, a, vs, e1, e2, x.hh _ _ h2 h4, h4, RVs.mono x.ss h5⟩
theorem d_par2 (h : Dx Γ O L N k W X) (i j : Nat) {px py pt pt2 : Pos} {kt k2 : Nat} (ha : PE X ea (tE (cnOf X) ma W)) (hb : PE X eb (tE (cnOf X) mb W)) (hi : N[i]? = some x) (hj : N[j]? = some y) (hij : i ≠ j) (hx : lk L x .local = true) (hy : lk L y .local = true)
    (hw : swappedStores [.Tuple [.Name x px, .Name y py] kt pt] (.Tuple [ea, eb] k2 pt2) (envL L X.env) = pure (some [x, y]) := by rfl)
    (hs : swapsWithSole [.Tuple [.Name x px, .Name y py] kt pt] (.Tuple [ea, eb] k2 pt2) pos.line X.env = pure false := by rfl)
    (h1 : starEach [ea, eb] X.env = (false, eval ea X.env) :: starEach [eb] X.env := by rfl) (h2 : starEach [eb] X.env = (false, eval eb X.env) :: starEach [] X.env := by rfl) :
    PS X (.Assign [.Tuple [.Name x px, .Name y py] kt pt] (.Tuple [ea, eb] k2 pt2) pos) (tS (cnOf X) (sPar2 i j ma mb) W) := by
  refine (ps_par h.ok.calm h.nd (h.ix hi) (h.ix hj) hij (h.lcl hx) (h.lcl hy) (pa_cons ha (pa_cons hb pa_nil h2) h1) ((h.sw _ _).trans hw) hs).imp fun E σ H q => ?_
  obtain ⟨β, H0, S0, S, δ, b, rs, q⟩ := q
  refine ⟨β, H0, S0, S, δ, b, rs, ?_⟩
  unfold sPar2 at q
  cases e1 : ma δ b with
  | bad => rw [e1] at q; exact q
  | exc x fs b1 => rw [e1] at q; exact tE_exc rs q
  | ok d kd b1 =>
    rw [e1] at q
    dsimp only at q
    intro v H1 S1 x1 hb1 q1
    have rs1 := rs.step x1 hb1
    refine ⟨β, H0, S0, S1, δ, b1, rs1, ?_⟩
    cases e2 : mb δ b1 with
    | bad => rw [e2] at q; exact q
    | exc x fs b2 => rw [e2] at q; exact tE_exc rs1 q
    | ok d2 kd2 b2 =>
      rw [e2] at q
      dsimp only at q
      intro u H2 S2 x2 hb2 q2
      cases e3 : putSl i d kd δ with
      | none => rw [e3] at q; exact q.elim
      | some δ1 =>
        rw [e3] at q
        dsimp only at q
        cases e4 : putSl j d2 kd2 δ1 with
        | none => rw [e4] at q; exact q.elim
        | some δ2 =>
          rw [e4] at q
          exact ⟨v, u, rfl, q _ H2 S2 ((rs.put x1 hb1 q1 e3).put x2 hb2 q2 e4)⟩
def sPar3 (i j l : Nat) (ma mb mc : EM) : SM := fun δ b => match ma δ b with
  | .ok d kd b1 => (match mb δ b1 with
    | .ok d' kd' b2 => (match mc δ b2 with
      | .ok d'' kd'' b3 => (match putSl i d kd δ with
        | some δ1 => (match putSl j d' kd' δ1 with
          | some δ2 => (match putSl l d'' kd'' δ2 with
            | some δ3 => .nx δ3 b3
            | none => .bad)
          | none => .bad)
        | none => .bad)
      | .exc x fs b => .exc x fs δ b
      | .bad => .bad)
    | .exc x fs b => .exc x fs δ b
    | .bad => .bad)
  | .exc x fs b => .exc x fs δ b
  | .bad => .bad
theorem d_par3 (h : Dx Γ O L N k W X) (i j l : Nat) {px py pz pt pt2 : Pos} {kt k2 : Nat} (ha : PE X ea (tE (cnOf X) ma W)) (hb : PE X eb (tE (cnOf X) mb W)) (hc : PE X ec (tE (cnOf X) mc W)) (hi : N[i]? = some x) (hj : N[j]? = some y) (hl : N[l]? = some z) (hij : i ≠ j) (hil : i ≠ l) (hjl : j ≠ l)
    (hx : lk L x .local = true) (hy : lk L y .local = true) (hz : lk L z .local = true)
    (hw : swappedStores [.Tuple [.Name x px, .Name y py, .Name z pz] kt pt] (.Tuple [ea, eb, ec] k2 pt2) (envL L X.env) = pure (some [x, y, z]) := by rfl)
    (hs : swapsWithSole [.Tuple [.Name x px, .Name y py, .Name z pz] kt pt] (.Tuple [ea, eb, ec] k2 pt2) pos.line X.env = pure false := by rfl)
    (h1 : starEach [ea, eb, ec] X.env = (false, eval ea X.env) :: starEach [eb, ec] X.env := by rfl) (h2 : starEach [eb, ec] X.env = (false, eval eb X.env) :: starEach [ec] X.env := by rfl) (h3 : starEach [ec] X.env = (false, eval ec X.env) :: starEach [] X.env := by rfl) :
    PS X (.Assign [.Tuple [.Name x px, .Name y py, .Name z pz] kt pt] (.Tuple [ea, eb, ec] k2 pt2) pos) (tS (cnOf X) (sPar3 i j l ma mb mc) W) := by
  refine (ps_par3 h.ok.calm h.nd (h.ix hi) (h.ix hj) (h.ix hl) hij hil hjl (h.lcl hx) (h.lcl hy) (h.lcl hz) (pa_cons ha (pa_cons hb (pa_cons hc pa_nil h3) h2) h1) ((h.sw _ _).trans hw) hs).imp fun E σ H q => ?_
  obtain ⟨β, H0, S0, S, δ, b, rs, q⟩ := q
  refine ⟨β, H0, S0, S, δ, b, rs, ?_⟩
  unfold sPar3 at q
  cases e1 : ma δ b with
  | bad => rw [e1] at q; exact q
  | exc x fs b1 => rw [e1] at q; exact tE_exc rs q
  | ok d kd b1 =>
    rw [e1] at q
    dsimp only at q
    intro v H1 S1 x1 hb1 q1
    have rs1 := rs.step x1 hb1
    refine ⟨β, H0, S0, S1, δ, b1, rs1, ?_⟩
    cases e2 : mb δ b1 with
    | bad => rw [e2] at q; exact q
    | exc x fs b2 => rw [e2] at q; exact tE_exc rs1 q
    | ok d2 kd2 b2 =>
      rw [e2] at q
      dsimp only at q
      intro u H2 S2 x2 hb2 q2
      have rs2 := rs1.step x2 hb2
      refine ⟨β, H0, S0, S2, δ, b2, rs2, ?_⟩
      cases e2' : mc δ b2 with
      | bad => rw [e2'] at q; exact q
      | exc x fs b3 => rw [e2'] at q; exact tE_exc rs2 q
      | ok d3 kd3 b3 =>
        rw [e2'] at q
        dsimp only at q
        intro w H3 S3 x3 hb3 q3
        cases e3 : putSl i d kd δ with
        | none => rw [e3] at q; exact q.elim
        | some δ1 =>
          rw [e3] at q
          dsimp only at q
          cases e4 : putSl j d2 kd2 δ1 with
          | none => rw [e4] at q; exact q.elim
          | some δ2 =>
            rw [e4] at q
            dsimp only at q
            cases e5 : putSl l d3 kd3 δ2 with
            | none => rw [e5] at q; exact q.elim
            | some δ3 =>
              rw [e5] at q
              exact ⟨v, u, w, rfl, q _ H3 S3 (((rs.put x1 hb1 q1 e3).put x2 hb2 q2 e4).put x3 hb3 q3 e5)⟩
/-- (a, b) = value -/
def sAsgT (g : GM) (m : EM) : SM := fun δ b => match esh m δ b with
  | .ok d _ b1 => (match g d δ with
    | some δ1 => .nx δ1 b1
    | none => .bad)
  | .exc x fs b => .exc x fs δ b
  | .bad => .bad
theorem d_asgT (h : Dx Γ O L N k W X) {tg : Expr} {g : GM} {vs : List Nat} (ha : PE X e (tE (cnOf X) m W)) (hg : PG X tg (tG (cnOf X) vs g)) (hw : swappedStores [tg] e (envL L X.env) = pure none := by rfl)
    (hs : swapsWithSole [tg] e pos.line X.env = pure false := by rfl) (h1 : (assignEach [tg] X.env).map (·.2) = [assign tg X.env] := by rfl) : PS X (.Assign [tg] e pos) (tS (cnOf X) (sAsgT g m) W) := by
  refine (ps_asg (s_esh ha) hg hs ((h.sw _ _).trans hw) h1).imp fun E σ H q => ?_
  obtain ⟨β, H0, S0, S, δ, b, rs, q⟩ := q
  refine ⟨β, H0, S0, S, δ, b, rs, ?_⟩
  unfold sAsgT at q
  cases e1 : esh m δ b with
  | bad => rw [e1] at q; exact q
  | exc x fs b1 => rw [e1] at q; exact tE_exc rs q
  | ok d kd b1 =>
    rw [e1] at q
    cases esh_sh e1
    dsimp only at q
    intro v H1 S1 x1 hb1 q1
    have rs1 := rs.step x1 hb1
    refine ⟨β, H0, S0, S1, δ, b1, d, rs1, q1, ?_⟩
    cases e2 : g d δ with
    | none => rw [e2] at q; exact q.elim
    | some δ1 => rw [e2] at q; exact fun σ' r' _ => q σ' H1 S1 r'

/-! ### a call of a def that is a value -/
abbrev FTab := List (Str × Nat × FM)
def eCallF (Φ : FTab) (mf : EM) (l : LM) : EM := fun δ b => match mf δ b with
  | .ok (.fn x) _ b1 => (match Φ.lookup x with
    | some (n, f) => (match l δ b1 with
      | .ok ds b2 => if ds.length = n then (match f ds b2 with
        | .ok _ .bo _ => .bad
        | o => o) else .bad
      | .exc x fs b => .exc x fs b
      | .bad => .bad)
    | none => .bad)
  | .ok _ _ _ => .bad
  | .exc x fs b => .exc x fs b
  | .bad => .bad
inductive FnTab (c : Cn) (k : Nat) : FTab → Prop
  | nil : FnTab c k []
  | cons {x : Str} {n j : Nat} {f : FM} {t : FTab} (F : Fn c j x n f) (hj : j ≤ k) (r : FnTab c k t) : FnTab c k ((x, n, f) :: t)
theorem FnTab.get {c : Cn} {k : Nat} {Φ : FTab} (t : FnTab c k Φ) {x : Str} {n : Nat} {f : FM} (e : Φ.lookup x = some (n, f)) : Fn c k x n f := by
  induction t with
  | nil => cases e
  | @cons y n' j f' t F hj r ih =>
    rw [List.lookup_cons] at e
    cases q : (x == y) with
    | true => rw [q] at e; cases e; rw [eq_of_beq q]; exact F.mono hj
    | false => rw [q] at e; exact ih e
theorem d_callF (h : Dx Γ O L N k W X) {ef : Expr} {mf : EM} {Φ : FTab} (T : FnTab (cnOf X) k Φ) (hf : PE X ef (tE (cnOf X) mf W)) (ha : PA X (e :: es) (tL (cnOf X) l W))
    (hev : eval (.Call ef (e :: es) [] pos) X.env = (do let v ← eval ef X.env; callWith pos v [] (backTo pos (starEach (e :: es) X.env)) (backToKw pos (keywordEach [] X.env))) := by rfl)
    (he : starEach (e :: es) X.env = (false, eval e X.env) :: starEach es X.env := by rfl) (hpl : (backTo pos (starEach es X.env)).any (·.1) = false := by rfl) : PE X (.Call ef (e :: es) [] pos) (tE (cnOf X) (eCallF Φ mf l) W) := by
  refine ⟨fun pins s σ H Q I q => ?_⟩
  rw [hev]
  obtain ⟨β, H0, S0, S, δ, b, rs, q⟩ := q
  unfold eCallF at q
  have key : tE (cnOf X) mf W σ H (fun v H1 => ∃ f fd ps n m, v = .ref f ∧ ps.length = n ∧ FnOk X.prog X.w X.K X.mg X.base (L2.CX X.prog X.w) k f fd ps (spM (cnOf X) n m) ∧ PySem.W.keepIn X.K (.ref f) = true ∧ Binds X.K fd ps [] ∧ tL (cnOf X) l W σ H1 fun vs H2 => spM (cnOf X) n m vs H2 Q fun cls d H => W cls d σ H) := by
    refine ⟨β, H0, S0, S, δ, b, rs, ?_⟩
    cases e1 : mf δ b with
    | bad => rw [e1] at q; exact q
    | exc x fs b1 => rw [e1] at q; exact q
    | ok d kd b1 =>
      rw [e1] at q
      intro v H1 S1 x1 hb1 q1
      have rs1 := rs.step x1 hb1
      cases d <;> first | exact q.elim | skip
      rename_i x
      dsimp only at q
      cases e2 : Φ.lookup x with
      | none => rw [e2] at q; exact q.elim
      | some nf =>
        obtain ⟨n, m⟩ := nf
        rw [e2] at q
        dsimp only at q
        obtain ⟨f, fd, ps, hps, F, hm, hk, hbd⟩ := (T.get e2).ex
        have hv : RV (cnOf X) β S1 (.fn x) v := q1.rd.rv (by intro ds z; cases z)
        obtain ⟨g, eg, hg⟩ := (show ∃ g, v = .ref g ∧ X.mg x = some (.ref g) from hv)
        have hm' : X.mg x = some (.ref f) := hm
        rw [hm'] at hg
        cases hg
        refine ⟨f, fd, ps, n, m, eg, hps, F, hk, hbd, β, H0, S0, S1, δ, b1, rs1, ?_⟩
        cases e3 : l δ b1 with
        | bad => rw [e3] at q; exact q
        | exc y fs b2 => rw [e3] at q; exact fun cls dx H' S' e hb z => q cls dx H' S' (x1.trans e) hb z
        | ok ds b2 =>
          rw [e3] at q
          intro vs H2 S2 x2 hb2 q2
          have rs2 := rs1.step x2 hb2
          have x12 := x1.trans x2
          dsimp only at q
          split at q
          · rename_i hn
            refine ⟨by rw [q2.length]; exact hn, β, S2, ds, b2, x2.sub, hb2, rs2.bs, q2, ?_⟩
            cases e4 : m ds b2 with
            | bad => rw [e4] at q; exact q
            | exc y fs b3 => rw [e4] at q; exact fun cls dx H' S' e hb z => q cls dx H' S' (x12.trans e) hb z
            | ok d kd b3 =>
              rw [e4] at q
              intro w H' S' e hb z hk
              cases kd with
              | bo => exact q.elim
              | sh => exact q w H' S' (x12.trans e) hb (z.back x12)
              | fr => exact q w H' S' (x12.trans e) hb (z.back x12)
          · exact q.elim
  refine wpAny_bind (thn (hf.run pins s σ H _ I key) fun u s1 ⟨v, H1, I1, r1, f, fd, ps, n, m, ev, hps, F, hk, hbd, q1⟩ => ?_)
  subst ev
  obtain rfl : u = Value.ref f := r1
  refine PySem.W.callWith_K (h₀ := X.base) I1.ok.mod.kin hk (thn (ha.run pos pins s1 σ H1 _ I1 q1) fun us s2 ⟨vs, H2, I2, r, q⟩ => ⟨I2.kIn, ?_⟩) he hpl
  exact run_fnS F h.ok.room hbd (passAt h.ok.tk σ) I2 r q
end
end Rk

namespace Rk
open PySem PySem.Spec L2

/-! ### the law itself -/
def spL (K : PySem.W.Frag) : Sp := fun vs H Q _ => ∃ (a : Addr) (ns : List Int), vs = [.ref a] ∧ SqL K H a (ns.map V.int) ∧ ns.length ≤ 63 ∧ ∀ H', Q (.bl true) H'
mutual
theorem RV.boxed {c : Cn} {β : Option Addr} {S : Hp} : ∀ {d : D} {v : V}, RV c none S d v → RV c β S d v
  | .non, _, h => h
  | .bl _, _, h => h
  | .int _, _, h => h
  | .str _, _, h => h
  | .tup ds, v, h => by
    obtain ⟨a, vs, e, q, r⟩ := h.tup
    exact (show ∃ a vs, v = .ref a ∧ SqT c.K S a vs ∧ RVs c β S ds vs from ⟨a, vs, e, q, RVs.boxed r⟩)
  | .lst ds, v, h => by
    obtain ⟨a, vs, e, q, r⟩ := h.lst
    exact (show ∃ a vs, v = .ref a ∧ S a = some (.lst vs) ∧ RVs c β S ds vs from ⟨a, vs, e, q, RVs.boxed r⟩)
  | .box, v, h => by
    obtain ⟨a, _, e⟩ := (show ∃ a, v = .ref a ∧ (none : Option Addr) = some a from h)
    cases e
  | .fn _, _, h => h
  | .dct _, _, h => h
  | .scr _, _, h => h
theorem RVs.boxed {c : Cn} {β : Option Addr} {S : Hp} : ∀ {ds : List D} {vs : List V}, RVs c none S ds vs → RVs c β S ds vs
  | [], _, h => h
  | d :: ds, vs, h => by
    obtain ⟨v, r, e, h1, h2⟩ := h.uncons
    exact (show ∃ v r, vs = v :: r ∧ RV c β S d v ∧ RVs c β S ds r from ⟨v, r, e, RV.boxed h1, RVs.boxed h2⟩)
end
theorem Ext.boxed {β : Option Addr} {H S H' S' : Hp} (x : Ext none H S H' S') : Ext β H S H' S' := ⟨fun a o h _ => x.hh a o h (by intro z; cases z), x.bx, x.ss, x.nw, x.sub⟩
/-- a list that a name owns becomes the box -/
theorem RS.boxed {c : Cn} {H0 S0 H S : Hp} {δ : Slots} {σ : L2.St} {b b' : Bx} {i : Nat} {a : Addr} (r : RS c none H0 S0 H S δ σ b) (e : δ[i]? = some (.own [.int b'.x, .int b'.y, .int b'.z])) (ha : σ[i]? = some (some (.ref a))) :
    RS c (some a) H0 S0 H S (δ.set i (.val .box)) σ b' := by
  obtain ⟨p, vs, h1, h2, h3, h4, h5, h6⟩ := r.own i _ e
  rw [ha] at h1
  cases h1
  have ev : vs = [V.int b'.x, .int b'.y, .int b'.z] := RVs.of_ints (ns := [b'.x, b'.y, b'.z]) h6
  subst ev
  have hi : i < δ.length := by
    rcases Nat.lt_or_ge i δ.length with q | q
    · exact q
    · rw [List.getElem?_eq_none q] at e; cases e
  refine ⟨r.ext.boxed, by simp [r.len], fun p ep => by cases ep; exact h3, fun p ep => by cases ep; exact h4, fun j d ed => ?_, fun j ds ed => ?_, fun j l ds es p n e1 e2 e3 => ?_⟩
  · by_cases hj : j = i
    · subst hj
      rw [List.getElem?_set_self hi] at ed
      cases ed
      exact ⟨.ref a, ha, a, rfl, rfl⟩
    · rw [List.getElem?_set_ne (Ne.symm hj)] at ed
      obtain ⟨v, g1, g2⟩ := r.val j d ed
      exact ⟨v, g1, g2.boxed⟩
  · have hj : j ≠ i := fun z => by subst z; rw [List.getElem?_set_self hi] at ed; cases ed
    rw [List.getElem?_set_ne (Ne.symm hj)] at ed
    obtain ⟨p, us, g1, g2, g3, g4, g5, g6⟩ := r.own j ds ed
    refine ⟨p, us, g1, g2, g3, g4, fun z => ?_, g6.boxed⟩
    cases z
    exact r.dis i j _ ds a (Ne.symm hj) e ed ha g1
  · have hj : j ≠ i := fun z => by subst z; rw [List.getElem?_set_self hi] at e1; cases e1
    have hl : l ≠ i := fun z => by subst z; rw [List.getElem?_set_self hi] at e2; cases e2
    rw [List.getElem?_set_ne (Ne.symm hj)] at e1
    rw [List.getElem?_set_ne (Ne.symm hl)] at e2
    exact r.dis j l ds es p n e1 e2 e3
theorem entryL {c : Cn} {H : Hp} {N : List Str} {a : Addr} {ns : List Int} (b : Bx) (h : SqL c.K H a (ns.map V.int)) : RS c none H H H H ([Sl.val (.scr ns)] ++ List.replicate (N.length - 1) Sl.none) (L2.start N [.ref a]) b := by
  have := RS.entry (c := c) (β := none) (N := N) (ds := [.scr ns]) (vs := [.ref a]) (b := b) (Sub.refl H) (fun p e => by cases e) (fun p e => by cases e) (.cons (show ∃ p, V.ref a = .ref p ∧ SqL c.K H p (ns.map V.int) from ⟨a, rfl, h⟩) .nil)
  exact this
section
variable {c : Cn} {Γ : Cn → Prop} {k j : Nat} {st : Stmt} {L : Nms} {N : List Str} {fR : FM} {R : Str} {f : Addr} {fd : FuncData}
/-- return R(B) -/
theorem law_B (g : Γ c) (F0 : L2.Fun c.K "law" "law" st f fd) (S : FnScope N ["script"] (defScope st)) (hL : (defScope st).names = L) {eB : Expr} {mB : EM} {p pos p2 : Pos} (hj : j ≤ k) (F : Fn c j R 1 fR)
    (hb : defBody st = [.Return (some (.Call (.Name R p) [eB] [] pos)) p2]) (hg : lk L R .globalImplicit = true) (hd : (R == ("__debug__" : Str)) = false) (hs : ∀ env, starEach [eB] env = (false, eval eB env) :: starEach [] env)
    (he : ∀ (X : Cx) (W : WX), Dx Γ none L N k W X → PE X eB (tE (cnOf X) mB W))
    (hm : ∀ ns : List Int, ns.length ≤ 63 → ∃ b b1 : Bx, (mB ([Sl.val (.scr ns)] ++ List.replicate (N.length - 1) Sl.none) ⟨0, 0, 0⟩ = .ok (.lst [.int b.x, .int b.y, .int b.z]) .fr b1) ∧ ∃ kd b2, fR [.box] b = .ok (.bl true) kd b2 ∧ kd ≠ .bo) :
    FnOk c.P c.w c.K c.mg c.base (L2.CX c.P c.w) (k + 1) f fd ["script"] (spL c.K) := by
  refine F0.okX S (fun vs H Q E h => by obtain ⟨a, ns, rfl, _⟩ := h; rfl) fun cdv A outer s H vs Q E hr h => ?_
  obtain ⟨a, ns, rfl, hS, hlen, q⟩ := h
  obtain ⟨b, b1, m1, kd, b2, m2, hk⟩ := hm ns hlen
  obtain ⟨fr, fdr, ps, hps, FR, hmR, hkR, hbR⟩ := (F.mono hj).ex
  rw [hb]
  have C : Cok k (fun cls d _ H => E cls d H) (cxOf (L2.CX c.P c.w) c.P c.w c.K c.mg c.base N "law" (defScope st) f cdv A outer s H E) := ⟨rfl, hr, takes_of rfl rfl rfl rfl, S.nd, passes_of rfl⟩
  have X0 : Dx Γ none L N k (fun cls d _ H => E cls d H) (cxOf (L2.CX c.P c.w) c.P c.w c.K c.mg c.base N "law" (defScope st) f cdv A outer s H E) := ⟨g, hL, S.kind, rfl, C, fun _ _ => rfl, fun _ => ⟨rfl, rfl⟩⟩
  refine ⟨_, pss_one (ps_ret (pe_callS FR hr (X0.gl hg) hmR hkR hbR (fun σ => passAt X0.ok.tk σ) (pa_cons (he _ _ X0) pa_nil (hs _)) hd (hs _) rfl)), ?_⟩
  refine ⟨none, H, H, H, _, ⟨0, 0, 0⟩, entryL _ hS, ?_⟩
  show OutE c none _ _ H H _ (mB ([Sl.val (.scr ns)] ++ List.replicate (N.length - 1) Sl.none) ⟨0, 0, 0⟩)
  rw [m1]
  intro v H1 S1 x1 hb1 q1
  obtain ⟨ds, p, vs, ed, rfl, n0, h1, h2, h3, h4⟩ := q1
  cases ed
  have ev : vs = [V.int b.x, .int b.y, .int b.z] := RVs.of_ints (ns := [b.x, b.y, b.z]) h4
  subst ev
  refine ⟨rfl, some p, S1, [.box], b, x1.sub, fun a ea => by cases ea; exact h1, fun a ea => by cases ea; exact h2, .cons ⟨p, rfl, rfl⟩ .nil, ?_⟩
  rw [m2]
  intro w H2 S2 x2 hb2 q2 _
  have ew : w = .bl true := by
    cases kd with
    | sh => exact q2
    | bo => exact absurd rfl hk
    | fr => obtain ⟨_, _, _, e, _⟩ := q2; cases e
  rw [ew]
  exact q _
/-- box = B; return R(box) and R(box) -/
theorem law_A (g : Γ c) (F0 : L2.Fun c.K "law" "law" st f fd) (S : FnScope N ["script"] (defScope st)) (hL : (defScope st).names = L) {eB : Expr} {mB : EM} {x : Str} {p pos p2 p3 p4 p5 q1 q2 q3 q4 : Pos} (hj : j ≤ k) (F : Fn c j R 1 fR) (hN : N.length = 2)
    (hb : defBody st = [.Assign [.Name x p] eB pos, .Return (some (.BoolOp .And [.Call (.Name R p2) [.Name x p3] [] q1, .Call (.Name R p4) [.Name x p5] [] q2] q3)) q4]) (hg : lk L R .globalImplicit = true) (hd : (R == ("__debug__" : Str)) = false)
    (hx : N[1]? = some x) (hl : lk L x .local = true) (hdx : (x == ("__debug__" : Str)) = false) (hcx : (x == ("__classdict__" : Str)) = false) (hsw : ∀ env, swapsWith eB (some (.Name x p)) pos.line env = pure false)
    (he : ∀ (X : Cx) (W : WX), Dx Γ none L N k W X → PE X eB (tE (cnOf X) mB W))
    (hm : ∀ ns : List Int, ns.length ≤ 63 → ∃ b b1 : Bx, (mB [Sl.val (.scr ns), Sl.none] ⟨0, 0, 0⟩ = .ok (.lst [.int b.x, .int b.y, .int b.z]) .fr b1) ∧ ∃ b2, fR [.box] b = .ok (.bl true) .sh b2 ∧ ∃ b3, fR [.box] b2 = .ok (.bl true) .sh b3) :
    FnOk c.P c.w c.K c.mg c.base (L2.CX c.P c.w) (k + 1) f fd ["script"] (spL c.K) := by
  refine F0.okX S (fun vs H Q E h => by obtain ⟨a, ns, rfl, _⟩ := h; rfl) fun cdv A outer s H vs Q E hr h => ?_
  obtain ⟨a, ns, rfl, hS, hlen, q⟩ := h
  obtain ⟨b, b1, m1, b2, m2, b3, m3⟩ := hm ns hlen
  rw [hb]
  have C : Cok k (fun cls d _ H => E cls d H) (cxOf (L2.CX c.P c.w) c.P c.w c.K c.mg c.base N "law" (defScope st) f cdv A outer s H E) := ⟨rfl, hr, takes_of rfl rfl rfl rfl, S.nd, passes_of rfl⟩
  have X0 : Dx Γ none L N k (fun cls d _ H => E cls d H) (cxOf (L2.CX c.P c.w) c.P c.w c.K c.mg c.base N "law" (defScope st) f cdv A outer s H E) := ⟨g, hL, S.kind, rfl, C, fun _ _ => rfl, fun _ => ⟨rfl, rfl⟩⟩
  have vx : seen L x = true := by unfold seen; rw [hl]; rfl
  have mx : mine L x = true := by unfold mine; rw [hl]; rfl
  have call1 : ∀ {p q p' : Pos}, PE (cxOf (L2.CX c.P c.w) c.P c.w c.K c.mg c.base N "law" (defScope st) f cdv A outer s H E) (.Call (.Name R p) [.Name x p'] [] q) (tE c (eCall fR (lCons (eVar 1) lNil)) (fun cls d _ H => E cls d H)) :=
    fun {p q p'} => d_call X0 F hj hg hd (d_aL (d_var X0 1 hx vx hdx hcx) d_a0 rfl) (arL ar0) rfl rfl rfl
  refine ⟨_, pss_cons (ps_set X0.nd (X0.ix hx) (X0.loc mx) (he _ _ X0) (hsw _) (.inl rfl)) (pss_one (s_ret (s_eAnd call1 (s_eOne call1)))), ?_⟩
  have en := entryL (c := c) (N := N) ⟨0, 0, 0⟩ hS
  rw [hN] at en
  refine ⟨none, H, H, H, _, ⟨0, 0, 0⟩, en, ?_⟩
  show OutE c none _ _ H H _ (mB [Sl.val (.scr ns), Sl.none] ⟨0, 0, 0⟩)
  rw [m1]
  intro v H1 S1 x1 hb1 q1
  have r1 := en.put (i := 1) (d := .lst [.int b.x, .int b.y, .int b.z]) (k := .fr) x1 hb1 q1 rfl
  obtain ⟨ds, p, vs, ed, rfl, n0, h1, h2, h3, h4⟩ := q1
  have r2 := r1.boxed (i := 1) (b' := b) (a := p) rfl (by
    rw [List.getElem?_set_self]
    unfold L2.start
    simp [hN])
  refine ⟨some p, H, H, S1, _, b, r2, ?_⟩
  show OutS c (some p) _ H H _ (sRet (eAnd (eCall fR (lCons (eVar 1) lNil)) (eCall fR (lCons (eVar 1) lNil))) [Sl.val (.scr ns), .val .box] b)
  have ev : ∀ {b b' : Bx}, fR [.box] b = .ok (.bl true) .sh b' → eCall fR (lCons (eVar 1) lNil) [Sl.val (.scr ns), .val .box] b = .ok (.bl true) .sh b' := fun {b b'} e => by
    show (match (match fR [.box] b with | .ok _ .bo _ => Out.bad | o => o) with | o => o) = _
    rw [e]
  have : sRet (eAnd (eCall fR (lCons (eVar 1) lNil)) (eCall fR (lCons (eVar 1) lNil))) [Sl.val (.scr ns), .val .box] b = .ret (.bl true) .sh b3 := by
    unfold sRet eAnd
    rw [ev m2]
    dsimp only
    rw [if_pos rfl, ev m3]
  rw [this]
  intro w H2 S2 x2 hb2 q2 _
  rw [show w = .bl true from q2]
  exact q _
end
end Rk

namespace Rk
open PySem PySem.Spec L2
theorem Xc.mk' {c : Cn} {x : Str} {C fI : Addr} {fd : FuncData} {B newId initId : String} {bmB : List Value} (F : ExcBaseFacts B newId initId bmB) (hm : c.mg x = some (.ref C)) (cls : ∃ nm q N bs sn sub ab col dd k0 k1 k2 k3 k5, c.K.lookup C = some (excClassObj nm q C N bs bmB true sn sub ab col dd k0 k1 k2 k3 k5 newId))
    (e : PySem.W.subIn c.K (.ref C) (.type "BaseException") = some true) (t : PySem.W.typeIn c.K (.ref C) = some (.type "type")) (k : PySem.W.keepIn c.K (.ref C) = true) (i : PySem.W.findIn c.K (.ref C) "__init__" = some (some (.ref fI))) (ti : PySem.W.typeIn c.K (.ref fI) = some (.type "function"))
    (f : Xb c.K C B newId initId bmB → FnOk c.P c.w c.K c.mg c.base (L2.CX c.P c.w) 1 fI fd ["self"] (spI0 C)) (b : Binds c.K fd ["self"] []) : Xc c x :=
  have T : Xb c.K C B newId initId bmB := ⟨F, cls, e, t, k⟩
  ⟨C, fI, fd, B, newId, initId, bmB, T, hm, i, ti, f T, b⟩
def XeRow (c : Cn) (x : Str) (ys : List Str) : Prop := ∀ y ∈ ys, ∀ C D : Addr, c.mg x = some (.ref C) → c.mg y = some (.ref D) → PySem.W.exmOne c.K (.ref C) (.ref D) = some (decide (x = y))
def XeL (c : Cn) (xs ys : List Str) : Prop := ∀ x ∈ xs, XeRow c x ys
theorem xeRow_nil {c : Cn} {x : Str} : XeRow c x [] := fun y h => by cases h
theorem xeRow {c : Cn} {x y : Str} {ys : List Str} {C D : Addr} {r : Bool} (hx : c.mg x = some (.ref C)) (hy : c.mg y = some (.ref D)) (e : PySem.W.subIn c.K (.ref D) (.type "BaseException") = some true) (i : PySem.W.isClsIn c.K D = true) (t : PySem.W.typeIn c.K (.ref D) = some (.type "type"))
    (s : PySem.W.subIn c.K (.ref C) (.ref D) = some r) (hr : r = decide (x = y)) (w : XeRow c x ys) : XeRow c x (y :: ys) := fun z hz C' D' h1 h2 => by
  rcases List.mem_cons.mp hz with rfl | hz
  · rw [hx] at h1
    rw [hy] at h2
    cases h1; cases h2
    unfold PySem.W.exmOne
    have i' : (PySem.W.clsIn c.K D).isSome = true := i
    simp [e, PySem.W.kitCls, i', t, s, hr]
  · exact w z hz C' D' h1 h2
theorem xeAll_nil {c : Cn} {ys : List Str} : XeL c [] ys := fun x h => by cases h
theorem xeAll_cons {c : Cn} {x : Str} {xs ys : List Str} (r : XeRow c x ys) (t : XeL c xs ys) : XeL c (x :: xs) ys := fun z hz => by
  rcases List.mem_cons.mp hz with rfl | hz
  · exact r
  · exact t z hz
theorem xeAll_of {c : Cn} {ks : List Str} (h : XeL c ks ks) : XeAll c ks := fun x hx y hy C D h1 h2 => h x hx y hy C D h1 h2
theorem cx_no {P : Program} {w : World} {H : Hp} {s s' : Shared} {e : Value} (h : L2.CX P w [] H s (fun _ _ _ => False) e s') : False := by
  obtain ⟨_, _, _, _, _, _, _, _, _, _, _, _, z⟩ := h
  exact z
end Rk

namespace Rk
open PySem PySem.Spec PyProof.Rows L2
/-- a slot is given up -/
theorem RS.drop {c : Cn} {β : Option Addr} {H0 S0 H S : Hp} {δ : Slots} {σ : L2.St} {b : Bx} (j : Nat) (r : RS c β H0 S0 H S δ σ b) : RS c β H0 S0 H S (δ.set j .none) σ b := by
  have keep : ∀ {l : Nat} {y : Sl}, (δ.set j Sl.none)[l]? = some y → y ≠ Sl.none → l ≠ j ∧ δ[l]? = some y := fun {l y} e n => by
    by_cases hj : l = j
    · subst hj
      rcases Nat.lt_or_ge l δ.length with q | q
      · rw [List.getElem?_set_self q] at e; exact absurd (Option.some.inj e).symm n
      · rw [List.getElem?_eq_none (by simpa using q)] at e; cases e
    · rw [List.getElem?_set_ne (Ne.symm hj)] at e; exact ⟨hj, e⟩
  refine ⟨r.ext, by simp [r.len], r.bx, r.bs, fun l d e => ?_, fun l es e => ?_, fun l m es fs a n e1 e2 e3 => ?_⟩
  · exact r.val l d (keep e (by intro z; cases z)).2
  · exact r.own l es (keep e (by intro z; cases z)).2
  · exact r.dis l m es fs a n (keep e1 (by intro z; cases z)).2 (keep e2 (by intro z; cases z)).2 e3
def sMove (i j : Nat) : SM := fun δ b => match δ[j]? with
  | some (.own ds) => .nx ((δ.set j .none).set i (.own ds)) b
  | some (.val d) => .nx (δ.set i (.val d)) b
  | _ => .bad
theorem s_move {X : Cx} {W : WX} {i j : Nat} {x y : Str} {p p2 pos : Pos} (hN : X.N.Nodup) (hi : X.N[i]? = some x) (hx : Loc X.env.scope x) (hf : X.fn x = true ∨ X.env.scope.names.lookup x = some .local) (hs : swapsWith (.Name y p2) (some (.Name x p)) pos.line X.env = pure false)
    (hj : X.N[j]? = some y) (hv : Vis X.env.scope y) (hd : (y == ("__debug__" : Str)) = false) (hcd : (y == ("__classdict__" : Str)) = false) : PS X (.Assign [.Name x p] (.Name y p2) pos) (tS (cnOf X) (sMove i j) W) := by
  refine (ps_set hN hi hx (pe_var hj hv hd hcd) hs hf).imp fun E σ H q => ?_
  obtain ⟨β, H0, S0, S, δ, b, r, q⟩ := q
  unfold sMove at q
  cases e : δ[j]? with
  | none => rw [e] at q; exact q.elim
  | some u =>
    rw [e] at q
    cases u with
    | none => exact q.elim
    | val d =>
      obtain ⟨v, h1, h2⟩ := r.val j d e
      exact ⟨v, h1, q _ H S (r.setV i h2)⟩
    | own ds =>
      obtain ⟨a, vs, h1, h2, h3, h4, h5, h6⟩ := r.own j ds e
      refine ⟨.ref a, h1, q _ H S (RS.setO i (r.drop j) h2 h3 h4 h5 h6 fun l es hl el => ?_)⟩
      by_cases hlj : l = j
      · subst hlj
        rcases Nat.lt_or_ge l δ.length with z | z
        · rw [List.getElem?_set_self z] at el; cases el
        · rw [List.getElem?_eq_none (by simpa using z)] at el; cases el
      · rw [List.getElem?_set_ne (Ne.symm hlj)] at el
        exact r.dis j l ds es a (Ne.symm hlj) e el h1
theorem d_move {Γ : Cn → Prop} {O : Option Nms} {L : Nms} {N : List Str} {k : Nat} {W : WX} {X : Cx} {x y : Str} {p p2 pos : Pos} (h : Dx Γ O L N k W X) (i j : Nat) (hi : N[i]? = some x) (hx : mine L x = true) (hf : (ownB O x || lk L x .local) = true) (hj : N[j]? = some y) (hv : seen L y = true) (hd : (y == ("__debug__" : Str)) = false) (hc : (y == ("__classdict__" : Str)) = false) (hs : swapsWith (.Name y p2) (some (.Name x p)) pos.line X.env = pure false := by rfl) : PS X (.Assign [.Name x p] (.Name y p2) pos) (tS (cnOf X) (sMove i j) W) :=
  s_move h.nd (h.ix hi) (h.loc hx) (h.st hf) hs (h.ix hj) (h.vis hv) hd hc
end Rk

namespace Rk
open PySem PySem.Spec L2

/-! ### the same whatever the box holds, and whatever stands in some slots -/
def Agr (S : List Nat) (δ δ' : Slots) : Prop := δ.length = δ'.length ∧ ∀ i, i ∉ S → δ[i]? = δ'[i]?
def QE (b b' : Bx) : Out → Out → Prop
  | .ok d k b1, o => b1 = b ∧ o = .ok d k b'
  | .exc x fs b1, o => b1 = b ∧ o = .exc x fs b'
  | .bad, _ => True
def QL (b b' : Bx) : OutL → OutL → Prop
  | .ok d b1, o => b1 = b ∧ o = .ok d b'
  | .exc x fs b1, o => b1 = b ∧ o = .exc x fs b'
  | .bad, _ => True
def QB (b b' : Bx) : OutB → OutB → Prop
  | .ok d b1, o => b1 = b ∧ o = .ok d b'
  | .exc x fs b1, o => b1 = b ∧ o = .exc x fs b'
  | .bad, _ => True
def QP (b b' : Bx) : OutP → OutP → Prop
  | .ok d b1, o => b1 = b ∧ o = .ok d b'
  | .exc x fs b1, o => b1 = b ∧ o = .exc x fs b'
  | .bad, _ => True
def QS (S : List Nat) (b b' : Bx) : SOut → SOut → Prop
  | .nx δ b1, o => b1 = b ∧ ∃ δ', o = .nx δ' b' ∧ Agr S δ δ'
  | .bk δ b1, o => b1 = b ∧ ∃ δ', o = .bk δ' b' ∧ Agr S δ δ'
  | .ct δ b1, o => b1 = b ∧ ∃ δ', o = .ct δ' b' ∧ Agr S δ δ'
  | .ret d k b1, o => b1 = b ∧ o = .ret d k b'
  | .exc x fs δ b1, o => b1 = b ∧ ∃ δ', o = .exc x fs δ' b' ∧ Agr S δ δ'
  | .bad, _ => True
theorem QE.el {b b' : Bx} {o o' : Out} (h : QE b b' o o') : o = .bad ∨ (∃ d k, o = .ok d k b ∧ o' = .ok d k b') ∨ (∃ x fs, o = .exc x fs b ∧ o' = .exc x fs b') := by
  cases o with
  | bad => exact .inl rfl
  | ok d k b1 => obtain ⟨rfl, h⟩ := h; exact .inr (.inl ⟨d, k, rfl, h⟩)
  | exc x fs b1 => obtain ⟨rfl, h⟩ := h; exact .inr (.inr ⟨x, fs, rfl, h⟩)
theorem QL.el {b b' : Bx} {o o' : OutL} (h : QL b b' o o') : o = .bad ∨ (∃ d, o = .ok d b ∧ o' = .ok d b') ∨ (∃ x fs, o = .exc x fs b ∧ o' = .exc x fs b') := by
  cases o with
  | bad => exact .inl rfl
  | ok d b1 => obtain ⟨rfl, h⟩ := h; exact .inr (.inl ⟨d, rfl, h⟩)
  | exc x fs b1 => obtain ⟨rfl, h⟩ := h; exact .inr (.inr ⟨x, fs, rfl, h⟩)
theorem QB.el {b b' : Bx} {o o' : OutB} (h : QB b b' o o') : o = .bad ∨ (∃ d, o = .ok d b ∧ o' = .ok d b') ∨ (∃ x fs, o = .exc x fs b ∧ o' = .exc x fs b') := by
  cases o with
  | bad => exact .inl rfl
  | ok d b1 => obtain ⟨rfl, h⟩ := h; exact .inr (.inl ⟨d, rfl, h⟩)
  | exc x fs b1 => obtain ⟨rfl, h⟩ := h; exact .inr (.inr ⟨x, fs, rfl, h⟩)
theorem QP.el {b b' : Bx} {o o' : OutP} (h : QP b b' o o') : o = .bad ∨ (∃ d, o = .ok d b ∧ o' = .ok d b') ∨ (∃ x fs, o = .exc x fs b ∧ o' = .exc x fs b') := by
  cases o with
  | bad => exact .inl rfl
  | ok d b1 => obtain ⟨rfl, h⟩ := h; exact .inr (.inl ⟨d, rfl, h⟩)
  | exc x fs b1 => obtain ⟨rfl, h⟩ := h; exact .inr (.inr ⟨x, fs, rfl, h⟩)
theorem Agr.refl (S : List Nat) (δ : Slots) : Agr S δ δ := ⟨rfl, fun _ _ => rfl⟩
theorem Agr.set {S : List Nat} {δ δ' : Slots} (h : Agr S δ δ') (i : Nat) (s : Sl) : Agr S (δ.set i s) (δ'.set i s) := by
  refine ⟨by simp [h.1], fun j hj => ?_⟩
  by_cases e : i = j
  · subst e
    rw [List.getElem?_set, List.getElem?_set, h.1]
    simp
  · rw [List.getElem?_set_ne e, List.getElem?_set_ne e, h.2 j hj]
theorem Agr.setS {S : List Nat} {δ δ' : Slots} (h : Agr S δ δ') {i : Nat} (hi : i ∈ S) (s s' : Sl) : Agr S (δ.set i s) (δ'.set i s') := by
  refine ⟨by simp [h.1], fun j hj => ?_⟩
  have e : i ≠ j := fun e => hj (e ▸ hi)
  rw [List.getElem?_set_ne e, List.getElem?_set_ne e, h.2 j hj]
theorem Agr.setL {S : List Nat} {δ δ' : Slots} (h : Agr S δ δ') {i : Nat} (hi : i ∈ S) (s : Sl) : Agr S (δ.set i s) δ' := by
  refine ⟨by simp [h.1], fun j hj => ?_⟩
  have e : i ≠ j := fun e => hj (e ▸ hi)
  rw [List.getElem?_set_ne e, h.2 j hj]
theorem Agr.symm {S : List Nat} {δ δ' : Slots} (h : Agr S δ δ') : Agr S δ' δ := ⟨h.1.symm, fun i hi => (h.2 i hi).symm⟩
theorem Agr.frz1 {S : List Nat} {δ δ' : Slots} (h : Agr S δ δ') (i : Nat) : Agr S (Rk.frz1 i δ) (Rk.frz1 i δ') := by
  by_cases hi : i ∈ S
  · unfold Rk.frz1
    split
    · split
      · exact h.setS hi _ _
      · exact h.setL hi _
    · split
      · exact (h.symm.setL hi _).symm
      · exact h
  · unfold Rk.frz1
    rw [h.2 i hi]
    split
    · exact h.set _ _
    · exact h
theorem Agr.frz {S : List Nat} : ∀ (is : List Nat) {δ δ' : Slots}, Agr S δ δ' → Agr S (Rk.frz is δ) (Rk.frz is δ')
  | [], _, _, h => h
  | i :: is, δ, δ', h => Agr.frz is (h.frz1 i)
theorem Agr.wipe {S : List Nat} {δ δ' : Slots} (h : Agr S δ δ') : ∀ vs : List Nat, Agr S (wipeD δ vs) (wipeD δ' vs)
  | [] => h
  | v :: vs => (Agr.wipe h vs).set v .none
def IE (S : List Nat) (m : EM) : Prop := ∀ δ δ' b b', Agr S δ δ' → QE b b' (m δ b) (m δ' b')
def IL (S : List Nat) (m : LM) : Prop := ∀ δ δ' b b', Agr S δ δ' → QL b b' (m δ b) (m δ' b')
def IB (S : List Nat) (m : BM) : Prop := ∀ δ δ' b b', Agr S δ δ' → QB b b' (m δ b) (m δ' b')
def IP (S : List Nat) (m : PtM) : Prop := ∀ δ δ' b b', Agr S δ δ' → QP b b' (part m δ b) (part m δ' b')
def IS (S : List Nat) (m : SM) : Prop := ∀ δ δ' b b', Agr S δ δ' → QS S b b' (m δ b) (m δ' b')
def IF (f : FM) : Prop := ∀ ds b b', QE b b' (f ds b) (f ds b')
def IG (S : List Nat) (g : GM) : Prop := ∀ d δ δ', Agr S δ δ' → (g d δ = none) ∨ (∃ δ1 δ1', g d δ = some δ1 ∧ g d δ' = some δ1' ∧ Agr S δ1 δ1')
theorem putSl_ag {S : List Nat} {δ δ' δ1 : Slots} {i : Nat} {d : D} {k : Kd} (h : Agr S δ δ') (e : putSl i d k δ = some δ1) : ∃ δ1', putSl i d k δ' = some δ1' ∧ Agr S δ1 δ1' := by
  unfold putSl at e ⊢
  split at e
  · cases e; exact ⟨_, rfl, h.set _ _⟩
  · cases e; exact ⟨_, rfl, h.set _ _⟩
  · cases e
section
variable {S : List Nat} {A B C : EM} {l r : LM} {t u : BM} {m n : SM} {g : GM}
theorem j_var (i : Nat) (hi : i ∉ S := by decide) : IE S (eVar i) := fun δ δ' b b' h => by
  unfold eVar
  rw [h.2 i hi]
  cases δ'[i]? with
  | none => trivial
  | some s => cases s with
    | none => trivial
    | val d => exact ⟨rfl, rfl⟩
    | own ds => exact ⟨rfl, rfl⟩
theorem j_cst {d : D} : IE S (eCst d) := fun δ δ' b b' h => ⟨rfl, rfl⟩
theorem j_l0 : IL S lNil := fun δ δ' b b' h => ⟨rfl, rfl⟩
theorem j_true : IB S tTrue := fun δ δ' b b' h => ⟨rfl, rfl⟩
theorem j_next : IS S sNext := fun δ δ' b b' h => ⟨rfl, δ', rfl, h⟩
theorem j_brk : IS S sBrk := fun δ δ' b b' h => ⟨rfl, δ', rfl, h⟩
theorem j_cnt : IS S sCnt := fun δ δ' b b' h => ⟨rfl, δ', rfl, h⟩
theorem j_raise {x : Str} : IS S (sRaise0 x) := fun δ δ' b b' h => ⟨rfl, δ', rfl, h⟩
theorem j_sbad : IS S sBad := fun δ δ' b b' h => trivial
theorem j_frz {is : List Nat} (hm : IS S m) : IS S (sFrz is m) := fun δ δ' b b' h => hm _ _ b b' (h.frz is)
theorem j_esh (hA : IE S A) : IE S (esh A) := fun δ δ' b b' h => by
  unfold esh
  rcases (hA δ δ' b b' h).el with e | ⟨d1, k1, e1, f1⟩ | ⟨x, fs, e, f⟩
  · rw [e]; trivial
  · rw [e1, f1]; try dsimp only
    cases k1 with
    | bo => trivial
    | sh => exact ⟨rfl, rfl⟩
    | fr => exact ⟨rfl, rfl⟩
  · rw [e, f]; exact ⟨rfl, rfl⟩
theorem j_1 {f : D → Option (D × Kd)} (hA : IE S A) : IE S (e1 f A) := fun δ δ' b b' h => by
  unfold e1
  rcases (hA δ δ' b b' h).el with e | ⟨d1, k1, e1, f1⟩ | ⟨x, fs, e, f⟩
  · rw [e]; trivial
  · rw [e1, f1]; try dsimp only
    cases f d1 with
    | none => trivial
    | some p => exact ⟨rfl, rfl⟩
  · rw [e, f]; exact ⟨rfl, rfl⟩
theorem j_2 {f : D → D → Option (D × Kd)} (hA : IE S A) (hB : IE S B) : IE S (e2 f A B) := fun δ δ' b b' h => by
  unfold e2
  rcases (hA δ δ' b b' h).el with e | ⟨d1, k1, e1, f1⟩ | ⟨x, fs, e, f⟩
  · rw [e]; trivial
  · rw [e1, f1]; try dsimp only
    rcases (hB δ δ' b b' h).el with e | ⟨d2, k2, e2, f2⟩ | ⟨x, fs, e, f⟩
    · rw [e]; trivial
    · rw [e2, f2]; try dsimp only
      cases f d1 d2 with
      | none => trivial
      | some p => exact ⟨rfl, rfl⟩
    · rw [e, f]; exact ⟨rfl, rfl⟩
  · rw [e, f]; exact ⟨rfl, rfl⟩
theorem j_lc (hA : IE S A) (hl : IL S l) : IL S (lCons A l) := fun δ δ' b b' h => by
  unfold lCons
  rcases (hA δ δ' b b' h).el with e | ⟨d1, k1, e1, f1⟩ | ⟨x, fs, e, f⟩
  · rw [e]; trivial
  · rw [e1, f1]; try dsimp only
    cases k1 with
    | bo => trivial
    | sh =>
      dsimp only
      rcases (hl δ δ' b b' h).el with e | ⟨d2, e2, f2⟩ | ⟨x, fs, e, f⟩
      · rw [e]; trivial
      · rw [e2, f2]; exact ⟨rfl, rfl⟩
      · rw [e, f]; exact ⟨rfl, rfl⟩
    | fr =>
      dsimp only
      rcases (hl δ δ' b b' h).el with e | ⟨d2, e2, f2⟩ | ⟨x, fs, e, f⟩
      · rw [e]; trivial
      · rw [e2, f2]; exact ⟨rfl, rfl⟩
      · rw [e, f]; exact ⟨rfl, rfl⟩
  · rw [e, f]; exact ⟨rfl, rfl⟩
theorem j_rc (hA : IE S A) (hl : IL S l) : IL S (rCons A l) := fun δ δ' b b' h => by
  unfold rCons
  rcases (hA δ δ' b b' h).el with e | ⟨d1, k1, e1, f1⟩ | ⟨x, fs, e, f⟩
  · rw [e]; trivial
  · rw [e1, f1]; try dsimp only
    rcases (hl δ δ' b b' h).el with e | ⟨d2, e2, f2⟩ | ⟨x, fs, e, f⟩
    · rw [e]; trivial
    · rw [e2, f2]; try dsimp only
      exact ⟨rfl, rfl⟩
    · rw [e, f]; exact ⟨rfl, rfl⟩
  · rw [e, f]; exact ⟨rfl, rfl⟩
theorem j_b {f : List D → Option (D × Kd)} (hl : IL S l) : IE S (eB f l) := fun δ δ' b b' h => by
  unfold eB
  rcases (hl δ δ' b b' h).el with e | ⟨d1, e1, f1⟩ | ⟨x, fs, e, f⟩
  · rw [e]; trivial
  · rw [e1, f1]; try dsimp only
    cases f d1 with
    | none => trivial
    | some p => exact ⟨rfl, rfl⟩
  · rw [e, f]; exact ⟨rfl, rfl⟩
theorem j_call {f : FM} (hf : IF f) (hl : IL S l) : IE S (eCall f l) := fun δ δ' b b' h => by
  unfold eCall
  rcases (hl δ δ' b b' h).el with e | ⟨d1, e1, f1⟩ | ⟨x, fs, e, f⟩
  · rw [e]; trivial
  · rw [e1, f1]; try dsimp only
    rcases (hf d1 b b').el with e | ⟨d2, k2, e2, f2⟩ | ⟨x, fs, e, f⟩
    · rw [e]; trivial
    · rw [e2, f2]
      cases k2 with
      | bo => trivial
      | sh => exact ⟨rfl, rfl⟩
      | fr => exact ⟨rfl, rfl⟩
    · rw [e, f]; exact ⟨rfl, rfl⟩
  · rw [e, f]; exact ⟨rfl, rfl⟩
theorem j_tup (hl : IL S l) : IE S (eTup l) := fun δ δ' b b' h => by
  unfold eTup
  rcases (hl δ δ' b b' h).el with e | ⟨d1, e1, f1⟩ | ⟨x, fs, e, f⟩
  · rw [e]; trivial
  · rw [e1, f1]; try dsimp only
    by_cases hh : d1.length ≤ 1000
    · rw [if_pos hh, if_pos hh]; exact ⟨rfl, rfl⟩
    · rw [if_neg hh]; trivial
  · rw [e, f]; exact ⟨rfl, rfl⟩
theorem j_lst (hl : IL S l) : IE S (eLst l) := fun δ δ' b b' h => by
  unfold eLst
  rcases (hl δ δ' b b' h).el with e | ⟨d1, e1, f1⟩ | ⟨x, fs, e, f⟩
  · rw [e]; trivial
  · rw [e1, f1]; try dsimp only
    by_cases hh : d1.length ≤ 1000
    · rw [if_pos hh, if_pos hh]; exact ⟨rfl, rfl⟩
    · rw [if_neg hh]; trivial
  · rw [e, f]; exact ⟨rfl, rfl⟩
theorem j_tval (hA : IE S A) : IB S (tVal A) := fun δ δ' b b' h => by
  unfold tVal
  rcases (hA δ δ' b b' h).el with e | ⟨d1, k1, e1, f1⟩ | ⟨x, fs, e, f⟩
  · rw [e]; trivial
  · rw [e1, f1]; try dsimp only
    cases d1 with
    | bl c => exact ⟨rfl, rfl⟩
    | non => trivial
    | int _ => trivial
    | str _ => trivial
    | tup _ => trivial
    | lst _ => trivial
    | box => trivial
    | fn _ => trivial
    | dct _ => trivial
    | scr _ => trivial
  · rw [e, f]; exact ⟨rfl, rfl⟩
theorem j_not (ht : IB S t) : IB S (tNot_ t) := fun δ δ' b b' h => by
  unfold tNot_
  rcases (ht δ δ' b b' h).el with e | ⟨d1, e1, f1⟩ | ⟨x, fs, e, f⟩
  · rw [e]; trivial
  · rw [e1, f1]; try dsimp only
    exact ⟨rfl, rfl⟩
  · rw [e, f]; exact ⟨rfl, rfl⟩
theorem j_and (ht : IB S t) (hu : IB S u) : IB S (tAnd_ t u) := fun δ δ' b b' h => by
  unfold tAnd_
  rcases (ht δ δ' b b' h).el with e | ⟨d1, e1, f1⟩ | ⟨x, fs, e, f⟩
  · rw [e]; trivial
  · rw [e1, f1]; try dsimp only
    cases d1 with
    | true => exact hu δ δ' b b' h
    | false => exact ⟨rfl, rfl⟩
  · rw [e, f]; exact ⟨rfl, rfl⟩
theorem j_or (ht : IB S t) (hu : IB S u) : IB S (tOr_ t u) := fun δ δ' b b' h => by
  unfold tOr_
  rcases (ht δ δ' b b' h).el with e | ⟨d1, e1, f1⟩ | ⟨x, fs, e, f⟩
  · rw [e]; trivial
  · rw [e1, f1]; try dsimp only
    cases d1 with
    | true => exact ⟨rfl, rfl⟩
    | false => exact hu δ δ' b b' h
  · rw [e, f]; exact ⟨rfl, rfl⟩
theorem j_eand (hA : IE S A) (hB : IE S B) : IE S (eAnd A B) := fun δ δ' b b' h => by
  unfold eAnd
  rcases (hA δ δ' b b' h).el with e | ⟨d1, k1, e1, f1⟩ | ⟨x, fs, e, f⟩
  · rw [e]; trivial
  · rw [e1, f1]; try dsimp only
    cases d1 with
    | bl c => cases c with | true => exact hB δ δ' b b' h | false => exact ⟨rfl, rfl⟩
    | non => trivial
    | int _ => trivial
    | str _ => trivial
    | tup _ => trivial
    | lst _ => trivial
    | box => trivial
    | fn _ => trivial
    | dct _ => trivial
    | scr _ => trivial
  · rw [e, f]; exact ⟨rfl, rfl⟩
theorem j_eor (hA : IE S A) (hB : IE S B) : IE S (eOr A B) := fun δ δ' b b' h => by
  unfold eOr
  rcases (hA δ δ' b b' h).el with e | ⟨d1, k1, e1, f1⟩ | ⟨x, fs, e, f⟩
  · rw [e]; trivial
  · rw [e1, f1]; try dsimp only
    cases d1 with
    | bl c => cases c with | true => exact ⟨rfl, rfl⟩ | false => exact hB δ δ' b b' h
    | non => trivial
    | int _ => trivial
    | str _ => trivial
    | tup _ => trivial
    | lst _ => trivial
    | box => trivial
    | fn _ => trivial
    | dct _ => trivial
    | scr _ => trivial
  · rw [e, f]; exact ⟨rfl, rfl⟩
theorem j_enot (hA : IE S A) : IE S (eNot A) := fun δ δ' b b' h => by
  unfold eNot
  rcases (hA δ δ' b b' h).el with e | ⟨d1, k1, e1, f1⟩ | ⟨x, fs, e, f⟩
  · rw [e]; trivial
  · rw [e1, f1]; try dsimp only
    cases d1 with
    | bl c => exact ⟨rfl, rfl⟩
    | non => trivial
    | int _ => trivial
    | str _ => trivial
    | tup _ => trivial
    | lst _ => trivial
    | box => trivial
    | fn _ => trivial
    | dct _ => trivial
    | scr _ => trivial
  · rw [e, f]; exact ⟨rfl, rfl⟩
theorem j_eif (ht : IB S t) (hA : IE S A) (hB : IE S B) : IE S (eIf t A B) := fun δ δ' b b' h => by
  unfold eIf
  rcases (ht δ δ' b b' h).el with e | ⟨d1, e1, f1⟩ | ⟨x, fs, e, f⟩
  · rw [e]; trivial
  · rw [e1, f1]; try dsimp only
    cases d1 with
    | true => exact hA δ δ' b b' h
    | false => exact hB δ δ' b b' h
  · rw [e, f]; exact ⟨rfl, rfl⟩
theorem j_chain {f g : D → D → Option Bool} (hA : IE S A) (hB : IE S B) (hC : IE S C) : IE S (eChain f g A B C) := fun δ δ' b b' h => by
  unfold eChain
  rcases (hA δ δ' b b' h).el with e | ⟨d1, k1, e1, f1⟩ | ⟨x, fs, e, f⟩
  · rw [e]; trivial
  · rw [e1, f1]; try dsimp only
    rcases (hB δ δ' b b' h).el with e | ⟨d2, k2, e2, f2⟩ | ⟨x, fs, e, f⟩
    · rw [e]; trivial
    · rw [e2, f2]; try dsimp only
      cases f d1 d2 with
      | none => trivial
      | some c => cases c with
        | false => exact ⟨rfl, rfl⟩
        | true =>
          dsimp only
          rcases (hC δ δ' b b' h).el with e | ⟨d3, k3, e3, f3⟩ | ⟨x, fs, e, f⟩
          · rw [e]; trivial
          · rw [e3, f3]; try dsimp only; cases g d2 d3 with
            | none => trivial
            | some c => exact ⟨rfl, rfl⟩
          · rw [e, f]; exact ⟨rfl, rfl⟩
    · rw [e, f]; exact ⟨rfl, rfl⟩
  · rw [e, f]; exact ⟨rfl, rfl⟩
theorem j_isi {Ts : List String} (hA : IE S A) : IE S (eIsi Ts A) := fun δ δ' b b' h => by
  unfold eIsi
  rcases (hA δ δ' b b' h).el with e | ⟨d1, k1, e1, f1⟩ | ⟨x, fs, e, f⟩
  · rw [e]; trivial
  · rw [e1, f1]; try dsimp only
    cases tyN d1 with
    | none => trivial
    | some p => exact ⟨rfl, rfl⟩
  · rw [e, f]; exact ⟨rfl, rfl⟩
/-- the item at a place, never of the box -/
def fIdxN : D → D → Option D
  | .box, _ => none
  | d, i => fIdx ⟨0, 0, 0⟩ d i
theorem fIdxN_eq {d i x : D} (h : fIdxN d i = some x) (b : Bx) : fIdx b d i = some x := by
  cases d <;> first | (cases h; done) | (cases i <;> exact h)
def eIdxN (ma mb : EM) : EM := fun δ b => match ma δ b with
  | .ok x _ b1 => (match mb δ b1 with
    | .ok y _ b2 => (match fIdxN x y with
      | some d => .ok d .sh b2
      | none => .bad)
    | .exc x fs b => .exc x fs b
    | .bad => .bad)
  | .exc x fs b => .exc x fs b
  | .bad => .bad
theorem eIdxN_le (ma mb : EM) (δ : Slots) (b : Bx) : eIdxN ma mb δ b = .bad ∨ eIdxN ma mb δ b = eIdx ma mb δ b := by
  unfold eIdxN eIdx
  cases ma δ b with
  | bad => exact .inl rfl
  | exc x fs b1 => exact .inr rfl
  | ok x k b1 =>
    try dsimp only
    cases mb δ b1 with
    | bad => exact .inl rfl
    | exc x fs b1 => exact .inr rfl
    | ok y k2 b2 =>
      try dsimp only
      cases e : fIdxN x y with
      | none => exact .inl rfl
      | some d => rw [fIdxN_eq e]; exact .inr rfl
theorem d_idxN {X : Cx} {W : WX} {ea eb : Expr} {ma mb : EM} {p : Pos} (ha : PE X ea (tE (cnOf X) ma W)) (hb : PE X eb (tE (cnOf X) mb W)) (hp : PlainIx eb := by intro _ _; rfl) : PE X (.Subscript ea eb p) (tE (cnOf X) (eIdxN ma mb) W) :=
  (d_idx ha hb hp).imp fun σ H Q q => by
    obtain ⟨β, H0, S0, S, δ, b, r, q⟩ := q
    refine ⟨β, H0, S0, S, δ, b, r, ?_⟩
    rcases eIdxN_le ma mb δ b with e | e
    · rw [e] at q; exact q.elim
    · rw [e] at q; exact q
theorem j_idx (hA : IE S A) (hB : IE S B) : IE S (eIdxN A B) := fun δ δ' b b' h => by
  unfold eIdxN
  rcases (hA δ δ' b b' h).el with e | ⟨d1, k1, e1, f1⟩ | ⟨x, fs, e, f⟩
  · rw [e]; trivial
  · rw [e1, f1]; try dsimp only
    rcases (hB δ δ' b b' h).el with e | ⟨d2, k2, e2, f2⟩ | ⟨x, fs, e, f⟩
    · rw [e]; trivial
    · rw [e2, f2]; try dsimp only
      cases fIdxN d1 d2 with
      | none => trivial
      | some p => exact ⟨rfl, rfl⟩
    · rw [e, f]; exact ⟨rfl, rfl⟩
  · rw [e, f]; exact ⟨rfl, rfl⟩
theorem j_p0 : IP S none := fun δ δ' b b' h => ⟨rfl, rfl⟩
theorem j_p1 (hA : IE S A) : IP S (some A) := fun δ δ' b b' h => by
  unfold part
  dsimp only
  rcases (hA δ δ' b b' h).el with e | ⟨d1, k1, e1, f1⟩ | ⟨x, fs, e, f⟩
  · rw [e]; trivial
  · rw [e1, f1]; try dsimp only
    cases d1 <;> first | exact ⟨rfl, rfl⟩ | trivial
  · rw [e, f]; exact ⟨rfl, rfl⟩
theorem j_sl {lo hi : PtM} (hA : IE S A) (hl : IP S lo) (hh : IP S hi) : IE S (eSl A lo hi) := fun δ δ' b b' h => by
  unfold eSl
  rcases (hA δ δ' b b' h).el with e | ⟨d1, k1, e1, f1⟩ | ⟨x, fs, e, f⟩
  · rw [e]; trivial
  · rw [e1, f1]; try dsimp only
    rcases (hl δ δ' b b' h).el with e | ⟨d2, e2, f2⟩ | ⟨x, fs, e, f⟩
    · rw [e]; trivial
    · rw [e2, f2]; try dsimp only
      rcases (hh δ δ' b b' h).el with e | ⟨d3, e3, f3⟩ | ⟨x, fs, e, f⟩
      · rw [e]; trivial
      · rw [e3, f3]; try dsimp only
        cases fSl d1 d2 d3 with
        | none => trivial
        | some p => exact ⟨rfl, rfl⟩
      · rw [e, f]; exact ⟨rfl, rfl⟩
    · rw [e, f]; exact ⟨rfl, rfl⟩
  · rw [e, f]; exact ⟨rfl, rfl⟩
theorem j_seq' (hA : IE S A) : IL S (itSeq A) := fun δ δ' b b' h => by
  unfold itSeq
  rcases (j_esh hA δ δ' b b' h).el with e | ⟨d1, k1, e1, f1⟩ | ⟨x, fs, e, f⟩
  · rw [e]; trivial
  · rw [e1, f1]; try dsimp only
    cases toItems d1 with
    | none => trivial
    | some ds => exact ⟨rfl, rfl⟩
  · rw [e, f]; exact ⟨rfl, rfl⟩
theorem j_itrng (hl : IL S l) : IL S (itRng l) := fun δ δ' b b' h => by
  unfold itRng
  rcases (hl δ δ' b b' h).el with e | ⟨d1, e1, f1⟩ | ⟨x, fs, e, f⟩
  · rw [e]; trivial
  · rw [e1, f1]; try dsimp only
    cases d1 with
    | nil => trivial
    | cons a ds => cases ds with
      | nil => cases a <;> dsimp only <;> first | trivial | (split <;> first | exact ⟨rfl, rfl⟩ | trivial)
      | cons a2 ds => cases ds with
        | nil => cases a <;> first | trivial | (cases a2 <;> dsimp only <;> first | trivial | (split <;> first | exact ⟨rfl, rfl⟩ | trivial))
        | cons a3 ds => cases a <;> first | trivial | (cases a2 <;> trivial)
  · rw [e, f]; exact ⟨rfl, rfl⟩
theorem j_rng {tp : Bool} (hl : IL S l) : IE S (eRng tp l) := fun δ δ' b b' h => by
  unfold eRng
  rcases (hl δ δ' b b' h).el with e | ⟨d1, e1, f1⟩ | ⟨x, fs, e, f⟩
  · rw [e]; trivial
  · rw [e1, f1]; try dsimp only
    cases tp <;> (
      cases d1 with
      | nil => trivial
      | cons a ds => cases ds with
        | nil => cases a <;> dsimp only <;> first | trivial | (split <;> first | exact ⟨rfl, rfl⟩ | trivial)
        | cons a2 ds => cases ds with
          | nil => cases a <;> first | trivial | (cases a2 <;> dsimp only <;> first | trivial | (split <;> first | exact ⟨rfl, rfl⟩ | trivial))
          | cons a3 ds => cases a <;> first | trivial | (cases a2 <;> trivial))
  · rw [e, f]; exact ⟨rfl, rfl⟩
theorem j_enum (hl : IL S l) : IL S (itEnum l) := fun δ δ' b b' h => by
  unfold itEnum
  rcases (hl δ δ' b b' h).el with e | ⟨d1, e1, f1⟩ | ⟨x, fs, e, f⟩
  · rw [e]; trivial
  · rw [e1, f1]; try dsimp only
    cases d1 with
    | nil => trivial
    | cons a ds => cases ds with
      | nil => dsimp only; cases toItems a with
        | none => trivial
        | some es => exact ⟨rfl, rfl⟩
      | cons _ _ => trivial
  · rw [e, f]; exact ⟨rfl, rfl⟩
theorem j_zip (hl : IL S l) : IL S (itZip l) := fun δ δ' b b' h => by
  unfold itZip
  rcases (hl δ δ' b b' h).el with e | ⟨d1, e1, f1⟩ | ⟨x, fs, e, f⟩
  · rw [e]; trivial
  · rw [e1, f1]; try dsimp only
    cases d1 with
    | nil => trivial
    | cons a ds => cases ds with
      | nil => trivial
      | cons a2 ds => cases ds with
        | nil => dsimp only; cases toItems a with
          | none => trivial
          | some es => cases toItems a2 with
            | none => trivial
            | some es2 => exact ⟨rfl, rfl⟩
        | cons _ _ => trivial
  · rw [e, f]; exact ⟨rfl, rfl⟩
theorem j_nm {i : Nat} : IG S (gNm i) := fun d δ δ' h => .inr ⟨_, _, rfl, rfl, h.set _ _⟩
def IGs (S : List Nat) (gs : List GM) : Prop := ∀ g ∈ gs, IG S g
theorem j_gs0 : IGs S [] := fun _ h => by cases h
theorem j_gsc {gs : List GM} (h : IG S g) (h' : IGs S gs) : IGs S (g :: gs) := fun x hx => by
  rcases List.mem_cons.mp hx with rfl | hx
  · exact h
  · exact h' x hx
theorem gEach_ag : ∀ {gs : List GM}, IGs S gs → ∀ (ds : List D) (δ δ' : Slots), Agr S δ δ' → (gEach gs ds δ = none) ∨ (∃ δ1 δ1', gEach gs ds δ = some δ1 ∧ gEach gs ds δ' = some δ1' ∧ Agr S δ1 δ1')
  | [], _, [], δ, δ', h => .inr ⟨_, _, rfl, rfl, h⟩
  | [], _, _ :: _, δ, δ', h => .inl rfl
  | _ :: _, _, [], δ, δ', h => .inl rfl
  | g :: gs, hg, d :: ds, δ, δ', h => by
    unfold gEach
    rcases hg g List.mem_cons_self d δ δ' h with e | ⟨δ1, δ1', e, f, h1⟩
    · rw [e]; exact .inl rfl
    · rw [e, f]
      exact gEach_ag (fun x hx => hg x (List.mem_cons_of_mem _ hx)) ds δ1 δ1' h1
theorem j_tp {gs : List GM} (h : IGs S gs) : IG S (gTp gs) := fun d δ δ' hh => by
  cases d <;> first | exact .inl rfl | exact gEach_ag h _ δ δ' hh
theorem compL_ag {δ δ' : Slots} {b b' : Bx} (hg : IG S g) (ht : IB S t) (hA : IE S A) (h : Agr S δ δ') : ∀ ds, QL b b' (compL g t A δ ds b) (compL g t A δ' ds b')
  | [] => ⟨rfl, rfl⟩
  | d :: ds => by
    have ih := compL_ag (b := b) (b' := b') hg ht hA h ds
    unfold compL
    rcases hg d δ δ' h with e | ⟨δ1, δ1', e, f, h1⟩
    · rw [e]; trivial
    · rw [e, f]
      try dsimp only
      rcases (ht δ1 δ1' b b' h1).el with e | ⟨c, e1, f1⟩ | ⟨x, fs, e, f⟩
      · rw [e]; trivial
      · rw [e1, f1]
        cases c with
        | false => exact ih
        | true =>
          try dsimp only
          rcases (hA δ1 δ1' b b' h1).el with e | ⟨d2, k2, e2, f2⟩ | ⟨x, fs, e, f⟩
          · rw [e]; trivial
          · rw [e2, f2]
            cases k2 with
            | bo => trivial
            | sh =>
              try dsimp only
              rcases ih.el with e | ⟨ys, e3, f3⟩ | ⟨x, fs, e, f⟩
              · rw [e]; trivial
              · rw [e3, f3]; exact ⟨rfl, rfl⟩
              · rw [e, f]; exact ⟨rfl, rfl⟩
            | fr =>
              try dsimp only
              rcases ih.el with e | ⟨ys, e3, f3⟩ | ⟨x, fs, e, f⟩
              · rw [e]; trivial
              · rw [e3, f3]; exact ⟨rfl, rfl⟩
              · rw [e, f]; exact ⟨rfl, rfl⟩
          · rw [e]; trivial
      · rw [e]; trivial
theorem j_comp {vs : List Nat} (hl : IL S l) (hg : IG S g) (ht : IB S t) (hA : IE S A) : IE S (eComp vs l g t A) := fun δ δ' b b' h => by
  unfold eComp
  rcases (hl δ δ' b b' h).el with e | ⟨ds, e1, f1⟩ | ⟨x, fs, e, f⟩
  · rw [e]; trivial
  · rw [e1, f1]
    try dsimp only
    by_cases hh : ds.length ≤ 1000000
    · rw [if_pos hh, if_pos hh]
      rcases (compL_ag (b := b) (b' := b') hg ht hA (h.wipe vs) ds).el with e | ⟨ys, e2, f2⟩ | ⟨x, fs, e, f⟩
      · rw [e]; trivial
      · rw [e2, f2]; exact ⟨rfl, rfl⟩
      · rw [e]; trivial
    · rw [if_neg hh]; trivial
  · rw [e, f]; exact ⟨rfl, rfl⟩
/-! statements -/
theorem j_seq (hm : IS S m) (hn : IS S n) : IS S (sSeq m n) := fun δ δ' b b' h => by
  have a := hm δ δ' b b' h
  unfold sSeq
  cases e : m δ b with
  | nx δ1 b1 => rw [e] at a; obtain ⟨rfl, δ1', f, h1⟩ := a; rw [f]; exact hn _ _ _ _ h1
  | bk δ1 b1 => rw [e] at a; obtain ⟨rfl, δ1', f, h1⟩ := a; rw [f]; exact ⟨rfl, _, rfl, h1⟩
  | ct δ1 b1 => rw [e] at a; obtain ⟨rfl, δ1', f, h1⟩ := a; rw [f]; exact ⟨rfl, _, rfl, h1⟩
  | ret d k b1 => rw [e] at a; obtain ⟨rfl, f⟩ := a; rw [f]; exact ⟨rfl, rfl⟩
  | exc x fs δ1 b1 => rw [e] at a; obtain ⟨rfl, δ1', f, h1⟩ := a; rw [f]; exact ⟨rfl, _, rfl, h1⟩
  | bad => trivial
theorem forL_ag {b b' : Bx} (hg : IG S g) (hm : IS S m) : ∀ (ds : List D) (δ δ' : Slots), Agr S δ δ' → QS S b b' (forL g m ds δ b) (forL g m ds δ' b')
  | [], δ, δ', h => ⟨rfl, _, rfl, h⟩
  | d :: ds, δ, δ', h => by
    unfold forL
    rcases hg d δ δ' h with e | ⟨δ1, δ1', e, f, h1⟩
    · rw [e]; trivial
    · rw [e, f]
      try dsimp only
      have a := hm δ1 δ1' b b' h1
      cases e : m δ1 b with
      | nx δ2 b1 => rw [e] at a; obtain ⟨rfl, δ2', f, h2⟩ := a; rw [f]; exact forL_ag hg hm ds _ _ h2
      | ct δ2 b1 => rw [e] at a; obtain ⟨rfl, δ2', f, h2⟩ := a; rw [f]; exact forL_ag hg hm ds _ _ h2
      | bk δ2 b1 => rw [e] at a; obtain ⟨rfl, δ2', f, h2⟩ := a; rw [f]; exact ⟨rfl, _, rfl, h2⟩
      | ret d k b1 => rw [e] at a; obtain ⟨rfl, f⟩ := a; rw [f]; exact ⟨rfl, rfl⟩
      | exc x fs δ2 b1 => rw [e] at a; obtain ⟨rfl, δ2', f, h2⟩ := a; rw [f]; exact ⟨rfl, _, rfl, h2⟩
      | bad => trivial
theorem whileL_ag {b b' : Bx} (ht : IB S t) (hm : IS S m) : ∀ (n : Nat) (δ δ' : Slots), Agr S δ δ' → QS S b b' (whileL t m n δ b) (whileL t m n δ' b')
  | 0, δ, δ', h => trivial
  | n + 1, δ, δ', h => by
    unfold whileL
    rcases (ht δ δ' b b' h).el with e | ⟨c, e1, f1⟩ | ⟨x, fs, e, f⟩
    · rw [e]; trivial
    · rw [e1, f1]
      cases c with
      | false => exact ⟨rfl, _, rfl, h⟩
      | true =>
        try dsimp only
        have a := hm δ δ' b b' h
        cases e : m δ b with
        | nx δ2 b1 => rw [e] at a; obtain ⟨rfl, δ2', f, h2⟩ := a; rw [f]; exact whileL_ag ht hm n _ _ h2
        | ct δ2 b1 => rw [e] at a; obtain ⟨rfl, δ2', f, h2⟩ := a; rw [f]; exact whileL_ag ht hm n _ _ h2
        | bk δ2 b1 => rw [e] at a; obtain ⟨rfl, δ2', f, h2⟩ := a; rw [f]; exact ⟨rfl, _, rfl, h2⟩
        | ret d k b1 => rw [e] at a; obtain ⟨rfl, f⟩ := a; rw [f]; exact ⟨rfl, rfl⟩
        | exc x fs δ2 b1 => rw [e] at a; obtain ⟨rfl, δ2', f, h2⟩ := a; rw [f]; exact ⟨rfl, _, rfl, h2⟩
        | bad => trivial
    · rw [e, f]; exact ⟨rfl, _, rfl, h⟩
theorem j_while {k : Nat} (ht : IB S t) (hm : IS S m) : IS S (whileL t m k) := fun δ δ' b b' h => whileL_ag ht hm k δ δ' h
theorem j_for (hl : IL S l) (hg : IG S g) (hm : IS S m) : IS S (sFor l g m) := fun δ δ' b b' h => by
  unfold sFor
  rcases (hl δ δ' b b' h).el with e | ⟨d1, e1, f1⟩ | ⟨x, fs, e, f⟩
  · rw [e]; trivial
  · rw [e1, f1]; try dsimp only
    exact forL_ag hg hm d1 δ δ' h
  · rw [e, f]; exact ⟨rfl, _, rfl, h⟩
theorem j_if (ht : IB S t) (hm : IS S m) (hn : IS S n) : IS S (sIf t m n) := fun δ δ' b b' h => by
  unfold sIf
  rcases (ht δ δ' b b' h).el with e | ⟨d1, e1, f1⟩ | ⟨x, fs, e, f⟩
  · rw [e]; trivial
  · rw [e1, f1]; try dsimp only
    cases d1 with
    | true => exact hm δ δ' b b' h
    | false => exact hn δ δ' b b' h
  · rw [e, f]; exact ⟨rfl, _, rfl, h⟩
theorem j_ret (hA : IE S A) : IS S (sRet A) := fun δ δ' b b' h => by
  unfold sRet
  rcases (hA δ δ' b b' h).el with e | ⟨d1, k1, e1, f1⟩ | ⟨x, fs, e, f⟩
  · rw [e]; trivial
  · rw [e1, f1]; try dsimp only
    cases k1 with
    | bo => trivial
    | sh => exact ⟨rfl, rfl⟩
    | fr => exact ⟨rfl, rfl⟩
  · rw [e, f]; exact ⟨rfl, _, rfl, h⟩
theorem j_retV (i : Nat) (hi : i ∉ S := by decide) : IS S (sRetV i) := fun δ δ' b b' h => by
  unfold sRetV
  rw [h.2 i hi]
  cases δ'[i]? with
  | none => trivial
  | some s => cases s with
    | none => trivial
    | val d => exact ⟨rfl, rfl⟩
    | own ds => exact ⟨rfl, rfl⟩
theorem j_asg {i : Nat} (hA : IE S A) : IS S (sAsg i A) := fun δ δ' b b' h => by
  unfold sAsg
  rcases (hA δ δ' b b' h).el with e | ⟨d1, k1, e1, f1⟩ | ⟨x, fs, e, f⟩
  · rw [e]; trivial
  · rw [e1, f1]; try dsimp only
    cases g1 : putSl i d1 k1 δ with
    | none => trivial
    | some δ11 =>
      obtain ⟨δ21, g1', h1⟩ := putSl_ag h g1
      rw [g1']; try dsimp only
      exact ⟨rfl, _, rfl, h1⟩
  · rw [e, f]; exact ⟨rfl, _, rfl, h⟩
theorem j_exp (hA : IE S A) : IS S (sExp A) := fun δ δ' b b' h => by
  unfold sExp
  rcases (hA δ δ' b b' h).el with e | ⟨d1, k1, e1, f1⟩ | ⟨x, fs, e, f⟩
  · rw [e]; trivial
  · rw [e1, f1]; try dsimp only
    exact ⟨rfl, _, rfl, h⟩
  · rw [e, f]; exact ⟨rfl, _, rfl, h⟩
theorem j_par2 {i j : Nat} (hA : IE S A) (hB : IE S B) : IS S (sPar2 i j A B) := fun δ δ' b b' h => by
  unfold sPar2
  rcases (hA δ δ' b b' h).el with e | ⟨d1, k1, e1, f1⟩ | ⟨x, fs, e, f⟩
  · rw [e]; trivial
  · rw [e1, f1]; try dsimp only
    rcases (hB δ δ' b b' h).el with e | ⟨d2, k2, e2, f2⟩ | ⟨x, fs, e, f⟩
    · rw [e]; trivial
    · rw [e2, f2]; try dsimp only
      cases g1 : putSl i d1 k1 δ with
      | none => trivial
      | some δ11 =>
        obtain ⟨δ21, g1', h1⟩ := putSl_ag h g1
        rw [g1']; try dsimp only
        cases g2 : putSl j d2 k2 δ11 with
        | none => trivial
        | some δ12 =>
          obtain ⟨δ22, g2', h2⟩ := putSl_ag h1 g2
          rw [g2']; try dsimp only
          exact ⟨rfl, _, rfl, h2⟩
    · rw [e, f]; exact ⟨rfl, _, rfl, h⟩
  · rw [e, f]; exact ⟨rfl, _, rfl, h⟩
theorem j_par3 {i j k : Nat} (hA : IE S A) (hB : IE S B) (hC : IE S C) : IS S (sPar3 i j k A B C) := fun δ δ' b b' h => by
  unfold sPar3
  rcases (hA δ δ' b b' h).el with e | ⟨d1, k1, e1, f1⟩ | ⟨x, fs, e, f⟩
  · rw [e]; trivial
  · rw [e1, f1]; try dsimp only
    rcases (hB δ δ' b b' h).el with e | ⟨d2, k2, e2, f2⟩ | ⟨x, fs, e, f⟩
    · rw [e]; trivial
    · rw [e2, f2]; try dsimp only
      rcases (hC δ δ' b b' h).el with e | ⟨d3, k3, e3, f3⟩ | ⟨x, fs, e, f⟩
      · rw [e]; trivial
      · rw [e3, f3]; try dsimp only
        cases g1 : putSl i d1 k1 δ with
        | none => trivial
        | some δ11 =>
          obtain ⟨δ21, g1', h1⟩ := putSl_ag h g1
          rw [g1']; try dsimp only
          cases g2 : putSl j d2 k2 δ11 with
          | none => trivial
          | some δ12 =>
            obtain ⟨δ22, g2', h2⟩ := putSl_ag h1 g2
            rw [g2']; try dsimp only
            cases g3 : putSl k d3 k3 δ12 with
            | none => trivial
            | some δ13 =>
              obtain ⟨δ23, g3', h3⟩ := putSl_ag h2 g3
              rw [g3']; try dsimp only
              exact ⟨rfl, _, rfl, h3⟩
      · rw [e, f]; exact ⟨rfl, _, rfl, h⟩
    · rw [e, f]; exact ⟨rfl, _, rfl, h⟩
  · rw [e, f]; exact ⟨rfl, _, rfl, h⟩
theorem j_asgT (hg : IG S g) (hA : IE S A) : IS S (sAsgT g A) := fun δ δ' b b' h => by
  unfold sAsgT
  rcases (j_esh hA δ δ' b b' h).el with e | ⟨d1, k1, e1, f1⟩ | ⟨x, fs, e, f⟩
  · rw [e]; trivial
  · rw [e1, f1]; try dsimp only
    rcases hg d1 δ δ' h with e | ⟨δ1, δ1', e, f, h1⟩
    · rw [e]; trivial
    · rw [e, f]; exact ⟨rfl, _, rfl, h1⟩
  · rw [e, f]; exact ⟨rfl, _, rfl, h⟩
theorem own?_ag {δ δ' : Slots} {i : Nat} (hi : i ∉ S) (h : Agr S δ δ') : own? i δ' = own? i δ := by unfold own?; rw [h.2 i hi]
theorem j_app (i : Nat) (hi : i ∉ S) (hA : IE S A) : IS S (sApp i A) := fun δ δ' b b' h => by
  unfold sApp
  rw [own?_ag hi h]
  cases own? i δ with
  | none => trivial
  | some ds =>
    try dsimp only
    rcases (j_esh hA δ δ' b b' h).el with e | ⟨d1, k1, e1, f1⟩ | ⟨x, fs, e, f⟩
    · rw [e]; trivial
    · rw [e1, f1]; try dsimp only
      by_cases hh : ds.length ≤ big
      · rw [if_pos hh, if_pos hh]; exact ⟨rfl, _, rfl, h.set _ _⟩
      · rw [if_neg hh]; trivial
    · rw [e, f]; exact ⟨rfl, _, rfl, h⟩
theorem j_ext (i : Nat) (hi : i ∉ S) (hA : IE S A) : IS S (sExt i A) := fun δ δ' b b' h => by
  unfold sExt
  rw [own?_ag hi h]
  cases own? i δ with
  | none => trivial
  | some ds =>
    try dsimp only
    rcases (hA δ δ' b b' h).el with e | ⟨d1, k1, e1, f1⟩ | ⟨x, fs, e, f⟩
    · rw [e]; trivial
    · rw [e1, f1]; try dsimp only
      cases d1 <;> first | trivial | skip
      rename_i es
      try dsimp only
      by_cases hh : ds.length + es.length ≤ big
      · rw [if_pos hh, if_pos hh]; exact ⟨rfl, _, rfl, h.set _ _⟩
      · rw [if_neg hh]; trivial
    · rw [e, f]; exact ⟨rfl, _, rfl, h⟩
theorem j_rem (i : Nat) (hi : i ∉ S) (hA : IE S A) : IS S (sRem i A) := fun δ δ' b b' h => by
  unfold sRem
  rw [own?_ag hi h]
  cases own? i δ with
  | none => trivial
  | some ds =>
    try dsimp only
    rcases (hA δ δ' b b' h).el with e | ⟨d1, k1, e1, f1⟩ | ⟨x, fs, e, f⟩
    · rw [e]; trivial
    · rw [e1, f1]; try dsimp only
      cases d1 <;> first | trivial | skip
      rename_i z
      try dsimp only
      cases intsD ds with
      | none => trivial
      | some ns =>
        try dsimp only
        by_cases hh : z ∈ ns
        · rw [if_pos hh, if_pos hh]; exact ⟨rfl, _, rfl, h.set _ _⟩
        · rw [if_neg hh]; trivial
    · rw [e, f]; exact ⟨rfl, _, rfl, h⟩
theorem j_aug {f : D → D → Option (D × Kd)} (i : Nat) (hi : i ∉ S) (hA : IE S A) : IS S (sAug f i A) := fun δ δ' b b' h => by
  unfold sAug
  rw [h.2 i hi]
  cases δ'[i]? with
  | none => trivial
  | some s => cases s with
    | none => trivial
    | val d =>
      try dsimp only
      rcases (hA δ δ' b b' h).el with e | ⟨d1, k1, e1, f1⟩ | ⟨x, fs, e, f⟩
      · rw [e]; trivial
      · rw [e1, f1]; try dsimp only
        cases f d d1 with
        | none => trivial
        | some p =>
          try dsimp only
          cases g1 : putSl i p.1 p.2 δ with
          | none => trivial
          | some δ1 =>
            obtain ⟨δ2, g2, h2⟩ := putSl_ag h g1
            rw [g2]; exact ⟨rfl, _, rfl, h2⟩
      · rw [e, f]; exact ⟨rfl, _, rfl, h⟩
    | own ds => trivial
theorem j_move (i j : Nat) (hj : j ∉ S) : IS S (sMove i j) := fun δ δ' b b' h => by
  unfold sMove
  rw [h.2 j hj]
  cases δ'[j]? with
  | none => trivial
  | some s => cases s with
    | none => trivial
    | val d => exact ⟨rfl, _, rfl, h.set _ _⟩
    | own ds => exact ⟨rfl, _, rfl, (h.set _ _).set _ _⟩
/-- xs[e] = v, never of the box -/
def sSetN (i : Nat) (mk mv : EM) : SM := fun δ b => match own? i δ with
  | none => .bad
  | some ds => match esh mv δ b with
    | .ok v _ b1 => (match mk δ b1 with
      | .ok (.int k) _ b2 => (match ixN ds.length k with
        | some n => .nx (δ.set i (.own (ds.set n v))) b2
        | none => .bad)
      | .ok _ _ _ => .bad
      | .exc x fs b => .exc x fs δ b
      | .bad => .bad)
    | .exc x fs b => .exc x fs δ b
    | .bad => .bad
theorem sSetN_le (i : Nat) (mk mv : EM) (δ : Slots) (b : Bx) : sSetN i mk mv δ b = .bad ∨ sSetN i mk mv δ b = sSet i mk mv δ b := by
  unfold sSetN
  cases h : own? i δ with
  | none => exact .inl rfl
  | some ds =>
    unfold sSet
    rw [own?_eq h]
    exact .inr rfl
theorem j_set (i : Nat) (hi : i ∉ S) (hA : IE S A) (hB : IE S B) : IS S (sSetN i A B) := fun δ δ' b b' h => by
  unfold sSetN
  rw [own?_ag hi h]
  cases own? i δ with
  | none => trivial
  | some ds =>
    try dsimp only
    rcases (j_esh hB δ δ' b b' h).el with e | ⟨d1, k1, e1, f1⟩ | ⟨x, fs, e, f⟩
    · rw [e]; trivial
    · rw [e1, f1]; try dsimp only
      rcases (hA δ δ' b b' h).el with e | ⟨d2, k2, e2, f2⟩ | ⟨x, fs, e, f⟩
      · rw [e]; trivial
      · rw [e2, f2]; try dsimp only
        cases d2 <;> first | trivial | skip
        rename_i z
        try dsimp only
        cases ixN ds.length z with
        | none => trivial
        | some n => exact ⟨rfl, _, rfl, h.set _ _⟩
      · rw [e, f]; exact ⟨rfl, _, rfl, h⟩
    · rw [e, f]; exact ⟨rfl, _, rfl, h⟩
def IHs (S : List Nat) (hs : List (Str × SM)) : Prop := ∀ p ∈ hs, IS S p.2
theorem j_h0 : IHs S [] := fun _ h => by cases h
theorem j_hc {x : Str} {hs : List (Str × SM)} (h : IS S m) (h' : IHs S hs) : IHs S ((x, m) :: hs) := fun p hp => by
  rcases List.mem_cons.mp hp with rfl | hp
  · exact h
  · exact h' p hp
theorem caught_ag {b b' : Bx} {x : Str} {fs : List D} : ∀ {hs : List (Str × SM)}, IHs S hs → ∀ (δ δ' : Slots), Agr S δ δ' → QS S b b' (caught hs x fs δ b) (caught hs x fs δ' b')
  | [], _, δ, δ', h => ⟨rfl, _, rfl, h⟩
  | (y, m) :: r, hh, δ, δ', h => by
    unfold caught
    by_cases e : x = y
    · rw [if_pos e, if_pos e]
      have a := hh (y, m) List.mem_cons_self δ δ' b b' h
      dsimp only at a
      cases e : m δ b with
      | nx δ2 b1 => rw [e] at a; obtain ⟨rfl, δ2', f, h2⟩ := a; rw [f]; exact ⟨rfl, _, rfl, h2⟩
      | ct δ2 b1 => rw [e] at a; obtain ⟨rfl, δ2', f, h2⟩ := a; rw [f]; exact ⟨rfl, _, rfl, h2⟩
      | bk δ2 b1 => rw [e] at a; obtain ⟨rfl, δ2', f, h2⟩ := a; rw [f]; exact ⟨rfl, _, rfl, h2⟩
      | ret d k b1 => rw [e] at a; obtain ⟨rfl, f⟩ := a; rw [f]; exact ⟨rfl, rfl⟩
      | exc x fs δ2 b1 => trivial
      | bad => trivial
    · rw [if_neg e, if_neg e]
      exact caught_ag (fun p hp => hh p (List.mem_cons_of_mem _ hp)) δ δ' h
theorem j_try {KS : List Str} {hs : List (Str × SM)} (hm : IS S m) (hh : IHs S hs) : IS S (sTry KS m hs) := fun δ δ' b b' h => by
  have a := hm δ δ' b b' h
  unfold sTry
  cases e : m δ b with
  | nx δ1 b1 => rw [e] at a; obtain ⟨rfl, δ1', f, h1⟩ := a; rw [f]; exact ⟨rfl, _, rfl, h1⟩
  | bk δ1 b1 => rw [e] at a; obtain ⟨rfl, δ1', f, h1⟩ := a; rw [f]; exact ⟨rfl, _, rfl, h1⟩
  | ct δ1 b1 => rw [e] at a; obtain ⟨rfl, δ1', f, h1⟩ := a; rw [f]; exact ⟨rfl, _, rfl, h1⟩
  | ret d k b1 => rw [e] at a; obtain ⟨rfl, f⟩ := a; rw [f]; exact ⟨rfl, rfl⟩
  | exc x fs δ1 b1 =>
    rw [e] at a; obtain ⟨rfl, δ1', f, h1⟩ := a; rw [f]
    try dsimp only
    by_cases q : x ∈ KS
    · rw [if_pos q, if_pos q]; exact caught_ag hh _ _ h1
    · rw [if_neg q]; trivial
  | bad => trivial
theorem j_orT (hA : IE S A) (hB : IE S B) : IE S (eOrT A B) := fun δ δ' b b' h => by
  unfold eOrT
  rcases (hA δ δ' b b' h).el with e | ⟨d1, k1, e1, f1⟩ | ⟨x, fs, e, f⟩
  · rw [e]; trivial
  · rw [e1, f1]; try dsimp only
    cases truD d1 with
    | none => trivial
    | some c => cases c with
      | true => exact ⟨rfl, rfl⟩
      | false => exact hB δ δ' b b' h
  · rw [e, f]; exact ⟨rfl, rfl⟩
end
/-! defs -/
theorem j_body {n : Nat} {m : SM} (h : IS [] m) : IF (fBody n m) := fun ds b b' => by
  have a := h (ds.map Sl.val ++ List.replicate (n - ds.length) Sl.none) _ b b' (Agr.refl _ _)
  unfold fBody
  cases e : m (ds.map Sl.val ++ List.replicate (n - ds.length) Sl.none) b with
  | nx δ1 b1 => rw [e] at a; obtain ⟨rfl, δ1', f, h1⟩ := a; rw [f]; exact ⟨rfl, rfl⟩
  | bk δ1 b1 => trivial
  | ct δ1 b1 => trivial
  | ret d k b1 => rw [e] at a; obtain ⟨rfl, f⟩ := a; rw [f]; exact ⟨rfl, rfl⟩
  | exc x fs δ1 b1 => rw [e] at a; obtain ⟨rfl, δ1', f, h1⟩ := a; rw [f]; exact ⟨rfl, rfl⟩
  | bad => trivial
theorem j_fn {f : FM} {ds : List D} {d : D} {k : Kd} (h : IF f) (e : ∃ b0, f ds ⟨0, 0, 0⟩ = .ok d k b0) (b : Bx) : f ds b = .ok d k b := by
  obtain ⟨b0, e⟩ := e
  have a := h ds ⟨0, 0, 0⟩ b
  rw [e] at a
  exact a.2
/-- a statement that falls through -/
theorem j_nx {S : List Nat} {m : SM} {δ δ' δ1 : Slots} (h : IS S m) (e : ∃ b0, m δ ⟨0, 0, 0⟩ = .nx δ1 b0) (a : Agr S δ δ') (b : Bx) : ∃ δ1', m δ' b = .nx δ1' b ∧ Agr S δ1 δ1' := by
  obtain ⟨b0, e⟩ := e
  have q := h δ δ' ⟨0, 0, 0⟩ b a
  rw [e] at q
  exact q.2
theorem j_rt {S : List Nat} {m : SM} {δ δ' : Slots} {d : D} {k : Kd} (h : IS S m) (e : ∃ b0, m δ ⟨0, 0, 0⟩ = .ret d k b0) (a : Agr S δ δ') (b : Bx) : m δ' b = .ret d k b := by
  obtain ⟨b0, e⟩ := e
  have q := h δ δ' ⟨0, 0, 0⟩ b a
  rw [e] at q
  exact q.2
theorem j_ev {S : List Nat} {m : EM} {δ δ' : Slots} {d : D} {k : Kd} (h : IE S m) (e : ∃ b0, m δ ⟨0, 0, 0⟩ = .ok d k b0) (a : Agr S δ δ') (b : Bx) : m δ' b = .ok d k b := by
  obtain ⟨b0, e⟩ := e
  have q := h δ δ' ⟨0, 0, 0⟩ b a
  rw [e] at q
  exact q.2
end Rk
namespace Rk
open PySem PySem.Spec L2
section
variable {Γ : Cn → Prop} {O : Option Nms} {L : Nms} {N : List Str} {k : Nat} {W : WX} {X : Cx} {e : Expr} {p pos : Pos} {x : Str}
theorem d_setN (h : Dx Γ O L N k W X) (i : Nat) {ek : Expr} {mk mv : EM} {sp : Pos} (hi : N[i]? = some x) (hv : seen L x = true) (hd : (x == ("__debug__" : Str)) = false) (hcd : (x == ("__classdict__" : Str)) = false) (hk : PE X ek (tE (cnOf X) mk W)) (ha : PE X e (tE (cnOf X) mv W))
    (hA : ∀ v, assign (.Subscript (.Name x p) ek sp) X.env v = (do
      let ov ← holding [v] (eval (.Name x p) X.env)
      let iv ← holding [v, ov] (eval ek X.env)
      standAt sp
      holding [v, ov, iv] (setItem ov iv v)
      release [v, ov, iv] []) := by intro _; rfl)
    (hs : swapsWithSole [.Subscript (.Name x p) ek sp] e pos.line X.env = pure false := by rfl) (hw : swappedStores [.Subscript (.Name x p) ek sp] e X.env = pure none := by rfl)
    (h1 : (assignEach [.Subscript (.Name x p) ek sp] X.env).map (·.2) = [assign (.Subscript (.Name x p) ek sp) X.env] := by rfl) :
    PS X (.Assign [.Subscript (.Name x p) ek sp] e pos) (tS (cnOf X) (sSetN i mk mv) W) := (d_set h i hi hv hd hcd hk ha hA hs hw h1).imp fun E σ H q => by
  obtain ⟨β, H0, S0, S, δ, b, r, q⟩ := q
  refine ⟨β, H0, S0, S, δ, b, r, ?_⟩
  rcases sSetN_le i mk mv δ b with e | e
  · rw [e] at q; exact q.elim
  · rw [e] at q; exact q
end
end Rk

namespace Rk
open PySem PySem.Spec L2

/-! ### len(set(a list of whole numbers that are all different)) -/
def fLenSet : D → Option (D × Kd)
  | .lst ds => match intsD ds with
    | some ns => if ns.Nodup ∧ ns.length ≤ 4000 then some (.int (ns.length : Nat), .sh) else none
    | none => none
  | _ => none
def rLenSet (K : PySem.W.Frag) : V → Hp → VK → Prop := fun x H Q => ∃ (l : Addr) (ns : List Int), x = .ref l ∧ SqL K H l (ns.map V.int) ∧ ns.Nodup ∧ ns.length ≤ 4000 ∧ Q (.int (ns.length : Nat)) H
theorem o_lenSet {c : Cn} : UnOk c (rLenSet c.K) fLenSet := by
  intro β H S x u d k Q s b1 b2 q1 e q
  cases x <;> first | (simp only [fLenSet] at e; cases e; done) | skip
  rename_i ds
  simp only [fLenSet] at e
  cases h : intsD ds with
  | none => rw [h] at e; cases e
  | some ns =>
    rw [h] at e
    dsimp only at e
    by_cases hn : ns.Nodup ∧ ns.length ≤ 4000
    · rw [if_pos hn] at e
      cases e
      obtain ⟨a, rfl, g⟩ := rds_ints s q1 h
      exact ⟨a, ns, rfl, g, hn.1, hn.2, int_q s q⟩
    · rw [if_neg hn] at e; cases e
theorem d_lenSet {Γ : Cn → Prop} {O : Option Nms} {L : Nms} {N : List Str} {k : Nat} {W : WX} {X : Cx} {e : Expr} {m : EM} {p p2 q pos : Pos} (h : Dx Γ O L N k W X) (hg : Gl X "len") (hm : X.mg "len" = none) (hg2 : Gl X "set") (hm2 : X.mg "set" = none) (ha : PE X e (tE (cnOf X) m W))
    (na : starEach [e] X.env = (false, eval e X.env) :: starEach [] X.env := by rfl) : PE X (.Call (.Name "len" p) [.Call (.Name "set" p2) [e] [] q] [] pos) (tE (cnOf X) (e1 fLenSet m) W) :=
  s_e1 o_lenSet (fun ha => RZ.pe_lenSetI hg hm hg2 hm2 ha h.ok.calm na) ha
end Rk
namespace Rk
open PySem PySem.Spec L2
/-! ### is True, is not True of truth values -/
def cIsB : D → D → Option Bool
  | .bl a, .bl b => some (decide (a = b))
  | _, _ => none
def cNotB : D → D → Option Bool
  | .bl a, .bl b => some (!decide (a = b))
  | _, _ => none
theorem o_isB {c : Cn} : CmpOk c (fun x y H Q => ∃ a b : Bool, x = .bl a ∧ y = .bl b ∧ Q (.bl (decide (a = b))) H) cIsB := by
  intro β H S x y u v t Q s b1 b2 q1 q2 e q
  cases x <;> cases y <;> first | (simp only [cIsB] at e; cases e; done) | skip
  simp only [cIsB] at e; cases e
  exact ⟨_, _, q1.bl, q2.bl, q⟩
theorem o_notB {c : Cn} : CmpOk c (fun x y H Q => ∃ a b : Bool, x = .bl a ∧ y = .bl b ∧ Q (.bl (!decide (a = b))) H) cNotB := by
  intro β H S x y u v t Q s b1 b2 q1 q2 e q
  cases x <;> cases y <;> first | (simp only [cNotB] at e; cases e; done) | skip
  simp only [cNotB] at e; cases e
  exact ⟨_, _, q1.bl, q2.bl, q⟩
section
variable {Γ : Cn → Prop} {O : Option Nms} {L : Nms} {N : List Str} {k : Nat} {W : WX} {X : Cx}
theorem Dx.m_isB (h : Dx Γ O L N k W X) : Cm X .Is cIsB := ⟨_, op_isBl, o_isB⟩
theorem Dx.m_notB (h : Dx Γ O L N k W X) : Cm X .IsNot cNotB := ⟨_, op_notBl, o_notB⟩
end
end Rk

namespace Rk
open PySem PySem.Spec L2

/-! ### lists that a comprehension makes -/
theorem comp_map {α : Type} {F G : α → D} {g : GM} {t : BM} {m : EM} {δ : Slots} {b : Bx} : ∀ {xs : List α}, (∀ x ∈ xs, ∃ δ1 k, g (F x) δ = some δ1 ∧ t δ1 b = .ok true b ∧ m δ1 b = .ok (G x) k b ∧ k ≠ .bo) → compL g t m δ (xs.map F) b = .ok (xs.map G) b
  | [], _ => rfl
  | x :: xs, h => by
    obtain ⟨δ1, k, h1, h2, h3, h4⟩ := h x List.mem_cons_self
    have ih := comp_map (F := F) (G := G) (g := g) (t := t) (m := m) (δ := δ) (b := b) (xs := xs) fun y hy => h y (List.mem_cons_of_mem _ hy)
    rw [List.map_cons, List.map_cons]
    unfold compL
    rw [h1]
    dsimp only
    rw [h2]
    dsimp only
    rw [h3]
    cases k with
    | bo => exact absurd rfl h4
    | sh => dsimp only; rw [ih]
    | fr => dsimp only; rw [ih]
theorem comp_filter {α : Type} {F G : α → D} {p : α → Bool} {g : GM} {t : BM} {m : EM} {δ : Slots} {b : Bx} : ∀ {xs : List α}, (∀ x ∈ xs, ∃ δ1, g (F x) δ = some δ1 ∧ t δ1 b = .ok (p x) b ∧ (p x = true → ∃ k, m δ1 b = .ok (G x) k b ∧ k ≠ .bo)) → compL g t m δ (xs.map F) b = .ok ((xs.filter p).map G) b
  | [], _ => rfl
  | x :: xs, h => by
    obtain ⟨δ1, h1, h2, h3⟩ := h x List.mem_cons_self
    have ih := comp_filter (F := F) (G := G) (p := p) (g := g) (t := t) (m := m) (δ := δ) (b := b) (xs := xs) fun y hy => h y (List.mem_cons_of_mem _ hy)
    rw [List.map_cons]
    unfold compL
    rw [h1]
    dsimp only
    rw [h2]
    cases hp : p x with
    | false =>
      dsimp only
      rw [ih, List.filter_cons_of_neg (by rw [hp]; exact Bool.false_ne_true)]
    | true =>
      obtain ⟨k, h3, h4⟩ := h3 hp
      dsimp only
      rw [h3, List.filter_cons_of_pos hp, List.map_cons]
      cases k with
      | bo => exact absurd rfl h4
      | sh => dsimp only; rw [ih]
      | fr => dsimp only; rw [ih]
theorem eComp_map {α : Type} (F G : α → D) {vs : List Nat} {im : LM} {g : GM} {t : BM} {m : EM} {δ : Slots} {b b1 : Bx} {xs : List α} (hi : im δ b = .ok (xs.map F) b1) (hl : xs.length ≤ 1000000) (h : ∀ x ∈ xs, ∃ δ1 k, g (F x) (wipeD δ vs) = some δ1 ∧ t δ1 b1 = .ok true b1 ∧ m δ1 b1 = .ok (G x) k b1 ∧ k ≠ .bo) :
    eComp vs im g t m δ b = .ok (.lst (xs.map G)) .fr b1 := by
  unfold eComp
  rw [hi]
  dsimp only
  rw [if_pos (by rw [List.length_map]; exact hl), comp_map h]
theorem eComp_filter {α : Type} (F G : α → D) (p : α → Bool) {vs : List Nat} {im : LM} {g : GM} {t : BM} {m : EM} {δ : Slots} {b b1 : Bx} {xs : List α} (hi : im δ b = .ok (xs.map F) b1) (hl : xs.length ≤ 1000000)
    (h : ∀ x ∈ xs, ∃ δ1, g (F x) (wipeD δ vs) = some δ1 ∧ t δ1 b1 = .ok (p x) b1 ∧ (p x = true → ∃ k, m δ1 b1 = .ok (G x) k b1 ∧ k ≠ .bo)) :
    eComp vs im g t m δ b = .ok (.lst ((xs.filter p).map G)) .fr b1 := by
  unfold eComp
  rw [hi]
  dsimp only
  rw [if_pos (by rw [List.length_map]; exact hl), comp_filter h]
/-- a tuple, a list of numbers -/
abbrev T (ns : List Int) : D := .tup (ns.map D.int)
abbrev Ls (ns : List Int) : D := .lst (ns.map D.int)
theorem atI_ints {ns : List Int} {i : Int} {x : Int} (h : L2.atI ns i = some x) : L2.atI (ns.map D.int) i = some (.int x) := atI_map D.int h
theorem atI_nat {α : Type} {l : List α} {i : Nat} {x : α} (h : l[i]? = some x) : L2.atI l (i : Int) = some x := by
  have hi : i < l.length := by
    rcases Nat.lt_or_ge i l.length with q | q
    · exact q
    · rw [List.getElem?_eq_none q] at h; cases h
  unfold L2.atI L2.ixN
  rw [if_pos (by omega), if_pos (by omega)]
  simpa using h
/-! ### numbers -/

theorem blsD_of {α : Type} (p : α → Bool) (xs : List α) : blsD (xs.map fun x => D.bl (p x)) = some (xs.map p) := by
  have := blsD_map (xs.map p)
  rwa [List.map_map] at this
theorem ev_all {α : Type} {xs : List α} {p : α → Bool} {E : EM} {δ : Slots} {b b1 : Bx} {k : Kd} (h : E δ b = .ok (.lst (xs.map fun x => .bl (p x))) k b1) : eB (f1 gAll) (rCons E lNil) δ b = .ok (.bl (xs.all p)) .sh b1 := by
  unfold eB rCons lNil
  rw [h]
  dsimp only [f1, gAll]
  rw [blsD_of]
  simp [List.all_map]
theorem ev_tuple {ds : List D} {E : EM} {δ : Slots} {b b1 : Bx} {k : Kd} (h : E δ b = .ok (.lst ds) k b1) : eB (f1 gTuple) (rCons E lNil) δ b = .ok (.tup ds) .sh b1 := by
  unfold eB rCons lNil
  rw [h]
  rfl
theorem ev_lenL {ds : List D} {E : EM} {δ : Slots} {b b1 : Bx} {k : Kd} (h : E δ b = .ok (.lst ds) k b1) : eB fLen (rCons E lNil) δ b = .ok (.int (ds.length : Nat)) .sh b1 := by
  unfold eB rCons lNil
  rw [h]
  rfl
theorem it_rng1 {n : Int} {E : EM} {δ : Slots} {b b1 : Bx} {k : Kd} (h : E δ b = .ok (.int n) k b1) (hn : n ≤ 1000000) (h0 : -1000000 ≤ n) : itRng (rCons E lNil) δ b = .ok ((List.range n.toNat).map fun i : Nat => .int (0 + (i : Nat))) b1 := by
  unfold itRng rCons lNil
  rw [h]
  dsimp only
  rw [if_pos (by omega)]
  rfl
theorem it_rng2 {n m : Int} {E F : EM} {δ : Slots} {b b1 b2 : Bx} {k k2 : Kd} (h : E δ b = .ok (.int n) k b1) (h' : F δ b1 = .ok (.int m) k2 b2) (hn : n ≤ 1000000) (h0 : -1000000 ≤ n) (hm : m ≤ 1000000) (hm0 : -1000000 ≤ m) : itRng (rCons E (rCons F lNil)) δ b = .ok ((List.range (m - n).toNat).map fun i : Nat => .int (n + (i : Nat))) b2 := by
  unfold itRng rCons lNil
  rw [h]
  dsimp only
  rw [h']
  dsimp only
  rw [if_pos (by omega)]
  rfl
theorem it_seq {d : D} {ds : List D} {E : EM} {δ : Slots} {b b1 : Bx} {k : Kd} (h : E δ b = .ok d k b1) (hk : k ≠ .bo) (hd : toItems d = some ds) : itSeq E δ b = .ok ds b1 := by
  unfold itSeq esh
  rw [h]
  cases k with
  | bo => exact absurd rfl hk
  | sh => dsimp only; rw [hd]
  | fr => dsimp only; rw [hd]
theorem fIdx_T {ns : List Int} {i x : Int} {b : Bx} (h : L2.atI ns i = some x) : fIdx b (T ns) (.int i) = some (.int x) := atI_ints h
theorem fIdx_L {ns : List Int} {i x : Int} {b : Bx} (h : L2.atI ns i = some x) : fIdx b (Ls ns) (.int i) = some (.int x) := atI_ints h
theorem ev_idx {d : D} {i : Int} {x : D} {A I : EM} {δ : Slots} {b b1 b2 : Bx} {k k2 : Kd} (h : A δ b = .ok d k b1) (h' : I δ b1 = .ok (.int i) k2 b2) (e : fIdx b2 d (.int i) = some x) : eIdx A I δ b = .ok x .sh b2 := by
  unfold eIdx
  rw [h]
  dsimp only
  rw [h']
  dsimp only
  rw [e]
theorem ev_2 {f : D → D → Option (D × Kd)} {A B : EM} {δ : Slots} {b b1 b2 : Bx} {x y d : D} {k k2 k3 : Kd} (h : A δ b = .ok x k b1) (h' : B δ b1 = .ok y k2 b2) (e : f x y = some (d, k3)) : e2 f A B δ b = .ok d k3 b2 := by
  unfold e2
  rw [h]
  dsimp only
  rw [h']
  dsimp only
  rw [e]
theorem ev_1 {f : D → Option (D × Kd)} {A : EM} {δ : Slots} {b b1 : Bx} {x d : D} {k k3 : Kd} (h : A δ b = .ok x k b1) (e : f x = some (d, k3)) : e1 f A δ b = .ok d k3 b1 := by
  unfold e1
  rw [h]
  dsimp only
  rw [e]
theorem ev_b1 {f : List D → Option (D × Kd)} {A : EM} {δ : Slots} {b b1 : Bx} {x d : D} {k k3 : Kd} (h : A δ b = .ok x k b1) (e : f [x] = some (d, k3)) : eB f (rCons A lNil) δ b = .ok d k3 b1 := by
  unfold eB rCons lNil
  rw [h]
  dsimp only
  rw [e]
theorem ev_b2 {f : List D → Option (D × Kd)} {A B : EM} {δ : Slots} {b b1 b2 : Bx} {x y d : D} {k k2 k3 : Kd} (h : A δ b = .ok x k b1) (h' : B δ b1 = .ok y k2 b2) (e : f [x, y] = some (d, k3)) : eB f (rCons A (rCons B lNil)) δ b = .ok d k3 b2 := by
  unfold eB
  rw [two_ok, h]
  dsimp only
  rw [h']
  dsimp only
  rw [e]
/-- arguments -/
theorem ev_l0 {δ : Slots} {b : Bx} : lNil δ b = .ok [] b := rfl
theorem ev_lc {A : EM} {r : LM} {δ : Slots} {b b1 b2 : Bx} {x : D} {ds : List D} {k : Kd} (h : A δ b = .ok x k b1) (hk : k ≠ .bo) (t : r δ b1 = .ok ds b2) : lCons A r δ b = .ok (x :: ds) b2 := by
  unfold lCons
  rw [h]
  cases k with
  | bo => exact absurd rfl hk
  | sh => dsimp only; rw [t]
  | fr => dsimp only; rw [t]
theorem ev_call {f : FM} {l : LM} {δ : Slots} {b b1 b2 : Bx} {ds : List D} {d : D} {k : Kd} (h : l δ b = .ok ds b1) (e : f ds b1 = .ok d k b2) (hk : k ≠ .bo) : eCall f l δ b = .ok d k b2 := by
  unfold eCall
  rw [h]
  dsimp only
  rw [e]
  cases k with
  | bo => exact absurd rfl hk
  | sh => rfl
  | fr => rfl
theorem ev_callx {f : FM} {l : LM} {δ : Slots} {b b1 b2 : Bx} {ds fs : List D} {x : Str} (h : l δ b = .ok ds b1) (e : f ds b1 = .exc x fs b2) : eCall f l δ b = .exc x fs b2 := by
  unfold eCall
  rw [h]
  dsimp only
  rw [e]
theorem ev_tup {l : LM} {δ : Slots} {b b1 : Bx} {ds : List D} (h : l δ b = .ok ds b1) (hl : ds.length ≤ 1000) : eTup l δ b = .ok (.tup ds) .sh b1 := by
  unfold eTup
  rw [h]
  dsimp only
  rw [if_pos hl]
theorem ev_lst {l : LM} {δ : Slots} {b b1 : Bx} {ds : List D} (h : l δ b = .ok ds b1) (hl : ds.length ≤ 1000) : eLst l δ b = .ok (.lst ds) .fr b1 := by
  unfold eLst
  rw [h]
  dsimp only
  rw [if_pos hl]
/-! statements -/
theorem st_seq {m r : SM} {δ δ1 : Slots} {b b1 : Bx} {o : SOut} (h : m δ b = .nx δ1 b1) (t : r δ1 b1 = o) : sSeq m r δ b = o := by
  unfold sSeq
  rw [h]
  exact t
theorem st_seqR {m r : SM} {δ : Slots} {b b1 : Bx} {d : D} {k : Kd} (h : m δ b = .ret d k b1) : sSeq m r δ b = .ret d k b1 := by
  unfold sSeq
  rw [h]
theorem st_seqX {m r : SM} {δ δ1 : Slots} {b b1 : Bx} {x : Str} {fs : List D} (h : m δ b = .exc x fs δ1 b1) : sSeq m r δ b = .exc x fs δ1 b1 := by
  unfold sSeq
  rw [h]
theorem st_ret {m : EM} {δ : Slots} {b b1 : Bx} {d : D} {k : Kd} (h : m δ b = .ok d k b1) (hk : k ≠ .bo) : sRet m δ b = .ret d k b1 := by
  unfold sRet
  rw [h]
  cases k with
  | bo => exact absurd rfl hk
  | sh => rfl
  | fr => rfl
theorem st_asg {i : Nat} {m : EM} {δ δ1 : Slots} {b b1 : Bx} {d : D} {k : Kd} (h : m δ b = .ok d k b1) (e : putSl i d k δ = some δ1) : sAsg i m δ b = .nx δ1 b1 := by
  unfold sAsg
  rw [h]
  dsimp only
  rw [e]
theorem st_exp {m : EM} {δ : Slots} {b b1 : Bx} {d : D} {k : Kd} (h : m δ b = .ok d k b1) : sExp m δ b = .nx δ b1 := by
  unfold sExp
  rw [h]
theorem st_frz {is : List Nat} {m : SM} {δ : Slots} {b : Bx} {o : SOut} (h : m (frz is δ) b = o) : sFrz is m δ b = o := h
theorem st_ifT {t : BM} {m n : SM} {δ : Slots} {b b1 : Bx} {o : SOut} (h : t δ b = .ok true b1) (e : m δ b1 = o) : sIf t m n δ b = o := by
  unfold sIf
  rw [h]
  exact e
theorem st_ifF {t : BM} {m n : SM} {δ : Slots} {b b1 : Bx} {o : SOut} (h : t δ b = .ok false b1) (e : n δ b1 = o) : sIf t m n δ b = o := by
  unfold sIf
  rw [h]
  exact e
theorem ev_tval {m : EM} {δ : Slots} {b b1 : Bx} {t : Bool} {k : Kd} (h : m δ b = .ok (.bl t) k b1) : tVal m δ b = .ok t b1 := by
  unfold tVal
  rw [h]
theorem ev_tnot {m : BM} {δ : Slots} {b b1 : Bx} {t : Bool} (h : m δ b = .ok t b1) : tNot_ m δ b = .ok (!t) b1 := by
  unfold tNot_
  rw [h]
theorem ev_tor {m r : BM} {δ : Slots} {b b1 b2 : Bx} {t u : Bool} (h : m δ b = .ok t b1) (h' : t = false → r δ b1 = .ok u b2) (e : t = true → b2 = b1) : tOr_ m r δ b = .ok (t || u) b2 := by
  unfold tOr_
  rw [h]
  cases t with
  | true => dsimp only; rw [if_pos rfl, e rfl]; rfl
  | false => dsimp only; rw [if_neg Bool.false_ne_true, h' rfl]; rfl
theorem ev_tand {m r : BM} {δ : Slots} {b b1 b2 : Bx} {t u : Bool} (h : m δ b = .ok t b1) (h' : t = true → r δ b1 = .ok u b2) (e : t = false → b2 = b1) : tAnd_ m r δ b = .ok (t && u) b2 := by
  unfold tAnd_
  rw [h]
  cases t with
  | false => dsimp only; rw [if_neg Bool.false_ne_true, e rfl]; rfl
  | true => dsimp only; rw [if_pos rfl, h' rfl]; rfl
theorem ev_and {m r : EM} {δ : Slots} {b b1 b2 : Bx} {t u : Bool} {k : Kd} (h : m δ b = .ok (.bl t) k b1) (h' : t = true → r δ b1 = .ok (.bl u) .sh b2) (e : t = false → b2 = b1) : eAnd m r δ b = .ok (.bl (t && u)) .sh b2 := by
  unfold eAnd
  rw [h]
  cases t with
  | false => dsimp only; rw [if_neg Bool.false_ne_true, e rfl]; rfl
  | true => dsimp only; rw [if_pos rfl, h' rfl]; rfl
theorem ev_or {m r : EM} {δ : Slots} {b b1 b2 : Bx} {t u : Bool} {k : Kd} (h : m δ b = .ok (.bl t) k b1) (h' : t = false → r δ b1 = .ok (.bl u) .sh b2) (e : t = true → b2 = b1) : eOr m r δ b = .ok (.bl (t || u)) .sh b2 := by
  unfold eOr
  rw [h]
  cases t with
  | true => dsimp only; rw [if_pos rfl, e rfl]; rfl
  | false => dsimp only; rw [if_neg Bool.false_ne_true, h' rfl]; rfl
theorem fb_ret {n : Nat} {m : SM} {ds : List D} {b b1 : Bx} {d : D} {k : Kd} (h : m (ds.map Sl.val ++ List.replicate (n - ds.length) Sl.none) b = .ret d k b1) : fBody n m ds b = .ok d k b1 := by
  unfold fBody
  rw [h]
theorem fb_nx {n : Nat} {m : SM} {ds : List D} {b b1 : Bx} {δ : Slots} (h : m (ds.map Sl.val ++ List.replicate (n - ds.length) Sl.none) b = .nx δ b1) : fBody n m ds b = .ok .non .sh b1 := by
  unfold fBody
  rw [h]
theorem fb_exc {n : Nat} {m : SM} {ds fs : List D} {b b1 : Bx} {δ : Slots} {x : Str} (h : m (ds.map Sl.val ++ List.replicate (n - ds.length) Sl.none) b = .exc x fs δ b1) : fBody n m ds b = .exc x fs b1 := by
  unfold fBody
  rw [h]
theorem atI_getD {ns : List Int} {k : Nat} (h : k < ns.length) : L2.atI ns (0 + (k : Nat)) = some (ns.getD k 0) := by
  rw [Int.zero_add]
  refine atI_nat ?_
  rw [List.getElem?_eq_getElem h, List.getD_eq_getElem?_getD, List.getElem?_eq_getElem h]; rfl
theorem atI_getD1 {ns : List Int} {k : Nat} (h : k + 1 < ns.length) : L2.atI ns (0 + (k : Nat) + 1) = some (ns.getD (k + 1) 0) := by
  have := atI_getD h
  rwa [show (0 + ((k + 1 : Nat) : Int)) = 0 + (k : Nat) + 1 by omega] at this

/-! ### BOARDS -/
def upB (ns : List Int) : Bool := (List.range (ns.length - 1)).all fun k => decide (ns.getD k 0 ≤ ns.getD (k + 1) 0)
def isBd (ns : List Int) : Bool := decide (ns.length ≤ 6) && ns.all (fun n => decide (0 ≤ n)) && upB ns

theorem isBd_len {ns : List Int} (h : isBd ns = true) : ns.length ≤ 6 := by
  unfold isBd at h
  rw [Bool.and_eq_true, Bool.and_eq_true] at h
  exact of_decide_eq_true h.1.1
/-- repetition of one number -/
theorem rep_ints (k : Nat) : (List.replicate k [D.int 0]).flatten = (List.replicate k (0 : Int)).map D.int := by
  induction k with
  | zero => rfl
  | succ k ih => rw [List.replicate_succ, List.flatten_cons, ih, List.replicate_succ, List.map_cons]; rfl
theorem mul_zeros {k : Int} (h0 : -1000 ≤ k) (h : k ≤ 1000) : fMulT (.tup [.int 0]) (.int k) = some (T (List.replicate k.toNat 0), .sh) := by
  have : -(2 ^ 63) ≤ k ∧ k < 2 ^ 63 ∧ (([D.int 0] : List D) = [] ∨ k ≤ 1 ∨ (k ≤ 1000 ∧ ([D.int 0] : List D).length ≤ 1000)) := ⟨by omega, by omega, .inr (.inr ⟨h, by decide⟩)⟩
  show (if _ then some (D.tup (List.replicate k.toNat [D.int 0]).flatten, Kd.sh) else none) = _
  rw [if_pos this, rep_ints]
theorem add_T {xs ys : List Int} (h : xs.length + ys.length ≤ 1000000) : fAdd (T xs) (T ys) = some (T (xs ++ ys), .sh) := by
  show (if (xs.map D.int).length + (ys.map D.int).length ≤ big then some (D.tup (xs.map D.int ++ ys.map D.int), Kd.sh) else none) = _
  rw [List.length_map, List.length_map, if_pos (show xs.length + ys.length ≤ big from h), ← List.map_append]
theorem sort_T (xs : List Int) : gSortI (T xs) = some (Ls (sortI xs), .fr) := by
  show (intsD (xs.map D.int)).map _ = _
  rw [intsD_map]; rfl
theorem sort_L (xs : List Int) : gSortI (Ls xs) = some (Ls (sortI xs), .fr) := by
  show (intsD (xs.map D.int)).map _ = _
  rw [intsD_map]; rfl
theorem len_T (xs : List Int) : fLen [T xs] = some (.int (xs.length : Nat), .sh) := by
  show some (D.int ((xs.map D.int).length : Nat), Kd.sh) = _
  rw [List.length_map]
theorem len_L (xs : List Int) : fLen [Ls xs] = some (.int (xs.length : Nat), .sh) := by
  show some (D.int ((xs.map D.int).length : Nat), Kd.sh) = _
  rw [List.length_map]
theorem st_retx {m : EM} {δ : Slots} {b b1 : Bx} {x : Str} {fs : List D} (h : m δ b = .exc x fs b1) : sRet m δ b = .exc x fs δ b1 := by
  unfold sRet
  rw [h]
/-- an answer, or the error of this name -/
def okX (t : Bool) (x : Str) (d : D) (b : Bx) : Out := if t = true then .ok d .sh b else .exc x [] b
theorem insI_len (a : Int) (l : List Int) : (insI a l).length = l.length + 1 := (insI_perm a l).length_eq
theorem sortI_len (l : List Int) : (sortI l).length = l.length := (sortI_perm l).length_eq

/-! ### loops -/
theorem for_inv {α : Type} {F : α → D} {g : GM} {body : SM} {b : Bx} (P : Nat → Slots → Prop) : ∀ (xs : List α) (k : Nat) (δ : Slots), P k δ → (∀ i x δ, xs[i]? = some x → P (k + i) δ → ∃ δ1 δ2, g (F x) δ = some δ1 ∧ body δ1 b = .nx δ2 b ∧ P (k + i + 1) δ2) →
    ∃ δ', forL g body (xs.map F) δ b = .nx δ' b ∧ P (k + xs.length) δ'
  | [], k, δ, h0, _ => ⟨δ, rfl, h0⟩
  | x :: xs, k, δ, h0, hs => by
    obtain ⟨δ1, δ2, h1, h2, h3⟩ := hs 0 x δ rfl h0
    obtain ⟨δ', e, p⟩ := for_inv P xs (k + 1) δ2 h3 fun i y δ hy hp => by
      have := hs (i + 1) y δ (by simpa using hy) (by rwa [show k + (i + 1) = k + 1 + i by omega])
      rwa [show k + (i + 1) + 1 = k + 1 + i + 1 by omega] at this
    refine ⟨δ', ?_, by rwa [List.length_cons, show k + (xs.length + 1) = k + 1 + xs.length by omega]⟩
    rw [List.map_cons]
    unfold forL
    rw [h1]
    dsimp only
    rw [h2]
    exact e
theorem st_for {im : LM} {g : GM} {body : SM} {δ : Slots} {b b1 : Bx} {ds : List D} {o : SOut} (h : im δ b = .ok ds b1) (e : forL g body ds δ b1 = o) : sFor im g body δ b = o := by
  unfold sFor
  rw [h]
  exact e
theorem enumD_ints (ns : List Int) : enumD 0 (ns.map D.int) = (List.range ns.length).map fun i : Nat => D.tup [.int (i : Nat), .int (ns.getD i 0)] := by
  apply List.ext_getElem?
  intro i
  rcases Nat.lt_or_ge i ns.length with h | h
  · cases e : (enumD 0 (ns.map D.int))[i]? with
    | none =>
      have := enumD_none e
      rw [List.length_map] at this
      omega
    | some d =>
      obtain ⟨x, h1, rfl⟩ := enumD_get e
      rw [List.getElem?_map, List.getElem?_eq_getElem h] at h1
      cases h1
      rw [List.getElem?_map, List.getElem?_range h]
      simp [List.getD_eq_getElem?_getD, h]
  · have h1 : (enumD 0 (ns.map D.int))[i]? = none := by
      cases e : (enumD 0 (ns.map D.int))[i]? with
      | none => rfl
      | some d =>
        obtain ⟨x, h1, _⟩ := enumD_get e
        rw [List.getElem?_eq_none (by rw [List.length_map]; exact h)] at h1
        cases h1
    rw [h1, List.getElem?_eq_none (by rw [List.length_map, List.length_range]; exact h)]
theorem it_enum {ns : List Int} {d : D} {E : EM} {δ : Slots} {b b1 : Bx} {k : Kd} (h : E δ b = .ok d k b1) (hk : k ≠ .bo) (hd : toItems d = some (ns.map D.int)) : itEnum (lCons E lNil) δ b = .ok ((List.range ns.length).map fun i : Nat => D.tup [.int (i : Nat), .int (ns.getD i 0)]) b1 := by
  unfold itEnum
  rw [ev_lc h hk ev_l0]
  dsimp only
  rw [hd]
  dsimp only
  rw [enumD_ints]
theorem zipD_ints : ∀ (as bs : List Int), zipD (as.map D.int) (bs.map D.int) = (as.zip bs).map fun p => D.tup [.int p.1, .int p.2]
  | [], _ => rfl
  | _ :: _, [] => rfl
  | a :: as, b :: bs => by
    have ih := zipD_ints as bs
    unfold zipD at ih ⊢
    rw [List.map_cons, List.map_cons, List.zipWith_cons_cons, ih]; rfl
theorem it_zip {as bs : List Int} {d e : D} {E F : EM} {δ : Slots} {b b1 b2 : Bx} {k k2 : Kd} (h : E δ b = .ok d k b1) (hk : k ≠ .bo) (h' : F δ b1 = .ok e k2 b2) (hk2 : k2 ≠ .bo) (hd : toItems d = some (as.map D.int)) (he : toItems e = some (bs.map D.int)) :
    itZip (lCons E (lCons F lNil)) δ b = .ok ((as.zip bs).map fun p => D.tup [.int p.1, .int p.2]) b2 := by
  unfold itZip
  rw [ev_lc h hk (ev_lc h' hk2 ev_l0)]
  dsimp only
  rw [hd, he]
  dsimp only
  rw [zipD_ints]

/-! ### cells -/
/-- the cells of a row -/
def rowC (k : Nat) (n : Int) : List D := (List.range n.toNat).map fun c : Nat => .tup [.int ((k : Nat) + 1), .int (1 + (c : Nat))]
def cellsD (ns : List Int) (k : Nat) : List D := (List.range k).flatMap fun j => rowC j (ns.getD j 0)
theorem cellsD_succ (ns : List Int) (k : Nat) : cellsD ns (k + 1) = cellsD ns k ++ rowC k (ns.getD k 0) := by
  unfold cellsD
  rw [List.range_succ, List.flatMap_append]
  simp
theorem rowC_len (k : Nat) (n : Int) : (rowC k n).length = n.toNat := by unfold rowC; rw [List.length_map, List.length_range]
theorem cellsD_len (ns : List Int) (hb : ∀ n ∈ ns, n ≤ 100) : ∀ k : Nat, k ≤ ns.length → (cellsD ns k).length ≤ k * 100
  | 0, _ => by simp [cellsD]
  | k + 1, h => by
    have ih := cellsD_len ns hb k (by omega)
    rw [cellsD_succ, List.length_append, rowC_len]
    have : ns.getD k 0 ≤ 100 := by
      rw [List.getD_eq_getElem?_getD, List.getElem?_eq_getElem (by omega)]
      exact hb _ (List.getElem_mem ..)
    omega
theorem ev_row {δ : Slots} {b : Bx} {k : Nat} {n : Int} {i j c : Nat} (hn : n ≤ 100) (hw : ∀ x, (wipeD δ [c]).set c (.val x) = δ.set c (.val x)) (hi : δ[i]? = some (.val (.int (k : Nat)))) (hj : δ[j]? = some (.val (.int n))) (hic : i ≠ c) (hjc : j ≠ c) (hc : c < δ.length) (h0 : 0 ≤ n) :
    eComp [c] (itRng (rCons (eCst (.int 1)) (rCons (e2 fAdd (eVar j) (eCst (.int 1))) lNil))) (gNm c) tTrue (eTup (lCons (e2 fAdd (eVar i) (eCst (.int 1))) (lCons (eVar c) lNil))) δ b = .ok (.lst (rowC k n)) .fr b := by
  have vj : eVar j δ b = .ok (.int n) .sh b := by unfold eVar; rw [hj]
  have hr := it_rng2 (E := eCst (.int 1)) (F := e2 fAdd (eVar j) (eCst (.int 1))) (δ := δ) (b := b) (k := .sh) (k2 := .sh) (n := 1) (m := n + 1) rfl (ev_2 vj (k2 := .sh) rfl rfl) (by omega) (by omega) (by omega) (by omega)
  rw [show (n + 1 - 1).toNat = n.toNat by omega] at hr
  refine eComp_map (fun i : Nat => .int (1 + (i : Nat))) _ hr (by rw [List.length_range]; omega) fun x _ => ⟨_, .sh, rfl, rfl, ?_, by decide⟩
  rw [hw]
  have vi : eVar i (δ.set c (.val (.int (1 + (x : Nat))))) b = .ok (.int (k : Nat)) .sh b := by unfold eVar; rw [List.getElem?_set_ne (Ne.symm hic), hi]
  have vc : eVar c (δ.set c (.val (.int (1 + (x : Nat))))) b = .ok (.int (1 + (x : Nat))) .sh b := by unfold eVar; rw [List.getElem?_set_self hc]
  exact ev_tup (ev_lc (ev_2 vi (k2 := .sh) rfl rfl) (by decide) (ev_lc vc (by decide) rfl)) (by show 2 ≤ 1000; omega)

theorem isBd_pos {ns : List Int} (h : isBd ns = true) : ∀ n ∈ ns, 0 ≤ n := by
  unfold isBd at h
  rw [Bool.and_eq_true, Bool.and_eq_true, List.all_eq_true] at h
  exact fun n hn => of_decide_eq_true (h.1.2 n hn)
theorem isBd_up {ns : List Int} (h : isBd ns = true) : upB ns = true := by
  unfold isBd at h
  rw [Bool.and_eq_true] at h
  exact h.2
theorem sum_T (xs : List Int) : f1 gSum [T xs] = some (.int xs.sum, .sh) := by
  show (intsD (xs.map D.int)).map _ = _
  rw [intsD_map]; rfl
def risB (ns : List Int) : Bool := (List.range (ns.length - 1)).all fun k => decide (ns.getD k 0 = 0) || decide (ns.getD k 0 < ns.getD (k + 1) 0)
theorem eq_ii (i j : Int) : fB cEq (.int i) (.int j) = some (.bl (decide (i = j)), .sh) := by
  have : cEq (.int i) (.int j) = some (decide (i = j)) := by
    unfold cEq
    simp only [pyd]
    rw [if_pos ⟨by simp [SeqAt.shaped, PyData.canLay0, PyData.depth], by simp [SeqAt.shaped, PyData.canLay0, PyData.depth]⟩]
    simp only [PyData.eqv]
    first | done | rfl
  unfold fB
  rw [this]
/-! ### slices -/
theorem cut_to (xs : List Int) (k : Nat) (hk : k ≤ xs.length) : cutD (xs.map D.int) none (some (k : Int)) = (xs.take k).map D.int := by
  unfold cutD
  rw [HT.sIx_none, HT.sIx_nat, List.length_map, Nat.min_eq_left hk, Nat.sub_zero, List.drop_zero, List.map_take]
theorem cut_from (xs : List Int) (k : Nat) (hk : k ≤ xs.length) : cutD (xs.map D.int) (some (k : Int)) none = (xs.drop k).map D.int := by
  unfold cutD
  rw [HT.sIx_none, HT.sIx_nat, List.length_map, Nat.min_eq_left hk, ← List.map_drop, List.take_of_length_le (by rw [List.length_map, List.length_drop]; omega)]
theorem ev_slTo {xs : List Int} {A I : EM} {δ : Slots} {b b1 b2 : Bx} {k k2 : Kd} {i : Int} {n : Nat} (h : A δ b = .ok (T xs) k b1) (h' : I δ b1 = .ok (.int i) k2 b2) (hi : i = (n : Int)) (hn : n ≤ xs.length) : eSl A none (some I) δ b = .ok (T (xs.take n)) .sh b2 := by
  unfold eSl
  rw [h]
  dsimp only [part]
  rw [h']
  dsimp only [fSl]
  rw [hi, cut_to _ _ hn]
theorem ev_slFrom {xs : List Int} {A I : EM} {δ : Slots} {b b1 b2 : Bx} {k k2 : Kd} {i : Int} {n : Nat} (h : A δ b = .ok (T xs) k b1) (h' : I δ b1 = .ok (.int i) k2 b2) (hi : i = (n : Int)) (hn : n ≤ xs.length) : eSl A (some I) none δ b = .ok (T (xs.drop n)) .sh b2 := by
  unfold eSl
  rw [h]
  dsimp only [part]
  rw [h']
  dsimp only [fSl]
  rw [hi, cut_from _ _ hn]
/-! ### squares -/
def fitsB (ns : List Int) (s : Int) : Bool := decide ((ns.length : Int) ≤ s) && (ns.isEmpty || decide (ns.getLastD 0 ≤ s))
theorem atI_last {ns : List Int} (h : ns ≠ []) : L2.atI ns (-1) = some (ns.getLastD 0) := by
  have hp : 0 < ns.length := List.length_pos_iff.mpr h
  unfold L2.atI L2.ixN
  rw [if_neg (by omega), if_pos (by omega)]
  show ns[(-1 + (ns.length : Int)).toNat]? = _
  rw [show (-1 + (ns.length : Int)).toNat = ns.length - 1 by omega, List.getLastD_eq_getLast?, List.getLast?_eq_getElem?]
  rw [List.getElem?_eq_getElem (by omega)]; rfl
theorem pyds_ints (ns : List Int) : pyds (ns.map D.int) = some (ns.map PyData.int) := by
  induction ns with
  | nil => rfl
  | cons n ns ih => simp only [List.map_cons, pyds, pyd, ih]
theorem lay_ints (ns : List Int) : PyData.canLayAll0 (ns.map PyData.int) = true := by
  induction ns with
  | nil => simp [PyData.canLayAll0]
  | cons n ns ih => simp [PyData.canLayAll0, PyData.canLay0, ih]
theorem dep_ints (ns : List Int) : PyData.depthAll (ns.map PyData.int) = 0 := by
  induction ns with
  | nil => simp [PyData.depthAll]
  | cons n ns ih => simp [PyData.depthAll, PyData.depth, ih]
theorem eqv_ints : ∀ (xs ys : List Int), PyData.eqvAll (xs.map PyData.int) (ys.map PyData.int) = decide (xs = ys)
  | [], [] => by simp [PyData.eqvAll]
  | [], y :: ys => by simp [PyData.eqvAll]
  | x :: xs, [] => by simp [PyData.eqvAll]
  | x :: xs, y :: ys => by
    simp only [List.map_cons, PyData.eqvAll, PyData.eqv, eqv_ints xs ys]
    by_cases h : x = y
    · subst h; simp
    · simp [h]
theorem sh_T (ns : List Int) : SeqAt.shaped (.tuple (ns.map PyData.int)) = true := by
  simp [SeqAt.shaped, PyData.canLay0, PyData.depth, lay_ints, dep_ints]
theorem sh_L (ns : List Int) : SeqAt.shaped (.list (ns.map PyData.int)) = true := by
  simp [SeqAt.shaped, PyData.canLay0, PyData.depth, lay_ints, dep_ints]
theorem cEq_T (xs ys : List Int) : cEq (T xs) (T ys) = some (decide (xs = ys)) := by
  unfold cEq
  simp only [pyd, pyds_ints, Option.map_some]
  rw [if_pos ⟨sh_T _, sh_T _⟩]
  simp only [PyData.eqv, eqv_ints]
theorem cEq_L (xs ys : List Int) : cEq (Ls xs) (Ls ys) = some (decide (xs = ys)) := by
  unfold cEq
  simp only [pyd, pyds_ints, Option.map_some]
  rw [if_pos ⟨sh_L _, sh_L _⟩]
  simp only [PyData.eqv, eqv_ints]
theorem eq_TT (xs ys : List Int) : fB cEq (T xs) (T ys) = some (.bl (decide (xs = ys)), .sh) := by unfold fB; rw [cEq_T]
theorem eq_LL (xs ys : List Int) : fB cEq (Ls xs) (Ls ys) = some (.bl (decide (xs = ys)), .sh) := by unfold fB; rw [cEq_L]
theorem ne_TT (xs ys : List Int) : fB cNe (T xs) (T ys) = some (.bl (!decide (xs = ys)), .sh) := by unfold fB cNe; rw [cEq_T]; rfl
def inSq (ns : List Int) (s : Int) : List Int := List.replicate (s - ns.length).toNat 0 ++ ns
/-- mirrored lengths -/
def abt (ns : List Int) (s : Int) : List Int := (List.range s.toNat).map fun k : Nat => (((ns.filter fun n => decide (s - (0 + (k : Nat)) ≤ n)).length : Nat) : Int)
theorem inSq_len {ns : List Int} {s : Int} (h : fitsB ns s = true) : (inSq ns s).length = s.toNat := by
  unfold fitsB at h
  rw [Bool.and_eq_true] at h
  have := of_decide_eq_true h.1
  unfold inSq
  rw [List.length_append, List.length_replicate]
  omega
theorem ev_callx1 {f : FM} {A : EM} {r : LM} {δ : Slots} {b b1 : Bx} {x : Str} {fs : List D} (h : A δ b = .exc x fs b1) : eCall f (lCons A r) δ b = .exc x fs b1 := by
  unfold eCall lCons
  rw [h]
def mrest (ns : List Int) (s : Int) : List Int := (inSq ns s).reverse.map (s - ·)
theorem it_seqx {E : EM} {δ : Slots} {b b1 : Bx} {x : Str} {fs : List D} (h : E δ b = .exc x fs b1) : itSeq E δ b = .exc x fs b1 := by
  unfold itSeq esh
  rw [h]
theorem ev_1x {f : D → Option (D × Kd)} {A : EM} {δ : Slots} {b b1 : Bx} {x : Str} {fs : List D} (h : A δ b = .exc x fs b1) : e1 f A δ b = .exc x fs b1 := by
  unfold e1
  rw [h]
theorem ev_b1x {f : List D → Option (D × Kd)} {A : EM} {r : LM} {δ : Slots} {b b1 : Bx} {x : Str} {fs : List D} (h : A δ b = .exc x fs b1) : eB f (rCons A r) δ b = .exc x fs b1 := by
  unfold eB rCons
  rw [h]
theorem eComp_x {vs : List Nat} {im : LM} {g : GM} {t : BM} {m : EM} {δ : Slots} {b b1 : Bx} {x : Str} {fs : List D} (h : im δ b = .exc x fs b1) : eComp vs im g t m δ b = .exc x fs b1 := by
  unfold eComp
  rw [h]
theorem rev_T (xs : List Int) : fRev (T xs) = some (T xs.reverse, .sh) := by
  show some (D.tup (xs.map D.int).reverse, Kd.sh) = _
  rw [← List.map_reverse]

theorem st_par2 {i j : Nat} {ma mb : EM} {δ δ1 δ2 : Slots} {b b1 b2 : Bx} {d d' : D} {k k' : Kd} (h : ma δ b = .ok d k b1) (h' : mb δ b1 = .ok d' k' b2) (e : putSl i d k δ = some δ1) (e' : putSl j d' k' δ1 = some δ2) : sPar2 i j ma mb δ b = .nx δ2 b2 := by
  unfold sPar2
  rw [h]
  dsimp only
  rw [h']
  dsimp only
  rw [e]
  dsimp only
  rw [e']
theorem st_asgT {g : GM} {m : EM} {δ δ1 : Slots} {b b1 : Bx} {d : D} {k : Kd} (h : m δ b = .ok d k b1) (hk : k ≠ .bo) (e : g d δ = some δ1) : sAsgT g m δ b = .nx δ1 b1 := by
  unfold sAsgT esh
  rw [h]
  cases k with
  | bo => exact absurd rfl hk
  | sh => dsimp only; rw [e]
  | fr => dsimp only; rw [e]
theorem st_asgTx {g : GM} {m : EM} {δ : Slots} {b b1 : Bx} {x : Str} {fs : List D} (h : m δ b = .exc x fs b1) : sAsgT g m δ b = .exc x fs δ b1 := by
  unfold sAsgT esh
  rw [h]
section
variable (xs ys : List Int) (hx : isBd xs = true) (hy : isBd ys = true) (b : Bx)
theorem zip_len {xs ys : List Int} (hx : isBd xs = true) : (xs.zip ys).length ≤ 1000000 := by
  have := isBd_len hx
  rw [List.length_zip]; omega
include hx hy
end

/-! ### draws -/
/-- a box from which one can go on drawing -/
def Bok (m : Int) (b : Bx) : Prop := 0 ≤ b.x ∧ 0 ≤ b.z ∧ b.z ≤ m
theorem Bok.mono {m n : Int} {b : Bx} (h : Bok m b) (l : m ≤ n) : Bok n b := ⟨h.1, h.2.1, Int.le_trans h.2.2 l⟩
theorem st_setB {δ : Slots} {b b1 b2 b3 : Bx} {mk mv : EM} {i : Nat} {k z : Int} {kk kd : Kd} (h : mv δ b = .ok (.int z) kk b1) (hk : kk ≠ .bo) (hi : δ[i]? = some (.val .box)) (h2 : mk δ b1 = .ok (.int k) kd b2) (e : setBx b2 k z = some b3) : sSet i mk mv δ b = .nx δ b3 := by
  unfold sSet esh
  rw [h]
  cases kk with
  | bo => exact absurd rfl hk
  | sh => dsimp only; rw [hi]; dsimp only; rw [h2]; dsimp only; rw [e]
  | fr => dsimp only; rw [hi]; dsimp only; rw [h2]; dsimp only; rw [e]
theorem mul_ii {i j : Int} (h : (-(2 ^ 64) < j ∧ j < 2 ^ 64) ∨ (-(2 ^ 64) < i ∧ i < 2 ^ 64)) : fMulT (.int i) (.int j) = some (.int (i * j), .sh) := by
  show (if (inW i || inW j) = true then some (D.int (i * j), Kd.sh) else none) = _
  rw [if_pos]
  unfold inW
  rcases h with h | h
  · rw [decide_eq_true h.1, decide_eq_true h.2, Bool.or_eq_true]; exact .inr rfl
  · rw [decide_eq_true h.1, decide_eq_true h.2]; rfl
theorem mod_ii {i j : Int} (h : j ≠ 0) : fMod (.int i) (.int j) = some (.int (i.fmod j), .sh) := by
  show (if j ≠ 0 then some (D.int (i.fmod j), Kd.sh) else none) = _
  rw [if_pos h]
theorem div_ii {i j : Int} (h : 0 < j) (h2 : j < 1073741824) : fDiv (.int i) (.int j) = some (.int (i.fdiv j), .sh) := by
  show (if j ≠ 0 ∧ j.natAbs < 1073741824 then some (D.int (i.fdiv j), Kd.sh) else none) = _
  rw [if_pos ⟨by omega, by omega⟩]
theorem box_x {δ : Slots} {b : Bx} (h : δ[0]? = some (.val .box)) : eIdx (eVar 0) (eCst (.int 0)) δ b = .ok (.int b.x) .sh b := ev_idx (k := .sh) (by unfold eVar; rw [h]) (k2 := .sh) rfl rfl
theorem box_y {δ : Slots} {b : Bx} (h : δ[0]? = some (.val .box)) : eIdx (eVar 0) (eCst (.int 1)) δ b = .ok (.int b.y) .sh b := ev_idx (k := .sh) (by unfold eVar; rw [h]) (k2 := .sh) rfl rfl
theorem box_z {δ : Slots} {b : Bx} (h : δ[0]? = some (.val .box)) : eIdx (eVar 0) (eCst (.int 2)) δ b = .ok (.int b.z) .sh b := ev_idx (k := .sh) (by unfold eVar; rw [h]) (k2 := .sh) rfl rfl
theorem fmod_range {i n : Int} (h : 0 < n) : 0 ≤ i.fmod n ∧ i.fmod n < n := by
  rw [Int.fmod_eq_emod_of_nonneg i (Int.le_of_lt h)]
  exact ⟨Int.emod_nonneg _ (by omega), Int.emod_lt_of_pos _ h⟩
theorem eComp_of {vs : List Nat} {im : LM} {g : GM} {t : BM} {m : EM} {δ : Slots} {b b1 b2 : Bx} {ds ys : List D} (hi : im δ b = .ok ds b1) (hl : ds.length ≤ 1000000) (h : compL g t m (wipeD δ vs) ds b1 = .ok ys b2) : eComp vs im g t m δ b = .ok (.lst ys) .fr b2 := by
  unfold eComp
  rw [hi]
  dsimp only
  rw [if_pos hl, h]
theorem up_of {ns : List Int} (h : ns.Pairwise (· ≤ ·)) : upB ns = true := by
  unfold upB
  rw [List.all_eq_true]
  intro k hk
  have hk := List.mem_range.mp hk
  rw [List.getD_eq_getElem?_getD, List.getD_eq_getElem?_getD, List.getElem?_eq_getElem (by omega : k < ns.length), List.getElem?_eq_getElem (by omega : k + 1 < ns.length)]
  exact decide_eq_true (List.pairwise_iff_getElem.mp h k (k + 1) (by omega) (by omega) (by omega))
theorem isBd_of {ns : List Int} (hl : ns.length ≤ 6) (h0 : ∀ n ∈ ns, 0 ≤ n) (h : ns.Pairwise (· ≤ ·)) : isBd ns = true := by
  unfold isBd
  rw [decide_eq_true hl, up_of h, List.all_eq_true.mpr fun n hn => decide_eq_true (h0 n hn)]; rfl

/-! ### the source of draws -/
theorem ev_ifT {t : BM} {ma mb : EM} {δ : Slots} {b b1 : Bx} {o : Out} (h : t δ b = .ok true b1) (e : ma δ b1 = o) : eIf t ma mb δ b = o := by
  unfold eIf
  rw [h]
  exact e
theorem ev_ifF {t : BM} {ma mb : EM} {δ : Slots} {b b1 : Bx} {o : Out} (h : t δ b = .ok false b1) (e : mb δ b1 = o) : eIf t ma mb δ b = o := by
  unfold eIf
  rw [h]
  exact e
theorem st_setO {δ : Slots} {b b1 b2 : Bx} {mk mv : EM} {i n : Nat} {k : Int} {v : D} {ds : List D} {kk kd : Kd} (h : mv δ b = .ok v kk b1) (hk : kk ≠ .bo) (hi : δ[i]? = some (.own ds)) (h2 : mk δ b1 = .ok (.int k) kd b2) (e : ixN ds.length k = some n) : sSet i mk mv δ b = .nx (δ.set i (.own (ds.set n v))) b2 := by
  unfold sSet esh
  rw [h]
  cases kk with
  | bo => exact absurd rfl hk
  | sh => dsimp only; rw [hi]; dsimp only; rw [h2]; dsimp only; rw [e]
  | fr => dsimp only; rw [hi]; dsimp only; rw [h2]; dsimp only; rw [e]
theorem ev_slS {ns : List Int} {A : EM} {lo hi : PtM} {δ : Slots} {b b1 b2 b3 : Bx} {k : Kd} {l u : Option Int} (h : A δ b = .ok (.scr ns) k b1) (h1 : part lo δ b1 = .ok l b2) (h2 : part hi δ b2 = .ok u b3) : eSl A lo hi δ b = .ok (Ls (cutD ns l u)) .fr b3 := by
  unfold eSl
  rw [h]
  dsimp only
  rw [h1]
  dsimp only
  rw [h2]
  rfl
theorem cutD_len {α : Type} (xs : List α) (l u : Option Int) : (cutD xs l u).length ≤ xs.length := by
  unfold cutD
  rw [List.length_take, List.length_drop]
  omega
theorem cut_one (ns : List Int) : cutD ns none (some 1) = [] ∨ ∃ s, cutD ns none (some 1) = [s] := by
  cases ns with
  | nil => exact .inl rfl
  | cons n ns => exact .inr ⟨n, by unfold cutD; rw [HT.sIx_none, show (1 : Int) = ((1 : Nat) : Int) from rfl, HT.sIx_nat]; simp⟩
/-! ### the same, at any depth -/
def okD : Nat → D → Bool
  | 0, _ => false
  | _ + 1, .non => true
  | _ + 1, .bl _ => true
  | _ + 1, .int _ => true
  | _ + 1, .str s => SeqAt.shaped (.str s)
  | n + 1, .tup ds => decide (ds.length ≤ 1000000) && ds.all (okD n)
  | n + 1, .lst ds => decide (ds.length ≤ 1000000) && ds.all (okD n)
  | _ + 1, _ => false
theorem zip_self {α γ : Type} (f : α → α → γ) (xs : List α) : List.zipWith f xs xs = xs.map fun x => f x x := by
  induction xs with
  | nil => rfl
  | cons x xs ih => rw [List.zipWith_cons_cons, ih]; rfl
theorem all_true {α : Type} (xs : List α) : (xs.all fun _ => true) = true := by
  induction xs with
  | nil => rfl
  | cons x xs ih => rw [List.all_cons, ih]; rfl

theorem ev_callF {Φ : FTab} {mf : EM} {l : LM} {δ : Slots} {b b1 b2 b3 : Bx} {x : Str} {n : Nat} {f : FM} {ds : List D} {d : D} {k kd : Kd} (h : mf δ b = .ok (.fn x) k b1) (e : Φ.lookup x = some (n, f)) (hl : l δ b1 = .ok ds b2) (hn : ds.length = n) (hf : f ds b2 = .ok d kd b3) (hk : kd ≠ .bo) : eCallF Φ mf l δ b = .ok d kd b3 := by
  unfold eCallF
  rw [h]
  dsimp only
  rw [e]
  dsimp only
  rw [hl]
  dsimp only
  rw [if_pos hn, hf]
  cases kd with
  | bo => exact absurd rfl hk
  | sh => rfl
  | fr => rfl
theorem ev_callFx {Φ : FTab} {mf : EM} {l : LM} {δ : Slots} {b b1 b2 b3 : Bx} {x y : Str} {n : Nat} {f : FM} {ds fs : List D} {k : Kd} (h : mf δ b = .ok (.fn x) k b1) (e : Φ.lookup x = some (n, f)) (hl : l δ b1 = .ok ds b2) (hn : ds.length = n) (hf : f ds b2 = .exc y fs b3) : eCallF Φ mf l δ b = .exc y fs b3 := by
  unfold eCallF
  rw [h]
  dsimp only
  rw [e]
  dsimp only
  rw [hl]
  dsimp only
  rw [if_pos hn, hf]
theorem st_asgx {i : Nat} {m : EM} {δ : Slots} {b b1 : Bx} {x : Str} {fs : List D} (h : m δ b = .exc x fs b1) : sAsg i m δ b = .exc x fs δ b1 := by
  unfold sAsg
  rw [h]
abbrev tA : EM := eIdx (eLst (lCons (eCst (.fn "padded")) (lCons (eCst (.fn "put_row")) (lCons (eCst (.fn "mirrored")) (lCons (eCst (.fn "rest_of")) lNil))))) (eVar 0)
abbrev tB : EM := eIdx (eLst (lCons (eCst (.fn "is_within")) (lCons (eCst (.fn "shared")) (lCons (eCst (.fn "joined")) lNil)))) (e2 fSub (eVar 0) (eCst (.int 4)))
section
variable {xs ys : List Int} (hx : isBd xs = true) (hy : isBd ys = true) (b : Bx)
include hx
include hy
end


/-! ### all BOARDS of a kind, by a list -/
def brds : Nat → Nat → Nat → List (List Int)
  | 0, _, _ => [[]]
  | n + 1, lo, w => (List.range (w + 1)).flatMap fun d => (brds n (lo + d) (w - d)).map fun l => (((lo + d : Nat) : Int)) :: l
theorem mem_brds : ∀ (n lo w : Nat) (ns : List Int), ns.length = n → ns.Pairwise (· ≤ ·) → (∀ x ∈ ns, (lo : Int) ≤ x ∧ x ≤ ((lo + w : Nat) : Int)) → ns ∈ brds n lo w
  | 0, lo, w, ns, hl, _, _ => by rw [List.eq_nil_of_length_eq_zero hl]; simp [brds]
  | n + 1, lo, w, [], hl, _, _ => by simp at hl
  | n + 1, lo, w, x :: ns, hl, hp, hb => by
    obtain ⟨h1, h2⟩ := hb x List.mem_cons_self
    have hp' := List.pairwise_cons.mp hp
    unfold brds
    rw [List.mem_flatMap]
    refine ⟨(x - lo).toNat, List.mem_range.mpr (by omega), List.mem_map.mpr ⟨ns, mem_brds n _ _ ns (by simpa using hl) hp'.2 fun y hy => ⟨by have := hp'.1 y hy; omega, by have := (hb y (List.mem_cons_of_mem _ hy)).2; omega⟩, ?_⟩⟩
    congr 1
    omega
theorem pw_of_up : ∀ {ns : List Int}, upB ns = true → ns.Pairwise (· ≤ ·) := fun {ns} h => by
  unfold upB at h
  rw [List.all_eq_true] at h
  have step : ∀ k, k + 1 < ns.length → ns.getD k 0 ≤ ns.getD (k + 1) 0 := fun k hk => of_decide_eq_true (h k (List.mem_range.mpr (by omega)))
  have far : ∀ d k, k + d < ns.length → ns.getD k 0 ≤ ns.getD (k + d) 0 := by
    intro d
    induction d with
    | zero => intro k _; exact Int.le_refl _
    | succ d ih => intro k hk; exact Int.le_trans (ih k (by omega)) (step (k + d) (by omega))
  rw [List.pairwise_iff_getElem]
  intro i j hi hj hij
  have := far (j - i) i (by omega)
  rw [show i + (j - i) = j by omega, List.getD_eq_getElem?_getD, List.getD_eq_getElem?_getD, List.getElem?_eq_getElem hi, List.getElem?_eq_getElem hj] at this
  exact this
theorem up_sort (ns : List Int) : upB ns = decide (ns = sortI ns) := by
  cases h : upB ns with
  | true => exact (decide_eq_true (sortI_eq (List.Perm.refl ns) (pw_of_up h))).symm
  | false =>
    symm
    rw [decide_eq_false_iff_not]
    intro e
    have := up_of (sortI_sorted ns)
    rw [← e, h] at this
    cases this
theorem isBd_rev {ns : List Int} (h : isBd ns = true) : isBd ns.reverse = decide (ns.reverse = ns) := by
  by_cases e : ns.reverse = ns
  · rw [e, h, decide_eq_true rfl]
  · rw [decide_eq_false e]
    cases q : isBd ns.reverse with
    | false => rfl
    | true => exact absurd (sorted_unique (List.reverse_perm ns) (pw_of_up (isBd_up q)) (pw_of_up (isBd_up h))) e
theorem isBd_two {ns : List Int} (h : isBd ns = true) : isBd (ns ++ ns) = (decide ((((ns ++ ns).length : Nat) : Int) < 7) && decide (ns ++ ns = sortI (ns ++ ns))) := by
  unfold isBd
  rw [up_sort, List.all_append, List.all_eq_true.mpr fun n hn => decide_eq_true (isBd_pos h n hn), Bool.and_true, Bool.and_true]
  congr 1
  by_cases q : (ns ++ ns).length ≤ 6
  · rw [decide_eq_true q, decide_eq_true (by omega)]
  · rw [decide_eq_false q, decide_eq_false (by omega)]
theorem isBd_neg (ns : List Int) : isBd (ns ++ [-1]) = false := by
  unfold isBd
  have : ((ns ++ [-1]).all fun n => decide (0 ≤ n)) = false := by rw [List.all_append]; simp
  rw [this, Bool.and_false, Bool.false_and]
theorem cells_sum {ns : List Int} (h0 : ∀ n ∈ ns, 0 ≤ n) : ns.sum = ((cellsD ns ns.length).length : Nat) := by
  have key : ∀ k, k ≤ ns.length → (ns.take k).sum = ((cellsD ns k).length : Nat) := by
    intro k
    induction k with
    | zero => intro _; simp [cellsD]
    | succ k ih =>
      intro hk
      have hk' : k < ns.length := by omega
      have hp := h0 ns[k] (List.getElem_mem hk')
      rw [List.take_succ, cellsD_succ, List.length_append, rowC_len, List.getElem?_eq_getElem hk', List.sum_append, ih (by omega), List.getD_eq_getElem?_getD, List.getElem?_eq_getElem hk']
      simp only [Option.toList_some, List.sum_cons, List.sum_nil, Option.getD_some]
      omega
  have := key ns.length (Nat.le_refl _)
  rwa [List.take_length] at this
/-- the rows that spoil what is RISING, as the law looks for them -/
def spoil (ns : List Int) : List Int := ((List.range (ns.length - 1)).filter fun k : Nat => decide (0 < ns.getD (k + 1) 0) && decide (ns.getD (k + 1) 0 = ns.getD k 0)).map fun k : Nat => 1 + (k : Int)
theorem spoil_ris {ns : List Int} (h : isBd ns = true) : decide (spoil ns = []) = risB ns := by
  have hu := isBd_up h
  unfold upB at hu
  rw [List.all_eq_true] at hu
  have h0 : ∀ k, k < ns.length → 0 ≤ ns.getD k 0 := fun k hk => by
    rw [List.getD_eq_getElem?_getD, List.getElem?_eq_getElem hk]
    exact isBd_pos h _ (List.getElem_mem hk)
  have e : ∀ k ∈ List.range (ns.length - 1), (decide (0 < ns.getD (k + 1) 0) && decide (ns.getD (k + 1) 0 = ns.getD k 0)) = !(decide (ns.getD k 0 = 0) || decide (ns.getD k 0 < ns.getD (k + 1) 0)) := fun k hk => by
    have h1 := of_decide_eq_true (hu k hk)
    have hk := List.mem_range.mp hk
    have h2 := h0 k (by omega)
    have h3 := h0 (k + 1) (by omega)
    rw [Bool.eq_iff_iff]
    simp only [Bool.and_eq_true, Bool.not_eq_true', Bool.or_eq_false_iff, decide_eq_true_eq, decide_eq_false_iff_not]
    omega
  unfold spoil risB
  cases q : (List.range (ns.length - 1)).all fun k => decide (ns.getD k 0 = 0) || decide (ns.getD k 0 < ns.getD (k + 1) 0) with
  | true =>
    rw [decide_eq_true_eq, List.map_eq_nil_iff, List.filter_eq_nil_iff]
    intro k hk
    rw [e k hk, List.all_eq_true.mp q k hk]
    decide
  | false =>
    rw [decide_eq_false_iff_not, List.map_eq_nil_iff, List.filter_eq_nil_iff]
    intro z
    have : ((List.range (ns.length - 1)).all fun k => decide (ns.getD k 0 = 0) || decide (ns.getD k 0 < ns.getD (k + 1) 0)) = true := List.all_eq_true.mpr fun k hk => by
      have := z k hk
      rw [e k hk] at this
      cases q2 : (decide (ns.getD k 0 = 0) || decide (ns.getD k 0 < ns.getD (k + 1) 0)) with
      | true => rfl
      | false => rw [q2] at this; exact absurd rfl this
    rw [q] at this
    cases this
/-- of a square: the mirrored one, the rest -/
def chkW (W : List Int) (s : Nat) : Bool := isBd (abt W s) && fitsB (abt W s) s && decide (abt (inSq (abt W s) s) s = W) && isBd (W.reverse.map ((s : Int) - ·)) && fitsB (W.reverse.map ((s : Int) - ·)) s && decide ((inSq (W.reverse.map ((s : Int) - ·)) s).reverse.map ((s : Int) - ·) = W)
theorem sq_up {ns : List Int} {s : Nat} (h : isBd ns = true) (hf : fitsB ns s = true) : (inSq ns s).Pairwise (· ≤ ·) ∧ ∀ x ∈ inSq ns s, 0 ≤ x ∧ x ≤ (s : Int) := by
  have hp := pw_of_up (isBd_up h)
  unfold fitsB at hf
  rw [Bool.and_eq_true] at hf
  unfold inSq
  have h7 : ∀ x ∈ ns, x ≤ (s : Int) := fun x hx => by
    have hne : ns ≠ [] := fun e => by rw [e] at hx; cases hx
    have hl : ns.getLastD 0 ≤ (s : Int) := by
      rcases (Bool.or_eq_true _ _).mp hf.2 with q | q
      · rw [List.isEmpty_iff] at q; exact absurd q hne
      · exact of_decide_eq_true q
    refine Int.le_trans ?_ hl
    obtain ⟨i, hi, rfl⟩ := List.getElem_of_mem hx
    rw [List.getLastD_eq_getLast?, List.getLast?_eq_getElem?, List.getElem?_eq_getElem (by omega)]
    show ns[i] ≤ ns[ns.length - 1]
    rcases Nat.lt_or_ge i (ns.length - 1) with q | q
    · exact List.pairwise_iff_getElem.mp hp i (ns.length - 1) hi (by omega) q
    · have : i = ns.length - 1 := by omega
      subst this; exact Int.le_refl _
  refine ⟨List.pairwise_append.mpr ⟨?_, hp, fun a ha b hb => ?_⟩, fun x hx => ?_⟩
  · exact List.pairwise_replicate.mpr (.inr (Int.le_refl _))
  · rw [(List.mem_replicate.mp ha).2]; exact isBd_pos h b hb
  · rcases List.mem_append.mp hx with q | q
    · rw [(List.mem_replicate.mp q).2]; omega
    · exact ⟨isBd_pos h x q, h7 x q⟩
theorem min_all : ∀ (xs ys : List Int), xs.length = ys.length → ((xs.zip ys).all fun p => decide (p.1 ≤ p.2)) = decide (((xs.zip ys).map fun p => if p.2 < p.1 then p.2 else p.1) = xs)
  | [], [], _ => by simp
  | [], _ :: _, h => by simp at h
  | _ :: _, [], h => by simp at h
  | x :: xs, y :: ys, h => by
    have ih := min_all xs ys (by simpa using h)
    rw [List.zip_cons_cons, List.all_cons, List.map_cons, ih]
    by_cases hxy : x ≤ y
    · rw [decide_eq_true hxy, Bool.true_and, if_neg (by show ¬ y < x; omega)]
      simp
    · rw [decide_eq_false hxy, Bool.false_and, if_pos (by show y < x; omega)]
      symm
      rw [decide_eq_false_iff_not]
      intro q
      have := (List.cons.inj q).1
      dsimp only at this
      omega


/-- a run that says True in the end -/
def Good (m : SM) (δ : Slots) (b : Bx) (M : Int) : Prop := ∃ b', m δ b = .ret (.bl true) .sh b' ∧ Bok M b'
theorem Good.seq {m r : SM} {δ δ1 : Slots} {b b1 : Bx} {M : Int} (h : m δ b = .nx δ1 b1) (t : Good r δ1 b1 M) : Good (sSeq m r) δ b M := by
  obtain ⟨b', e, hb⟩ := t
  exact ⟨b', st_seq h e, hb⟩
theorem frz_id {δ : Slots} : ∀ {is : List Nat}, (∀ i ∈ is, ∀ ds, δ[i]? ≠ some (.own ds)) → frz is δ = δ
  | [], _ => rfl
  | i :: is, h => by
    unfold frz
    rw [List.foldl_cons]
    have : Rk.frz1 i δ = δ := by
      unfold Rk.frz1
      split
      · rename_i ds e; exact absurd e (h i List.mem_cons_self ds)
      · rfl
    rw [this]
    exact frz_id fun j hj => h j (List.mem_cons_of_mem _ hj)
/-- if not same(got, due): return False -/
theorem st_check {t : EM} {δ : Slots} {b b1 : Bx} {k : Kd} (h : t δ b = .ok (.bl true) k b1) : sIf (tNot_ (tVal t)) (sRet (eCst (.bl false))) sNext δ b = .nx δ b1 := st_ifF (ev_tnot (ev_tval h)) rfl
theorem okD_int (n : Nat) (i : Int) : okD (n + 1) (.int i) = true := rfl
theorem okD_T (n : Nat) (ns : List Int) (h : ns.length ≤ 1000000) : okD (n + 2) (T ns) = true := by
  show (decide ((ns.map D.int).length ≤ 1000000) && (ns.map D.int).all (okD (n + 1))) = true
  rw [decide_eq_true (by rw [List.length_map]; exact h), List.all_eq_true.mpr fun d hd => by obtain ⟨i, _, rfl⟩ := List.mem_map.mp hd; rfl]; rfl
theorem okD_cells (n : Nat) (ns : List Int) (k : Nat) (h : (cellsD ns k).length ≤ 1000000) : okD (n + 3) (.lst (cellsD ns k)) = true := by
  show (decide ((cellsD ns k).length ≤ 1000000) && (cellsD ns k).all (okD (n + 2))) = true
  rw [decide_eq_true h, List.all_eq_true.mpr fun d hd => ?_]; rfl
  unfold cellsD at hd
  obtain ⟨j, _, hd⟩ := List.mem_flatMap.mp hd
  unfold rowC at hd
  obtain ⟨c, _, rfl⟩ := List.mem_map.mp hd
  rfl
theorem okD_if (n : Nat) (t : Bool) (x : Str) (d : D) (h : okD n d = true) (hx : okD n (.str x) = true) : okD n (if t = true then d else .str x) = true := by
  cases t <;> simp [h, hx]
theorem ite_D {t : Bool} {a c : D} (h : t = true → a = c) (x : D) : (if t = true then a else x) = (if t = true then c else x) := by
  cases t with
  | true => rw [if_pos rfl, if_pos rfl, h rfl]
  | false => rfl
/-- the slots of the law: 21 that are empty at first -/
abbrev tl (n : Nat) : Slots := List.replicate n Sl.none
section
variable (ns : List Int) (R : Nat) (many : Int) (b : Bx)
/-- the cells, by the law -/
theorem law_cells (hl : ns.length = R) (hR : R ≤ 6) (h0 : ∀ n ∈ ns, 0 ≤ n) (h7 : ∀ n ∈ ns, n ≤ 7) : ∃ u v w, (u = Sl.none ∨ ∃ d, u = .val d) ∧ (sFrz [2] (sFor (itEnum (lCons (eVar 2) lNil)) (gTp [(gNm 5), (gNm 6)])
    (sAsg 4 (e2 fAdd (eVar 4) (eComp [7] (itRng (rCons (eCst (.int 1)) (rCons (e2 fAdd (eVar 6) (eCst (.int 1))) lNil))) (gNm 7) tTrue (eTup (lCons (e2 fAdd (eVar 5) (eCst (.int 1))) (lCons (eVar 7) lNil)))))))) (Sl.val .box :: .val (.int R) :: .val (T ns) :: .val (.int many) :: .own [] :: .none :: .none :: .none :: tl 21) b
    = .nx (Sl.val .box :: .val (.int R) :: .val (T ns) :: .val (.int many) :: .own (cellsD ns ns.length) :: u :: v :: w :: tl 21) b := by
  obtain ⟨δ', e, u, v, w, hu, rfl⟩ := for_inv (F := fun i : Nat => D.tup [.int (i : Nat), .int (ns.getD i 0)]) (g := gTp [(gNm 5), (gNm 6)]) (b := b)
    (body := sAsg 4 (e2 fAdd (eVar 4) (eComp [7] (itRng (rCons (eCst (.int 1)) (rCons (e2 fAdd (eVar 6) (eCst (.int 1))) lNil))) (gNm 7) tTrue (eTup (lCons (e2 fAdd (eVar 5) (eCst (.int 1))) (lCons (eVar 7) lNil))))))
    (fun k δ => ∃ u v w, (u = Sl.none ∨ ∃ d, u = .val d) ∧ δ = Sl.val .box :: .val (.int R) :: .val (T ns) :: .val (.int many) :: .own (cellsD ns k) :: u :: v :: w :: tl 21) (List.range ns.length) 0
    (Sl.val .box :: .val (.int R) :: .val (T ns) :: .val (.int many) :: .own [] :: .none :: .none :: .none :: tl 21) ⟨_, _, _, .inl rfl, rfl⟩ fun i x δ hx hp => by
      obtain ⟨u, v, w, hu, rfl⟩ := hp
      rw [Nat.zero_add] at *
      have hi : i < ns.length := by
        rcases Nat.lt_or_ge i ns.length with q | q
        · exact q
        · rw [List.getElem?_eq_none (by rw [List.length_range]; exact q)] at hx; cases hx
      rw [List.getElem?_range hi] at hx
      cases hx
      have hg : ns.getD i 0 ∈ ns := by rw [List.getD_eq_getElem?_getD, List.getElem?_eq_getElem hi]; exact List.getElem_mem ..
      have er := ev_row (δ := Sl.val .box :: .val (.int R) :: .val (T ns) :: .val (.int many) :: .own (cellsD ns i) :: .val (.int (i : Nat)) :: .val (.int (ns.getD i 0)) :: w :: tl 21) (b := b) (k := i) (n := ns.getD i 0) (i := 5) (j := 6) (c := 7) (by have := h7 _ hg; omega) (fun _ => rfl) rfl rfl (by decide) (by decide) (by show 7 < 29; omega) (h0 _ hg)
      have hz := cellsD_len ns (fun n hn => by have := h7 n hn; omega) (i + 1) (by omega)
      rw [cellsD_succ, List.length_append] at hz
      refine ⟨Sl.val .box :: .val (.int R) :: .val (T ns) :: .val (.int many) :: .own (cellsD ns i) :: .val (.int (i : Nat)) :: .val (.int (ns.getD i 0)) :: w :: tl 21, Sl.val .box :: .val (.int R) :: .val (T ns) :: .val (.int many) :: .own (cellsD ns (i + 1)) :: .val (.int (i : Nat)) :: .val (.int (ns.getD i 0)) :: w :: tl 21, rfl, ?_, _, _, _, .inr ⟨_, rfl⟩, rfl⟩
      refine st_asg (d := .lst (cellsD ns i ++ rowC i (ns.getD i 0))) (k := .fr) (ev_2 (k := .bo) rfl er ?_) (by rw [cellsD_succ]; rfl)
      show (if (cellsD ns i).length + (rowC i (ns.getD i 0)).length ≤ big then some (D.lst (cellsD ns i ++ rowC i (ns.getD i 0)), Kd.fr) else none) = _
      rw [if_pos (Nat.le_trans hz (by unfold big; omega))]
  rw [Nat.zero_add, List.length_range] at e
  exact ⟨u, v, w, hu, st_frz (st_for (it_enum (k := .sh) rfl (by decide) rfl) e)⟩
/-- what spoils, by the law -/
theorem law_spoil (hl : ns.length = R) (hR : R ≤ 6) (δ : Slots) (h1 : δ[1]? = some (.val (.int R))) (h2 : δ[2]? = some (.val (T ns))) (h5 : 5 < δ.length) :
    (e2 (fB cEq) (eComp [5] (itRng (rCons (eCst (.int 1)) (rCons (eVar 1) lNil))) (gNm 5) (tAnd_ (tVal (e2 (fB cGt) (eIdx (eVar 2) (eVar 5)) (eCst (.int 0)))) (tVal (e2 (fB cEq) (eIdx (eVar 2) (eVar 5)) (eIdx (eVar 2) (e2 fSub (eVar 5) (eCst (.int 1))))))) (eVar 5)) (eLst lNil)) δ b = .ok (.bl (decide (spoil ns = []))) .sh b := by
  have v1 : eVar 1 δ b = .ok (.int R) .sh b := by unfold eVar; rw [h1]
  have hr := it_rng2 (E := eCst (.int 1)) (F := eVar 1) (δ := δ) (b := b) (b1 := b) (n := 1) (m := R) (k := .sh) rfl v1 (by omega) (by omega) (by omega) (by omega)
  rw [show ((R : Int) - 1).toNat = ns.length - 1 by omega] at hr
  have c : eComp [5] (itRng (rCons (eCst (.int 1)) (rCons (eVar 1) lNil))) (gNm 5) (tAnd_ (tVal (e2 (fB cGt) (eIdx (eVar 2) (eVar 5)) (eCst (.int 0)))) (tVal (e2 (fB cEq) (eIdx (eVar 2) (eVar 5)) (eIdx (eVar 2) (e2 fSub (eVar 5) (eCst (.int 1))))))) (eVar 5) δ b = .ok (Ls (spoil ns)) .fr b := by
    have := eComp_filter (fun i : Nat => .int (1 + (i : Nat))) (fun i : Nat => .int (1 + (i : Nat))) (fun k : Nat => decide (0 < ns.getD (k + 1) 0) && decide (ns.getD (k + 1) 0 = ns.getD k 0)) (vs := [5]) (g := gNm 5)
      (t := tAnd_ (tVal (e2 (fB cGt) (eIdx (eVar 2) (eVar 5)) (eCst (.int 0)))) (tVal (e2 (fB cEq) (eIdx (eVar 2) (eVar 5)) (eIdx (eVar 2) (e2 fSub (eVar 5) (eCst (.int 1))))))) (m := eVar 5) hr (by rw [List.length_range]; omega) fun k hk => by
        have hk := List.mem_range.mp hk
        have len : ((δ.set 5 Sl.none).set 5 (.val (.int (1 + (k : Nat))))) = δ.set 5 (.val (.int (1 + (k : Nat)))) := List.set_set ..
        refine ⟨(δ.set 5 Sl.none).set 5 (.val (.int (1 + (k : Nat)))), rfl, ?_, fun _ => ⟨.sh, ?_, by decide⟩⟩
        · rw [len]
          have v5 : eVar 5 (δ.set 5 (.val (.int (1 + (k : Nat))))) b = .ok (.int (1 + (k : Nat))) .sh b := by unfold eVar; rw [List.getElem?_set_self h5]
          have v2 : eVar 2 (δ.set 5 (.val (.int (1 + (k : Nat))))) b = .ok (T ns) .sh b := by unfold eVar; rw [List.getElem?_set_ne (by decide), h2]
          have a1 : eIdx (eVar 2) (eVar 5) (δ.set 5 (.val (.int (1 + (k : Nat))))) b = .ok (.int (ns.getD (k + 1) 0)) .sh b := ev_idx v2 v5 (fIdx_T (by have := atI_getD1 (ns := ns) (k := k) (by omega); rwa [show (0 + ((k : Nat) : Int) + 1) = 1 + (k : Nat) by omega] at this))
          have a2 : eIdx (eVar 2) (e2 fSub (eVar 5) (eCst (.int 1))) (δ.set 5 (.val (.int (1 + (k : Nat))))) b = .ok (.int (ns.getD k 0)) .sh b := ev_idx v2 (ev_2 v5 (k2 := .sh) rfl rfl) (fIdx_T (by have := atI_getD (ns := ns) (k := k) (by omega); rwa [show (0 + ((k : Nat) : Int)) = 1 + (k : Nat) - 1 by omega] at this))
          exact ev_tand (ev_tval (k := .sh) (ev_2 a1 (k2 := .sh) rfl rfl)) (fun _ => ev_tval (ev_2 a1 a2 (eq_ii _ _))) (fun _ => rfl)
        · rw [len]
          unfold eVar; rw [List.getElem?_set_self h5]
    rw [this]
    unfold Ls spoil
    rw [List.map_map]
    rfl
  exact ev_2 c (k2 := .fr) rfl (eq_LL (spoil ns) [])
end


theorem okD_lst (n : Nat) (ds : List D) (h : ds.length ≤ 1000000) (h' : ∀ d ∈ ds, okD n d = true) : okD (n + 1) (.lst ds) = true := by
  show (decide (ds.length ≤ 1000000) && ds.all (okD n)) = true
  rw [decide_eq_true h, List.all_eq_true.mpr h']; rfl
theorem okD_str (n : Nat) (s : Str) (h : SeqAt.shaped (.str s) = true) : okD (n + 1) (.str s) = true := h
theorem shCan : SeqAt.shaped (.str "CanNot") = true := by decide +kernel
theorem shOth : SeqAt.shaped (.str "OtherRows") = true := by decide +kernel
theorem lt_ifD {t : EM} {δ : Slots} {b : Bx} {ma mb : EM} {p : Bool} {d e : D} (ht : tVal t δ b = .ok p b) (h1 : p = true → ma δ b = .ok d .sh b) (h2 : p = false → mb δ b = .ok e .sh b) : eIf (tVal t) ma mb δ b = .ok (if p = true then d else e) .sh b := by
  cases p with
  | true => rw [if_pos rfl]; exact ev_ifT ht (h1 rfl)
  | false => rw [if_neg Bool.false_ne_true]; exact ev_ifF ht (h2 rfl)
/-- all but one -/
theorem but_one (ns : List Int) (k : Nat) (hk : k < ns.length) : ((List.range ns.length).filter fun j : Nat => decide ((j : Int) ≠ (k : Int))).map (fun j => ns.getD j 0) = ns.take k ++ ns.drop (k + 1) := by
  have h1 : ns.length = k + ((ns.length - k - 1) + 1) := by omega
  have e : List.range ns.length = List.range k ++ k :: (List.range (ns.length - k - 1)).map (k + 1 + ·) := by
    conv => lhs; rw [h1, List.range_add, List.range_succ_eq_map]
    simp only [List.map_cons, List.map_map, Nat.add_zero]
    congr 2
    apply List.map_congr_left
    intro a _
    show k + (a + 1) = k + 1 + a
    omega
  rw [e, List.filter_append, List.filter_cons_of_neg (by simp), List.map_append]
  congr 1
  · rw [List.filter_eq_self.mpr fun a ha => by have := List.mem_range.mp ha; simp; omega]
    apply List.ext_getElem
    · simp; omega
    · intro i h1 h2
      simp at h1
      simp [List.getD_eq_getElem?_getD, show i < ns.length by omega]
  · rw [List.filter_eq_self.mpr fun a ha => by obtain ⟨c, _, rfl⟩ := List.mem_map.mp ha; simp; omega, List.map_map]
    apply List.ext_getElem
    · simp; omega
    · intro i h1 h2
      simp at h1
      simp [List.getD_eq_getElem?_getD, show k + 1 + i < ns.length by omega]
theorem Good.pure {s r : SM} {δ : Slots} (δ1 : Slots) {b : Bx} {M : Int} (h : s δ b = .nx δ1 b) (t : Good r δ1 b M) : Good (sSeq s r) δ b M := Good.seq h t
theorem eLst4 {A B C E : EM} {δ : Slots} {b : Bx} {d1 d2 d3 d4 : D} {k1 k2 k3 k4 : Kd} (h1 : A δ b = .ok d1 k1 b) (g1 : k1 ≠ .bo) (h2 : B δ b = .ok d2 k2 b) (g2 : k2 ≠ .bo) (h3 : C δ b = .ok d3 k3 b) (g3 : k3 ≠ .bo) (h4 : E δ b = .ok d4 k4 b) (g4 : k4 ≠ .bo) :
    eLst (lCons A (lCons B (lCons C (lCons E lNil)))) δ b = .ok (.lst [d1, d2, d3, d4]) .fr b := ev_lst (ev_lc h1 g1 (ev_lc h2 g2 (ev_lc h3 g3 (ev_lc h4 g4 rfl)))) (by show 4 ≤ 1000; omega)
theorem eLst3 {A B C : EM} {δ : Slots} {b : Bx} {d1 d2 d3 : D} {k1 k2 k3 : Kd} (h1 : A δ b = .ok d1 k1 b) (g1 : k1 ≠ .bo) (h2 : B δ b = .ok d2 k2 b) (g2 : k2 ≠ .bo) (h3 : C δ b = .ok d3 k3 b) (g3 : k3 ≠ .bo) :
    eLst (lCons A (lCons B (lCons C lNil))) δ b = .ok (.lst [d1, d2, d3]) .fr b := ev_lst (ev_lc h1 g1 (ev_lc h2 g2 (ev_lc h3 g3 rfl))) (by show 3 ≤ 1000; omega)
theorem eLst2 {A B : EM} {δ : Slots} {b : Bx} {d1 d2 : D} {k1 k2 : Kd} (h1 : A δ b = .ok d1 k1 b) (g1 : k1 ≠ .bo) (h2 : B δ b = .ok d2 k2 b) (g2 : k2 ≠ .bo) : eLst (lCons A (lCons B lNil)) δ b = .ok (.lst [d1, d2]) .fr b := ev_lst (ev_lc h1 g1 (ev_lc h2 g2 rfl)) (by show 2 ≤ 1000; omega)
theorem call1 {f : FM} {A : EM} {δ : Slots} {b b1 b2 : Bx} {x d : D} {k kd : Kd} (h : A δ b = .ok x k b1) (hk : k ≠ .bo) (e : f [x] b1 = .ok d kd b2) (hd : kd ≠ .bo) : eCall f (lCons A lNil) δ b = .ok d kd b2 := ev_call (ev_lc h hk rfl) e hd
theorem call2 {f : FM} {A B : EM} {δ : Slots} {b b1 b2 b3 : Bx} {x y d : D} {k k2 kd : Kd} (h : A δ b = .ok x k b1) (hk : k ≠ .bo) (h' : B δ b1 = .ok y k2 b2) (hk2 : k2 ≠ .bo) (e : f [x, y] b2 = .ok d kd b3) (hd : kd ≠ .bo) : eCall f (lCons A (lCons B lNil)) δ b = .ok d kd b3 := ev_call (ev_lc h hk (ev_lc h' hk2 rfl)) e hd
theorem call3 {f : FM} {A B C : EM} {δ : Slots} {b b1 b2 b3 b4 : Bx} {x y z d : D} {k k2 k3 kd : Kd} (h : A δ b = .ok x k b1) (hk : k ≠ .bo) (h' : B δ b1 = .ok y k2 b2) (hk2 : k2 ≠ .bo) (h'' : C δ b2 = .ok z k3 b3) (hk3 : k3 ≠ .bo) (e : f [x, y, z] b3 = .ok d kd b4) (hd : kd ≠ .bo) : eCall f (lCons A (lCons B (lCons C lNil))) δ b = .ok d kd b4 := ev_call (ev_lc h hk (ev_lc h' hk2 (ev_lc h'' hk3 rfl))) e hd

end Rk

namespace Rk
open PySem PySem.Spec L2

/-! ### values compared by a test -/
mutual
def deq : D → D → Bool
  | .non, .non => true
  | .bl a, .bl b => a == b
  | .int a, .int b => decide (a = b)
  | .str a, .str b => decide (a = b)
  | .tup a, .tup b => deqs a b
  | .lst a, .lst b => deqs a b
  | .box, .box => true
  | .fn a, .fn b => decide (a = b)
  | _, _ => false
def deqs : List D → List D → Bool
  | [], [] => true
  | a :: as, b :: bs => deq a b && deqs as bs
  | _, _ => false
end
mutual
theorem deq_eq : ∀ {a b : D}, deq a b = true → a = b
  | .non, b, h => by cases b <;> first | rfl | (simp [deq] at h)
  | .bl x, b, h => by cases b <;> first | (simp [deq] at h; subst h; rfl) | (simp [deq] at h)
  | .int x, b, h => by cases b <;> first | (simp [deq] at h; subst h; rfl) | (simp [deq] at h)
  | .str x, b, h => by cases b <;> first | (simp [deq] at h; subst h; rfl) | (simp [deq] at h)
  | .tup x, b, h => by
    cases b <;> first | (simp [deq] at h; done) | skip
    rename_i y
    rw [deqs_eq (show deqs x y = true by simpa [deq] using h)]
  | .lst x, b, h => by
    cases b <;> first | (simp [deq] at h; done) | skip
    rename_i y
    rw [deqs_eq (show deqs x y = true by simpa [deq] using h)]
  | .box, b, h => by cases b <;> first | rfl | (simp [deq] at h)
  | .fn x, b, h => by cases b <;> first | (simp [deq] at h; subst h; rfl) | (simp [deq] at h)
  | .dct x, b, h => by cases b <;> (simp [deq] at h)
  | .scr x, b, h => by cases b <;> (simp [deq] at h)
theorem deqs_eq : ∀ {a b : List D}, deqs a b = true → a = b
  | [], b, h => by cases b with
    | nil => rfl
    | cons => simp [deqs] at h
  | x :: xs, b, h => by
    cases b with
    | nil => simp [deqs] at h
    | cons y ys =>
      rw [show deqs (x :: xs) (y :: ys) = (deq x y && deqs xs ys) by simp [deqs], Bool.and_eq_true] at h
      rw [deq_eq h.1, deqs_eq h.2]
end
def seq' : Sl → Sl → Bool
  | .none, .none => true
  | .val a, .val b => deq a b
  | .own a, .own b => deqs a b
  | _, _ => false
theorem seq'_eq {a b : Sl} (h : seq' a b = true) : a = b := by
  cases a <;> cases b <;> first | rfl | (simp [seq'] at h; done) | skip
  · rw [deq_eq (show deq _ _ = true from h)]
  · rw [deqs_eq (show deqs _ _ = true from h)]
/-- slots compared, but for those of S -/
def agrB (S : List Nat) : Nat → Slots → Slots → Bool
  | _, [], [] => true
  | i, a :: as, b :: bs => (S.contains i || seq' a b) && agrB S (i + 1) as bs
  | _, _, _ => false
theorem agrB_ok {S : List Nat} : ∀ {δ δ' : Slots} {i : Nat}, agrB S i δ δ' = true → δ.length = δ'.length ∧ ∀ j, i + j ∉ S → δ[j]? = δ'[j]?
  | [], [], i, _ => ⟨rfl, fun _ _ => rfl⟩
  | [], _ :: _, i, h => by cases h
  | _ :: _, [], i, h => by cases h
  | a :: as, b :: bs, i, h => by
    have h' : ((S.contains i || seq' a b) && agrB S (i + 1) as bs) = true := h
    rw [Bool.and_eq_true, Bool.or_eq_true] at h'
    obtain ⟨h1, h2⟩ := h'
    obtain ⟨g1, g2⟩ := agrB_ok h2
    refine ⟨by simp [g1], fun j hj => ?_⟩
    cases j with
    | zero =>
      rcases h1 with h1 | h1
      · exact absurd (by simpa using h1) hj
      · rw [seq'_eq h1]; rfl
    | succ j =>
      have := g2 j (by rwa [show i + 1 + j = i + (j + 1) by omega])
      simpa using this
theorem Agr.of {S : List Nat} {δ δ' : Slots} (h : agrB S 0 δ δ' = true) : Agr S δ δ' := by
  obtain ⟨h1, h2⟩ := agrB_ok h
  exact ⟨h1, fun i hi => h2 i (by rwa [Nat.zero_add])⟩
theorem Agr.trans {S : List Nat} {a b c : Slots} (h : Agr S a b) (h' : Agr S b c) : Agr S a c := ⟨h.1.trans h'.1, fun i hi => (h.2 i hi).trans (h'.2 i hi)⟩
theorem Agr.mono {S S' : List Nat} {a b : Slots} (h : Agr S a b) (hs : ∀ i ∈ S, i ∈ S') : Agr S' a b := ⟨h.1, fun i hi => h.2 i fun q => hi (hs i q)⟩
abbrev b00 : Bx := ⟨0, 0, 0⟩
/-- a run that says True, whatever stands in the slots of S -/
def GoodA (S : List Nat) (δm : Slots) (r : SM) (b : Bx) (M : Int) : Prop := ∀ δ, Agr S δm δ → Good r δ b M
theorem GoodA.wk {S S' : List Nat} {δm δm' : Slots} {r : SM} {b : Bx} {M : Int} (hs : ∀ i ∈ S, i ∈ S') (h : agrB S' 0 δm' δm = true) (t : GoodA S' δm' r b M) : GoodA S δm r b M := fun δ a => t δ ((Agr.of h).trans (a.mono hs))
theorem GoodA.wkA {S S' : List Nat} {δm δm' : Slots} {r : SM} {b : Bx} {M : Int} (hs : ∀ i ∈ S, i ∈ S') (h : Agr S' δm' δm) (t : GoodA S' δm' r b M) : GoodA S δm r b M := fun δ a => t δ (h.trans (a.mono hs))
def segB (m : SM) (S' : List Nat) (δm δm2 : Slots) : Bool := match m δm b00 with
  | .nx δ _ => agrB S' 0 δm2 δ
  | _ => false
def retB (m : SM) (δm : Slots) : Bool := match m δm b00 with
  | .ret (.bl true) .sh _ => true
  | _ => false
theorem GoodA.seg {S S' : List Nat} {δm δm2 : Slots} {m r : SM} {b : Bx} {M : Int} (hm : IS S m) (hs : ∀ i ∈ S, i ∈ S') (h : segB m S' δm δm2 = true) (t : GoodA S' δm2 r b M) : GoodA S δm (sSeq m r) b M := fun δ a => by
  unfold segB at h
  cases e : m δm b00 with
  | nx δ1 b1 =>
    rw [e] at h
    obtain ⟨δ1', e', a'⟩ := j_nx hm ⟨b1, e⟩ a b
    exact Good.seq e' (t δ1' ((Agr.of h).trans (a'.mono hs)))
  | bk _ _ => rw [e] at h; cases h
  | ct _ _ => rw [e] at h; cases h
  | ret _ _ _ => rw [e] at h; cases h
  | exc _ _ _ _ => rw [e] at h; cases h
  | bad => rw [e] at h; cases h
theorem GoodA.ret {S : List Nat} {δm : Slots} {m : SM} {b : Bx} {M : Int} (hb : Bok M b) (hm : IS S m) (h : retB m δm = true) : GoodA S δm m b M := fun δ a => by
  unfold retB at h
  split at h
  · rename_i b1 e
    exact ⟨b, j_rt hm ⟨b1, e⟩ a b, hb⟩
  · cases h
/-- a statement that gives these slots -/
theorem GoodA.st {S S' : List Nat} {δm δm2 : Slots} {m r : SM} {b b' : Bx} {M : Int} (h : ∀ δ, Agr S δm δ → ∃ δ', m δ b = .nx δ' b' ∧ Agr S' δm2 δ') (t : GoodA S' δm2 r b' M) : GoodA S δm (sSeq m r) b M := fun δ a => by
  obtain ⟨δ', e, a'⟩ := h δ a
  exact Good.seq e (t δ' a')
theorem eVar_ag {S : List Nat} {δm δ : Slots} (a : Agr S δm δ) {i : Nat} {d : D} (hi : i ∉ S) (h : δm[i]? = some (.val d)) (b : Bx) : eVar i δ b = .ok d .sh b := by unfold eVar; rw [← a.2 i hi, h]
theorem eVar_agO {S : List Nat} {δm δ : Slots} (a : Agr S δm δ) {i : Nat} {ds : List D} (hi : i ∉ S) (h : δm[i]? = some (.own ds)) (b : Bx) : eVar i δ b = .ok (.lst ds) .bo b := by unfold eVar; rw [← a.2 i hi, h]
/-- some of the items, as they come, by draws -/
theorem Bok.mono' {m n : Int} {b : Bx} (h : Bok m b) (hn : m ≤ n) : Bok n b := h.mono hn
end Rk

namespace Rk
open PySem PySem.Spec L2

/-! ### typed answers -/
inductive Re (α : Type) where
  | ok (v : α)
  | ex (x : Str) (fs : List D)
  | bad
def Re.bind {α β : Type} (r : Re α) (f : α → Re β) : Re β := match r with
  | .ok v => f v
  | .ex x fs => .ex x fs
  | .bad => .bad
def Re.guard {α : Type} (c : Bool) (r : Re α) : Re α := match c with
  | true => r
  | false => .bad
/-- codings -/
abbrev eT {α : Type} (e : α → D) : List α → D := fun xs => .tup (xs.map e)
abbrev eL {α : Type} (e : α → D) : List α → D := fun xs => .lst (xs.map e)
abbrev eP {α β : Type} (e : α → D) (f : β → D) : α × β → D := fun p => .tup [e p.1, f p.2]
abbrev eU : Unit → D := fun _ => .non
def SatE {α : Type} (e : α → D) (k : Kd) (b : Bx) (o : Out) : Re α → Prop
  | .ok v => o = .ok (e v) k b
  | .ex x fs => o = .exc x fs b
  | .bad => True
def SatB (b : Bx) (o : OutB) : Re Bool → Prop
  | .ok v => o = .ok v b
  | .ex x fs => o = .exc x fs b
  | .bad => True
def SatI {α : Type} (e : α → D) (b : Bx) (o : OutL) : Re (List α) → Prop
  | .ok v => o = .ok (v.map e) b
  | .ex x fs => o = .exc x fs b
  | .bad => True
def Ev {α : Type} (m : EM) (δ : Slots) (e : α → D) (k : Kd) (r : Re α) : Prop := ∀ b, SatE e k b (m δ b) r
def EvB (m : BM) (δ : Slots) (r : Re Bool) : Prop := ∀ b, SatB b (m δ b) r
def EvI {α : Type} (m : LM) (δ : Slots) (e : α → D) (r : Re (List α)) : Prop := ∀ b, SatI e b (m δ b) r
def Tf {α : Type} (f : FM) (ds : List D) (e : α → D) (k : Kd) (r : Re α) : Prop := ∀ b, SatE e k b (f ds b) r
/-- what an operation gives -/
def SatO {α : Type} (e : α → D) (k : Kd) (o : Option (D × Kd)) : Re α → Prop
  | .ok v => o = some (e v, k)
  | .ex _ _ => False
  | .bad => True
section
variable {α β γ : Type} {e : α → D} {e' : β → D} {e2' : γ → D} {δ : Slots} {k k' k2 : Kd} {A B C : EM} {a : Re α} {c : Re β}
theorem t_var {i : Nat} {v : α} (e : α → D) (h : δ[i]? = some (.val (e v))) : Ev (eVar i) δ e .sh (.ok v) := fun b => by show eVar i δ b = _; unfold eVar; rw [h]
theorem t_own {i : Nat} {v : List α} (e : α → D) (h : δ[i]? = some (.own (v.map e))) : Ev (eVar i) δ (eL e) .bo (.ok v) := fun b => by show eVar i δ b = _; unfold eVar; rw [h]
theorem t_cst {v : α} (e : α → D) : Ev (eCst (e v)) δ e .sh (.ok v) := fun b => rfl
/-- two operands, a rule for what the operation gives -/
theorem t_2 {f : D → D → Option (D × Kd)} {F : α → β → Re γ} (h : ∀ x y, SatO e2' k2 (f (e x) (e' y)) (F x y)) (hA : Ev A δ e k a) (hB : Ev B δ e' k' c) : Ev (e2 f A B) δ e2' k2 (a.bind fun x => c.bind fun y => F x y) := fun b => by
  cases a with
  | bad => trivial
  | ex x fs => have : A δ b = _ := hA b; show e2 f A B δ b = _; unfold e2; rw [this]
  | ok x =>
    have h1 : A δ b = _ := hA b
    cases c with
    | bad => trivial
    | ex y fs => have h2 : B δ b = _ := hB b; show e2 f A B δ b = _; unfold e2; rw [h1]; dsimp only; rw [h2]
    | ok y =>
      have h2 : B δ b = _ := hB b
      have h3 := h x y
      show SatE e2' k2 b (e2 f A B δ b) (F x y)
      cases hF : F x y with
      | bad => trivial
      | ex z fs => rw [hF] at h3; exact h3.elim
      | ok v => rw [hF] at h3; exact ev_2 h1 h2 h3
theorem t_1 {f : D → Option (D × Kd)} {F : α → Re γ} (h : ∀ x, SatO e2' k2 (f (e x)) (F x)) (hA : Ev A δ e k a) : Ev (e1 f A) δ e2' k2 (a.bind F) := fun b => by
  cases a with
  | bad => trivial
  | ex x fs => exact ev_1x (hA b)
  | ok x =>
    have h1 : A δ b = _ := hA b
    have h3 := h x
    show SatE e2' k2 b (e1 f A δ b) (F x)
    cases hF : F x with
    | bad => trivial
    | ex z fs => rw [hF] at h3; exact h3.elim
    | ok v => rw [hF] at h3; exact ev_1 h1 h3
theorem t_b1 {f : List D → Option (D × Kd)} {F : α → Re γ} (h : ∀ x, SatO e2' k2 (f [e x]) (F x)) (hA : Ev A δ e k a) : Ev (eB f (rCons A lNil)) δ e2' k2 (a.bind F) := fun b => by
  cases a with
  | bad => trivial
  | ex x fs => exact ev_b1x (hA b)
  | ok x =>
    have h1 : A δ b = _ := hA b
    have h3 := h x
    show SatE e2' k2 b (eB f (rCons A lNil) δ b) (F x)
    cases hF : F x with
    | bad => trivial
    | ex z fs => rw [hF] at h3; exact h3.elim
    | ok v => rw [hF] at h3; exact ev_b1 h1 h3
theorem t_b2 {f : List D → Option (D × Kd)} {F : α → β → Re γ} (h : ∀ x y, SatO e2' k2 (f [e x, e' y]) (F x y)) (hA : Ev A δ e k a) (hB : Ev B δ e' k' c) : Ev (eB f (rCons A (rCons B lNil))) δ e2' k2 (a.bind fun x => c.bind fun y => F x y) := fun b => by
  cases a with
  | bad => trivial
  | ex x fs => exact ev_b1x (hA b)
  | ok x =>
    have h1 : A δ b = _ := hA b
    cases c with
    | bad => trivial
    | ex y fs => have h2 : B δ b = _ := hB b; show eB f (rCons A (rCons B lNil)) δ b = _; unfold eB rCons; rw [h1]; dsimp only; rw [h2]
    | ok y =>
      have h2 : B δ b = _ := hB b
      have h3 := h x y
      show SatE e2' k2 b (eB f (rCons A (rCons B lNil)) δ b) (F x y)
      cases hF : F x y with
      | bad => trivial
      | ex z fs => rw [hF] at h3; exact h3.elim
      | ok v => rw [hF] at h3; exact ev_b2 h1 h2 h3
theorem t_if {t : BM} {r : Re Bool} {ra rb : Re α} (ht : EvB t δ r) (hA : Ev A δ e k ra) (hB : Ev B δ e k rb) : Ev (eIf t A B) δ e k (r.bind fun c => cond c ra rb) := fun b => by
  cases r with
  | bad => trivial
  | ex x fs => have : t δ b = _ := ht b; show eIf t A B δ b = _; unfold eIf; rw [this]
  | ok c =>
    have h1 : t δ b = _ := ht b
    cases c with
    | true =>
      have := hA b
      show SatE e k b (eIf t A B δ b) ra
      rw [show eIf t A B δ b = A δ b from ev_ifT h1 rfl]; exact this
    | false =>
      have := hB b
      show SatE e k b (eIf t A B δ b) rb
      rw [show eIf t A B δ b = B δ b from ev_ifF h1 rfl]; exact this
theorem t_tval {r : Re Bool} (h : Ev A δ D.bl k r) : EvB (tVal A) δ r := fun b => by
  cases r with
  | bad => trivial
  | ex x fs => have : A δ b = _ := h b; show tVal A δ b = _; unfold tVal; rw [this]
  | ok c => exact ev_tval (h b)
end
/-! ### operations on typed values -/
section
variable {α : Type} {e : α → D}
theorem y_addI (x y : Int) : SatO D.int .sh (fAdd (.int x) (.int y)) (.ok (x + y)) := rfl
theorem y_subI (x y : Int) : SatO D.int .sh (fSub (.int x) (.int y)) (.ok (x - y)) := rfl
theorem y_negI (x : Int) : SatO D.int .sh (fNeg (.int x)) (.ok (-x)) := rfl
theorem y_addT (x y : List α) : SatO (eT e) .sh (fAdd (eT e x) (eT e y)) (Re.guard (Nat.ble (x.length + y.length) 1000000) (.ok (x ++ y))) := by
  cases h : Nat.ble (x.length + y.length) 1000000 with
  | false => trivial
  | true =>
    show (if (x.map e).length + (y.map e).length ≤ big then some (D.tup (x.map e ++ y.map e), Kd.sh) else none) = some (D.tup ((x ++ y).map e), Kd.sh)
    rw [List.length_map, List.length_map, if_pos (show _ ≤ big from Nat.le_of_ble_eq_true h), List.map_append]
theorem y_addL (x y : List α) : SatO (eL e) .fr (fAdd (eL e x) (eL e y)) (Re.guard (Nat.ble (x.length + y.length) 1000000) (.ok (x ++ y))) := by
  cases h : Nat.ble (x.length + y.length) 1000000 with
  | false => trivial
  | true =>
    show (if (x.map e).length + (y.map e).length ≤ big then some (D.lst (x.map e ++ y.map e), Kd.fr) else none) = some (D.lst ((x ++ y).map e), Kd.fr)
    rw [List.length_map, List.length_map, if_pos (show _ ≤ big from Nat.le_of_ble_eq_true h), List.map_append]
theorem y_mulI (x y : Int) : SatO D.int .sh (fMulT (.int x) (.int y)) (Re.guard (inW x || inW y) (.ok (x * y))) := by
  cases h : (inW x || inW y) with
  | false => trivial
  | true => show (if (inW x || inW y) = true then some (D.int (x * y), Kd.sh) else none) = _; rw [if_pos h]
theorem y_ltI (x y : Int) : SatO D.bl .sh (fB cLt (.int x) (.int y)) (.ok (decide (x < y))) := rfl
theorem y_leI (x y : Int) : SatO D.bl .sh (fB cLe (.int x) (.int y)) (.ok (decide (x ≤ y))) := rfl
theorem y_gtI (x y : Int) : SatO D.bl .sh (fB cGt (.int x) (.int y)) (.ok (decide (y < x))) := rfl
theorem y_geI (x y : Int) : SatO D.bl .sh (fB cGe (.int x) (.int y)) (.ok (decide (y ≤ x))) := rfl
theorem y_eqI (x y : Int) : SatO D.bl .sh (fB cEq (.int x) (.int y)) (.ok (decide (x = y))) := eq_ii x y
theorem y_lenL (x : List α) : SatO D.int .sh (fLen [eL e x]) (.ok (x.length : Int)) := by show some (D.int ((x.map e).length : Nat), Kd.sh) = _; rw [List.length_map]
theorem y_lenT (x : List α) : SatO D.int .sh (fLen [eT e x]) (.ok (x.length : Int)) := by show some (D.int ((x.map e).length : Nat), Kd.sh) = _; rw [List.length_map]
theorem y_tupL (x : List α) : SatO (eT e) .sh (f1 gTuple [eL e x]) (.ok x) := rfl
theorem y_tupT (x : List α) : SatO (eT e) .sh (f1 gTuple [eT e x]) (.ok x) := rfl
theorem y_lstT (x : List α) : SatO (eL e) .fr (f1 gList [eT e x]) (.ok x) := rfl
theorem y_lstL (x : List α) : SatO (eL e) .fr (f1 gList [eL e x]) (.ok x) := rfl
theorem y_sortT (x : List Int) : SatO (eL D.int) .fr (f1 gSortI [eT D.int x]) (.ok (sortI x)) := sort_T x
theorem y_sortL (x : List Int) : SatO (eL D.int) .fr (f1 gSortI [eL D.int x]) (.ok (sortI x)) := sort_L x
end
end Rk

namespace Rk
open PySem PySem.Spec L2

/-! ### calls of defs -/
section
variable {α β γ ε : Type} {e : α → D} {e' : β → D} {e2' : γ → D} {e3' : ε → D} {δ : Slots} {k k' k2 kd : Kd} {A B C : EM} {a : Re α} {c : Re β} {g : Re γ}
/-- arguments, coded in a row -/
def EvA {α : Type} (l : LM) (δ : Slots) (e : α → List D) (r : Re α) : Prop := ∀ b, match r with
  | .ok v => l δ b = .ok (e v) b
  | .ex x fs => l δ b = .exc x fs b
  | .bad => True
theorem t_call1 {f : FM} {F : α → Re γ} (h : ∀ x, Tf f [e x] e2' kd (F x)) (hk : kd ≠ .bo) (hA : Ev A δ e k a) (n1 : k ≠ .bo) : Ev (eCall f (lCons A lNil)) δ e2' kd (a.bind F) := fun b => by
  cases a with
  | bad => trivial
  | ex x fs => exact ev_callx1 (hA b)
  | ok x =>
    have h1 : A δ b = _ := hA b
    have h3 := h x b
    show SatE e2' kd b (eCall f (lCons A lNil) δ b) (F x)
    cases hF : F x with
    | bad => trivial
    | ex z fs => rw [hF] at h3; exact ev_callx (ev_lc h1 n1 rfl) h3
    | ok v => rw [hF] at h3; exact call1 h1 n1 h3 hk
theorem ev_callx2 {f : FM} {r : LM} {b b1 : Bx} {d : D} {x : Str} {fs : List D} (h : A δ b = .ok d k b) (hk : k ≠ .bo) (h' : B δ b = .exc x fs b1) : eCall f (lCons A (lCons B r)) δ b = .exc x fs b1 := by
  unfold eCall lCons
  rw [h]
  cases k with
  | bo => exact absurd rfl hk
  | sh => dsimp only; rw [h']
  | fr => dsimp only; rw [h']
theorem t_call2 {f : FM} {F : α → β → Re γ} (h : ∀ x y, Tf f [e x, e' y] e2' kd (F x y)) (hk : kd ≠ .bo) (hA : Ev A δ e k a) (n1 : k ≠ .bo) (hB : Ev B δ e' k' c) (n2 : k' ≠ .bo) : Ev (eCall f (lCons A (lCons B lNil))) δ e2' kd (a.bind fun x => c.bind fun y => F x y) := fun b => by
  cases a with
  | bad => trivial
  | ex x fs => exact ev_callx1 (hA b)
  | ok x =>
    have h1 : A δ b = _ := hA b
    cases c with
    | bad => trivial
    | ex y fs => exact ev_callx2 h1 n1 (hB b)
    | ok y =>
      have h2 : B δ b = _ := hB b
      have h3 := h x y b
      show SatE e2' kd b (eCall f (lCons A (lCons B lNil)) δ b) (F x y)
      cases hF : F x y with
      | bad => trivial
      | ex z fs => rw [hF] at h3; exact ev_callx (ev_lc h1 n1 (ev_lc h2 n2 rfl)) h3
      | ok v => rw [hF] at h3; exact call2 h1 n1 h2 n2 h3 hk
/-! ### tests -/
theorem t_not {t : BM} {r : Re Bool} (h : EvB t δ r) : EvB (tNot_ t) δ (r.bind fun x => .ok (!x)) := fun b => by
  cases r with
  | bad => trivial
  | ex x fs => have : t δ b = _ := h b; show tNot_ t δ b = _; unfold tNot_; rw [this]
  | ok c => exact ev_tnot (h b)
theorem t_and {t u : BM} {r s : Re Bool} (h : EvB t δ r) (h' : EvB u δ s) : EvB (tAnd_ t u) δ (r.bind fun x => cond x s (.ok false)) := fun b => by
  cases r with
  | bad => trivial
  | ex x fs => have : t δ b = _ := h b; show tAnd_ t u δ b = _; unfold tAnd_; rw [this]
  | ok c =>
    have h1 : t δ b = _ := h b
    cases c with
    | false => show tAnd_ t u δ b = _; unfold tAnd_; rw [h1]; rfl
    | true => have h2 := h' b; show SatB b (tAnd_ t u δ b) s; unfold tAnd_; rw [h1]; exact h2
theorem t_or {t u : BM} {r s : Re Bool} (h : EvB t δ r) (h' : EvB u δ s) : EvB (tOr_ t u) δ (r.bind fun x => cond x (.ok true) s) := fun b => by
  cases r with
  | bad => trivial
  | ex x fs => have : t δ b = _ := h b; show tOr_ t u δ b = _; unfold tOr_; rw [this]
  | ok c =>
    have h1 : t δ b = _ := h b
    cases c with
    | true => show tOr_ t u δ b = _; unfold tOr_; rw [h1]; rfl
    | false => have h2 := h' b; show SatB b (tOr_ t u δ b) s; unfold tOr_; rw [h1]; exact h2
theorem t_true : EvB tTrue δ (.ok true) := fun b => rfl
/-! ### comprehensions -/
/-- what a comprehension gives; an exception in it is not told -/
def compR {α β : Type} (t : α → Re Bool) (m : α → Re β) : List α → Re (List β)
  | [] => .ok []
  | x :: xs => match t x with
    | .ok true => (match m x with
      | .ok y => (match compR t m xs with
        | .ok ys => .ok (y :: ys)
        | _ => .bad)
      | _ => .bad)
    | .ok false => compR t m xs
    | _ => .bad
theorem compL_ok {gm : GM} {t : BM} {m : EM} {T' : α → Re Bool} {M : α → Re β} {Δ : α → Slots} (hg : ∀ x, gm (e x) δ = some (Δ x)) (ht : ∀ x, EvB t (Δ x) (T' x)) (hm : ∀ x, Ev m (Δ x) e' k (M x)) (hk : k ≠ .bo) (b : Bx) : ∀ (xs : List α) (ys : List β), compR T' M xs = .ok ys → compL gm t m δ (xs.map e) b = .ok (ys.map e') b
  | [], ys, h => by cases h; rfl
  | x :: xs, ys, h => by
    unfold compR at h
    have h1 := ht x b
    have h2 := hm x b
    rw [List.map_cons]
    unfold compL
    rw [hg x]
    dsimp only
    cases hT : T' x with
    | bad => rw [hT] at h; cases h
    | ex z fs => rw [hT] at h; cases h
    | ok c =>
      rw [hT] at h h1
      cases c with
      | false =>
        rw [show t (Δ x) b = .ok false b from h1]
        exact compL_ok hg ht hm hk b xs ys h
      | true =>
        rw [show t (Δ x) b = .ok true b from h1]
        dsimp only at h ⊢
        cases hM : M x with
        | bad => rw [hM] at h; cases h
        | ex z fs => rw [hM] at h; cases h
        | ok y =>
          rw [hM] at h h2
          have h2' : m (Δ x) b = .ok (e' y) k b := h2
          dsimp only at h
          cases hR : compR T' M xs with
          | bad => rw [hR] at h; cases h
          | ex z fs => rw [hR] at h; cases h
          | ok zs =>
            rw [hR] at h
            cases h
            have ih := compL_ok hg ht hm hk b xs zs hR
            rw [h2']
            cases k with
            | bo => exact absurd rfl hk
            | sh => dsimp only; rw [ih]; rfl
            | fr => dsimp only; rw [ih]; rfl
theorem t_comp {vs : List Nat} {im : LM} {gm : GM} {t : BM} {m : EM} {r : Re (List α)} {T' : α → Re Bool} {M : α → Re β} {Δ : α → Slots} (hi : EvI im δ e r) (hg : ∀ x, gm (e x) (wipeD δ vs) = some (Δ x)) (ht : ∀ x, EvB t (Δ x) (T' x)) (hm : ∀ x, Ev m (Δ x) e' k (M x)) (hk : k ≠ .bo) :
    Ev (eComp vs im gm t m) δ (eL e') .fr (r.bind fun xs => Re.guard (Nat.ble xs.length 1000000) (match compR T' M xs with | .ok ys => .ok ys | _ => .bad)) := fun b => by
  cases r with
  | bad => trivial
  | ex x fs => exact eComp_x (hi b)
  | ok xs =>
    have h1 : im δ b = _ := hi b
    show SatE (eL e') .fr b (eComp vs im gm t m δ b) (Re.guard (Nat.ble xs.length 1000000) (match compR T' M xs with | .ok ys => .ok ys | _ => .bad))
    cases hl : Nat.ble xs.length 1000000 with
    | false => trivial
    | true =>
      cases hc : compR T' M xs with
      | bad => trivial
      | ex z fs => trivial
      | ok ys => exact eComp_of h1 (by rw [List.length_map]; exact Nat.le_of_ble_eq_true hl) (compL_ok hg ht hm hk b xs ys hc)
/-! ### what is walked -/
theorem i_seqL {a' : Re (List α)} (h : Ev A δ (eL e) k a') (hk : k ≠ .bo) : EvI (itSeq A) δ e a' := fun b => by
  cases a' with
  | bad => trivial
  | ex x fs => exact it_seqx (h b)
  | ok xs => exact it_seq (d := eL e xs) (h b) hk rfl
theorem i_seqT {a' : Re (List α)} (h : Ev A δ (eT e) k a') (hk : k ≠ .bo) : EvI (itSeq A) δ e a' := fun b => by
  cases a' with
  | bad => trivial
  | ex x fs => exact it_seqx (h b)
  | ok xs => exact it_seq (d := eT e xs) (h b) hk rfl
/-- range(n) -/
def rngI (lo hi : Int) : List Int := (List.range (hi - lo).toNat).map fun i : Nat => lo + (i : Int)
theorem i_rng1 {r : Re Int} (h : Ev A δ D.int k r) : EvI (itRng (rCons A lNil)) δ D.int (r.bind fun n => Re.guard (decide (n ≤ 1000000) && decide (-1000000 ≤ n)) (.ok (rngI 0 n))) := fun b => by
  cases r with
  | bad => trivial
  | ex x fs => have : A δ b = _ := h b; show itRng (rCons A lNil) δ b = _; unfold itRng rCons; rw [this]
  | ok n =>
    show SatI D.int b (itRng (rCons A lNil) δ b) (Re.guard (decide (n ≤ 1000000) && decide (-1000000 ≤ n)) (.ok (rngI 0 n)))
    cases hc : (decide (n ≤ 1000000) && decide (-1000000 ≤ n)) with
    | false => trivial
    | true =>
      rw [Bool.and_eq_true] at hc
      have := it_rng1 (h b) (of_decide_eq_true hc.1) (of_decide_eq_true hc.2)
      show itRng (rCons A lNil) δ b = .ok ((rngI 0 n).map D.int) b
      rw [this]
      unfold rngI
      rw [List.map_map, Int.sub_zero]; rfl
theorem i_rng2 {r s : Re Int} (h : Ev A δ D.int k r) (h' : Ev B δ D.int k' s) : EvI (itRng (rCons A (rCons B lNil))) δ D.int (r.bind fun n => s.bind fun m => Re.guard ((decide (n ≤ 1000000) && decide (-1000000 ≤ n)) && (decide (m ≤ 1000000) && decide (-1000000 ≤ m))) (.ok (rngI n m))) := fun b => by
  cases r with
  | bad => trivial
  | ex x fs => have : A δ b = _ := h b; show itRng (rCons A (rCons B lNil)) δ b = _; unfold itRng rCons; rw [this]
  | ok n =>
    have h1 : A δ b = _ := h b
    cases s with
    | bad => trivial
    | ex x fs => have h2 : B δ b = _ := h' b; show itRng (rCons A (rCons B lNil)) δ b = _; unfold itRng rCons; rw [h1]; dsimp only; rw [h2]
    | ok m =>
      show SatI D.int b (itRng (rCons A (rCons B lNil)) δ b) (Re.guard ((decide (n ≤ 1000000) && decide (-1000000 ≤ n)) && (decide (m ≤ 1000000) && decide (-1000000 ≤ m))) (.ok (rngI n m)))
      cases hc : ((decide (n ≤ 1000000) && decide (-1000000 ≤ n)) && (decide (m ≤ 1000000) && decide (-1000000 ≤ m))) with
      | false => trivial
      | true =>
        rw [Bool.and_eq_true, Bool.and_eq_true, Bool.and_eq_true] at hc
        have := it_rng2 h1 (h' b) (of_decide_eq_true hc.1.1) (of_decide_eq_true hc.1.2) (of_decide_eq_true hc.2.1) (of_decide_eq_true hc.2.2)
        show itRng (rCons A (rCons B lNil)) δ b = .ok ((rngI n m).map D.int) b
        rw [this]
        unfold rngI
        rw [List.map_map]; rfl
end
end Rk

namespace Rk
open PySem PySem.Spec L2

/-! ### statements -/
def SatR {α : Type} (e : α → D) (k : Kd) (b : Bx) (o : SOut) : Re α → Prop
  | .ok v => o = .ret (e v) k b
  | .ex x fs => ∃ δ', o = .exc x fs δ' b
  | .bad => True
def SatN {σ : Type} (Δ : σ → Slots) (b : Bx) (o : SOut) : Re σ → Prop
  | .ok v => o = .nx (Δ v) b
  | .ex x fs => ∃ δ', o = .exc x fs δ' b
  | .bad => True
/-- falls through, or returns -/
def SatM {σ α : Type} (Δ : σ → Slots) (e : α → D) (k : Kd) (b : Bx) (o : SOut) : Re (σ ⊕ α) → Prop
  | .ok (.inl v) => o = .nx (Δ v) b
  | .ok (.inr v) => o = .ret (e v) k b
  | .ex x fs => ∃ δ', o = .exc x fs δ' b
  | .bad => True
def RetR {α : Type} (s : SM) (δ : Slots) (e : α → D) (k : Kd) (r : Re α) : Prop := ∀ b, SatR e k b (s δ b) r
def NxR {σ : Type} (s : SM) (δ : Slots) (Δ : σ → Slots) (r : Re σ) : Prop := ∀ b, SatN Δ b (s δ b) r
def MixR {σ α : Type} (s : SM) (δ : Slots) (Δ : σ → Slots) (e : α → D) (k : Kd) (r : Re (σ ⊕ α)) : Prop := ∀ b, SatM Δ e k b (s δ b) r
section
variable {α β σ τ : Type} {e : α → D} {e' : β → D} {δ : Slots} {k k' : Kd} {A B : EM} {s t : SM} {Δ : σ → Slots} {Θ : τ → Slots}
theorem st_expx {b b1 : Bx} {x : Str} {fs : List D} (h : A δ b = .exc x fs b1) : sExp A δ b = .exc x fs δ b1 := by
  unfold sExp
  rw [h]
theorem f_ret {n : Nat} {ds : List D} {r : Re α} (h : RetR s (ds.map Sl.val ++ List.replicate (n - ds.length) Sl.none) e k r) : Tf (fBody n s) ds e k r := fun b => by
  have h1 := h b
  cases r with
  | bad => trivial
  | ex x fs => obtain ⟨δ', q⟩ := h1; exact fb_exc q
  | ok v => exact fb_ret h1
theorem f_nx {n : Nat} {ds : List D} {r : Re σ} (h : NxR s (ds.map Sl.val ++ List.replicate (n - ds.length) Sl.none) Δ r) : Tf (fBody n s) ds eU .sh (r.bind fun _ => .ok ()) := fun b => by
  have h1 := h b
  cases r with
  | bad => trivial
  | ex x fs => obtain ⟨δ', q⟩ := h1; exact fb_exc q
  | ok v => exact fb_nx h1
theorem r_ret {r : Re α} (h : Ev A δ e k r) (hk : k ≠ .bo) : RetR (sRet A) δ e k r := fun b => by
  have h1 := h b
  cases r with
  | bad => trivial
  | ex x fs => exact ⟨_, st_retx h1⟩
  | ok v => exact st_ret h1 hk
theorem r_retV {i : Nat} {v : α} (e : α → D) (h : δ[i]? = some (.val (e v))) : RetR (sRetV i) δ e .sh (.ok v) := fun b => by show sRetV i δ b = _; unfold sRetV; rw [h]
theorem r_retO {i : Nat} {v : List α} (e : α → D) (h : δ[i]? = some (.own (v.map e))) : RetR (sRetV i) δ (eL e) .fr (.ok v) := fun b => by show sRetV i δ b = _; unfold sRetV; rw [h]
theorem r_raise {x : Str} : RetR (sRaise0 x) δ e k (.ex x []) := fun b => ⟨_, rfl⟩
theorem r_seq {r : Re σ} {R : σ → Re α} (h : NxR s δ Δ r) (h' : ∀ v, RetR t (Δ v) e k (R v)) : RetR (sSeq s t) δ e k (r.bind R) := fun b => by
  have h1 := h b
  cases r with
  | bad => trivial
  | ex x fs => obtain ⟨δ', q⟩ := h1; exact ⟨δ', st_seqX q⟩
  | ok v =>
    have h2 := h' v b
    show SatR e k b (sSeq s t δ b) (R v)
    rw [show sSeq s t δ b = t (Δ v) b from st_seq h1 rfl]
    exact h2
theorem r_if {c : BM} {rc : Re Bool} {ra rb : Re α} (hc : EvB c δ rc) (hA : RetR s δ e k ra) (hB : RetR t δ e k rb) : RetR (sIf c s t) δ e k (rc.bind fun x => cond x ra rb) := fun b => by
  have h1 := hc b
  cases rc with
  | bad => trivial
  | ex x fs => exact ⟨δ, by show sIf c s t δ b = _; unfold sIf; rw [show c δ b = _ from h1]⟩
  | ok x =>
    cases x with
    | true => have := hA b; show SatR e k b (sIf c s t δ b) ra; rw [show sIf c s t δ b = s δ b from st_ifT h1 rfl]; exact this
    | false => have := hB b; show SatR e k b (sIf c s t δ b) rb; rw [show sIf c s t δ b = t δ b from st_ifF h1 rfl]; exact this
/-- if c: .. return; the rest -/
theorem r_ifn {c : BM} {rc : Re Bool} {ra rb : Re α} (hc : EvB c δ rc) (hA : RetR s δ e k ra) (hB : RetR t δ e k rb) : RetR (sSeq (sIf c s sNext) t) δ e k (rc.bind fun x => cond x ra rb) := fun b => by
  have h1 := hc b
  cases rc with
  | bad => trivial
  | ex x fs => exact ⟨δ, st_seqX (by show sIf c s sNext δ b = _; unfold sIf; rw [show c δ b = _ from h1])⟩
  | ok x =>
    cases x with
    | true =>
      have h2 := hA b
      have h3 : sIf c s sNext δ b = s δ b := st_ifT h1 rfl
      show SatR e k b (sSeq (sIf c s sNext) t δ b) ra
      cases ra with
      | bad => trivial
      | ex z fs => obtain ⟨δ', q⟩ := h2; exact ⟨δ', st_seqX (h3.trans q)⟩
      | ok v => exact st_seqR (h3.trans h2)
    | false =>
      have h2 := hB b
      show SatR e k b (sSeq (sIf c s sNext) t δ b) rb
      rw [show sSeq (sIf c s sNext) t δ b = t δ b from st_seq (st_ifF h1 rfl) rfl]
      exact h2
theorem r_frz {is : List Nat} {r : Re α} (h : RetR s (frz is δ) e k r) : RetR (sFrz is s) δ e k r := h
theorem n_frz {is : List Nat} {r : Re σ} (h : NxR s (frz is δ) Δ r) : NxR (sFrz is s) δ Δ r := h
theorem n_next : NxR sNext δ (fun _ : Unit => δ) (.ok ()) := fun b => rfl
theorem n_asg {i : Nat} {r : Re α} (h : Ev A δ e .sh r) : NxR (sAsg i A) δ (fun v => δ.set i (.val (e v))) r := fun b => by
  have h1 := h b
  cases r with
  | bad => trivial
  | ex x fs => exact ⟨δ, st_asgx h1⟩
  | ok v => exact st_asg h1 rfl
theorem n_asgF {i : Nat} {r : Re (List α)} (h : Ev A δ (eL e) .fr r) : NxR (sAsg i A) δ (fun v => δ.set i (.own (v.map e))) r := fun b => by
  have h1 := h b
  cases r with
  | bad => trivial
  | ex x fs => exact ⟨δ, st_asgx h1⟩
  | ok v => exact st_asg h1 rfl
theorem n_exp {r : Re α} (h : Ev A δ e k r) : NxR (sExp A) δ (fun _ : α => δ) r := fun b => by
  have h1 := h b
  cases r with
  | bad => trivial
  | ex x fs => exact ⟨δ, st_expx h1⟩
  | ok v => exact st_exp h1
theorem n_asgT {g : GM} {r : Re α} {Δ : α → Slots} (h : Ev A δ e k r) (hk : k ≠ .bo) (hg : ∀ v, g (e v) δ = some (Δ v)) : NxR (sAsgT g A) δ Δ r := fun b => by
  have h1 := h b
  cases r with
  | bad => trivial
  | ex x fs => exact ⟨δ, st_asgTx h1⟩
  | ok v => exact st_asgT h1 hk (hg v)
theorem n_seq {r : Re σ} {R : σ → Re τ} (h : NxR s δ Δ r) (h' : ∀ v, NxR t (Δ v) Θ (R v)) : NxR (sSeq s t) δ Θ (r.bind R) := fun b => by
  have h1 := h b
  cases r with
  | bad => trivial
  | ex x fs => obtain ⟨δ', q⟩ := h1; exact ⟨δ', st_seqX q⟩
  | ok v =>
    have h2 := h' v b
    show SatN Θ b (sSeq s t δ b) (R v)
    rw [show sSeq s t δ b = t (Δ v) b from st_seq h1 rfl]
    exact h2
theorem n_if {c : BM} {rc : Re Bool} {ra rb : Re σ} (hc : EvB c δ rc) (hA : NxR s δ Δ ra) (hB : NxR t δ Δ rb) : NxR (sIf c s t) δ Δ (rc.bind fun x => cond x ra rb) := fun b => by
  have h1 := hc b
  cases rc with
  | bad => trivial
  | ex x fs => exact ⟨δ, by show sIf c s t δ b = _; unfold sIf; rw [show c δ b = _ from h1]⟩
  | ok x =>
    cases x with
    | true => have := hA b; show SatN Δ b (sIf c s t δ b) ra; rw [show sIf c s t δ b = s δ b from st_ifT h1 rfl]; exact this
    | false => have := hB b; show SatN Δ b (sIf c s t δ b) rb; rw [show sIf c s t δ b = t δ b from st_ifF h1 rfl]; exact this
/-- the state, packed anew -/
theorem n_map {r : Re σ} (F : σ → τ) (h : NxR s δ Δ r) (hF : ∀ v, Δ v = Θ (F v)) : NxR s δ Θ (r.bind fun v => .ok (F v)) := fun b => by
  have h1 := h b
  cases r with
  | bad => trivial
  | ex x fs => exact h1
  | ok v => show s δ b = .nx (Θ (F v)) b; rw [← hF]; exact h1
/-! loops -/
def foldR {α σ : Type} (f : σ → α → Re σ) : σ → List α → Re σ
  | v, [] => .ok v
  | v, x :: xs => (f v x).bind fun w => foldR f w xs
theorem forL_ok {gm : GM} {Γ' : σ → α → Slots} {F : σ → α → Re σ} (hg : ∀ v x, gm (e x) (Δ v) = some (Γ' v x)) (hb : ∀ v x, NxR s (Γ' v x) Δ (F v x)) (b : Bx) : ∀ (xs : List α) (v : σ), SatN Δ b (forL gm s (xs.map e) (Δ v) b) (foldR F v xs)
  | [], v => rfl
  | x :: xs, v => by
    have h1 := hb v x b
    rw [List.map_cons]
    unfold forL foldR
    rw [hg v x]
    dsimp only
    cases hF : F v x with
    | bad => trivial
    | ex z fs => rw [hF] at h1; obtain ⟨δ', q⟩ := h1; rw [q]; exact ⟨δ', rfl⟩
    | ok w =>
      rw [hF] at h1
      rw [show s (Γ' v x) b = .nx (Δ w) b from h1]
      exact forL_ok hg hb b xs w
theorem st_forx {im : LM} {g : GM} {b b1 : Bx} {x : Str} {fs : List D} (h : im δ b = .exc x fs b1) : sFor im g s δ b = .exc x fs δ b1 := by
  unfold sFor
  rw [h]
theorem n_for {im : LM} {gm : GM} {r : Re (List α)} {Γ' : σ → α → Slots} {F : σ → α → Re σ} (v0 : σ) (h0 : Δ v0 = δ) (hi : EvI im δ e r) (hg : ∀ v x, gm (e x) (Δ v) = some (Γ' v x)) (hb : ∀ v x, NxR s (Γ' v x) Δ (F v x)) : NxR (sFor im gm s) δ Δ (r.bind fun xs => foldR F v0 xs) := fun b => by
  have h1 := hi b
  cases r with
  | bad => trivial
  | ex x fs => exact ⟨δ, st_forx h1⟩
  | ok xs =>
    have h2 := forL_ok hg hb b xs v0
    rw [h0] at h2
    show SatN Δ b (sFor im gm s δ b) (foldR F v0 xs)
    rw [show sFor im gm s δ b = forL gm s (xs.map e) δ b from st_for h1 rfl]
    exact h2
/-- a loop that may return -/
def foldM {α σ ρ : Type} (f : σ → α → Re (σ ⊕ ρ)) : σ → List α → Re (σ ⊕ ρ)
  | v, [] => .ok (.inl v)
  | v, x :: xs => (f v x).bind fun w => match w with
    | .inl w => foldM f w xs
    | .inr y => .ok (.inr y)
theorem forM_ok {gm : GM} {Γ' : σ → α → Slots} {F : σ → α → Re (σ ⊕ β)} (hg : ∀ v x, gm (e x) (Δ v) = some (Γ' v x)) (hb : ∀ v x, MixR s (Γ' v x) Δ e' k (F v x)) (b : Bx) : ∀ (xs : List α) (v : σ), SatM Δ e' k b (forL gm s (xs.map e) (Δ v) b) (foldM F v xs)
  | [], v => rfl
  | x :: xs, v => by
    have h1 := hb v x b
    rw [List.map_cons]
    unfold forL foldM
    rw [hg v x]
    dsimp only
    cases hF : F v x with
    | bad => trivial
    | ex z fs => rw [hF] at h1; obtain ⟨δ', q⟩ := h1; rw [q]; exact ⟨δ', rfl⟩
    | ok w =>
      rw [hF] at h1
      cases w with
      | inl w =>
        rw [show s (Γ' v x) b = .nx (Δ w) b from h1]
        exact forM_ok hg hb b xs w
      | inr y =>
        rw [show s (Γ' v x) b = .ret (e' y) k b from h1]
        rfl
theorem m_for {im : LM} {gm : GM} {r : Re (List α)} {Γ' : σ → α → Slots} {F : σ → α → Re (σ ⊕ β)} (v0 : σ) (h0 : Δ v0 = δ) (hi : EvI im δ e r) (hg : ∀ v x, gm (e x) (Δ v) = some (Γ' v x)) (hb : ∀ v x, MixR s (Γ' v x) Δ e' k (F v x)) : MixR (sFor im gm s) δ Δ e' k (r.bind fun xs => foldM F v0 xs) := fun b => by
  have h1 := hi b
  cases r with
  | bad => trivial
  | ex x fs => exact ⟨δ, st_forx h1⟩
  | ok xs =>
    have h2 := forM_ok hg hb b xs v0
    rw [h0] at h2
    show SatM Δ e' k b (sFor im gm s δ b) (foldM F v0 xs)
    rw [show sFor im gm s δ b = forL gm s (xs.map e) δ b from st_for h1 rfl]
    exact h2
/-- behind what may return -/
theorem r_mix {r : Re (σ ⊕ α)} {R : σ → Re α} (h : MixR s δ Δ e k r) (h' : ∀ v, RetR t (Δ v) e k (R v)) : RetR (sSeq s t) δ e k (r.bind fun w => match w with | .inl v => R v | .inr y => .ok y) := fun b => by
  have h1 := h b
  cases r with
  | bad => trivial
  | ex x fs => obtain ⟨δ', q⟩ := h1; exact ⟨δ', st_seqX q⟩
  | ok w =>
    cases w with
    | inl v =>
      have h2 := h' v b
      show SatR e k b (sSeq s t δ b) (R v)
      rw [show sSeq s t δ b = t (Δ v) b from st_seq h1 rfl]
      exact h2
    | inr y => exact st_seqR h1
theorem m_nx {r : Re σ} (h : NxR s δ Δ r) : MixR s δ Δ e k (r.bind fun v => .ok (.inl v)) := fun b => by
  have h1 := h b
  cases r with
  | bad => trivial
  | ex x fs => exact h1
  | ok v => exact h1
theorem m_ret {r : Re α} (h : RetR s δ e k r) : MixR s δ Δ e k (r.bind fun v => .ok (.inr v)) := fun b => by
  have h1 := h b
  cases r with
  | bad => trivial
  | ex x fs => exact h1
  | ok v => exact h1
theorem m_if {c : BM} {rc : Re Bool} {ra rb : Re (σ ⊕ α)} (hc : EvB c δ rc) (hA : MixR s δ Δ e k ra) (hB : MixR t δ Δ e k rb) : MixR (sIf c s t) δ Δ e k (rc.bind fun x => cond x ra rb) := fun b => by
  have h1 := hc b
  cases rc with
  | bad => trivial
  | ex x fs => exact ⟨δ, by show sIf c s t δ b = _; unfold sIf; rw [show c δ b = _ from h1]⟩
  | ok x =>
    cases x with
    | true => have := hA b; show SatM Δ e k b (sIf c s t δ b) ra; rw [show sIf c s t δ b = s δ b from st_ifT h1 rfl]; exact this
    | false => have := hB b; show SatM Δ e k b (sIf c s t δ b) rb; rw [show sIf c s t δ b = t δ b from st_ifF h1 rfl]; exact this
end
/-! ### a def, typed -/
structure Sp1 {α β : Type} (f : FM) (eA : α → D) (e : β → D) (k : Kd) where
  F : α → Re β
  ok : ∀ x, Tf f [eA x] e k (F x)
structure Sp2 {α β γ : Type} (f : FM) (eA : α → D) (eB : β → D) (e : γ → D) (k : Kd) where
  F : α → β → Re γ
  ok : ∀ x y, Tf f [eA x, eB y] e k (F x y)
end Rk

namespace Rk
open PySem PySem.Spec L2
/-! ### more operations -/
def memI (x : Int) : List Int → Bool
  | [] => false
  | y :: ys => cond (decide (y = x)) true (memI x ys)
theorem flats_ints : ∀ ys : List Int, flatsD (ys.map D.int) = some (ys.map V.int)
  | [] => rfl
  | y :: ys => by
    rw [List.map_cons, List.map_cons]
    unfold flatsD
    rw [flats_ints ys]; rfl
theorem inV_ints (x : Int) : ∀ ys : List Int, inV (.int x) (ys.map V.int) = memI x ys
  | [] => rfl
  | y :: ys => by
    have ih := inV_ints x ys
    unfold inV at ih ⊢
    rw [List.map_cons, List.any_cons, ih]
    have h1 : eqV (V.int y) (V.int x) = decide (y = x) := by rfl
    have h2 : memI x (y :: ys) = cond (decide (y = x)) true (memI x ys) := rfl
    rw [h1, h2]
    cases decide (y = x) <;> rfl
theorem fB_of {c : D → D → Option Bool} {x y : D} {t : Bool} (h : c x y = some t) : SatO D.bl .sh (fB c x y) (.ok t) := by
  show fB c x y = _
  unfold fB
  rw [h]
theorem y_inT (x : Int) (ys : List Int) : SatO D.bl .sh (fB cIn (.int x) (eT D.int ys)) (.ok (memI x ys)) := by
  refine fB_of ?_
  show (match flatD (.int x), flatsD (ys.map D.int) with | some v, some vs => some (inV v vs) | _, _ => none) = _
  rw [flats_ints]
  show some (inV (.int x) (ys.map V.int)) = _
  rw [inV_ints]
theorem cIn_T (x : Int) (ys : List Int) : cIn (.int x) (eT D.int ys) = some (memI x ys) := by
  show (match flatD (.int x), flatsD (ys.map D.int) with | some v, some vs => some (inV v vs) | _, _ => none) = _
  rw [flats_ints]
  show some (inV (.int x) (ys.map V.int)) = _
  rw [inV_ints]
theorem y_ninT (x : Int) (ys : List Int) : SatO D.bl .sh (fB cNotIn (.int x) (eT D.int ys)) (.ok (!(memI x ys))) := by
  refine fB_of ?_
  unfold cNotIn
  rw [cIn_T]; rfl
theorem y_max2 (x y : Int) : SatO D.int .sh (f2 gMax2 [.int x, .int y]) (.ok (cond (decide (y > x)) y x)) := by
  show some (D.int (if y > x then y else x), Kd.sh) = some (D.int (cond (decide (y > x)) y x), Kd.sh)
  by_cases h : y > x
  · rw [if_pos h, decide_eq_true h]; rfl
  · rw [if_neg h, decide_eq_false h]; rfl
theorem y_min2 (x y : Int) : SatO D.int .sh (f2 gMin2 [.int x, .int y]) (.ok (cond (decide (y < x)) y x)) := by
  show some (D.int (if y < x then y else x), Kd.sh) = some (D.int (cond (decide (y < x)) y x), Kd.sh)
  by_cases h : y < x
  · rw [if_pos h, decide_eq_true h]; rfl
  · rw [if_neg h, decide_eq_false h]; rfl
theorem y_sumT (x : List Int) : SatO D.int .sh (f1 gSum [eT D.int x]) (.ok x.sum) := sum_T x
theorem y_neI (x y : Int) : SatO D.bl .sh (fB cNe (.int x) (.int y)) (.ok (!decide (x = y))) := by
  have h : cEq (.int x) (.int y) = some (decide (x = y)) := by
    have := eq_ii x y
    unfold fB at this
    cases q : cEq (.int x) (.int y) with
    | none => rw [q] at this; cases this
    | some t => rw [q] at this; cases this; rfl
  refine fB_of ?_
  unfold cNe
  rw [h]; rfl
theorem y_eqT (x y : List Int) : SatO D.bl .sh (fB cEq (eT D.int x) (eT D.int y)) (.ok (decide (x = y))) := eq_TT x y
theorem y_neT (x y : List Int) : SatO D.bl .sh (fB cNe (eT D.int x) (eT D.int y)) (.ok (!decide (x = y))) := ne_TT x y
theorem y_eqL (x y : List Int) : SatO D.bl .sh (fB cEq (eL D.int x) (eL D.int y)) (.ok (decide (x = y))) := eq_LL x y
theorem y_neL (x y : List Int) : SatO D.bl .sh (fB cNe (eL D.int x) (eL D.int y)) (.ok (!decide (x = y))) := by
  refine fB_of ?_
  show (cEq (Ls x) (Ls y)).map _ = _
  rw [cEq_L]; rfl
theorem y_revT {α : Type} {e : α → D} (x : List α) : SatO (eT e) .sh (fRev (eT e x)) (.ok x.reverse) := by
  show some (D.tup (x.map e).reverse, Kd.sh) = _
  rw [← List.map_reverse]
theorem y_all (x : List Bool) : SatO D.bl .sh (f1 gAll [eL D.bl x]) (.ok (x.all id)) := by
  have h := blsD_of (fun b : Bool => b) x
  show (blsD (x.map D.bl)).map _ = _
  rw [h, List.map_id']
  rfl
section
variable {α β : Type} {e : α → D} {e' : β → D} {δ : Slots} {k k' : Kd} {A B C : EM}
/-! literals -/
theorem t_tup0 (e : α → D) : Ev (eTup lNil) δ (eT e) .sh (.ok []) := fun b => rfl
theorem t_lst0 (e : α → D) : Ev (eLst lNil) δ (eL e) .fr (.ok []) := fun b => rfl
theorem t_tup1 {a : Re α} (h : Ev A δ e k a) (hk : k ≠ .bo) : Ev (eTup (lCons A lNil)) δ (eT e) .sh (a.bind fun x => .ok [x]) := fun b => by
  cases a with
  | bad => trivial
  | ex x fs => have h1 : A δ b = _ := h b; show eTup (lCons A lNil) δ b = _; unfold eTup lCons; rw [h1]
  | ok x => exact ev_tup (ev_lc (h b) hk rfl) (by show 1 ≤ 1000; omega)
theorem t_lst1 {a : Re α} (h : Ev A δ e k a) (hk : k ≠ .bo) : Ev (eLst (lCons A lNil)) δ (eL e) .fr (a.bind fun x => .ok [x]) := fun b => by
  cases a with
  | bad => trivial
  | ex x fs => have h1 : A δ b = _ := h b; show eLst (lCons A lNil) δ b = _; unfold eLst lCons; rw [h1]
  | ok x => exact ev_lst (ev_lc (h b) hk rfl) (by show 1 ≤ 1000; omega)
/-! indices -/
theorem ev_idxN {d : D} {i : Int} {x : D} {A I : EM} {δ : Slots} {b b1 b2 : Bx} {k k2 : Kd} (h : A δ b = .ok d k b1) (h' : I δ b1 = .ok (.int i) k2 b2) (e : fIdxN d (.int i) = some x) : eIdxN A I δ b = .ok x .sh b2 := by
  unfold eIdxN
  rw [h]
  dsimp only
  rw [h']
  dsimp only
  rw [e]
def atR {α : Type} (xs : List α) (i : Int) : Re α := match L2.atI xs i with
  | some x => .ok x
  | none => .bad
theorem t_idxT {a : Re (List α)} {c : Re Int} (hA : Ev A δ (eT e) k a) (hB : Ev B δ D.int k' c) : Ev (eIdxN A B) δ e .sh (a.bind fun xs => c.bind fun i => atR xs i) := fun b => by
  cases a with
  | bad => trivial
  | ex x fs => have h1 : A δ b = _ := hA b; show eIdxN A B δ b = _; unfold eIdxN; rw [h1]
  | ok xs =>
    have h1 : A δ b = _ := hA b
    cases c with
    | bad => trivial
    | ex y fs => have h2 : B δ b = _ := hB b; show eIdxN A B δ b = _; unfold eIdxN; rw [h1]; dsimp only; rw [h2]
    | ok i =>
      show SatE e .sh b (eIdxN A B δ b) (atR xs i)
      unfold atR
      cases q : L2.atI xs i with
      | none => trivial
      | some x => exact ev_idxN (x := e x) h1 (hB b) (by show L2.atI (xs.map e) i = _; exact atI_map e q)
theorem t_idxL {a : Re (List α)} {c : Re Int} (hA : Ev A δ (eL e) k a) (hB : Ev B δ D.int k' c) : Ev (eIdxN A B) δ e .sh (a.bind fun xs => c.bind fun i => atR xs i) := fun b => by
  cases a with
  | bad => trivial
  | ex x fs => have h1 : A δ b = _ := hA b; show eIdxN A B δ b = _; unfold eIdxN; rw [h1]
  | ok xs =>
    have h1 : A δ b = _ := hA b
    cases c with
    | bad => trivial
    | ex y fs => have h2 : B δ b = _ := hB b; show eIdxN A B δ b = _; unfold eIdxN; rw [h1]; dsimp only; rw [h2]
    | ok i =>
      show SatE e .sh b (eIdxN A B δ b) (atR xs i)
      unfold atR
      cases q : L2.atI xs i with
      | none => trivial
      | some x => exact ev_idxN (x := e x) h1 (hB b) (by show L2.atI (xs.map e) i = _; exact atI_map e q)
end
end Rk

namespace Rk
open PySem PySem.Spec L2
section
variable {α β γ ε : Type} {e : α → D} {e' : β → D} {e3' : ε → D} {δ : Slots} {k k' k3 kd : Kd} {A B C : EM}
/-! pairs -/
theorem t_pair {a : Re α} {c : Re β} (hA : Ev A δ e k a) (h1 : k ≠ .bo) (hB : Ev B δ e' k' c) (h2 : k' ≠ .bo) : Ev (eTup (lCons A (lCons B lNil))) δ (eP e e') .sh (a.bind fun x => c.bind fun y => .ok (x, y)) := fun b => by
  cases a with
  | bad => trivial
  | ex x fs => have q : A δ b = _ := hA b; show eTup (lCons A (lCons B lNil)) δ b = _; unfold eTup lCons; rw [q]
  | ok x =>
    have q : A δ b = _ := hA b
    cases c with
    | bad => trivial
    | ex y fs =>
      have q2 : B δ b = _ := hB b
      show eTup (lCons A (lCons B lNil)) δ b = _
      unfold eTup lCons
      rw [q]
      cases k with
      | bo => exact absurd rfl h1
      | sh => dsimp only; rw [q2]
      | fr => dsimp only; rw [q2]
    | ok y => exact ev_tup (ev_lc q h1 (ev_lc (hB b) h2 rfl)) (by show 2 ≤ 1000; omega)
theorem t_fst0 {a : Re (α × β)} (hA : Ev A δ (eP e e') k a) : Ev (eIdxN A (eCst (.int 0))) δ e .sh (a.bind fun p => .ok p.1) := fun b => by
  cases a with
  | bad => trivial
  | ex x fs => have q : A δ b = _ := hA b; show eIdxN A _ δ b = _; unfold eIdxN; rw [q]
  | ok p => exact ev_idxN (k2 := .sh) (hA b) rfl rfl
theorem t_fst1 {a : Re (α × β)} (hA : Ev A δ (eP e e') k a) : Ev (eIdxN A (eCst (.int 1))) δ e' .sh (a.bind fun p => .ok p.2) := fun b => by
  cases a with
  | bad => trivial
  | ex x fs => have q : A δ b = _ := hA b; show eIdxN A _ δ b = _; unfold eIdxN; rw [q]
  | ok p => exact ev_idxN (k2 := .sh) (hA b) rfl rfl
/-! truth values -/
theorem t_eand {a c : Re Bool} (hA : Ev A δ D.bl k a) (hB : Ev B δ D.bl .sh c) : Ev (eAnd A B) δ D.bl .sh (a.bind fun x => cond x c (.ok false)) := fun b => by
  cases a with
  | bad => trivial
  | ex x fs => have q : A δ b = _ := hA b; show eAnd A B δ b = _; unfold eAnd; rw [q]
  | ok x =>
    have q : A δ b = _ := hA b
    cases x with
    | false => show eAnd A B δ b = _; unfold eAnd; rw [q]; rfl
    | true => have q2 := hB b; show SatE D.bl .sh b (eAnd A B δ b) c; unfold eAnd; rw [q]; exact q2
theorem t_eor {a c : Re Bool} (hA : Ev A δ D.bl k a) (hB : Ev B δ D.bl .sh c) : Ev (eOr A B) δ D.bl .sh (a.bind fun x => cond x (.ok true) c) := fun b => by
  cases a with
  | bad => trivial
  | ex x fs => have q : A δ b = _ := hA b; show eOr A B δ b = _; unfold eOr; rw [q]
  | ok x =>
    have q : A δ b = _ := hA b
    cases x with
    | true => show eOr A B δ b = _; unfold eOr; rw [q]; rfl
    | false => have q2 := hB b; show SatE D.bl .sh b (eOr A B δ b) c; unfold eOr; rw [q]; exact q2
theorem t_enot {a : Re Bool} (hA : Ev A δ D.bl k a) : Ev (eNot A) δ D.bl .sh (a.bind fun x => .ok (!x)) := fun b => by
  cases a with
  | bad => trivial
  | ex x fs => have q : A δ b = _ := hA b; show eNot A δ b = _; unfold eNot; rw [q]
  | ok x => have q : A δ b = _ := hA b; show eNot A δ b = _; unfold eNot; rw [q]
/-! enumerate -/
def enumR {α : Type} : Nat → List α → List (Int × α)
  | _, [] => []
  | i, x :: xs => ((i : Int), x) :: enumR (i + 1) xs
theorem enumR_D (e : α → D) : ∀ (i : Nat) (xs : List α), enumD i (xs.map e) = (enumR i xs).map (eP D.int e)
  | _, [] => rfl
  | i, x :: xs => by
    rw [List.map_cons]
    unfold enumD enumR
    rw [enumR_D e (i + 1) xs]; rfl
theorem i_enum {a : Re (List α)} {ee : List α → D} (hd : ∀ xs, toItems (ee xs) = some (xs.map e)) (hA : Ev A δ ee k a) (hk : k ≠ .bo) : EvI (itEnum (lCons A lNil)) δ (eP D.int e) (a.bind fun xs => .ok (enumR 0 xs)) := fun b => by
  cases a with
  | bad => trivial
  | ex x fs => have q : A δ b = _ := hA b; show itEnum (lCons A lNil) δ b = _; unfold itEnum lCons; rw [q]
  | ok xs =>
    show itEnum (lCons A lNil) δ b = .ok ((enumR 0 xs).map (eP D.int e)) b
    unfold itEnum
    rw [ev_lc (hA b) hk ev_l0]
    dsimp only
    rw [hd]
    dsimp only
    rw [enumR_D]
theorem i_enumL {a : Re (List α)} (hA : Ev A δ (eL e) k a) (hk : k ≠ .bo) : EvI (itEnum (lCons A lNil)) δ (eP D.int e) (a.bind fun xs => .ok (enumR 0 xs)) := i_enum (ee := eL e) (fun _ => rfl) hA hk
theorem i_enumT {a : Re (List α)} (hA : Ev A δ (eT e) k a) (hk : k ≠ .bo) : EvI (itEnum (lCons A lNil)) δ (eP D.int e) (a.bind fun xs => .ok (enumR 0 xs)) := i_enum (ee := eT e) (fun _ => rfl) hA hk
/-! zip -/
theorem zipR_D (e : α → D) (e' : β → D) : ∀ (xs : List α) (ys : List β), zipD (xs.map e) (ys.map e') = (xs.zip ys).map (eP e e')
  | [], _ => rfl
  | _ :: _, [] => rfl
  | x :: xs, y :: ys => by
    have ih := zipR_D e e' xs ys
    unfold zipD at ih ⊢
    rw [List.map_cons, List.map_cons, List.zipWith_cons_cons, ih]; rfl
theorem i_zip {a : Re (List α)} {c : Re (List β)} {ee : List α → D} {ff : List β → D} (hd : ∀ xs, toItems (ee xs) = some (xs.map e)) (hf : ∀ xs, toItems (ff xs) = some (xs.map e')) (hA : Ev A δ ee k a) (hk : k ≠ .bo) (hB : Ev B δ ff k' c) (hk' : k' ≠ .bo) : EvI (itZip (lCons A (lCons B lNil))) δ (eP e e') (a.bind fun xs => c.bind fun ys => .ok (xs.zip ys)) := fun b => by
  cases a with
  | bad => trivial
  | ex x fs => have q : A δ b = _ := hA b; show itZip (lCons A (lCons B lNil)) δ b = _; unfold itZip lCons; rw [q]
  | ok xs =>
    have q : A δ b = _ := hA b
    cases c with
    | bad => trivial
    | ex y fs =>
      have q2 : B δ b = _ := hB b
      show itZip (lCons A (lCons B lNil)) δ b = _
      unfold itZip lCons
      rw [q]
      cases k with
      | bo => exact absurd rfl hk
      | sh => dsimp only; rw [q2]
      | fr => dsimp only; rw [q2]
    | ok ys =>
      show itZip (lCons A (lCons B lNil)) δ b = .ok ((xs.zip ys).map (eP e e')) b
      unfold itZip
      rw [ev_lc q hk (ev_lc (hB b) hk' ev_l0)]
      dsimp only
      rw [hd, hf]
      dsimp only
      rw [zipR_D]
theorem i_zipLL {a : Re (List α)} {c : Re (List β)} (hA : Ev A δ (eL e) k a) (hk : k ≠ .bo) (hB : Ev B δ (eL e') k' c) (hk' : k' ≠ .bo) : EvI (itZip (lCons A (lCons B lNil))) δ (eP e e') (a.bind fun xs => c.bind fun ys => .ok (xs.zip ys)) := i_zip (ee := eL e) (ff := eL e') (fun _ => rfl) (fun _ => rfl) hA hk hB hk'
theorem i_zipTT {a : Re (List α)} {c : Re (List β)} (hA : Ev A δ (eT e) k a) (hk : k ≠ .bo) (hB : Ev B δ (eT e') k' c) (hk' : k' ≠ .bo) : EvI (itZip (lCons A (lCons B lNil))) δ (eP e e') (a.bind fun xs => c.bind fun ys => .ok (xs.zip ys)) := i_zip (ee := eT e) (ff := eT e') (fun _ => rfl) (fun _ => rfl) hA hk hB hk'
theorem i_zipLT {a : Re (List α)} {c : Re (List β)} (hA : Ev A δ (eL e) k a) (hk : k ≠ .bo) (hB : Ev B δ (eT e') k' c) (hk' : k' ≠ .bo) : EvI (itZip (lCons A (lCons B lNil))) δ (eP e e') (a.bind fun xs => c.bind fun ys => .ok (xs.zip ys)) := i_zip (ee := eL e) (ff := eT e') (fun _ => rfl) (fun _ => rfl) hA hk hB hk'
theorem i_zipTL {a : Re (List α)} {c : Re (List β)} (hA : Ev A δ (eT e) k a) (hk : k ≠ .bo) (hB : Ev B δ (eL e') k' c) (hk' : k' ≠ .bo) : EvI (itZip (lCons A (lCons B lNil))) δ (eP e e') (a.bind fun xs => c.bind fun ys => .ok (xs.zip ys)) := i_zip (ee := eT e) (ff := eL e') (fun _ => rfl) (fun _ => rfl) hA hk hB hk'
end
end Rk

namespace Rk
open PySem PySem.Spec L2
/-- isinstance, told by the static type -/
theorem t_isi {α : Type} {e : α → D} {δ : Slots} {k : Kd} {A : EM} {a : Re α} {Ts : List String} {c : Bool} (hA : Ev A δ e k a) (h : ∀ x, (tyN (e x)).map (fun t => Ts.any (isTN t)) = some c) : Ev (eIsi Ts A) δ D.bl .sh (a.bind fun _ => .ok c) := fun b => by
  cases a with
  | bad => trivial
  | ex x fs => have q : A δ b = _ := hA b; show eIsi Ts A δ b = _; unfold eIsi; rw [q]
  | ok x =>
    have q : A δ b = _ := hA b
    have h1 := h x
    show eIsi Ts A δ b = .ok (.bl c) .sh b
    unfold eIsi
    rw [q]
    dsimp only
    cases ht : tyN (e x) with
    | none => rw [ht] at h1; cases h1
    | some t => rw [ht] at h1; cases h1; rfl
end Rk

namespace Rk
open PySem PySem.Spec L2
section
variable {α β γ ε σ : Type} {e : α → D} {e' : β → D} {e2' : γ → D} {e3' : ε → D} {δ : Slots} {k k' k2 kd : Kd} {A B C : EM}
theorem n_move {i j : Nat} {v : List α} (e : α → D) (h : δ[j]? = some (.own (v.map e))) : NxR (sMove i j) δ (fun _ : Unit => (δ.set j .none).set i (.own (v.map e))) (.ok ()) := fun b => by
  show sMove i j δ b = _
  unfold sMove
  rw [h]
theorem n_moveV {i j : Nat} {v : α} (e : α → D) (h : δ[j]? = some (.val (e v))) : NxR (sMove i j) δ (fun _ : Unit => δ.set i (.val (e v))) (.ok ()) := fun b => by
  show sMove i j δ b = _
  unfold sMove
  rw [h]
theorem ev_callx3 {f : FM} {r : LM} {b b1 : Bx} {d d2 : D} {x : Str} {fs : List D} (h : A δ b = .ok d k b) (hk : k ≠ .bo) (h2 : B δ b = .ok d2 k' b) (hk2 : k' ≠ .bo) (h' : C δ b = .exc x fs b1) : eCall f (lCons A (lCons B (lCons C r))) δ b = .exc x fs b1 := by
  unfold eCall lCons
  rw [h]
  cases k with
  | bo => exact absurd rfl hk
  | sh =>
    dsimp only; rw [h2]
    cases k' with
    | bo => exact absurd rfl hk2
    | sh => dsimp only; rw [h']
    | fr => dsimp only; rw [h']
  | fr =>
    dsimp only; rw [h2]
    cases k' with
    | bo => exact absurd rfl hk2
    | sh => dsimp only; rw [h']
    | fr => dsimp only; rw [h']
theorem t_call3 {f : FM} {F : α → β → ε → Re γ} {a : Re α} {c : Re β} {g : Re ε} (h : ∀ x y z, Tf f [e x, e' y, e3' z] e2' kd (F x y z)) (hk : kd ≠ .bo) (hA : Ev A δ e k a) (n1 : k ≠ .bo) (hB : Ev B δ e' k' c) (n2 : k' ≠ .bo) (hC : Ev C δ e3' k2 g) (n3 : k2 ≠ .bo) :
    Ev (eCall f (lCons A (lCons B (lCons C lNil)))) δ e2' kd (a.bind fun x => c.bind fun y => g.bind fun z => F x y z) := fun b => by
  cases a with
  | bad => trivial
  | ex x fs => exact ev_callx1 (hA b)
  | ok x =>
    have h1 : A δ b = _ := hA b
    cases c with
    | bad => trivial
    | ex y fs => exact ev_callx2 h1 n1 (hB b)
    | ok y =>
      have h2 : B δ b = _ := hB b
      cases g with
      | bad => trivial
      | ex z fs => exact ev_callx3 h1 n1 h2 n2 (hC b)
      | ok z =>
        have h4 : C δ b = _ := hC b
        have h3 := h x y z b
        show SatE e2' kd b (eCall f (lCons A (lCons B (lCons C lNil))) δ b) (F x y z)
        cases hF : F x y z with
        | bad => trivial
        | ex w fs => rw [hF] at h3; exact ev_callx (ev_lc h1 n1 (ev_lc h2 n2 (ev_lc h4 n3 rfl))) h3
        | ok v => rw [hF] at h3; exact call3 h1 n1 h2 n2 h4 n3 h3 hk
end
structure Sp3 {α β γ ε : Type} (f : FM) (eA : α → D) (eB : β → D) (eC : γ → D) (e : ε → D) (k : Kd) where
  F : α → β → γ → Re ε
  ok : ∀ x y z, Tf f [eA x, eB y, eC z] e k (F x y z)
end Rk

namespace Rk
open PySem PySem.Spec L2
section
variable {α β σ τ : Type} {e : α → D} {e' : β → D} {δ : Slots} {k k' : Kd} {A B : EM} {s t : SM} {Δ : σ → Slots} {Θ : τ → Slots}
theorem m_seq {r : Re σ} {R : σ → Re (τ ⊕ α)} (h : NxR s δ Δ r) (h' : ∀ v, MixR t (Δ v) Θ e k (R v)) : MixR (sSeq s t) δ Θ e k (r.bind R) := fun b => by
  have h1 := h b
  cases r with
  | bad => trivial
  | ex x fs => obtain ⟨δ', q⟩ := h1; exact ⟨δ', st_seqX q⟩
  | ok v =>
    have h2 := h' v b
    show SatM Θ e k b (sSeq s t δ b) (R v)
    rw [show sSeq s t δ b = t (Δ v) b from st_seq h1 rfl]
    exact h2
theorem m_ifn {c : BM} {rc : Re Bool} {ra : Re α} {rb : Re (τ ⊕ α)} (hc : EvB c δ rc) (hA : RetR s δ e k ra) (hB : MixR t δ Θ e k rb) : MixR (sSeq (sIf c s sNext) t) δ Θ e k (rc.bind fun x => cond x (ra.bind fun y => .ok (.inr y)) rb) := fun b => by
  have h1 := hc b
  cases rc with
  | bad => trivial
  | ex x fs => exact ⟨δ, st_seqX (by show sIf c s sNext δ b = _; unfold sIf; rw [show c δ b = _ from h1])⟩
  | ok x =>
    cases x with
    | true =>
      have h2 := hA b
      have h3 : sIf c s sNext δ b = s δ b := st_ifT h1 rfl
      show SatM Θ e k b (sSeq (sIf c s sNext) t δ b) (ra.bind fun y => .ok (.inr y))
      cases ra with
      | bad => trivial
      | ex z fs => obtain ⟨δ', q⟩ := h2; exact ⟨δ', st_seqX (h3.trans q)⟩
      | ok v => exact st_seqR (h3.trans h2)
    | false =>
      have h2 := hB b
      show SatM Θ e k b (sSeq (sIf c s sNext) t δ b) rb
      rw [show sSeq (sIf c s sNext) t δ b = t δ b from st_seq (st_ifF h1 rfl) rfl]
      exact h2
theorem m_seqM {r : Re (σ ⊕ α)} {R : σ → Re (τ ⊕ α)} (h : MixR s δ Δ e k r) (h' : ∀ v, MixR t (Δ v) Θ e k (R v)) : MixR (sSeq s t) δ Θ e k (r.bind fun w => match w with | .inl v => R v | .inr y => .ok (.inr y)) := fun b => by
  have h1 := h b
  cases r with
  | bad => trivial
  | ex x fs => obtain ⟨δ', q⟩ := h1; exact ⟨δ', st_seqX q⟩
  | ok w =>
    cases w with
    | inl v =>
      have h2 := h' v b
      show SatM Θ e k b (sSeq s t δ b) (R v)
      rw [show sSeq s t δ b = t (Δ v) b from st_seq h1 rfl]
      exact h2
    | inr y => exact st_seqR h1
theorem m_frz {is : List Nat} {r : Re (σ ⊕ α)} (h : MixR s (frz is δ) Δ e k r) : MixR (sFrz is s) δ Δ e k r := h
end
end Rk

namespace Rk
open PySem PySem.Spec L2

/-! ### plain forms of loops and comprehensions -/
theorem compR_ok {α β : Type} {t : α → Re Bool} {m : α → Re β} {p : α → Bool} {g : α → β} : ∀ {xs : List α}, (∀ x ∈ xs, t x = .ok (p x)) → (∀ x ∈ xs, p x = true → m x = .ok (g x)) → compR t m xs = .ok ((xs.filter p).map g)
  | [], _, _ => rfl
  | x :: xs, h1, h2 => by
    have ih := compR_ok (fun y hy => h1 y (List.mem_cons_of_mem _ hy)) (fun y hy => h2 y (List.mem_cons_of_mem _ hy))
    unfold compR
    rw [h1 x List.mem_cons_self, ih]
    cases hp : p x with
    | false => rw [List.filter_cons_of_neg (by rw [hp]; exact Bool.false_ne_true)]
    | true =>
      rw [List.filter_cons_of_pos hp]
      dsimp only
      rw [h2 x List.mem_cons_self hp]
      rfl
theorem foldR_cons {α σ : Type} {f : σ → α → Re σ} {v w : σ} {x : α} {xs : List α} (h : f v x = .ok w) : foldR f v (x :: xs) = foldR f w xs := by
  show (f v x).bind _ = _
  rw [h]; rfl
theorem foldM_cons {α σ ρ : Type} {f : σ → α → Re (σ ⊕ ρ)} {v w : σ} {x : α} {xs : List α} (h : f v x = .ok (.inl w)) : foldM f v (x :: xs) = foldM f w xs := by
  show (f v x).bind _ = _
  rw [h]; rfl
theorem foldM_ret {α σ ρ : Type} {f : σ → α → Re (σ ⊕ ρ)} {v : σ} {r : ρ} {x : α} {xs : List α} (h : f v x = .ok (.inr r)) : foldM f v (x :: xs) = .ok (.inr r) := by
  show (f v x).bind _ = _
  rw [h]; rfl
/-- a loop that may return one thing -/
theorem foldM_any {α σ ρ : Type} {f : σ → α → Re (σ ⊕ ρ)} {q : α → Bool} {r : ρ} {g : σ → α → σ} : ∀ {xs : List α} {st : σ}, (∀ st x, x ∈ xs → f st x = .ok (bif q x then .inr r else .inl (g st x))) → foldM f st xs = .ok (bif xs.any q then .inr r else .inl (xs.foldl g st))
  | [], _, _ => rfl
  | x :: xs, st, h => by
    have h1 := h st x List.mem_cons_self
    have ih := fun st => foldM_any (f := f) (q := q) (r := r) (g := g) (xs := xs) (st := st) fun st y hy => h st y (List.mem_cons_of_mem _ hy)
    rw [List.any_cons]
    cases hq : q x with
    | true =>
      rw [hq] at h1
      rw [foldM_ret h1]; rfl
    | false =>
      rw [hq] at h1
      rw [foldM_cons h1, ih, Bool.false_or]; rfl
/-- a loop of typed steps that go well, under an invariant -/
theorem foldR_inv {α σ : Type} {f : σ → α → Re σ} {G : σ → α → σ} (I : σ → Prop) : ∀ {xs : List α} {v : σ}, I v → (∀ v x, x ∈ xs → I v → f v x = .ok (G v x) ∧ I (G v x)) → foldR f v xs = .ok (xs.foldl G v) ∧ I (xs.foldl G v)
  | [], v, hi, _ => ⟨rfl, hi⟩
  | x :: xs, v, hi, h => by
    obtain ⟨h1, h2⟩ := h v x List.mem_cons_self hi
    rw [foldR_cons h1]
    exact foldR_inv I h2 fun v y hy => h v y (List.mem_cons_of_mem _ hy)
/-- a list that grows -/
theorem foldR_app {α β σ : Type} {f : List β × σ → α → Re (List β × σ)} {g : α → List β} {s : α → σ} (K : Nat) : ∀ (xs : List α) (later : List β) (u : σ), later.length + K * xs.length ≤ 1000000 → (∀ x ∈ xs, (g x).length ≤ K) →
    (∀ st x, x ∈ xs → st.1.length + (g x).length ≤ 1000000 → f st x = .ok (st.1 ++ g x, s x)) → ∃ u', foldR f (later, u) xs = .ok (later ++ xs.flatMap g, u')
  | [], later, u, _, _, _ => ⟨u, by simp [foldR]⟩
  | x :: xs, later, u, h, hg, hf => by
    rw [List.length_cons, Nat.mul_add, Nat.mul_one] at h
    have hk := hg x List.mem_cons_self
    obtain ⟨u', e⟩ := foldR_app K xs (later ++ g x) (s x) (by rw [List.length_append]; omega) (fun y hy => hg y (List.mem_cons_of_mem _ hy)) fun st y hy => hf st y (List.mem_cons_of_mem _ hy)
    refine ⟨u', ?_⟩
    rw [foldR_cons (hf (later, u) x List.mem_cons_self (by show later.length + _ ≤ _; omega)), e, List.flatMap_cons, List.append_assoc]
theorem mem_enumR {α : Type} {x : Int × α} : ∀ {xs : List α} {i : Nat}, x ∈ enumR i xs → x.2 ∈ xs
  | [], _, h => by cases h
  | y :: ys, i, h => by
    unfold enumR at h
    rcases List.mem_cons.mp h with rfl | h
    · exact List.mem_cons_self
    · exact List.mem_cons_of_mem _ (mem_enumR h)
/-- a loop of statements, as a fold -/
theorem forL_fold {α σ : Type} {F : α → D} {g : GM} {body : SM} {b : Bx} {Δ : σ → Slots} {G : σ → α → σ} : ∀ {xs : List α} {v : σ}, (∀ v x, x ∈ xs → ∃ δ1, g (F x) (Δ v) = some δ1 ∧ body δ1 b = .nx (Δ (G v x)) b) → forL g body (xs.map F) (Δ v) b = .nx (Δ (xs.foldl G v)) b
  | [], v, _ => rfl
  | x :: xs, v, h => by
    obtain ⟨δ1, h1, h2⟩ := h v x List.mem_cons_self
    rw [List.map_cons]
    unfold forL
    rw [h1]
    dsimp only
    rw [h2]
    exact forL_fold fun v y hy => h v y (List.mem_cons_of_mem _ hy)
theorem forL_foldI {α σ : Type} {F : α → D} {g : GM} {body : SM} {b : Bx} {Δ : σ → Slots} {G : σ → α → σ} (I : σ → Prop) : ∀ {xs : List α} {v : σ}, I v → (∀ v x, x ∈ xs → I v → (∃ δ1, g (F x) (Δ v) = some δ1 ∧ body δ1 b = .nx (Δ (G v x)) b) ∧ I (G v x)) → forL g body (xs.map F) (Δ v) b = .nx (Δ (xs.foldl G v)) b ∧ I (xs.foldl G v)
  | [], v, hi, _ => ⟨rfl, hi⟩
  | x :: xs, v, hi, h => by
    obtain ⟨⟨δ1, h1, h2⟩, hi'⟩ := h v x List.mem_cons_self hi
    have ih := forL_foldI (Δ := Δ) (G := G) I hi' fun v y hy => h v y (List.mem_cons_of_mem _ hy)
    refine ⟨?_, ih.2⟩
    rw [List.map_cons]
    unfold forL
    rw [h1]
    dsimp only
    rw [h2]
    exact ih.1
theorem st_setN {δ : Slots} {b b1 b2 : Bx} {mk mv : EM} {i n : Nat} {k : Int} {v : D} {ds : List D} {kk kd : Kd} (h : mv δ b = .ok v kk b1) (hk : kk ≠ .bo) (hi : δ[i]? = some (.own ds)) (h2 : mk δ b1 = .ok (.int k) kd b2) (e : ixN ds.length k = some n) : sSetN i mk mv δ b = .nx (δ.set i (.own (ds.set n v))) b2 := by
  unfold sSetN own?
  rw [hi]
  unfold esh
  rw [h]
  cases kk with
  | bo => exact absurd rfl hk
  | sh => dsimp only; rw [h2]; dsimp only; rw [e]
  | fr => dsimp only; rw [h2]; dsimp only; rw [e]
theorem ixN_nat {n i : Nat} (h : i < n) : ixN n (i : Nat) = some i := by
  unfold L2.ixN
  rw [if_pos (by omega), if_pos (by omega)]
  simp
theorem Tf.run {α : Type} {f : FM} {ds : List D} {e : α → D} {k : Kd} {r : Re α} {v : α} (h : Tf f ds e k r) (hr : r = .ok v) (b : Bx) : f ds b = .ok (e v) k b := by
  have := h b
  rw [hr] at this
  exact this
theorem memI_iff {x : Int} : ∀ {l : List Int}, memI x l = true ↔ x ∈ l
  | [] => by simp [memI]
  | y :: ys => by
    unfold memI
    have ih := memI_iff (x := x) (l := ys)
    by_cases h : y = x
    · subst h; simp
    · rw [decide_eq_false h]
      simp only [cond_false, List.mem_cons]
      rw [ih]
      constructor
      · exact fun h => .inr h
      · rintro (rfl | h')
        · exact absurd rfl h
        · exact h'
theorem rngI_len (lo hi : Int) : (rngI lo hi).length = (hi - lo).toNat := by unfold rngI; rw [List.length_map, List.length_range]
theorem mem_rngI {lo hi x : Int} : x ∈ rngI lo hi ↔ lo ≤ x ∧ x < hi := by
  unfold rngI
  rw [List.mem_map]
  constructor
  · rintro ⟨i, h, rfl⟩
    have := List.mem_range.mp h
    omega
  · intro h
    exact ⟨(x - lo).toNat, List.mem_range.mpr (by omega), by omega⟩
theorem bindR_ok {α β : Type} {v : α} {f : α → Re β} : (Re.ok v).bind f = f v := rfl
theorem bind_ex {α β : Type} {r : Re α} {f : α → Re β} {w : β} (h : ∃ v, r = .ok v ∧ f v = .ok w) : r.bind f = .ok w := by
  obtain ⟨v, rfl, h⟩ := h
  exact h
theorem guard_ok {α : Type} {c : Bool} {r : Re α} (h : c = true) : Re.guard c r = r := by rw [h]; rfl
/-- what a test tells -/
theorem D_all {α : Type} {l : List α} {p : α → Bool} (h : l.all p = true) {x : α} (hx : x ∈ l) : p x = true := List.all_eq_true.mp h x hx
/-- what a def gives, by a test at the box of zeros -/
def okDB (d : D) (k : Kd) : Out → Bool
  | .ok d' k' _ => deq d' d && decide (k' = k)
  | _ => false
theorem okDB_run {f : FM} {ds : List D} {d : D} {k : Kd} (h : IF f) (e : okDB d k (f ds b00) = true) (b : Bx) : f ds b = .ok d k b := by
  cases q : f ds b00 with
  | bad => rw [q] at e; cases e
  | exc _ _ _ => rw [q] at e; cases e
  | ok d' k' b1 =>
    rw [q] at e
    have e' : (deq d' d && decide (k' = k)) = true := e
    rw [Bool.and_eq_true] at e'
    rw [deq_eq e'.1, of_decide_eq_true e'.2] at q
    exact j_fn h ⟨b1, q⟩ b
structure SpR1 {α β : Type} (s : SM) (Δ : α → Slots) (e : β → D) (k : Kd) where
  F : α → Re β
  ok : ∀ x, RetR s (Δ x) e k (F x)
end Rk

namespace Rk
open PySem PySem.Spec L2

theorem Agr.eq {δ δ' : Slots} (h : Agr [] δ δ') : δ = δ' := List.ext_getElem? fun i => h.2 i (by simp)
theorem Agr.drop {S S' : List Nat} {δ δ' : Slots} (h : Agr S δ δ') (i : Nat) (s : Sl) (hs : ∀ j ∈ S, j = i ∨ j ∈ S') : Agr S' (δ.set i s) (δ'.set i s) := by
  refine ⟨by simp [h.1], fun j hj => ?_⟩
  by_cases e : i = j
  · subst e
    rw [List.getElem?_set, List.getElem?_set, h.1]
    simp
  · rw [List.getElem?_set_ne e, List.getElem?_set_ne e, h.2 j fun q => ((hs j q).elim (fun z => e z.symm) hj)]
theorem sSeq_as (a b c : SM) : sSeq (sSeq a b) c = sSeq a (sSeq b c) := by
  funext δ x
  unfold sSeq
  cases a δ x <;> rfl
theorem GoodA.as2 {S : List Nat} {δm : Slots} {a c r : SM} {b : Bx} {M : Int} (h : GoodA S δm (sSeq (sSeq a c) r) b M) : GoodA S δm (sSeq a (sSeq c r)) b M := by rwa [sSeq_as] at h
theorem GoodA.as3 {S : List Nat} {δm : Slots} {a c d r : SM} {b : Bx} {M : Int} (h : GoodA S δm (sSeq (sSeq a (sSeq c d)) r) b M) : GoodA S δm (sSeq a (sSeq c (sSeq d r))) b M := by rwa [sSeq_as, sSeq_as] at h
/-- the parts of a list -/
def subs : List Int → List (List Int)
  | [] => [[]]
  | x :: xs => subs xs ++ (subs xs).map (x :: ·)
theorem mem_subs {xs ys : List Int} (h : ys.Sublist xs) : ys ∈ subs xs := by
  induction h with
  | slnil => simp [subs]
  | cons x _ ih => unfold subs; exact List.mem_append_left _ ih
  | cons_cons x _ ih => unfold subs; exact List.mem_append_right _ (List.mem_map.mpr ⟨_, ih, rfl⟩)
/-- those of some numbers that draws choose -/
theorem comp_pick {δ : Slots} {t : BM} {c : Nat} (hc : c < δ.length) (ht : ∀ (x m : Int) (b : Bx), Bok m b → m ≤ 1000000 → ∃ p b', t (δ.set c (.val (.int x))) b = .ok p b' ∧ Bok (m + 1) b') : ∀ (xs : List Int) (m : Int) (b : Bx), Bok m b → m + xs.length ≤ 1000000 →
    ∃ (ys : List Int) (b' : Bx), compL (gNm c) t (eVar c) δ (xs.map D.int) b = .ok (ys.map D.int) b' ∧ ys.Sublist xs ∧ Bok (m + xs.length) b'
  | [], m, b, hb, _ => ⟨[], b, rfl, .slnil, by simpa using hb⟩
  | x :: xs, m, b, hb, hm => by
    rw [List.length_cons] at hm
    obtain ⟨p, b1, e, hb1⟩ := ht x m b hb (by omega)
    obtain ⟨ys, b', e', hs, hb'⟩ := comp_pick hc ht xs (m + 1) b1 hb1 (by omega)
    have hb2 : Bok (m + (x :: xs).length) b' := by rw [List.length_cons]; exact hb'.mono (by omega)
    rw [List.map_cons]
    unfold compL
    rw [show gNm c (D.int x) δ = some (δ.set c (.val (.int x))) from rfl]
    dsimp only
    rw [e]
    cases p with
    | false => exact ⟨ys, b', e', hs.cons x, hb2⟩
    | true =>
      refine ⟨x :: ys, b', ?_, hs.cons_cons x, hb2⟩
      dsimp only
      have v : eVar c (δ.set c (.val (.int x))) b1 = .ok (.int x) .sh b1 := by unfold eVar; rw [List.getElem?_set_self hc]
      rw [v]
      dsimp only
      rw [e']
      rfl
theorem it_rngI {n m : Int} {E F : EM} {δ : Slots} {b : Bx} {k k2 : Kd} (h : E δ b = .ok (.int n) k b) (h' : F δ b = .ok (.int m) k2 b) (hn : n ≤ 1000000) (h0 : -1000000 ≤ n) (hm : m ≤ 1000000) (hm0 : -1000000 ≤ m) : itRng (rCons E (rCons F lNil)) δ b = .ok ((rngI n m).map D.int) b := by
  rw [it_rng2 h h' hn h0 hm hm0]
  unfold rngI
  rw [List.map_map]; rfl
/-- a set of numbers that draws choose -/
theorem GoodA.pick {S S' : List Nat} {δm : Slots} {r : SM} {b : Bx} {m M : Int} {i c : Nat} {E : EM} {t : BM} {hi : Int} (hb : Bok m b) (hm : m ≤ 1000) (hE : ∀ δ, Agr S δm δ → E δ b = .ok (.int hi) .sh b) (h1 : hi ≤ 100) (h0 : -100 ≤ hi) (hc : c < δm.length)
    (ht : ∀ δ, Agr S δm δ → ∀ (x m : Int) (b : Bx), Bok m b → m ≤ 1000000 → ∃ p b', t ((wipeD δ [c]).set c (.val (.int x))) b = .ok p b' ∧ Bok (m + 1) b') (hS : ∀ j ∈ S, j = i ∨ j ∈ S')
    (k : ∀ (ys : List Int) (b' : Bx), ys.Sublist (rngI 1 hi) → Bok (m + 100) b' → GoodA S' (δm.set i (.val (T ys))) r b' M) :
    GoodA S δm (sSeq (sAsg i (eB (f1 gTuple) (rCons (eComp [c] (itRng (rCons (eCst (.int 1)) (rCons E lNil))) (gNm c) t (eVar c)) lNil))) r) b M := fun δ a => by
  have hl : ((rngI 1 hi).length : Int) ≤ 100 := by rw [rngI_len]; omega
  obtain ⟨ys, b', e, hs, hb'⟩ := comp_pick (δ := wipeD δ [c]) (t := t) (c := c) (by show c < (δ.set c .none).length; rw [List.length_set, ← a.1]; exact hc) (ht δ a) (rngI 1 hi) m b hb (by omega)
  have q := eComp_of (vs := [c]) (it_rngI (E := eCst (.int 1)) (δ := δ) (k := .sh) rfl (hE δ a) (by omega) (by omega) (by omega) (by omega)) (by rw [List.length_map]; omega) e
  exact Good.seq (st_asg (ev_b1 q rfl) rfl) (k ys b' hs (hb'.mono (by omega)) _ (a.drop i _ hS))
theorem ev_rngT {i j : Int} {A B : EM} {δ : Slots} {b : Bx} {k k2 : Kd} (h : A δ b = .ok (.int i) k b) (h' : B δ b = .ok (.int j) k2 b) (hr : rgOk i j = true) : eRng true (rCons A (rCons B lNil)) δ b = .ok (T (rngI i j)) .sh b := by
  unfold eRng rCons lNil
  rw [h]
  dsimp only
  rw [h']
  dsimp only
  rw [if_pos hr, if_pos rfl]
  unfold rngD rngI
  show Out.ok (.tup _) .sh b = .ok (.tup (List.map _ (List.map _ _))) .sh b
  rw [List.map_map]; rfl
theorem ev_rngL {i j : Int} {A B : EM} {δ : Slots} {b : Bx} {k k2 : Kd} (h : A δ b = .ok (.int i) k b) (h' : B δ b = .ok (.int j) k2 b) (hr : rgOk i j = true) : eRng false (rCons A (rCons B lNil)) δ b = .ok (Ls (rngI i j)) .fr b := by
  unfold eRng rCons lNil
  rw [h]
  dsimp only
  rw [h']
  dsimp only
  rw [if_pos hr, if_neg Bool.false_ne_true]
  unfold rngD rngI
  show Out.ok (.lst _) .fr b = .ok (.lst (List.map _ (List.map _ _))) .fr b
  rw [List.map_map]; rfl
end Rk

namespace Rk
open PySem PySem.Spec L2
def topS (i : Nat) : Stmt := PySem.Challenge.pw_rooksonstairs_k17_papers_looked_through.main.body.getD i (.Pass ⟨0, 0, 0, 0⟩)
def KS : List Str := ["CanNot", "Unfit"]
structure Hy (c : Cn) : Prop where
  d__law_box : Df c "_law_box" (topS 57) ["script", "k"]
  d__law_cells : Df c "_law_cells" (topS 59) ["script", "top_so"]
  d__law_take : Df c "_law_take" (topS 58) ["box", "size_so"]
  d__law_below : Df c "_law_below" (topS 65) ["box", "rows"]
  d__law_board : Df c "_law_board" (topS 63) ["box", "rows", "most"]
  d_is_number : Df c "is_number" (topS 4) ["thing"]
  d_is_from : Df c "is_from" (topS 6) ["thing", "least"]
  d_is_set : Df c "is_set" (topS 10) ["thing", "most"]
  d_lies_below : Df c "lies_below" (topS 43) ["board"]
  d_look_below : Df c "look_below" (topS 44) ["board"]
  d_sure : Df c "sure" (topS 9) ["flag"]
  d_is_board : Df c "is_board" (topS 13) ["thing"]
  d_tuple_of : Df c "tuple_of" (topS 7) ["thing"]
  d_sure_board : Df c "sure_board" (topS 14) ["board"]
  d_are_tied : Df c "are_tied" (topS 45) ["board", "one", "other"]
  d_tied_all : Df c "tied_all" (topS 46) ["board", "some"]
  d_is_tied : Df c "is_tied" (topS 52) ["board", "many", "thing"]
  d__law_heard : Df c "_law_heard" (topS 68) ["board", "many", "thing"]
  d__law_of : Df c "_law_of" (topS 61) ["box", "pool_so"]
  d__law_laying : Df c "_law_laying" (topS 64) ["box", "board"]
  d__law_pick : Df c "_law_pick" (topS 62) ["box", "goods_so", "count_so"]
  d__law_same : Df c "_law_same" (topS 60) ["got", "due"]
  d__law_sets : Df c "_law_sets" (topS 67) ["some"]
  d__law_told : Df c "_law_told" (topS 66) ["board"]
  d_allowed : Df c "allowed" (topS 36) ["board", "turn"]
  d_all_turns : Df c "all_turns" (topS 39) ["board"]
  d_made_shifts : Df c "made_shifts" (topS 31) ["board"]
  d_made_told : Df c "made_told" (topS 32) ["board"]
  d_is_between : Df c "is_between" (topS 5) ["thing", "least", "most"]
  d_are_numbers : Df c "are_numbers" (topS 29) ["thing"]
  d_sure_numbers : Df c "sure_numbers" (topS 30) ["numbers"]
  d_is_board_with : Df c "is_board_with" (topS 53) ["numbers", "thing"]
  d_is_lacking : Df c "is_lacking" (topS 54) ["numbers", "thing"]
  d_count_pieces : Df c "count_pieces" (topS 19) ["laying"]
  d_is_tuple_of : Df c "is_tuple_of" (topS 8) ["thing", "many"]
  d_is_laid : Df c "is_laid" (topS 18) ["board", "thing"]
  d_is_laying_with : Df c "is_laying_with" (topS 50) ["board", "many", "thing"]
  d_made_cells : Df c "made_cells" (topS 15) ["board"]
  d_is_outside : Df c "is_outside" (topS 55) ["one", "other", "thing"]
  d_covers : Df c "covers" (topS 24) ["board", "thing"]
  d_lines_of : Df c "lines_of" (topS 25) ["cover"]
  d_is_short_cover : Df c "is_short_cover" (topS 51) ["board", "many", "thing"]
  d_made_row : Df c "made_row" (topS 20) ["board"]
  d_laid_so_many : Df c "laid_so_many" (topS 21) ["board", "many"]
  d_is_unlike : Df c "is_unlike" (topS 49) ["one", "other", "thing"]
  d_is_triple : Df c "is_triple" (topS 37) ["thing"]
  d_about : Df c "about" (topS 16) ["lengths", "size"]
  d_made_turned : Df c "made_turned" (topS 40) ["board", "turn"]
  d_is_way : Df c "is_way" (topS 48) ["one", "other", "thing"]
  d_laid : Df c "laid" (topS 22) ["board", "many"]
  d_sure_turn : Df c "sure_turn" (topS 38) ["turn"]
  d_turned : Df c "turned" (topS 41) ["board", "turn"]
  d__law_right : Df c "_law_right" (topS 69) ["box"]
  d_law : Df c "law" (topS 70) ["script"]
  b_len : c.mg "len" = none
  b_int : c.mg "int" = none
  b_abs : c.mg "abs" = none
  b_list : c.mg "list" = none
  b_enumerate : c.mg "enumerate" = none
  b_range : c.mg "range" = none
  b_tuple : c.mg "tuple" = none
  b_sorted : c.mg "sorted" = none
  b_isinstance : c.mg "isinstance" = none
  b_bool : c.mg "bool" = none
  b_all : c.mg "all" = none
  b_min : c.mg "min" = none
  b_zip : c.mg "zip" = none
  b_str : c.mg "str" = none
  b_set : c.mg "set" = none
  b_max : c.mg "max" = none
  g_MOST_ROWS : Gc c "MOST_ROWS" (.int 6)
  g_LEAST_SIZE : Gc c "LEAST_SIZE" (.int 2)
  g_MOST_NUMBERS : Gc c "MOST_NUMBERS" (.int 6)
  g_GREATEST : Gc c "GREATEST" (.int 26)
  g_MOST_PART : Gc c "MOST_PART" (.int 40)
  x_CanNot : Xc c "CanNot"
  x_Unfit : Xc c "Unfit"
  xe : XeAll c KS
/-! _law_box -/
abbrev st__law_box : Stmt := topS 57
abbrev N__law_box : List Str := [Str.ofString "script", Str.ofString "k", Str.ofString "cell"]
abbrev L__law_box : Nms := [(Str.ofString "script", NameKind.local), (Str.ofString "k", NameKind.local), (Str.ofString "cell", NameKind.local), (Str.ofString "len", NameKind.globalImplicit), (Str.ofString "abs", NameKind.globalImplicit), (Str.ofString "int", NameKind.globalImplicit)]
theorem sc__law_box : FnScope N__law_box ["script", "k"] (defScope st__law_box) := ⟨rfl, rfl, rfl, by decide +kernel, rfl, by decide +kernel, by decide +kernel⟩
def c__law_box : SM :=
  (sSeq (sAsg 2 (eIf (tVal (e2 (fB cLt) (eVar 1) (eB fLen (rCons (eVar 0) lNil)))) (eIdx (eVar 0) (eVar 1)) (eCst (.int 0))))
  (sRet (eLst (lCons (e2 fMulT (eB (f1 gAbs) (rCons (eVar 2) lNil)) (eB (f1 gInt) (rCons (e2 (fB cGe) (eB (f1 gAbs) (rCons (eVar 2) lNil)) (e2 fPow (eCst (.int 10)) (eCst (.int 18)))) lNil))) (lCons (e2 fAdd (e2 fAdd (e2 fMod (eB (f1 gInt) (rCons (eVar 2) lNil)) (eCst (.int 2305843009213693951))) (e2 fMulT (eCst (.int 39373)) (eVar 1))) (eCst (.int 2518517))) (lCons (eCst (.int 0)) lNil))))))
def f__law_box : FM := fBody 3 c__law_box
theorem fn__law_box {c : Cn} (g : Hy c) : Fn c 3 "_law_box" 2 f__law_box := fn_bodyD (k := 2) g g.d__law_box sc__law_box rfl rfl fun X W h =>
  (s_seq (d_asg h 2 rfl rfl rfl (s_eIf (d_tcmp h.m_lt (d_var h 1 rfl rfl rfl rfl) (d_bi h h.b_len h.hy.b_len rfl (d_aR (d_var h 0 rfl rfl rfl rfl) d_r0)) (nomark _)) (d_idx (d_var h 0 rfl rfl rfl rfl) (d_var h 1 rfl rfl rfl rfl)) d_int))
  (s_one (s_ret (d_lst (d_aL (d_mul (d_bi h h.b_abs h.hy.b_abs rfl (d_aR (d_var h 2 rfl rfl rfl rfl) d_r0)) (d_bi h h.b_int h.hy.b_int rfl (d_aR (d_cmp h.m_ge (d_bi h h.b_abs h.hy.b_abs rfl (d_aR (d_var h 2 rfl rfl rfl rfl) d_r0)) (d_pow d_int d_int) (nomark _)) d_r0))) (d_aL (d_add (d_add (d_mod (d_bi h h.b_int h.hy.b_int rfl (d_aR (d_var h 2 rfl rfl rfl rfl) d_r0)) d_int) (d_mul d_int (d_var h 1 rfl rfl rfl rfl))) d_int) (d_aL d_int d_a0)))))))
/-! _law_cells -/
abbrev st__law_cells : Stmt := topS 59
abbrev N__law_cells : List Str := [Str.ofString "script", Str.ofString "top_so", Str.ofString "cells_so", Str.ofString "k", Str.ofString "cell", Str.ofString "at_so"]
abbrev L__law_cells : Nms := [(Str.ofString "script", NameKind.local), (Str.ofString "top_so", NameKind.local), (Str.ofString "cells_so", NameKind.local), (Str.ofString "k", NameKind.local), (Str.ofString "cell", NameKind.local), (Str.ofString "at_so", NameKind.local), (Str.ofString "list", NameKind.globalImplicit), (Str.ofString "enumerate", NameKind.globalImplicit), (Str.ofString "int", NameKind.globalImplicit)]
theorem sc__law_cells : FnScope N__law_cells ["script", "top_so"] (defScope st__law_cells) := ⟨rfl, rfl, rfl, by decide +kernel, rfl, by decide +kernel, by decide +kernel⟩
def c__law_cells : SM :=
  (sSeq (sAsg 2 (eOrT (eB (f1 gList) (rCons (eSl (eVar 0) none (some (eVar 1))) lNil)) (eLst (lCons (eCst (.int 0)) lNil))))
  (sSeq (sFor (itEnum (lCons (eSl (eVar 0) (some (eVar 1)) (some (eCst (.int 63)))) lNil)) (gTp [(gNm 3), (gNm 4)])
  (sSeq (sAsg 5 (e2 fMod (eB (f1 gInt) (rCons (eVar 3) lNil)) (eVar 1)))
  (sSet 2 (eVar 5) (e2 fAdd (eIdx (eVar 2) (eVar 5)) (e2 fMulT (eVar 4) (e2 fAdd (eVar 3) (eCst (.int 2))))))))
  (sRetV 2)))
def f__law_cells : FM := fBody 6 c__law_cells
theorem fn__law_cells {c : Cn} (g : Hy c) : Fn c 3 "_law_cells" 2 f__law_cells := fn_bodyD (k := 2) g g.d__law_cells sc__law_cells rfl rfl fun X W h =>
  (s_seq (d_asg h 2 rfl rfl rfl (d_orT (d_bi h h.b_list h.hy.b_list rfl (d_aR (d_sl (d_var h 0 rfl rfl rfl rfl) s_pNone (s_pSome (d_var h 1 rfl rfl rfl rfl))) d_r0)) (s_eOne (d_lst (d_aL d_int d_a0)))))
  (s_seq (d_for h (vs := [3, 4]) (d_enum h h.hy.b_enumerate rfl (d_aL (d_sl (d_var h 0 rfl rfl rfl rfl) (s_pSome (d_var h 1 rfl rfl rfl rfl)) (s_pSome d_int)) d_a0) (arL ar0)) (d_gT h (d_gC (d_gNm h 3 rfl rfl rfl (by decide)) (d_gC (d_gNm h 4 rfl rfl rfl (by decide)) d_g0)) rfl)
  (s_seq (d_asg h 5 rfl rfl rfl (d_mod (d_bi h h.b_int h.hy.b_int rfl (d_aR (d_var h 3 rfl rfl rfl rfl) d_r0)) (d_var h 1 rfl rfl rfl rfl)))
  (s_one (d_set h 2 rfl rfl rfl rfl (d_var h 5 rfl rfl rfl rfl) (d_add (d_idx (d_var h 2 rfl rfl rfl rfl) (d_var h 5 rfl rfl rfl rfl)) (d_mul (d_var h 4 rfl rfl rfl rfl) (d_add (d_var h 3 rfl rfl rfl rfl) d_int)))))))
  (s_one (d_retV h 2 rfl rfl rfl rfl))))
/-! _law_take -/
abbrev st__law_take : Stmt := topS 58
abbrev N__law_take : List Str := [Str.ofString "box", Str.ofString "size_so", Str.ofString "drawn", Str.ofString "once", Str.ofString "far", Str.ofString "twice"]
abbrev L__law_take : Nms := [(Str.ofString "box", NameKind.local), (Str.ofString "size_so", NameKind.local), (Str.ofString "drawn", NameKind.local), (Str.ofString "once", NameKind.local), (Str.ofString "far", NameKind.local), (Str.ofString "twice", NameKind.local), (Str.ofString "int", NameKind.globalImplicit)]
theorem sc__law_take : FnScope N__law_take ["box", "size_so"] (defScope st__law_take) := ⟨rfl, rfl, rfl, by decide +kernel, rfl, by decide +kernel, by decide +kernel⟩
def c__law_take : SM :=
  (sSeq (sIf (tVal (e2 (fB cGt) (eIdx (eVar 0) (eCst (.int 0))) (eCst (.int 0))))
  (sSeq (sAsg 2 (e2 fMod (eB (f1 gInt) (rCons (eIdx (eVar 0) (eCst (.int 0))) lNil)) (eVar 1)))
  (sSeq (sSet 0 (eCst (.int 0)) (e2 fDiv (eIdx (eVar 0) (eCst (.int 0))) (eVar 1)))
  (sRetV 2)))
  sNext)
  (sSeq (sSet 0 (eCst (.int 2)) (e2 fAdd (eIdx (eVar 0) (eCst (.int 2))) (eCst (.int 1))))
  (sSeq (sAsg 3 (e2 fMod (eB (f1 gInt) (rCons (e2 fMulT (e2 fAdd (eIdx (eVar 0) (eCst (.int 1))) (e2 fMulT (eCst (.int 48271)) (eIdx (eVar 0) (eCst (.int 2))))) (e2 fAdd (eCst (.int 39373)) (eIdx (eVar 0) (eCst (.int 2))))) lNil)) (eCst (.int 2147483647))))
  (sSeq (sAsg 4 (e2 fAdd (e2 fMod (eB (f1 gInt) (rCons (eVar 3) lNil)) (eCst (.int 40009))) (eCst (.int 7))))
  (sSeq (sAsg 5 (e2 fMod (eB (f1 gInt) (rCons (e2 fMulT (e2 fAdd (e2 fAdd (eVar 3) (eIdx (eVar 0) (eCst (.int 2)))) (e2 fDiv (eIdx (eVar 0) (eCst (.int 1))) (eCst (.int 1000003)))) (eVar 4)) lNil)) (eCst (.int 2147483629))))
  (sRet (e2 fMod (eB (f1 gInt) (rCons (e2 fDiv (e2 fMod (eB (f1 gInt) (rCons (e2 fAdd (e2 fMulT (eVar 5) (eCst (.int 48271))) (eVar 3)) lNil)) (eCst (.int 2147483587))) (eCst (.int 64))) lNil)) (eVar 1))))))))
def f__law_take : FM := fBody 6 c__law_take
theorem fn__law_take {c : Cn} (g : Hy c) : Fn c 3 "_law_take" 2 f__law_take := fn_bodyD (k := 2) g g.d__law_take sc__law_take rfl rfl fun X W h =>
  (s_seq (s_if (d_tcmp h.m_gt (d_idx (d_var h 0 rfl rfl rfl rfl) d_int) d_int (nomark _))
  (s_seq (d_asg h 2 rfl rfl rfl (d_mod (d_bi h h.b_int h.hy.b_int rfl (d_aR (d_idx (d_var h 0 rfl rfl rfl rfl) d_int) d_r0)) (d_var h 1 rfl rfl rfl rfl)))
  (s_seq (d_set h 0 rfl rfl rfl rfl d_int (d_fdiv (d_idx (d_var h 0 rfl rfl rfl rfl) d_int) (d_var h 1 rfl rfl rfl rfl)))
  (s_one (d_retV h 2 rfl rfl rfl rfl))))
  s_nil)
  (s_seq (d_set h 0 rfl rfl rfl rfl d_int (d_add (d_idx (d_var h 0 rfl rfl rfl rfl) d_int) d_int))
  (s_seq (d_asg h 3 rfl rfl rfl (d_mod (d_bi h h.b_int h.hy.b_int rfl (d_aR (d_mul (d_add (d_idx (d_var h 0 rfl rfl rfl rfl) d_int) (d_mul d_int (d_idx (d_var h 0 rfl rfl rfl rfl) d_int))) (d_add d_int (d_idx (d_var h 0 rfl rfl rfl rfl) d_int))) d_r0)) d_int))
  (s_seq (d_asg h 4 rfl rfl rfl (d_add (d_mod (d_bi h h.b_int h.hy.b_int rfl (d_aR (d_var h 3 rfl rfl rfl rfl) d_r0)) d_int) d_int))
  (s_seq (d_asg h 5 rfl rfl rfl (d_mod (d_bi h h.b_int h.hy.b_int rfl (d_aR (d_mul (d_add (d_add (d_var h 3 rfl rfl rfl rfl) (d_idx (d_var h 0 rfl rfl rfl rfl) d_int)) (d_fdiv (d_idx (d_var h 0 rfl rfl rfl rfl) d_int) d_int)) (d_var h 4 rfl rfl rfl rfl)) d_r0)) d_int))
  (s_one (s_ret (d_mod (d_bi h h.b_int h.hy.b_int rfl (d_aR (d_fdiv (d_mod (d_bi h h.b_int h.hy.b_int rfl (d_aR (d_add (d_mul (d_var h 5 rfl rfl rfl rfl) d_int) (d_var h 3 rfl rfl rfl rfl)) d_r0)) d_int) d_int) d_r0)) (d_var h 1 rfl rfl rfl rfl)))))))))
/-! _law_below -/
abbrev st__law_below : Stmt := topS 65
abbrev N__law_below : List Str := [Str.ofString "box", Str.ofString "rows", Str.ofString "found", Str.ofString "k", Str.ofString "least"]
abbrev L__law_below : Nms := [(Str.ofString "box", NameKind.local), (Str.ofString "rows", NameKind.local), (Str.ofString "found", NameKind.local), (Str.ofString "k", NameKind.local), (Str.ofString "least", NameKind.local), (Str.ofString "range", NameKind.globalImplicit), (Str.ofString "_law_take", NameKind.globalImplicit), (Str.ofString "tuple", NameKind.globalImplicit)]
theorem sc__law_below : FnScope N__law_below ["box", "rows"] (defScope st__law_below) := ⟨rfl, rfl, rfl, by decide +kernel, rfl, by decide +kernel, by decide +kernel⟩
def c__law_below : SM :=
  (sSeq (sAsg 2 (eLst lNil))
  (sSeq (sFor (itRng (rCons (eVar 1) lNil)) (gNm 3)
  (sSeq (sAsg 4 (eIf (tVal (e2 (fB cNe) (eVar 2) (eLst lNil))) (eIdxN (eVar 2) (e1 fNeg (eCst (.int 1)))) (eCst (.int 0))))
  (sApp 2 (e2 fAdd (eVar 4) (eCall f__law_take (lCons (eVar 0) (lCons (e2 fAdd (e2 fSub (eVar 3) (eVar 4)) (eCst (.int 1))) lNil)))))))
  (sRet (eB (f1 gTuple) (rCons (eVar 2) lNil)))))
def f__law_below : FM := fBody 5 c__law_below
theorem fn__law_below {c : Cn} (g : Hy c) : Fn c 4 "_law_below" 2 f__law_below := fn_bodyD (k := 3) g g.d__law_below sc__law_below rfl rfl fun X W h =>
  (s_seq (d_asg h 2 rfl rfl rfl (d_lst d_a0))
  (s_seq (d_for h (vs := [3]) (d_rng1 h h.hy.b_range rfl (d_aR (d_var h 1 rfl rfl rfl rfl) d_r0) (arR ar0)) (d_gNm h 3 rfl rfl rfl (by decide))
  (s_seq (d_asg h 4 rfl rfl rfl (s_eIf (d_tcmp h.m_ne (d_var h 2 rfl rfl rfl rfl) (d_lst d_a0) (nomark _)) (d_idxN (d_var h 2 rfl rfl rfl rfl) (d_neg d_int)) d_int))
  (s_one (d_app h 2 rfl rfl rfl rfl (d_add (d_var h 4 rfl rfl rfl rfl) (d_call h (fn__law_take h.hy) (by decide) rfl rfl (d_aL (d_var h 0 rfl rfl rfl rfl) (d_aL (d_add (d_sub (d_var h 3 rfl rfl rfl rfl) (d_var h 4 rfl rfl rfl rfl)) d_int) d_a0)) (arL (arL ar0)) rfl))))))
  (s_one (s_ret (d_bi h h.b_tuple h.hy.b_tuple rfl (d_aR (d_var h 2 rfl rfl rfl rfl) d_r0))))))
/-! _law_board -/
abbrev st__law_board : Stmt := topS 63
abbrev N__law_board : List Str := [Str.ofString "box", Str.ofString "rows", Str.ofString "most", Str.ofString "k"]
abbrev L__law_board : Nms := [(Str.ofString "box", NameKind.cell), (Str.ofString "rows", NameKind.local), (Str.ofString "most", NameKind.cell), (Str.ofString "tuple", NameKind.globalImplicit), (Str.ofString "sorted", NameKind.globalImplicit), (Str.ofString "range", NameKind.globalImplicit)]
theorem sc__law_board : FnScope N__law_board ["box", "rows", "most"] (defScope st__law_board) := ⟨rfl, rfl, rfl, by decide +kernel, rfl, by decide +kernel, by decide +kernel⟩
def c__law_board : SM :=
  (sRet (eB (f1 gTuple) (rCons (eB (f1 gSortI) (rCons (eComp [3] (itRng (rCons (eVar 1) lNil)) (gNm 3) tTrue (eCall f__law_take (lCons (eVar 0) (lCons (e2 fAdd (eVar 2) (eCst (.int 1))) lNil)))) lNil)) lNil)))
def f__law_board : FM := fBody 4 c__law_board
theorem fn__law_board {c : Cn} (g : Hy c) : Fn c 4 "_law_board" 3 f__law_board := fn_bodyD (k := 3) g g.d__law_board sc__law_board rfl rfl fun X W h =>
  (s_one (s_ret (d_bi h h.b_tuple h.hy.b_tuple rfl (d_aR (d_bi h h.b_sorted h.hy.b_sorted rfl (d_aR (d_lc h [("k", 3)] (by decide +kernel) (d_rng1 h h.hy.b_range rfl (d_aR (d_var h 1 rfl rfl rfl rfl) d_r0) (arR ar0)) (fun _ h1 => (d_gNm h1 3 rfl rfl rfl (by decide))) (fun _ h1 => s_tTrue) (fun _ h1 => (d_call h1 (fn__law_take h1.hy) (by decide) rfl rfl (d_aL (d_var h1 0 rfl rfl rfl rfl) (d_aL (d_add (d_var h1 2 rfl rfl rfl rfl) d_int) d_a0)) (arL (arL ar0)) rfl))) d_r0)) d_r0))))
/-! is_number -/
abbrev st_is_number : Stmt := topS 4
abbrev N_is_number : List Str := [Str.ofString "thing"]
abbrev L_is_number : Nms := [(Str.ofString "thing", NameKind.local), (Str.ofString "isinstance", NameKind.globalImplicit), (Str.ofString "int", NameKind.globalImplicit), (Str.ofString "bool", NameKind.globalImplicit)]
theorem sc_is_number : FnScope N_is_number ["thing"] (defScope st_is_number) := ⟨rfl, rfl, rfl, by decide +kernel, rfl, by decide +kernel, by decide +kernel⟩
def c_is_number : SM :=
  (sRet (eAnd (eIsi ["int"] (eVar 0)) (eNot (eIsi ["bool"] (eVar 0)))))
def f_is_number : FM := fBody 1 c_is_number
theorem fn_is_number {c : Cn} (g : Hy c) : Fn c 3 "is_number" 1 f_is_number := fn_bodyD (k := 2) g g.d_is_number sc_is_number rfl rfl fun X W h =>
  (s_one (s_ret (s_eAnd (d_isi1 h (d_var h 0 rfl rfl rfl rfl) kt_int h.hy.b_isinstance rfl h.hy.b_int rfl (by decide +kernel)) (s_eOne (s_eNot (d_isi1 h (d_var h 0 rfl rfl rfl rfl) kt_bool h.hy.b_isinstance rfl h.hy.b_bool rfl (by decide +kernel)))))))
/-! is_from -/
abbrev st_is_from : Stmt := topS 6
abbrev N_is_from : List Str := [Str.ofString "thing", Str.ofString "least"]
abbrev L_is_from : Nms := [(Str.ofString "thing", NameKind.local), (Str.ofString "least", NameKind.local), (Str.ofString "is_number", NameKind.globalImplicit)]
theorem sc_is_from : FnScope N_is_from ["thing", "least"] (defScope st_is_from) := ⟨rfl, rfl, rfl, by decide +kernel, rfl, by decide +kernel, by decide +kernel⟩
def c_is_from : SM :=
  (sRet (eAnd (eCall f_is_number (lCons (eVar 0) lNil)) (e2 (fB cGe) (eVar 0) (eVar 1))))
def f_is_from : FM := fBody 2 c_is_from
theorem fn_is_from {c : Cn} (g : Hy c) : Fn c 4 "is_from" 2 f_is_from := fn_bodyD (k := 3) g g.d_is_from sc_is_from rfl rfl fun X W h =>
  (s_one (s_ret (s_eAnd (d_call h (fn_is_number h.hy) (by decide) rfl rfl (d_aL (d_var h 0 rfl rfl rfl rfl) d_a0) (arL ar0) rfl) (s_eOne (d_cmp h.m_ge (d_var h 0 rfl rfl rfl rfl) (d_var h 1 rfl rfl rfl rfl) (nomark _))))))
/-! is_set -/
abbrev st_is_set : Stmt := topS 10
abbrev N_is_set : List Str := [Str.ofString "thing", Str.ofString "most", Str.ofString "own", Str.ofString "k"]
abbrev L_is_set : Nms := [(Str.ofString "thing", NameKind.cell), (Str.ofString "most", NameKind.cell), (Str.ofString "isinstance", NameKind.globalImplicit), (Str.ofString "tuple", NameKind.globalImplicit), (Str.ofString "all", NameKind.globalImplicit), (Str.ofString "range", NameKind.globalImplicit), (Str.ofString "len", NameKind.globalImplicit)]
theorem sc_is_set : FnScope N_is_set ["thing", "most"] (defScope st_is_set) := ⟨rfl, rfl, rfl, by decide +kernel, rfl, by decide +kernel, by decide +kernel⟩
def c_is_set : SM :=
  (sSeq (sIf (tOr_ (tNot_ (tVal (eIsi ["tuple"] (eVar 0)))) (tNot_ (tVal (eB (f1 gAll) (rCons (eComp [2] (itSeq (eVar 0)) (gNm 2) tTrue (eCall f_is_from (lCons (eVar 2) (lCons (eCst (.int 1)) lNil)))) lNil)))))
  (sRet (eCst (.bl false)))
  sNext)
  (sSeq (sIf (tAnd_ (tVal (e2 (fB cNotN) (eVar 1) (eCst .non))) (tNot_ (tVal (eB (f1 gAll) (rCons (eComp [2] (itSeq (eVar 0)) (gNm 2) tTrue (e2 (fB cLe) (eVar 2) (eVar 1))) lNil)))))
  (sRet (eCst (.bl false)))
  sNext)
  (sRet (eB (f1 gAll) (rCons (eComp [3] (itRng (rCons (e2 fSub (eB fLen (rCons (eVar 0) lNil)) (eCst (.int 1))) lNil)) (gNm 3) tTrue (e2 (fB cLt) (eIdxN (eVar 0) (eVar 3)) (eIdxN (eVar 0) (e2 fAdd (eVar 3) (eCst (.int 1)))))) lNil)))))
def f_is_set : FM := fBody 4 c_is_set
theorem fn_is_set {c : Cn} (g : Hy c) : Fn c 5 "is_set" 2 f_is_set := fn_bodyD (k := 4) g g.d_is_set sc_is_set rfl rfl fun X W h =>
  (s_seq (s_if (PW.pt (s_tOr (s_tNot (d_tval (d_isi1 h (d_var h 0 rfl rfl rfl rfl) kt_tuple h.hy.b_isinstance rfl h.hy.b_tuple rfl (by decide +kernel)))) (s_tOr1 (s_tNot (d_tval (d_bi h h.b_all h.hy.b_all rfl (d_aR (d_lc h [("own", 2)] (by decide +kernel) (d_seq (d_var h 0 rfl rfl rfl rfl)) (fun _ h1 => (d_gNm h1 2 rfl rfl rfl (by decide))) (fun _ h1 => s_tTrue) (fun _ h1 => (d_call h1 (fn_is_from h1.hy) (by decide) rfl rfl (d_aL (d_var h1 2 rfl rfl rfl rfl) (d_aL d_int d_a0)) (arL (arL ar0)) rfl))) d_r0)))))))
  (s_one (s_ret d_bl))
  s_nil)
  (s_seq (s_if (PW.pt (s_tAnd (d_tcmp h.m_isNot (d_var h 1 rfl rfl rfl rfl) d_non (nomark _)) (s_tAnd1 (s_tNot (d_tval (d_bi h h.b_all h.hy.b_all rfl (d_aR (d_lc h [("own", 2)] (by decide +kernel) (d_seq (d_var h 0 rfl rfl rfl rfl)) (fun _ h2 => (d_gNm h2 2 rfl rfl rfl (by decide))) (fun _ h2 => s_tTrue) (fun _ h2 => (d_cmp h2.m_le (d_var h2 2 rfl rfl rfl rfl) (d_var h2 1 rfl rfl rfl rfl) (nomark _)))) d_r0)))))))
  (s_one (s_ret d_bl))
  s_nil)
  (s_one (s_ret (d_bi h h.b_all h.hy.b_all rfl (d_aR (d_lc h [("k", 3)] (by decide +kernel) (d_rng1 h h.hy.b_range rfl (d_aR (d_sub (d_bi h h.b_len h.hy.b_len rfl (d_aR (d_var h 0 rfl rfl rfl rfl) d_r0)) d_int) d_r0) (arR ar0)) (fun _ h3 => (d_gNm h3 3 rfl rfl rfl (by decide))) (fun _ h3 => s_tTrue) (fun _ h3 => (d_cmp h3.m_lt (d_idxN (d_var h3 0 rfl rfl rfl rfl) (d_var h3 3 rfl rfl rfl rfl)) (d_idxN (d_var h3 0 rfl rfl rfl rfl) (d_add (d_var h3 3 rfl rfl rfl rfl) d_int)) (nomark _)))) d_r0))))))
/-! lies_below -/
abbrev st_lies_below : Stmt := topS 43
abbrev N_lies_below : List Str := [Str.ofString "board", Str.ofString "k", Str.ofString "length"]
abbrev L_lies_below : Nms := [(Str.ofString "board", NameKind.local), (Str.ofString "all", NameKind.globalImplicit), (Str.ofString "enumerate", NameKind.globalImplicit)]
theorem sc_lies_below : FnScope N_lies_below ["board"] (defScope st_lies_below) := ⟨rfl, rfl, rfl, by decide +kernel, rfl, by decide +kernel, by decide +kernel⟩
def c_lies_below : SM :=
  (sRet (eB (f1 gAll) (rCons (eComp [1, 2] (itEnum (lCons (eVar 0) lNil)) (gTp [(gNm 1), (gNm 2)]) tTrue (e2 (fB cLe) (eVar 2) (eVar 1))) lNil)))
def f_lies_below : FM := fBody 3 c_lies_below
theorem fn_lies_below {c : Cn} (g : Hy c) : Fn c 3 "lies_below" 1 f_lies_below := fn_bodyD (k := 2) g g.d_lies_below sc_lies_below rfl rfl fun X W h =>
  (s_one (s_ret (d_bi h h.b_all h.hy.b_all rfl (d_aR (d_lc h [("k", 1), ("length", 2)] (by decide +kernel) (d_enum h h.hy.b_enumerate rfl (d_aL (d_var h 0 rfl rfl rfl rfl) d_a0) (arL ar0)) (fun _ h1 => (d_gT h1 (d_gC (d_gNm h1 1 rfl rfl rfl (by decide)) (d_gC (d_gNm h1 2 rfl rfl rfl (by decide)) d_g0)) rfl)) (fun _ h1 => s_tTrue) (fun _ h1 => (d_cmp h1.m_le (d_var h1 2 rfl rfl rfl rfl) (d_var h1 1 rfl rfl rfl rfl) (nomark _)))) d_r0))))
/-! look_below -/
abbrev st_look_below : Stmt := topS 44
abbrev N_look_below : List Str := [Str.ofString "board"]
abbrev L_look_below : Nms := [(Str.ofString "board", NameKind.local), (Str.ofString "lies_below", NameKind.globalImplicit), (Str.ofString "CanNot", NameKind.globalImplicit)]
theorem sc_look_below : FnScope N_look_below ["board"] (defScope st_look_below) := ⟨rfl, rfl, rfl, by decide +kernel, rfl, by decide +kernel, by decide +kernel⟩
def c_look_below : SM :=
  (sIf (tNot_ (tVal (eCall f_lies_below (lCons (eVar 0) lNil))))
  (sRaise0 "CanNot")
  sNext)
def f_look_below : FM := fBody 1 c_look_below
theorem fn_look_below {c : Cn} (g : Hy c) : Fn c 4 "look_below" 1 f_look_below := fn_bodyD (k := 3) g g.d_look_below sc_look_below rfl rfl fun X W h =>
  (s_one (s_if (s_tNot (d_tval (d_call h (fn_lies_below h.hy) (by decide) rfl rfl (d_aL (d_var h 0 rfl rfl rfl rfl) d_a0) (arL ar0) rfl)))
  (s_one (d_raise0 h h.hy.x_CanNot (by decide) rfl rfl))
  s_nil))
/-! sure -/
abbrev st_sure : Stmt := topS 9
abbrev N_sure : List Str := [Str.ofString "flag"]
abbrev L_sure : Nms := [(Str.ofString "flag", NameKind.local), (Str.ofString "Unfit", NameKind.globalImplicit)]
theorem sc_sure : FnScope N_sure ["flag"] (defScope st_sure) := ⟨rfl, rfl, rfl, by decide +kernel, rfl, by decide +kernel, by decide +kernel⟩
def c_sure : SM :=
  (sIf (tNot_ (tVal (eVar 0)))
  (sRaise0 "Unfit")
  sNext)
def f_sure : FM := fBody 1 c_sure
theorem fn_sure {c : Cn} (g : Hy c) : Fn c 3 "sure" 1 f_sure := fn_bodyD (k := 2) g g.d_sure sc_sure rfl rfl fun X W h =>
  (s_one (s_if (s_tNot (d_tval (d_var h 0 rfl rfl rfl rfl)))
  (s_one (d_raise0 h h.hy.x_Unfit (by decide) rfl rfl))
  s_nil))
/-! is_board -/
abbrev st_is_board : Stmt := topS 13
abbrev N_is_board : List Str := [Str.ofString "thing", Str.ofString "own", Str.ofString "k"]
abbrev L_is_board : Nms := [(Str.ofString "thing", NameKind.cell), (Str.ofString "isinstance", NameKind.globalImplicit), (Str.ofString "tuple", NameKind.globalImplicit), (Str.ofString "len", NameKind.globalImplicit), (Str.ofString "MOST_ROWS", NameKind.globalImplicit), (Str.ofString "all", NameKind.globalImplicit), (Str.ofString "range", NameKind.globalImplicit)]
theorem sc_is_board : FnScope N_is_board ["thing"] (defScope st_is_board) := ⟨rfl, rfl, rfl, by decide +kernel, rfl, by decide +kernel, by decide +kernel⟩
def c_is_board : SM :=
  (sSeq (sIf (tOr_ (tNot_ (tVal (eIsi ["tuple"] (eVar 0)))) (tOr_ (tVal (e2 (fB cGt) (eB fLen (rCons (eVar 0) lNil)) (eCst (.int 6)))) (tNot_ (tVal (eB (f1 gAll) (rCons (eComp [1] (itSeq (eVar 0)) (gNm 1) tTrue (eCall f_is_from (lCons (eVar 1) (lCons (eCst (.int 0)) lNil)))) lNil))))))
  (sRet (eCst (.bl false)))
  sNext)
  (sRet (eB (f1 gAll) (rCons (eComp [2] (itRng (rCons (e2 fSub (eB fLen (rCons (eVar 0) lNil)) (eCst (.int 1))) lNil)) (gNm 2) tTrue (e2 (fB cLe) (eIdxN (eVar 0) (eVar 2)) (eIdxN (eVar 0) (e2 fAdd (eVar 2) (eCst (.int 1)))))) lNil))))
def f_is_board : FM := fBody 3 c_is_board
theorem fn_is_board {c : Cn} (g : Hy c) : Fn c 5 "is_board" 1 f_is_board := fn_bodyD (k := 4) g g.d_is_board sc_is_board rfl rfl fun X W h =>
  (s_seq (s_if (PW.pt (s_tOr (s_tNot (d_tval (d_isi1 h (d_var h 0 rfl rfl rfl rfl) kt_tuple h.hy.b_isinstance rfl h.hy.b_tuple rfl (by decide +kernel)))) (s_tOr (d_tcmp h.m_gt (d_bi h h.b_len h.hy.b_len rfl (d_aR (d_var h 0 rfl rfl rfl rfl) d_r0)) (d_glob h h.hy.g_MOST_ROWS rfl rfl) (nomark _)) (s_tOr1 (s_tNot (d_tval (d_bi h h.b_all h.hy.b_all rfl (d_aR (d_lc h [("own", 1)] (by decide +kernel) (d_seq (d_var h 0 rfl rfl rfl rfl)) (fun _ h1 => (d_gNm h1 1 rfl rfl rfl (by decide))) (fun _ h1 => s_tTrue) (fun _ h1 => (d_call h1 (fn_is_from h1.hy) (by decide) rfl rfl (d_aL (d_var h1 1 rfl rfl rfl rfl) (d_aL d_int d_a0)) (arL (arL ar0)) rfl))) d_r0))))))))
  (s_one (s_ret d_bl))
  s_nil)
  (s_one (s_ret (d_bi h h.b_all h.hy.b_all rfl (d_aR (d_lc h [("k", 2)] (by decide +kernel) (d_rng1 h h.hy.b_range rfl (d_aR (d_sub (d_bi h h.b_len h.hy.b_len rfl (d_aR (d_var h 0 rfl rfl rfl rfl) d_r0)) d_int) d_r0) (arR ar0)) (fun _ h2 => (d_gNm h2 2 rfl rfl rfl (by decide))) (fun _ h2 => s_tTrue) (fun _ h2 => (d_cmp h2.m_le (d_idxN (d_var h2 0 rfl rfl rfl rfl) (d_var h2 2 rfl rfl rfl rfl)) (d_idxN (d_var h2 0 rfl rfl rfl rfl) (d_add (d_var h2 2 rfl rfl rfl rfl) d_int)) (nomark _)))) d_r0)))))
/-! tuple_of -/
abbrev st_tuple_of : Stmt := topS 7
abbrev N_tuple_of : List Str := [Str.ofString "thing", Str.ofString "part"]
abbrev L_tuple_of : Nms := [(Str.ofString "thing", NameKind.local), (Str.ofString "isinstance", NameKind.globalImplicit), (Str.ofString "list", NameKind.globalImplicit), (Str.ofString "tuple", NameKind.globalImplicit)]
theorem sc_tuple_of : FnScope N_tuple_of ["thing"] (defScope st_tuple_of) := ⟨rfl, rfl, rfl, by decide +kernel, rfl, by decide +kernel, by decide +kernel⟩
def c_tuple_of (rec : FM) : SM :=
  (sSeq (sIf (tVal (eIsi ["list", "tuple"] (eVar 0)))
  (sRet (eB (f1 gTuple) (rCons (eComp [1] (itSeq (eVar 0)) (gNm 1) tTrue (eCall rec (lCons (eVar 1) lNil))) lNil)))
  sNext)
  (sRetV 0))
def f_tuple_of : Nat → FM
  | 0 => fun _ _ => .bad
  | n + 1 => fBody 2 (c_tuple_of (f_tuple_of n))
theorem fn_tuple_of {c : Cn} (g : Hy c) : ∀ n : Nat, Fn c (n + 3) "tuple_of" 1 (f_tuple_of n)
  | 0 => fn_bad (k := 2) g g.d_tuple_of sc_tuple_of rfl rfl
  | n + 1 => fn_bodyD (k := n + 3) g g.d_tuple_of sc_tuple_of rfl rfl fun X W h => by
    have hrec : ∀ c, Hy c → Fn c (n + 3) "tuple_of" 1 (f_tuple_of n) := fun c g => fn_tuple_of g n
    exact (s_seq (s_if (d_tval (d_isiT h (d_var h 0 rfl rfl rfl rfl) (d_tn h kt_list h.hy.b_list rfl (by decide +kernel) (d_tn h kt_tuple h.hy.b_tuple rfl (by decide +kernel) d_tn0)) (by first | omega | decide) h.hy.b_isinstance rfl))
  (s_one (s_ret (d_bi h h.b_tuple h.hy.b_tuple rfl (d_aR (d_lc h [("part", 1)] (by decide +kernel) (d_seq (d_var h 0 rfl rfl rfl rfl)) (fun _ h1 => (d_gNm h1 1 rfl rfl rfl (by first | omega | decide))) (fun _ h1 => s_tTrue) (fun _ h1 => (d_call h1 (hrec _ h1.hy) (by first | omega | decide) rfl rfl (d_aL (d_var h1 1 rfl rfl rfl rfl) d_a0) (arL ar0) rfl))) d_r0))))
  s_nil)
  (s_one (d_retV h 0 rfl rfl rfl rfl)))
/-! sure_board -/
abbrev st_sure_board : Stmt := topS 14
abbrev N_sure_board : List Str := [Str.ofString "board", Str.ofString "own"]
abbrev L_sure_board : Nms := [(Str.ofString "board", NameKind.local), (Str.ofString "own", NameKind.local), (Str.ofString "tuple_of", NameKind.globalImplicit), (Str.ofString "sure", NameKind.globalImplicit), (Str.ofString "is_board", NameKind.globalImplicit)]
theorem sc_sure_board : FnScope N_sure_board ["board"] (defScope st_sure_board) := ⟨rfl, rfl, rfl, by decide +kernel, rfl, by decide +kernel, by decide +kernel⟩
def c_sure_board : SM :=
  (sSeq (sAsg 1 (eCall (f_tuple_of 8) (lCons (eVar 0) lNil)))
  (sSeq (sFrz [1] (sExp (eCall f_sure (lCons (eCall f_is_board (lCons (eVar 1) lNil)) lNil))))
  (sRetV 1)))
def f_sure_board : FM := fBody 2 c_sure_board
theorem fn_sure_board {c : Cn} (g : Hy c) : Fn c 12 "sure_board" 1 f_sure_board := fn_bodyD (k := 11) g g.d_sure_board sc_sure_board rfl rfl fun X W h =>
  (s_seq (d_asg h 1 rfl rfl rfl (d_call h (fn_tuple_of h.hy 8) (by decide) rfl rfl (d_aL (d_var h 0 rfl rfl rfl rfl) d_a0) (arL ar0) rfl))
  (s_seq (s_sFrz [1] (d_exp (d_call h (fn_sure h.hy) (by decide) rfl rfl (d_aL (d_call h (fn_is_board h.hy) (by decide) rfl rfl (d_aL (d_var h 1 rfl rfl rfl rfl) d_a0) (arL ar0) rfl) d_a0) (arL ar0) rfl)))
  (s_one (d_retV h 1 rfl rfl rfl rfl))))
/-! are_tied -/
abbrev st_are_tied : Stmt := topS 45
abbrev N_are_tied : List Str := [Str.ofString "board", Str.ofString "one", Str.ofString "other"]
abbrev L_are_tied : Nms := [(Str.ofString "board", NameKind.local), (Str.ofString "one", NameKind.local), (Str.ofString "other", NameKind.local)]
theorem sc_are_tied : FnScope N_are_tied ["board", "one", "other"] (defScope st_are_tied) := ⟨rfl, rfl, rfl, by decide +kernel, rfl, by decide +kernel, by decide +kernel⟩
def c_are_tied : SM :=
  (sRet (e2 (fB cGt) (eVar 1) (eIdxN (eVar 0) (e2 fSub (eVar 2) (eCst (.int 1))))))
def f_are_tied : FM := fBody 3 c_are_tied
theorem fn_are_tied {c : Cn} (g : Hy c) : Fn c 3 "are_tied" 3 f_are_tied := fn_bodyD (k := 2) g g.d_are_tied sc_are_tied rfl rfl fun X W h =>
  (s_one (s_ret (d_cmp h.m_gt (d_var h 1 rfl rfl rfl rfl) (d_idxN (d_var h 0 rfl rfl rfl rfl) (d_sub (d_var h 2 rfl rfl rfl rfl) d_int)) (nomark _))))
/-! tied_all -/
abbrev st_tied_all : Stmt := topS 46
abbrev N_tied_all : List Str := [Str.ofString "board", Str.ofString "some", Str.ofString "k", Str.ofString "one", Str.ofString "other"]
abbrev L_tied_all : Nms := [(Str.ofString "board", NameKind.cell), (Str.ofString "some", NameKind.local), (Str.ofString "k", NameKind.local), (Str.ofString "one", NameKind.cell), (Str.ofString "enumerate", NameKind.globalImplicit), (Str.ofString "all", NameKind.globalImplicit)]
theorem sc_tied_all : FnScope N_tied_all ["board", "some"] (defScope st_tied_all) := ⟨rfl, rfl, rfl, by decide +kernel, rfl, by decide +kernel, by decide +kernel⟩
def c_tied_all : SM :=
  (sSeq (sFor (itEnum (lCons (eVar 1) lNil)) (gTp [(gNm 2), (gNm 3)])
  (sIf (tNot_ (tVal (eB (f1 gAll) (rCons (eComp [4] (itSeq (eSl (eVar 1) (some (e2 fAdd (eVar 2) (eCst (.int 1)))) none)) (gNm 4) tTrue (eCall f_are_tied (lCons (eVar 0) (lCons (eVar 3) (lCons (eVar 4) lNil))))) lNil))))
  (sRet (eCst (.bl false)))
  sNext))
  (sRet (eCst (.bl true))))
def f_tied_all : FM := fBody 5 c_tied_all
theorem fn_tied_all {c : Cn} (g : Hy c) : Fn c 4 "tied_all" 2 f_tied_all := fn_bodyD (k := 3) g g.d_tied_all sc_tied_all rfl rfl fun X W h =>
  (s_seq (d_for h (vs := [2, 3]) (d_enum h h.hy.b_enumerate rfl (d_aL (d_var h 1 rfl rfl rfl rfl) d_a0) (arL ar0)) (d_gT h (d_gC (d_gNm h 2 rfl rfl rfl (by decide)) (d_gC (d_gNm h 3 rfl rfl rfl (by decide)) d_g0)) rfl)
  (s_one (s_if (s_tNot (d_tval (d_bi h h.b_all h.hy.b_all rfl (d_aR (d_lc h [("other", 4)] (by decide +kernel) (d_seq (d_sl (d_var h 1 rfl rfl rfl rfl) (s_pSome (d_add (d_var h 2 rfl rfl rfl rfl) d_int)) s_pNone)) (fun _ h1 => (d_gNm h1 4 rfl rfl rfl (by decide))) (fun _ h1 => s_tTrue) (fun _ h1 => (d_call h1 (fn_are_tied h1.hy) (by decide) rfl rfl (d_aL (d_var h1 0 rfl rfl rfl rfl) (d_aL (d_var h1 3 rfl rfl rfl rfl) (d_aL (d_var h1 4 rfl rfl rfl rfl) d_a0))) (arL (arL (arL ar0))) rfl))) d_r0))))
  (s_one (s_ret d_bl))
  s_nil)))
  (s_one (s_ret d_bl)))
/-! is_tied -/
abbrev st_is_tied : Stmt := topS 52
abbrev N_is_tied : List Str := [Str.ofString "board", Str.ofString "many", Str.ofString "thing", Str.ofString "own"]
abbrev L_is_tied : Nms := [(Str.ofString "board", NameKind.local), (Str.ofString "many", NameKind.local), (Str.ofString "thing", NameKind.local), (Str.ofString "own", NameKind.local), (Str.ofString "sure_board", NameKind.globalImplicit), (Str.ofString "sure", NameKind.globalImplicit), (Str.ofString "is_from", NameKind.globalImplicit), (Str.ofString "look_below", NameKind.globalImplicit), (Str.ofString "is_set", NameKind.globalImplicit), (Str.ofString "len", NameKind.globalImplicit), (Str.ofString "tied_all", NameKind.globalImplicit)]
theorem sc_is_tied : FnScope N_is_tied ["board", "many", "thing"] (defScope st_is_tied) := ⟨rfl, rfl, rfl, by decide +kernel, rfl, by decide +kernel, by decide +kernel⟩
def c_is_tied : SM :=
  (sSeq (sAsg 3 (eCall f_sure_board (lCons (eVar 0) lNil)))
  (sSeq (sExp (eCall f_sure (lCons (eCall f_is_from (lCons (eVar 1) (lCons (eCst (.int 0)) lNil))) lNil)))
  (sSeq (sFrz [3] (sExp (eCall f_look_below (lCons (eVar 3) lNil))))
  (sFrz [3] (sRet (eAnd (eCall f_is_set (lCons (eVar 2) (lCons (eB fLen (rCons (eVar 3) lNil)) lNil))) (eAnd (e2 (fB cEq) (eB fLen (rCons (eVar 2) lNil)) (eVar 1)) (eCall f_tied_all (lCons (eVar 3) (lCons (eVar 2) lNil))))))))))
def f_is_tied : FM := fBody 4 c_is_tied
theorem fn_is_tied {c : Cn} (g : Hy c) : Fn c 13 "is_tied" 3 f_is_tied := fn_bodyD (k := 12) g g.d_is_tied sc_is_tied rfl rfl fun X W h =>
  (s_seq (d_asg h 3 rfl rfl rfl (d_call h (fn_sure_board h.hy) (by decide) rfl rfl (d_aL (d_var h 0 rfl rfl rfl rfl) d_a0) (arL ar0) rfl))
  (s_seq (d_exp (d_call h (fn_sure h.hy) (by decide) rfl rfl (d_aL (d_call h (fn_is_from h.hy) (by decide) rfl rfl (d_aL (d_var h 1 rfl rfl rfl rfl) (d_aL d_int d_a0)) (arL (arL ar0)) rfl) d_a0) (arL ar0) rfl))
  (s_seq (s_sFrz [3] (d_exp (d_call h (fn_look_below h.hy) (by decide) rfl rfl (d_aL (d_var h 3 rfl rfl rfl rfl) d_a0) (arL ar0) rfl)))
  (s_one (s_sFrz [3] (s_ret (s_eAnd (d_call h (fn_is_set h.hy) (by decide) rfl rfl (d_aL (d_var h 2 rfl rfl rfl rfl) (d_aL (d_bi h h.b_len h.hy.b_len rfl (d_aR (d_var h 3 rfl rfl rfl rfl) d_r0)) d_a0)) (arL (arL ar0)) rfl) (s_eAnd (d_cmp h.m_eq (d_bi h h.b_len h.hy.b_len rfl (d_aR (d_var h 2 rfl rfl rfl rfl) d_r0)) (d_var h 1 rfl rfl rfl rfl) (nomark _)) (s_eOne (d_call h (fn_tied_all h.hy) (by decide) rfl rfl (d_aL (d_var h 3 rfl rfl rfl rfl) (d_aL (d_var h 2 rfl rfl rfl rfl) d_a0)) (arL (arL ar0)) rfl))))))))))
/-! _law_heard -/
abbrev st__law_heard : Stmt := topS 68
abbrev N__law_heard : List Str := [Str.ofString "board", Str.ofString "many", Str.ofString "thing", Str.ofString "found"]
abbrev L__law_heard : Nms := [(Str.ofString "board", NameKind.local), (Str.ofString "many", NameKind.local), (Str.ofString "thing", NameKind.local), (Str.ofString "found", NameKind.local), (Str.ofString "is_tied", NameKind.globalImplicit), (Str.ofString "CanNot", NameKind.globalImplicit)]
theorem sc__law_heard : FnScope N__law_heard ["board", "many", "thing"] (defScope st__law_heard) := ⟨rfl, rfl, rfl, by decide +kernel, rfl, by decide +kernel, by decide +kernel⟩
def c__law_heard : SM :=
  (sSeq (sAsg 3 (eCst .non))
  (sSeq (sTry KS
  (sAsg 3 (eCall f_is_tied (lCons (eVar 0) (lCons (eVar 1) (lCons (eVar 2) lNil)))))
  [("CanNot", (sAsg 3 (eCst (.str "CanNot"))))])
  (sRetV 3)))
def f__law_heard : FM := fBody 4 c__law_heard
theorem fn__law_heard {c : Cn} (g : Hy c) : Fn c 14 "_law_heard" 3 f__law_heard := fn_bodyD (k := 13) g g.d__law_heard sc__law_heard rfl rfl fun X W h =>
  (s_seq (d_asg h 3 rfl rfl rfl d_non)
  (s_seq (d_try h h.hy.xe (fun _ _ h1 => (s_one (d_asg h1 3 rfl rfl rfl (d_call h1 (fn_is_tied h1.hy) (by decide) rfl rfl (d_aL (d_var h1 0 rfl rfl rfl rfl) (d_aL (d_var h1 1 rfl rfl rfl rfl) (d_aL (d_var h1 2 rfl rfl rfl rfl) d_a0))) (arL (arL (arL ar0))) rfl)))) (Hd.cons (by decide) (h.gl rfl) rfl (h.hy.x_CanNot).mg (fun _ h2 => (s_one (q_asg h2 3 rfl rfl d_str))) Hd.nil))
  (s_one (d_retV h 3 rfl rfl rfl rfl))))
/-! _law_of -/
abbrev st__law_of : Stmt := topS 61
abbrev N__law_of : List Str := [Str.ofString "box", Str.ofString "pool_so"]
abbrev L__law_of : Nms := [(Str.ofString "box", NameKind.local), (Str.ofString "pool_so", NameKind.local), (Str.ofString "_law_take", NameKind.globalImplicit), (Str.ofString "len", NameKind.globalImplicit)]
theorem sc__law_of : FnScope N__law_of ["box", "pool_so"] (defScope st__law_of) := ⟨rfl, rfl, rfl, by decide +kernel, rfl, by decide +kernel, by decide +kernel⟩
def c__law_of : SM :=
  (sRet (eIdxN (eVar 1) (eCall f__law_take (lCons (eVar 0) (lCons (eB fLen (rCons (eVar 1) lNil)) lNil)))))
def f__law_of : FM := fBody 2 c__law_of
theorem fn__law_of {c : Cn} (g : Hy c) : Fn c 4 "_law_of" 2 f__law_of := fn_bodyD (k := 3) g g.d__law_of sc__law_of rfl rfl fun X W h =>
  (s_one (s_ret (d_idxN (d_var h 1 rfl rfl rfl rfl) (d_call h (fn__law_take h.hy) (by decide) rfl rfl (d_aL (d_var h 0 rfl rfl rfl rfl) (d_aL (d_bi h h.b_len h.hy.b_len rfl (d_aR (d_var h 1 rfl rfl rfl rfl) d_r0)) d_a0)) (arL (arL ar0)) rfl))))
/-! _law_laying -/
abbrev st__law_laying : Stmt := topS 64
abbrev N__law_laying : List Str := [Str.ofString "box", Str.ofString "board", Str.ofString "found", Str.ofString "length", Str.ofString "free", Str.ofString "column"]
abbrev L__law_laying : Nms := [(Str.ofString "box", NameKind.local), (Str.ofString "board", NameKind.local), (Str.ofString "found", NameKind.cell), (Str.ofString "length", NameKind.local), (Str.ofString "free", NameKind.local), (Str.ofString "range", NameKind.globalImplicit), (Str.ofString "_law_of", NameKind.globalImplicit)]
theorem sc__law_laying : FnScope N__law_laying ["box", "board"] (defScope st__law_laying) := ⟨rfl, rfl, rfl, by decide +kernel, rfl, by decide +kernel, by decide +kernel⟩
def c__law_laying : SM :=
  (sSeq (sAsg 2 (eTup lNil))
  (sSeq (sFor (itSeq (eVar 1)) (gNm 3)
  (sSeq (sAsg 4 (eComp [5] (itRng (rCons (eCst (.int 1)) (rCons (e2 fAdd (eVar 3) (eCst (.int 1))) lNil))) (gNm 5) (tVal (e2 (fB cNotIn) (eVar 5) (eVar 2))) (eVar 5)))
  (sAsg 2 (e2 fAdd (eVar 2) (eTup (lCons (eCall f__law_of (lCons (eVar 0) (lCons (e2 fAdd (eLst (lCons (eCst (.int 0)) lNil)) (eVar 4)) lNil))) lNil))))))
  (sRetV 2)))
def f__law_laying : FM := fBody 6 c__law_laying
theorem fn__law_laying {c : Cn} (g : Hy c) : Fn c 5 "_law_laying" 2 f__law_laying := fn_bodyD (k := 4) g g.d__law_laying sc__law_laying rfl rfl fun X W h =>
  (s_seq (d_asg h 2 rfl rfl rfl (d_tup d_a0))
  (s_seq (d_for h (vs := [3]) (d_seq (d_var h 1 rfl rfl rfl rfl)) (d_gNm h 3 rfl rfl rfl (by decide))
  (s_seq (d_setLc h 4 [("column", 5)] (by decide +kernel) (d_rng2 h h.hy.b_range rfl (d_aR d_int (d_aR (d_add (d_var h 3 rfl rfl rfl rfl) d_int) d_r0)) (arR (arR ar0))) (fun _ h1 => (d_gNm h1 5 rfl rfl rfl (by decide))) (fun _ h1 => (s_tIf (d_tcmp h1.m_notIn (d_var h1 5 rfl rfl rfl rfl) (d_var h1 2 rfl rfl rfl rfl) rfl))) (fun _ h1 => (d_var h1 5 rfl rfl rfl rfl)) rfl rfl rfl rfl)
  (s_one (d_asg h 2 rfl rfl rfl (d_add (d_var h 2 rfl rfl rfl rfl) (d_tup (d_aL (d_call h (fn__law_of h.hy) (by decide) rfl rfl (d_aL (d_var h 0 rfl rfl rfl rfl) (d_aL (d_add (d_lst (d_aL d_int d_a0)) (d_var h 4 rfl rfl rfl rfl)) d_a0)) (arL (arL ar0)) rfl) d_a0)))))))
  (s_one (d_retV h 2 rfl rfl rfl rfl))))
/-! _law_pick -/
abbrev st__law_pick : Stmt := topS 62
abbrev N__law_pick : List Str := [Str.ofString "box", Str.ofString "goods_so", Str.ofString "count_so", Str.ofString "pool_so", Str.ofString "found", Str.ofString "turn"]
abbrev L__law_pick : Nms := [(Str.ofString "box", NameKind.local), (Str.ofString "goods_so", NameKind.local), (Str.ofString "count_so", NameKind.local), (Str.ofString "pool_so", NameKind.local), (Str.ofString "found", NameKind.local), (Str.ofString "turn", NameKind.local), (Str.ofString "list", NameKind.globalImplicit), (Str.ofString "range", NameKind.globalImplicit), (Str.ofString "min", NameKind.globalImplicit), (Str.ofString "int", NameKind.globalImplicit), (Str.ofString "len", NameKind.globalImplicit), (Str.ofString "_law_take", NameKind.globalImplicit)]
theorem sc__law_pick : FnScope N__law_pick ["box", "goods_so", "count_so"] (defScope st__law_pick) := ⟨rfl, rfl, rfl, by decide +kernel, rfl, by decide +kernel, by decide +kernel⟩
def c__law_pick : SM :=
  (sSeq (sPar2 3 4 (eB (f1 gList) (rCons (eVar 1) lNil)) (eLst lNil))
  (sSeq (sFor (itRng (rCons (eB (f2 gMin2) (rCons (eB (f1 gInt) (rCons (eVar 2) lNil)) (rCons (eB fLen (rCons (eVar 3) lNil)) lNil))) lNil)) (gNm 5)
  (sPick 4 3 (eCall f__law_take (lCons (eVar 0) (lCons (eB fLen (rCons (eVar 3) lNil)) lNil)))))
  (sRetV 4)))
def f__law_pick : FM := fBody 6 c__law_pick
theorem fn__law_pick {c : Cn} (g : Hy c) : Fn c 4 "_law_pick" 3 f__law_pick := fn_bodyD (k := 3) g g.d__law_pick sc__law_pick rfl rfl fun X W h =>
  (s_seq (d_par2 h 3 4 (d_bi h h.b_list h.hy.b_list rfl (d_aR (d_var h 1 rfl rfl rfl rfl) d_r0)) (d_lst d_a0) rfl rfl (by decide) rfl rfl)
  (s_seq (d_for h (vs := [5]) (d_rng1 h h.hy.b_range rfl (d_aR (d_bi h h.b_min2 h.hy.b_min rfl (d_aR (d_bi h h.b_int h.hy.b_int rfl (d_aR (d_var h 2 rfl rfl rfl rfl) d_r0)) (d_aR (d_bi h h.b_len h.hy.b_len rfl (d_aR (d_var h 3 rfl rfl rfl rfl) d_r0)) d_r0))) d_r0) (arR ar0)) (d_gNm h 5 rfl rfl rfl (by decide))
  (s_one (s_pick (h.ix rfl) (h.vis rfl) rfl rfl (h.ix rfl) (h.vis rfl) rfl rfl (d_call h (fn__law_take h.hy) (by decide) rfl rfl (d_aL (d_var h 0 rfl rfl rfl rfl) (d_aL (d_bi h h.b_len h.hy.b_len rfl (d_aR (d_var h 3 rfl rfl rfl rfl) d_r0)) d_a0)) (arL (arL ar0)) rfl))))
  (s_one (d_retV h 4 rfl rfl rfl rfl))))
/-! _law_same -/
abbrev st__law_same : Stmt := topS 60
abbrev N__law_same : List Str := [Str.ofString "got", Str.ofString "due", Str.ofString "mine", Str.ofString "its"]
abbrev L__law_same : Nms := [(Str.ofString "got", NameKind.local), (Str.ofString "due", NameKind.local), (Str.ofString "isinstance", NameKind.globalImplicit), (Str.ofString "list", NameKind.globalImplicit), (Str.ofString "tuple", NameKind.globalImplicit), (Str.ofString "len", NameKind.globalImplicit), (Str.ofString "all", NameKind.globalImplicit), (Str.ofString "zip", NameKind.globalImplicit), (Str.ofString "bool", NameKind.globalImplicit), (Str.ofString "str", NameKind.globalImplicit), (Str.ofString "int", NameKind.globalImplicit)]
theorem sc__law_same : FnScope N__law_same ["got", "due"] (defScope st__law_same) := ⟨rfl, rfl, rfl, by decide +kernel, rfl, by decide +kernel, by decide +kernel⟩
def c__law_same (rec : FM) : SM :=
  (sSeq (sIf (tVal (eIsi ["list", "tuple"] (eVar 1)))
  (sSeq (sIf (tOr_ (tVal (e2 (fB cNe) (eIsi ["list"] (eVar 0)) (eIsi ["list"] (eVar 1)))) (tVal (e2 (fB cNe) (eIsi ["tuple"] (eVar 0)) (eIsi ["tuple"] (eVar 1)))))
  (sRet (eCst (.bl false)))
  sNext)
  (sRet (eAnd (e2 (fB cEq) (eB fLen (rCons (eVar 0) lNil)) (eB fLen (rCons (eVar 1) lNil))) (eB (f1 gAll) (rCons (eComp [2, 3] (itZip (lCons (eVar 0) (lCons (eVar 1) lNil))) (gTp [(gNm 2), (gNm 3)]) tTrue (eCall rec (lCons (eVar 2) (lCons (eVar 3) lNil)))) lNil)))))
  sNext)
  (sSeq (sIf (tOr_ (tVal (e2 (fB cIsN) (eVar 1) (eCst .non))) (tVal (eIsi ["bool", "str"] (eVar 1))))
  (sRet (eAnd (e2 (fB cEq) (eVar 0) (eVar 1)) (eAnd (e2 (fB cEq) (eIsi ["bool"] (eVar 0)) (eIsi ["bool"] (eVar 1))) (e2 (fB cEq) (e2 (fB cIsN) (eVar 0) (eCst .non)) (e2 (fB cIsN) (eVar 1) (eCst .non))))))
  sNext)
  (sRet (eAnd (eIsi ["int"] (eVar 0)) (eAnd (eNot (eIsi ["bool"] (eVar 0))) (e2 (fB cEq) (eVar 0) (eVar 1)))))))
def f__law_same : Nat → FM
  | 0 => fun _ _ => .bad
  | n + 1 => fBody 4 (c__law_same (f__law_same n))
theorem fn__law_same {c : Cn} (g : Hy c) : ∀ n : Nat, Fn c (n + 3) "_law_same" 2 (f__law_same n)
  | 0 => fn_bad (k := 2) g g.d__law_same sc__law_same rfl rfl
  | n + 1 => fn_bodyD (k := n + 3) g g.d__law_same sc__law_same rfl rfl fun X W h => by
    have hrec : ∀ c, Hy c → Fn c (n + 3) "_law_same" 2 (f__law_same n) := fun c g => fn__law_same g n
    exact (s_seq (s_if (d_tval (d_isiT h (d_var h 1 rfl rfl rfl rfl) (d_tn h kt_list h.hy.b_list rfl (by decide +kernel) (d_tn h kt_tuple h.hy.b_tuple rfl (by decide +kernel) d_tn0)) (by first | omega | decide) h.hy.b_isinstance rfl))
  (s_seq (s_if (PW.pt (s_tOr (d_tcmp h.m_ne (d_isi1 h (d_var h 0 rfl rfl rfl rfl) kt_list h.hy.b_isinstance rfl h.hy.b_list rfl (by decide +kernel)) (d_isi1 h (d_var h 1 rfl rfl rfl rfl) kt_list h.hy.b_isinstance rfl h.hy.b_list rfl (by decide +kernel)) (nomark _)) (s_tOr1 (d_tcmp h.m_ne (d_isi1 h (d_var h 0 rfl rfl rfl rfl) kt_tuple h.hy.b_isinstance rfl h.hy.b_tuple rfl (by decide +kernel)) (d_isi1 h (d_var h 1 rfl rfl rfl rfl) kt_tuple h.hy.b_isinstance rfl h.hy.b_tuple rfl (by decide +kernel)) (nomark _)))))
  (s_one (s_ret d_bl))
  s_nil)
  (s_one (s_ret (s_eAnd (d_cmp h.m_eq (d_bi h h.b_len h.hy.b_len rfl (d_aR (d_var h 0 rfl rfl rfl rfl) d_r0)) (d_bi h h.b_len h.hy.b_len rfl (d_aR (d_var h 1 rfl rfl rfl rfl) d_r0)) (nomark _)) (s_eOne (d_bi h h.b_all h.hy.b_all rfl (d_aR (d_lc h [("mine", 2), ("its", 3)] (by decide +kernel) (d_zip h h.hy.b_zip rfl (d_aL (d_var h 0 rfl rfl rfl rfl) (d_aL (d_var h 1 rfl rfl rfl rfl) d_a0)) (arL (arL ar0))) (fun _ h1 => (d_gT h1 (d_gC (d_gNm h1 2 rfl rfl rfl (by first | omega | decide)) (d_gC (d_gNm h1 3 rfl rfl rfl (by first | omega | decide)) d_g0)) rfl)) (fun _ h1 => s_tTrue) (fun _ h1 => (d_call h1 (hrec _ h1.hy) (by first | omega | decide) rfl rfl (d_aL (d_var h1 2 rfl rfl rfl rfl) (d_aL (d_var h1 3 rfl rfl rfl rfl) d_a0)) (arL (arL ar0)) rfl))) d_r0)))))))
  s_nil)
  (s_seq (s_if (PW.pt (s_tOr (d_tcmp h.m_is (d_var h 1 rfl rfl rfl rfl) d_non (nomark _)) (s_tOr1 (d_tval (d_isiT h (d_var h 1 rfl rfl rfl rfl) (d_tn h kt_bool h.hy.b_bool rfl (by decide +kernel) (d_tn h kt_str h.hy.b_str rfl (by decide +kernel) d_tn0)) (by first | omega | decide) h.hy.b_isinstance rfl)))))
  (s_one (s_ret (s_eAnd (d_cmp h.m_eq (d_var h 0 rfl rfl rfl rfl) (d_var h 1 rfl rfl rfl rfl) (nomark _)) (s_eAnd (d_cmp h.m_eq (d_isi1 h (d_var h 0 rfl rfl rfl rfl) kt_bool h.hy.b_isinstance rfl h.hy.b_bool rfl (by decide +kernel)) (d_isi1 h (d_var h 1 rfl rfl rfl rfl) kt_bool h.hy.b_isinstance rfl h.hy.b_bool rfl (by decide +kernel)) (nomark _)) (s_eOne (d_cmp h.m_eq (d_cmp h.m_is (d_var h 0 rfl rfl rfl rfl) d_non (nomark _)) (d_cmp h.m_is (d_var h 1 rfl rfl rfl rfl) d_non (nomark _)) (nomark _)))))))
  s_nil)
  (s_one (s_ret (s_eAnd (d_isi1 h (d_var h 0 rfl rfl rfl rfl) kt_int h.hy.b_isinstance rfl h.hy.b_int rfl (by decide +kernel)) (s_eAnd (s_eNot (d_isi1 h (d_var h 0 rfl rfl rfl rfl) kt_bool h.hy.b_isinstance rfl h.hy.b_bool rfl (by decide +kernel))) (s_eOne (d_cmp h.m_eq (d_var h 0 rfl rfl rfl rfl) (d_var h 1 rfl rfl rfl rfl) (nomark _)))))))))
/-! _law_sets -/
abbrev st__law_sets : Stmt := topS 67
abbrev N__law_sets : List Str := [Str.ofString "some", Str.ofString "found", Str.ofString "own", Str.ofString "row"]
abbrev L__law_sets : Nms := [(Str.ofString "some", NameKind.local), (Str.ofString "found", NameKind.local), (Str.ofString "own", NameKind.cell)]
theorem sc__law_sets : FnScope N__law_sets ["some"] (defScope st__law_sets) := ⟨rfl, rfl, rfl, by decide +kernel, rfl, by decide +kernel, by decide +kernel⟩
def c__law_sets : SM :=
  (sSeq (sAsg 1 (eLst (lCons (eTup lNil) lNil)))
  (sSeq (sFor (itSeq (eVar 0)) (gNm 2)
  (sFrz [1] (sAsg 1 (e2 fAdd (eVar 1) (eComp [3] (itSeq (eVar 1)) (gNm 3) tTrue (e2 fAdd (eVar 3) (eTup (lCons (eVar 2) lNil))))))))
  (sRetV 1)))
def f__law_sets : FM := fBody 4 c__law_sets
theorem fn__law_sets {c : Cn} (g : Hy c) : Fn c 3 "_law_sets" 1 f__law_sets := fn_bodyD (k := 2) g g.d__law_sets sc__law_sets rfl rfl fun X W h =>
  (s_seq (d_asg h 1 rfl rfl rfl (d_lst (d_aL (d_tup d_a0) d_a0)))
  (s_seq (d_for h (vs := [2]) (d_seq (d_var h 0 rfl rfl rfl rfl)) (d_gNm h 2 rfl rfl rfl (by decide))
  (s_one (s_sFrz [1] (d_asg h 1 rfl rfl rfl (d_add (d_var h 1 rfl rfl rfl rfl) (d_lc h [("row", 3)] (by decide +kernel) (d_seq (d_var h 1 rfl rfl rfl rfl)) (fun _ h1 => (d_gNm h1 3 rfl rfl rfl (by decide))) (fun _ h1 => s_tTrue) (fun _ h1 => (d_add (d_var h1 3 rfl rfl rfl rfl) (d_tup (d_aL (d_var h1 2 rfl rfl rfl rfl) d_a0))))))))))
  (s_one (d_retV h 1 rfl rfl rfl rfl))))
/-! _law_told -/
abbrev st__law_told : Stmt := topS 66
abbrev N__law_told : List Str := [Str.ofString "board", Str.ofString "k", Str.ofString "length"]
abbrev L__law_told : Nms := [(Str.ofString "board", NameKind.local), (Str.ofString "tuple", NameKind.globalImplicit), (Str.ofString "sorted", NameKind.globalImplicit), (Str.ofString "enumerate", NameKind.globalImplicit)]
theorem sc__law_told : FnScope N__law_told ["board"] (defScope st__law_told) := ⟨rfl, rfl, rfl, by decide +kernel, rfl, by decide +kernel, by decide +kernel⟩
def c__law_told : SM :=
  (sRet (eB (f1 gTuple) (rCons (eB (f1 gSortI) (rCons (eComp [1, 2] (itEnum (lCons (eVar 0) lNil)) (gTp [(gNm 1), (gNm 2)]) tTrue (e2 fSub (eVar 2) (eVar 1))) lNil)) lNil)))
def f__law_told : FM := fBody 3 c__law_told
theorem fn__law_told {c : Cn} (g : Hy c) : Fn c 3 "_law_told" 1 f__law_told := fn_bodyD (k := 2) g g.d__law_told sc__law_told rfl rfl fun X W h =>
  (s_one (s_ret (d_bi h h.b_tuple h.hy.b_tuple rfl (d_aR (d_bi h h.b_sorted h.hy.b_sorted rfl (d_aR (d_lc h [("k", 1), ("length", 2)] (by decide +kernel) (d_enum h h.hy.b_enumerate rfl (d_aL (d_var h 0 rfl rfl rfl rfl) d_a0) (arL ar0)) (fun _ h1 => (d_gT h1 (d_gC (d_gNm h1 1 rfl rfl rfl (by decide)) (d_gC (d_gNm h1 2 rfl rfl rfl (by decide)) d_g0)) rfl)) (fun _ h1 => s_tTrue) (fun _ h1 => (d_sub (d_var h1 2 rfl rfl rfl rfl) (d_var h1 1 rfl rfl rfl rfl)))) d_r0)) d_r0))))
/-! allowed -/
abbrev st_allowed : Stmt := topS 36
abbrev N_allowed : List Str := [Str.ofString "board", Str.ofString "turn", Str.ofString "row", Str.ofString "column", Str.ofString "size", Str.ofString "ahead", Str.ofString "window", Str.ofString "behind", Str.ofString "length"]
abbrev L_allowed : Nms := [(Str.ofString "board", NameKind.local), (Str.ofString "turn", NameKind.local), (Str.ofString "row", NameKind.local), (Str.ofString "column", NameKind.cell), (Str.ofString "size", NameKind.cell), (Str.ofString "ahead", NameKind.local), (Str.ofString "window", NameKind.local), (Str.ofString "behind", NameKind.local), (Str.ofString "LEAST_SIZE", NameKind.globalImplicit), (Str.ofString "len", NameKind.globalImplicit), (Str.ofString "all", NameKind.globalImplicit)]
theorem sc_allowed : FnScope N_allowed ["board", "turn"] (defScope st_allowed) := ⟨rfl, rfl, rfl, by decide +kernel, rfl, by decide +kernel, by decide +kernel⟩
def c_allowed : SM :=
  (sSeq (sAsgT (gTp [(gNm 2), (gNm 3), (gNm 4)]) (eVar 1))
  (sSeq (sIf (tOr_ (tVal (e2 (fB cLt) (eVar 2) (eCst (.int 1)))) (tOr_ (tVal (e2 (fB cLt) (eVar 3) (eCst (.int 0)))) (tOr_ (tVal (e2 (fB cLt) (eVar 4) (eCst (.int 2)))) (tVal (e2 (fB cGt) (e2 fSub (e2 fAdd (eVar 2) (eVar 4)) (eCst (.int 1))) (eB fLen (rCons (eVar 0) lNil)))))))
  (sRet (eCst (.bl false)))
  sNext)
  (sSeq (sPar3 5 6 7 (eSl (eVar 0) none (some (e2 fSub (eVar 2) (eCst (.int 1))))) (eSl (eVar 0) (some (e2 fSub (eVar 2) (eCst (.int 1)))) (some (e2 fSub (e2 fAdd (eVar 2) (eVar 4)) (eCst (.int 1))))) (eSl (eVar 0) (some (e2 fSub (e2 fAdd (eVar 2) (eVar 4)) (eCst (.int 1)))) none))
  (sSeq (sFrz [5, 7] (sIf (tOr_ (tNot_ (tVal (eB (f1 gAll) (rCons (eComp [8] (itSeq (eVar 5)) (gNm 8) tTrue (e2 (fB cLe) (eVar 8) (eVar 3))) lNil)))) (tNot_ (tVal (eB (f1 gAll) (rCons (eComp [8] (itSeq (eVar 7)) (gNm 8) tTrue (e2 (fB cGe) (eVar 8) (e2 fAdd (eVar 3) (eVar 4)))) lNil)))))
  (sRet (eCst (.bl false)))
  sNext))
  (sRet (eAnd (e2 (fB cGe) (eIdxN (eVar 6) (eCst (.int 0))) (eVar 3)) (e2 (fB cLe) (eIdxN (eVar 6) (e1 fNeg (eCst (.int 1)))) (e2 fAdd (eVar 3) (eVar 4)))))))))
def f_allowed : FM := fBody 9 c_allowed
theorem fn_allowed {c : Cn} (g : Hy c) : Fn c 3 "allowed" 2 f_allowed := fn_bodyD (k := 2) g g.d_allowed sc_allowed rfl rfl fun X W h =>
  (s_seq (d_asgT h (vs := [2, 3, 4]) (d_var h 1 rfl rfl rfl rfl) (d_gT h (d_gC (d_gNm h 2 rfl rfl rfl (by decide)) (d_gC (d_gNm h 3 rfl rfl rfl (by decide)) (d_gC (d_gNm h 4 rfl rfl rfl (by decide)) d_g0))) rfl))
  (s_seq (s_if (PW.pt (s_tOr (d_tcmp h.m_lt (d_var h 2 rfl rfl rfl rfl) d_int (nomark _)) (s_tOr (d_tcmp h.m_lt (d_var h 3 rfl rfl rfl rfl) d_int (nomark _)) (s_tOr (d_tcmp h.m_lt (d_var h 4 rfl rfl rfl rfl) (d_glob h h.hy.g_LEAST_SIZE rfl rfl) (nomark _)) (s_tOr1 (d_tcmp h.m_gt (d_sub (d_add (d_var h 2 rfl rfl rfl rfl) (d_var h 4 rfl rfl rfl rfl)) d_int) (d_bi h h.b_len h.hy.b_len rfl (d_aR (d_var h 0 rfl rfl rfl rfl) d_r0)) (nomark _)))))))
  (s_one (s_ret d_bl))
  s_nil)
  (s_seq (d_par3 h 5 6 7 (d_sl (d_var h 0 rfl rfl rfl rfl) s_pNone (s_pSome (d_sub (d_var h 2 rfl rfl rfl rfl) d_int))) (d_sl (d_var h 0 rfl rfl rfl rfl) (s_pSome (d_sub (d_var h 2 rfl rfl rfl rfl) d_int)) (s_pSome (d_sub (d_add (d_var h 2 rfl rfl rfl rfl) (d_var h 4 rfl rfl rfl rfl)) d_int))) (d_sl (d_var h 0 rfl rfl rfl rfl) (s_pSome (d_sub (d_add (d_var h 2 rfl rfl rfl rfl) (d_var h 4 rfl rfl rfl rfl)) d_int)) s_pNone) rfl rfl rfl (by decide) (by decide) (by decide) rfl rfl rfl)
  (s_seq (s_sFrz [5, 7] (s_if (PW.pt (s_tOr (s_tNot (d_tval (d_bi h h.b_all h.hy.b_all rfl (d_aR (d_lc h [("length", 8)] (by decide +kernel) (d_seq (d_var h 5 rfl rfl rfl rfl)) (fun _ h1 => (d_gNm h1 8 rfl rfl rfl (by decide))) (fun _ h1 => s_tTrue) (fun _ h1 => (d_cmp h1.m_le (d_var h1 8 rfl rfl rfl rfl) (d_var h1 3 rfl rfl rfl rfl) (nomark _)))) d_r0)))) (s_tOr1 (s_tNot (d_tval (d_bi h h.b_all h.hy.b_all rfl (d_aR (d_lc h [("length", 8)] (by decide +kernel) (d_seq (d_var h 7 rfl rfl rfl rfl)) (fun _ h2 => (d_gNm h2 8 rfl rfl rfl (by decide))) (fun _ h2 => s_tTrue) (fun _ h2 => (d_cmp h2.m_ge (d_var h2 8 rfl rfl rfl rfl) (d_add (d_var h2 3 rfl rfl rfl rfl) (d_var h2 4 rfl rfl rfl rfl)) (nomark _)))) d_r0)))))))
  (s_one (s_ret d_bl))
  s_nil))
  (s_one (s_ret (s_eAnd (d_cmp h.m_ge (d_idxN (d_var h 6 rfl rfl rfl rfl) d_int) (d_var h 3 rfl rfl rfl rfl) (nomark _)) (s_eOne (d_cmp h.m_le (d_idxN (d_var h 6 rfl rfl rfl rfl) (d_neg d_int)) (d_add (d_var h 3 rfl rfl rfl rfl) (d_var h 4 rfl rfl rfl rfl)) (nomark _))))))))))
/-! all_turns -/
abbrev st_all_turns : Stmt := topS 39
abbrev N_all_turns : List Str := [Str.ofString "board", Str.ofString "own", Str.ofString "found", Str.ofString "row", Str.ofString "column", Str.ofString "size"]
abbrev L_all_turns : Nms := [(Str.ofString "board", NameKind.local), (Str.ofString "own", NameKind.local), (Str.ofString "found", NameKind.local), (Str.ofString "row", NameKind.local), (Str.ofString "column", NameKind.local), (Str.ofString "size", NameKind.local), (Str.ofString "sure_board", NameKind.globalImplicit), (Str.ofString "range", NameKind.globalImplicit), (Str.ofString "len", NameKind.globalImplicit), (Str.ofString "LEAST_SIZE", NameKind.globalImplicit), (Str.ofString "allowed", NameKind.globalImplicit)]
theorem sc_all_turns : FnScope N_all_turns ["board"] (defScope st_all_turns) := ⟨rfl, rfl, rfl, by decide +kernel, rfl, by decide +kernel, by decide +kernel⟩
def c_all_turns : SM :=
  (sSeq (sPar2 1 2 (eCall f_sure_board (lCons (eVar 0) lNil)) (eLst lNil))
  (sSeq (sFor (itRng (rCons (eCst (.int 1)) (rCons (eB fLen (rCons (eVar 1) lNil)) lNil))) (gNm 3)
  (sFor (itRng (rCons (e2 fAdd (eIdxN (eVar 1) (e2 fSub (eVar 3) (eCst (.int 1)))) (eCst (.int 1))) lNil)) (gNm 4)
  (sFor (itRng (rCons (eCst (.int 2)) (rCons (e2 fAdd (e2 fSub (eB fLen (rCons (eVar 1) lNil)) (eVar 3)) (eCst (.int 2))) lNil))) (gNm 5)
  (sFrz [1] (sIf (tVal (eCall f_allowed (lCons (eVar 1) (lCons (eTup (lCons (eVar 3) (lCons (eVar 4) (lCons (eVar 5) lNil)))) lNil))))
  (sApp 2 (eTup (lCons (eVar 3) (lCons (eVar 4) (lCons (eVar 5) lNil)))))
  sNext)))))
  (sRetV 2)))
def f_all_turns : FM := fBody 6 c_all_turns
theorem fn_all_turns {c : Cn} (g : Hy c) : Fn c 13 "all_turns" 1 f_all_turns := fn_bodyD (k := 12) g g.d_all_turns sc_all_turns rfl rfl fun X W h =>
  (s_seq (d_par2 h 1 2 (d_call h (fn_sure_board h.hy) (by decide) rfl rfl (d_aL (d_var h 0 rfl rfl rfl rfl) d_a0) (arL ar0) rfl) (d_lst d_a0) rfl rfl (by decide) rfl rfl)
  (s_seq (d_for h (vs := [3]) (d_rng2 h h.hy.b_range rfl (d_aR d_int (d_aR (d_bi h h.b_len h.hy.b_len rfl (d_aR (d_var h 1 rfl rfl rfl rfl) d_r0)) d_r0)) (arR (arR ar0))) (d_gNm h 3 rfl rfl rfl (by decide))
  (s_one (d_for h (vs := [4]) (d_rng1 h h.hy.b_range rfl (d_aR (d_add (d_idxN (d_var h 1 rfl rfl rfl rfl) (d_sub (d_var h 3 rfl rfl rfl rfl) d_int)) d_int) d_r0) (arR ar0)) (d_gNm h 4 rfl rfl rfl (by decide))
  (s_one (d_for h (vs := [5]) (d_rng2 h h.hy.b_range rfl (d_aR (d_glob h h.hy.g_LEAST_SIZE rfl rfl) (d_aR (d_add (d_sub (d_bi h h.b_len h.hy.b_len rfl (d_aR (d_var h 1 rfl rfl rfl rfl) d_r0)) (d_var h 3 rfl rfl rfl rfl)) d_int) d_r0)) (arR (arR ar0))) (d_gNm h 5 rfl rfl rfl (by decide))
  (s_one (s_sFrz [1] (s_if (d_tval (d_call h (fn_allowed h.hy) (by decide) rfl rfl (d_aL (d_var h 1 rfl rfl rfl rfl) (d_aL (d_tup (d_aL (d_var h 3 rfl rfl rfl rfl) (d_aL (d_var h 4 rfl rfl rfl rfl) (d_aL (d_var h 5 rfl rfl rfl rfl) d_a0)))) d_a0)) (arL (arL ar0)) rfl))
  (s_one (d_app h 2 rfl rfl rfl rfl (d_tup (d_aL (d_var h 3 rfl rfl rfl rfl) (d_aL (d_var h 4 rfl rfl rfl rfl) (d_aL (d_var h 5 rfl rfl rfl rfl) d_a0))))))
  s_nil))))))))
  (s_one (d_retV h 2 rfl rfl rfl rfl))))
/-! made_shifts -/
abbrev st_made_shifts : Stmt := topS 31
abbrev N_made_shifts : List Str := [Str.ofString "board", Str.ofString "k", Str.ofString "length"]
abbrev L_made_shifts : Nms := [(Str.ofString "board", NameKind.local), (Str.ofString "tuple", NameKind.globalImplicit), (Str.ofString "enumerate", NameKind.globalImplicit)]
theorem sc_made_shifts : FnScope N_made_shifts ["board"] (defScope st_made_shifts) := ⟨rfl, rfl, rfl, by decide +kernel, rfl, by decide +kernel, by decide +kernel⟩
def c_made_shifts : SM :=
  (sRet (eB (f1 gTuple) (rCons (eComp [1, 2] (itEnum (lCons (eVar 0) lNil)) (gTp [(gNm 1), (gNm 2)]) tTrue (e2 fSub (eVar 2) (eVar 1))) lNil)))
def f_made_shifts : FM := fBody 3 c_made_shifts
theorem fn_made_shifts {c : Cn} (g : Hy c) : Fn c 3 "made_shifts" 1 f_made_shifts := fn_bodyD (k := 2) g g.d_made_shifts sc_made_shifts rfl rfl fun X W h =>
  (s_one (s_ret (d_bi h h.b_tuple h.hy.b_tuple rfl (d_aR (d_lc h [("k", 1), ("length", 2)] (by decide +kernel) (d_enum h h.hy.b_enumerate rfl (d_aL (d_var h 0 rfl rfl rfl rfl) d_a0) (arL ar0)) (fun _ h1 => (d_gT h1 (d_gC (d_gNm h1 1 rfl rfl rfl (by decide)) (d_gC (d_gNm h1 2 rfl rfl rfl (by decide)) d_g0)) rfl)) (fun _ h1 => s_tTrue) (fun _ h1 => (d_sub (d_var h1 2 rfl rfl rfl rfl) (d_var h1 1 rfl rfl rfl rfl)))) d_r0))))
/-! made_told -/
abbrev st_made_told : Stmt := topS 32
abbrev N_made_told : List Str := [Str.ofString "board"]
abbrev L_made_told : Nms := [(Str.ofString "board", NameKind.local), (Str.ofString "tuple", NameKind.globalImplicit), (Str.ofString "sorted", NameKind.globalImplicit), (Str.ofString "made_shifts", NameKind.globalImplicit)]
theorem sc_made_told : FnScope N_made_told ["board"] (defScope st_made_told) := ⟨rfl, rfl, rfl, by decide +kernel, rfl, by decide +kernel, by decide +kernel⟩
def c_made_told : SM :=
  (sRet (eB (f1 gTuple) (rCons (eB (f1 gSortI) (rCons (eCall f_made_shifts (lCons (eVar 0) lNil)) lNil)) lNil)))
def f_made_told : FM := fBody 1 c_made_told
theorem fn_made_told {c : Cn} (g : Hy c) : Fn c 4 "made_told" 1 f_made_told := fn_bodyD (k := 3) g g.d_made_told sc_made_told rfl rfl fun X W h =>
  (s_one (s_ret (d_bi h h.b_tuple h.hy.b_tuple rfl (d_aR (d_bi h h.b_sorted h.hy.b_sorted rfl (d_aR (d_call h (fn_made_shifts h.hy) (by decide) rfl rfl (d_aL (d_var h 0 rfl rfl rfl rfl) d_a0) (arL ar0) rfl) d_r0)) d_r0))))
/-! is_between -/
abbrev st_is_between : Stmt := topS 5
abbrev N_is_between : List Str := [Str.ofString "thing", Str.ofString "least", Str.ofString "most"]
abbrev L_is_between : Nms := [(Str.ofString "thing", NameKind.local), (Str.ofString "least", NameKind.local), (Str.ofString "most", NameKind.local), (Str.ofString "is_number", NameKind.globalImplicit)]
theorem sc_is_between : FnScope N_is_between ["thing", "least", "most"] (defScope st_is_between) := ⟨rfl, rfl, rfl, by decide +kernel, rfl, by decide +kernel, by decide +kernel⟩
def c_is_between : SM :=
  (sRet (eAnd (eCall f_is_number (lCons (eVar 0) lNil)) (eChain cLe cLe (eVar 1) (eVar 0) (eVar 2))))
def f_is_between : FM := fBody 3 c_is_between
theorem fn_is_between {c : Cn} (g : Hy c) : Fn c 4 "is_between" 3 f_is_between := fn_bodyD (k := 3) g g.d_is_between sc_is_between rfl rfl fun X W h =>
  (s_one (s_ret (s_eAnd (d_call h (fn_is_number h.hy) (by decide) rfl rfl (d_aL (d_var h 0 rfl rfl rfl rfl) d_a0) (arL ar0) rfl) (s_eOne (d_chain h.m_le h.m_le (d_var h 1 rfl rfl rfl rfl) (d_var h 0 rfl rfl rfl rfl) (d_var h 2 rfl rfl rfl rfl) (by with_unfolding_all rfl))))))
/-! are_numbers -/
abbrev st_are_numbers : Stmt := topS 29
abbrev N_are_numbers : List Str := [Str.ofString "thing", Str.ofString "own"]
abbrev L_are_numbers : Nms := [(Str.ofString "thing", NameKind.local), (Str.ofString "isinstance", NameKind.globalImplicit), (Str.ofString "tuple", NameKind.globalImplicit), (Str.ofString "len", NameKind.globalImplicit), (Str.ofString "MOST_NUMBERS", NameKind.globalImplicit), (Str.ofString "all", NameKind.globalImplicit)]
theorem sc_are_numbers : FnScope N_are_numbers ["thing"] (defScope st_are_numbers) := ⟨rfl, rfl, rfl, by decide +kernel, rfl, by decide +kernel, by decide +kernel⟩
def c_are_numbers : SM :=
  (sSeq (sIf (tOr_ (tNot_ (tVal (eIsi ["tuple"] (eVar 0)))) (tVal (e2 (fB cGt) (eB fLen (rCons (eVar 0) lNil)) (eCst (.int 6)))))
  (sRet (eCst (.bl false)))
  sNext)
  (sRet (eB (f1 gAll) (rCons (eComp [1] (itSeq (eVar 0)) (gNm 1) tTrue (eCall f_is_between (lCons (eVar 1) (lCons (e1 fNeg (eCst (.int 26))) (lCons (eCst (.int 26)) lNil))))) lNil))))
def f_are_numbers : FM := fBody 2 c_are_numbers
theorem fn_are_numbers {c : Cn} (g : Hy c) : Fn c 5 "are_numbers" 1 f_are_numbers := fn_bodyD (k := 4) g g.d_are_numbers sc_are_numbers rfl rfl fun X W h =>
  (s_seq (s_if (PW.pt (s_tOr (s_tNot (d_tval (d_isi1 h (d_var h 0 rfl rfl rfl rfl) kt_tuple h.hy.b_isinstance rfl h.hy.b_tuple rfl (by decide +kernel)))) (s_tOr1 (d_tcmp h.m_gt (d_bi h h.b_len h.hy.b_len rfl (d_aR (d_var h 0 rfl rfl rfl rfl) d_r0)) (d_glob h h.hy.g_MOST_NUMBERS rfl rfl) (nomark _)))))
  (s_one (s_ret d_bl))
  s_nil)
  (s_one (s_ret (d_bi h h.b_all h.hy.b_all rfl (d_aR (d_lc h [("own", 1)] (by decide +kernel) (d_seq (d_var h 0 rfl rfl rfl rfl)) (fun _ h1 => (d_gNm h1 1 rfl rfl rfl (by decide))) (fun _ h1 => s_tTrue) (fun _ h1 => (d_call h1 (fn_is_between h1.hy) (by decide) rfl rfl (d_aL (d_var h1 1 rfl rfl rfl rfl) (d_aL (d_neg (d_glob h1 h1.hy.g_GREATEST rfl rfl)) (d_aL (d_glob h1 h1.hy.g_GREATEST rfl rfl) d_a0))) (arL (arL (arL ar0))) rfl))) d_r0)))))
/-! sure_numbers -/
abbrev st_sure_numbers : Stmt := topS 30
abbrev N_sure_numbers : List Str := [Str.ofString "numbers", Str.ofString "own"]
abbrev L_sure_numbers : Nms := [(Str.ofString "numbers", NameKind.local), (Str.ofString "own", NameKind.local), (Str.ofString "tuple_of", NameKind.globalImplicit), (Str.ofString "sure", NameKind.globalImplicit), (Str.ofString "are_numbers", NameKind.globalImplicit)]
theorem sc_sure_numbers : FnScope N_sure_numbers ["numbers"] (defScope st_sure_numbers) := ⟨rfl, rfl, rfl, by decide +kernel, rfl, by decide +kernel, by decide +kernel⟩
def c_sure_numbers : SM :=
  (sSeq (sAsg 1 (eCall (f_tuple_of 8) (lCons (eVar 0) lNil)))
  (sSeq (sFrz [1] (sExp (eCall f_sure (lCons (eCall f_are_numbers (lCons (eVar 1) lNil)) lNil))))
  (sRetV 1)))
def f_sure_numbers : FM := fBody 2 c_sure_numbers
theorem fn_sure_numbers {c : Cn} (g : Hy c) : Fn c 12 "sure_numbers" 1 f_sure_numbers := fn_bodyD (k := 11) g g.d_sure_numbers sc_sure_numbers rfl rfl fun X W h =>
  (s_seq (d_asg h 1 rfl rfl rfl (d_call h (fn_tuple_of h.hy 8) (by decide) rfl rfl (d_aL (d_var h 0 rfl rfl rfl rfl) d_a0) (arL ar0) rfl))
  (s_seq (s_sFrz [1] (d_exp (d_call h (fn_sure h.hy) (by decide) rfl rfl (d_aL (d_call h (fn_are_numbers h.hy) (by decide) rfl rfl (d_aL (d_var h 1 rfl rfl rfl rfl) d_a0) (arL ar0) rfl) d_a0) (arL ar0) rfl)))
  (s_one (d_retV h 1 rfl rfl rfl rfl))))
/-! is_board_with -/
abbrev st_is_board_with : Stmt := topS 53
abbrev N_is_board_with : List Str := [Str.ofString "numbers", Str.ofString "thing", Str.ofString "own"]
abbrev L_is_board_with : Nms := [(Str.ofString "numbers", NameKind.local), (Str.ofString "thing", NameKind.local), (Str.ofString "own", NameKind.local), (Str.ofString "sure_numbers", NameKind.globalImplicit), (Str.ofString "is_board", NameKind.globalImplicit), (Str.ofString "made_told", NameKind.globalImplicit), (Str.ofString "tuple", NameKind.globalImplicit), (Str.ofString "sorted", NameKind.globalImplicit)]
theorem sc_is_board_with : FnScope N_is_board_with ["numbers", "thing"] (defScope st_is_board_with) := ⟨rfl, rfl, rfl, by decide +kernel, rfl, by decide +kernel, by decide +kernel⟩
def c_is_board_with : SM :=
  (sSeq (sAsg 2 (eCall f_sure_numbers (lCons (eVar 0) lNil)))
  (sRet (eAnd (eCall f_is_board (lCons (eVar 1) lNil)) (e2 (fB cEq) (eCall f_made_told (lCons (eVar 1) lNil)) (eB (f1 gTuple) (rCons (eB (f1 gSortI) (rCons (eVar 2) lNil)) lNil))))))
def f_is_board_with : FM := fBody 3 c_is_board_with
theorem fn_is_board_with {c : Cn} (g : Hy c) : Fn c 13 "is_board_with" 2 f_is_board_with := fn_bodyD (k := 12) g g.d_is_board_with sc_is_board_with rfl rfl fun X W h =>
  (s_seq (d_asg h 2 rfl rfl rfl (d_call h (fn_sure_numbers h.hy) (by decide) rfl rfl (d_aL (d_var h 0 rfl rfl rfl rfl) d_a0) (arL ar0) rfl))
  (s_one (s_ret (s_eAnd (d_call h (fn_is_board h.hy) (by decide) rfl rfl (d_aL (d_var h 1 rfl rfl rfl rfl) d_a0) (arL ar0) rfl) (s_eOne (d_cmp h.m_eq (d_call h (fn_made_told h.hy) (by decide) rfl rfl (d_aL (d_var h 1 rfl rfl rfl rfl) d_a0) (arL ar0) rfl) (d_bi h h.b_tuple h.hy.b_tuple rfl (d_aR (d_bi h h.b_sorted h.hy.b_sorted rfl (d_aR (d_var h 2 rfl rfl rfl rfl) d_r0)) d_r0)) (nomark _)))))))
/-! is_lacking -/
abbrev st_is_lacking : Stmt := topS 54
abbrev N_is_lacking : List Str := [Str.ofString "numbers", Str.ofString "thing", Str.ofString "own"]
abbrev L_is_lacking : Nms := [(Str.ofString "numbers", NameKind.local), (Str.ofString "thing", NameKind.local), (Str.ofString "own", NameKind.local), (Str.ofString "sure_numbers", NameKind.globalImplicit), (Str.ofString "is_number", NameKind.globalImplicit), (Str.ofString "min", NameKind.globalImplicit)]
theorem sc_is_lacking : FnScope N_is_lacking ["numbers", "thing"] (defScope st_is_lacking) := ⟨rfl, rfl, rfl, by decide +kernel, rfl, by decide +kernel, by decide +kernel⟩
def c_is_lacking : SM :=
  (sSeq (sAsg 2 (eCall f_sure_numbers (lCons (eVar 0) lNil)))
  (sRet (eAnd (eCall f_is_number (lCons (eVar 1) lNil)) (eAnd (e2 (fB cNe) (eVar 2) (eTup lNil)) (eAnd (eChain cLe cLe (eB (f1 gMin) (rCons (eVar 2) lNil)) (eVar 1) (eCst (.int 0))) (e2 (fB cNotIn) (eVar 1) (eVar 2)))))))
def f_is_lacking : FM := fBody 3 c_is_lacking
theorem fn_is_lacking {c : Cn} (g : Hy c) : Fn c 13 "is_lacking" 2 f_is_lacking := fn_bodyD (k := 12) g g.d_is_lacking sc_is_lacking rfl rfl fun X W h =>
  (s_seq (d_asg h 2 rfl rfl rfl (d_call h (fn_sure_numbers h.hy) (by decide) rfl rfl (d_aL (d_var h 0 rfl rfl rfl rfl) d_a0) (arL ar0) rfl))
  (s_one (s_ret (s_eAnd (d_call h (fn_is_number h.hy) (by decide) rfl rfl (d_aL (d_var h 1 rfl rfl rfl rfl) d_a0) (arL ar0) rfl) (s_eAnd (d_cmp h.m_ne (d_var h 2 rfl rfl rfl rfl) (d_tup d_a0) (nomark _)) (s_eAnd (d_chain h.m_le h.m_le (d_bi h h.b_min h.hy.b_min rfl (d_aR (d_var h 2 rfl rfl rfl rfl) d_r0)) (d_var h 1 rfl rfl rfl rfl) d_int (by with_unfolding_all rfl)) (s_eOne (d_cmp h.m_notIn (d_var h 1 rfl rfl rfl rfl) (d_var h 2 rfl rfl rfl rfl) rfl))))))))
/-! count_pieces -/
abbrev st_count_pieces : Stmt := topS 19
abbrev N_count_pieces : List Str := [Str.ofString "laying", Str.ofString "column"]
abbrev L_count_pieces : Nms := [(Str.ofString "laying", NameKind.local), (Str.ofString "len", NameKind.globalImplicit)]
theorem sc_count_pieces : FnScope N_count_pieces ["laying"] (defScope st_count_pieces) := ⟨rfl, rfl, rfl, by decide +kernel, rfl, by decide +kernel, by decide +kernel⟩
def c_count_pieces : SM :=
  (sRet (eB fLen (rCons (eComp [1] (itSeq (eVar 0)) (gNm 1) (tVal (e2 (fB cGt) (eVar 1) (eCst (.int 0)))) (eVar 1)) lNil)))
def f_count_pieces : FM := fBody 2 c_count_pieces
theorem fn_count_pieces {c : Cn} (g : Hy c) : Fn c 3 "count_pieces" 1 f_count_pieces := fn_bodyD (k := 2) g g.d_count_pieces sc_count_pieces rfl rfl fun X W h =>
  (s_one (s_ret (d_bi h h.b_len h.hy.b_len rfl (d_aR (d_lc h [("column", 1)] (by decide +kernel) (d_seq (d_var h 0 rfl rfl rfl rfl)) (fun _ h1 => (d_gNm h1 1 rfl rfl rfl (by decide))) (fun _ h1 => (s_tIf (d_tcmp h1.m_gt (d_var h1 1 rfl rfl rfl rfl) d_int (nomark _)))) (fun _ h1 => (d_var h1 1 rfl rfl rfl rfl))) d_r0))))
/-! is_tuple_of -/
abbrev st_is_tuple_of : Stmt := topS 8
abbrev N_is_tuple_of : List Str := [Str.ofString "thing", Str.ofString "many"]
abbrev L_is_tuple_of : Nms := [(Str.ofString "thing", NameKind.local), (Str.ofString "many", NameKind.local), (Str.ofString "isinstance", NameKind.globalImplicit), (Str.ofString "tuple", NameKind.globalImplicit), (Str.ofString "len", NameKind.globalImplicit)]
theorem sc_is_tuple_of : FnScope N_is_tuple_of ["thing", "many"] (defScope st_is_tuple_of) := ⟨rfl, rfl, rfl, by decide +kernel, rfl, by decide +kernel, by decide +kernel⟩
def c_is_tuple_of : SM :=
  (sRet (eAnd (eIsi ["tuple"] (eVar 0)) (e2 (fB cEq) (eB fLen (rCons (eVar 0) lNil)) (eVar 1))))
def f_is_tuple_of : FM := fBody 2 c_is_tuple_of
theorem fn_is_tuple_of {c : Cn} (g : Hy c) : Fn c 3 "is_tuple_of" 2 f_is_tuple_of := fn_bodyD (k := 2) g g.d_is_tuple_of sc_is_tuple_of rfl rfl fun X W h =>
  (s_one (s_ret (s_eAnd (d_isi1 h (d_var h 0 rfl rfl rfl rfl) kt_tuple h.hy.b_isinstance rfl h.hy.b_tuple rfl (by decide +kernel)) (s_eOne (d_cmp h.m_eq (d_bi h h.b_len h.hy.b_len rfl (d_aR (d_var h 0 rfl rfl rfl rfl) d_r0)) (d_var h 1 rfl rfl rfl rfl) (nomark _))))))
/-! is_laid -/
abbrev st_is_laid : Stmt := topS 18
abbrev N_is_laid : List Str := [Str.ofString "board", Str.ofString "thing", Str.ofString "some", Str.ofString "column", Str.ofString "length"]
abbrev L_is_laid : Nms := [(Str.ofString "board", NameKind.local), (Str.ofString "thing", NameKind.local), (Str.ofString "some", NameKind.local), (Str.ofString "is_tuple_of", NameKind.globalImplicit), (Str.ofString "len", NameKind.globalImplicit), (Str.ofString "all", NameKind.globalImplicit), (Str.ofString "zip", NameKind.globalImplicit), (Str.ofString "set", NameKind.globalImplicit)]
theorem sc_is_laid : FnScope N_is_laid ["board", "thing"] (defScope st_is_laid) := ⟨rfl, rfl, rfl, by decide +kernel, rfl, by decide +kernel, by decide +kernel⟩
def c_is_laid : SM :=
  (sSeq (sIf (tNot_ (tVal (eCall f_is_tuple_of (lCons (eVar 1) (lCons (eB fLen (rCons (eVar 0) lNil)) lNil)))))
  (sRet (eCst (.bl false)))
  sNext)
  (sSeq (sIf (tNot_ (tVal (eB (f1 gAll) (rCons (eComp [3, 4] (itZip (lCons (eVar 1) (lCons (eVar 0) lNil))) (gTp [(gNm 3), (gNm 4)]) tTrue (eCall f_is_between (lCons (eVar 3) (lCons (eCst (.int 0)) (lCons (eVar 4) lNil))))) lNil))))
  (sRet (eCst (.bl false)))
  sNext)
  (sSeq (sAsg 2 (eComp [3] (itSeq (eVar 1)) (gNm 3) (tVal (e2 (fB cGt) (eVar 3) (eCst (.int 0)))) (eVar 3)))
  (sRet (e2 (fB cEq) (e1 fLenSet (eVar 2)) (eB fLen (rCons (eVar 2) lNil)))))))
def f_is_laid : FM := fBody 5 c_is_laid
theorem fn_is_laid {c : Cn} (g : Hy c) : Fn c 5 "is_laid" 2 f_is_laid := fn_bodyD (k := 4) g g.d_is_laid sc_is_laid rfl rfl fun X W h =>
  (s_seq (s_if (s_tNot (d_tval (d_call h (fn_is_tuple_of h.hy) (by decide) rfl rfl (d_aL (d_var h 1 rfl rfl rfl rfl) (d_aL (d_bi h h.b_len h.hy.b_len rfl (d_aR (d_var h 0 rfl rfl rfl rfl) d_r0)) d_a0)) (arL (arL ar0)) rfl)))
  (s_one (s_ret d_bl))
  s_nil)
  (s_seq (s_if (s_tNot (d_tval (d_bi h h.b_all h.hy.b_all rfl (d_aR (d_lc h [("column", 3), ("length", 4)] (by decide +kernel) (d_zip h h.hy.b_zip rfl (d_aL (d_var h 1 rfl rfl rfl rfl) (d_aL (d_var h 0 rfl rfl rfl rfl) d_a0)) (arL (arL ar0))) (fun _ h1 => (d_gT h1 (d_gC (d_gNm h1 3 rfl rfl rfl (by decide)) (d_gC (d_gNm h1 4 rfl rfl rfl (by decide)) d_g0)) rfl)) (fun _ h1 => s_tTrue) (fun _ h1 => (d_call h1 (fn_is_between h1.hy) (by decide) rfl rfl (d_aL (d_var h1 3 rfl rfl rfl rfl) (d_aL d_int (d_aL (d_var h1 4 rfl rfl rfl rfl) d_a0))) (arL (arL (arL ar0))) rfl))) d_r0))))
  (s_one (s_ret d_bl))
  s_nil)
  (s_seq (d_setLc h 2 [("column", 3)] (by decide +kernel) (d_seq (d_var h 1 rfl rfl rfl rfl)) (fun _ h2 => (d_gNm h2 3 rfl rfl rfl (by decide))) (fun _ h2 => (s_tIf (d_tcmp h2.m_gt (d_var h2 3 rfl rfl rfl rfl) d_int (nomark _)))) (fun _ h2 => (d_var h2 3 rfl rfl rfl rfl)) rfl rfl rfl rfl)
  (s_one (s_ret (d_cmp h.m_eq (d_lenSet h (h.gl rfl) h.hy.b_len (h.gl rfl) h.hy.b_set (d_var h 2 rfl rfl rfl rfl)) (d_bi h h.b_len h.hy.b_len rfl (d_aR (d_var h 2 rfl rfl rfl rfl) d_r0)) (nomark _)))))))
/-! is_laying_with -/
abbrev st_is_laying_with : Stmt := topS 50
abbrev N_is_laying_with : List Str := [Str.ofString "board", Str.ofString "many", Str.ofString "thing", Str.ofString "own"]
abbrev L_is_laying_with : Nms := [(Str.ofString "board", NameKind.local), (Str.ofString "many", NameKind.local), (Str.ofString "thing", NameKind.local), (Str.ofString "own", NameKind.local), (Str.ofString "sure_board", NameKind.globalImplicit), (Str.ofString "sure", NameKind.globalImplicit), (Str.ofString "is_from", NameKind.globalImplicit), (Str.ofString "is_laid", NameKind.globalImplicit), (Str.ofString "count_pieces", NameKind.globalImplicit)]
theorem sc_is_laying_with : FnScope N_is_laying_with ["board", "many", "thing"] (defScope st_is_laying_with) := ⟨rfl, rfl, rfl, by decide +kernel, rfl, by decide +kernel, by decide +kernel⟩
def c_is_laying_with : SM :=
  (sSeq (sAsg 3 (eCall f_sure_board (lCons (eVar 0) lNil)))
  (sSeq (sExp (eCall f_sure (lCons (eCall f_is_from (lCons (eVar 1) (lCons (eCst (.int 0)) lNil))) lNil)))
  (sFrz [3] (sRet (eAnd (eCall f_is_laid (lCons (eVar 3) (lCons (eVar 2) lNil))) (e2 (fB cEq) (eCall f_count_pieces (lCons (eVar 2) lNil)) (eVar 1)))))))
def f_is_laying_with : FM := fBody 4 c_is_laying_with
theorem fn_is_laying_with {c : Cn} (g : Hy c) : Fn c 13 "is_laying_with" 3 f_is_laying_with := fn_bodyD (k := 12) g g.d_is_laying_with sc_is_laying_with rfl rfl fun X W h =>
  (s_seq (d_asg h 3 rfl rfl rfl (d_call h (fn_sure_board h.hy) (by decide) rfl rfl (d_aL (d_var h 0 rfl rfl rfl rfl) d_a0) (arL ar0) rfl))
  (s_seq (d_exp (d_call h (fn_sure h.hy) (by decide) rfl rfl (d_aL (d_call h (fn_is_from h.hy) (by decide) rfl rfl (d_aL (d_var h 1 rfl rfl rfl rfl) (d_aL d_int d_a0)) (arL (arL ar0)) rfl) d_a0) (arL ar0) rfl))
  (s_one (s_sFrz [3] (s_ret (s_eAnd (d_call h (fn_is_laid h.hy) (by decide) rfl rfl (d_aL (d_var h 3 rfl rfl rfl rfl) (d_aL (d_var h 2 rfl rfl rfl rfl) d_a0)) (arL (arL ar0)) rfl) (s_eOne (d_cmp h.m_eq (d_call h (fn_count_pieces h.hy) (by decide) rfl rfl (d_aL (d_var h 2 rfl rfl rfl rfl) d_a0) (arL ar0) rfl) (d_var h 1 rfl rfl rfl rfl) (nomark _)))))))))
/-! made_cells -/
abbrev st_made_cells : Stmt := topS 15
abbrev N_made_cells : List Str := [Str.ofString "board", Str.ofString "found", Str.ofString "k", Str.ofString "length", Str.ofString "column"]
abbrev L_made_cells : Nms := [(Str.ofString "board", NameKind.local), (Str.ofString "found", NameKind.local), (Str.ofString "k", NameKind.cell), (Str.ofString "length", NameKind.local), (Str.ofString "enumerate", NameKind.globalImplicit), (Str.ofString "range", NameKind.globalImplicit)]
theorem sc_made_cells : FnScope N_made_cells ["board"] (defScope st_made_cells) := ⟨rfl, rfl, rfl, by decide +kernel, rfl, by decide +kernel, by decide +kernel⟩
def c_made_cells : SM :=
  (sSeq (sAsg 1 (eLst lNil))
  (sSeq (sFor (itEnum (lCons (eVar 0) lNil)) (gTp [(gNm 2), (gNm 3)])
  (sExt 1 (eComp [4] (itRng (rCons (eCst (.int 1)) (rCons (e2 fAdd (eVar 3) (eCst (.int 1))) lNil))) (gNm 4) tTrue (eTup (lCons (e2 fAdd (eVar 2) (eCst (.int 1))) (lCons (eVar 4) lNil))))))
  (sRetV 1)))
def f_made_cells : FM := fBody 5 c_made_cells
theorem fn_made_cells {c : Cn} (g : Hy c) : Fn c 3 "made_cells" 1 f_made_cells := fn_bodyD (k := 2) g g.d_made_cells sc_made_cells rfl rfl fun X W h =>
  (s_seq (d_asg h 1 rfl rfl rfl (d_lst d_a0))
  (s_seq (d_for h (vs := [2, 3]) (d_enum h h.hy.b_enumerate rfl (d_aL (d_var h 0 rfl rfl rfl rfl) d_a0) (arL ar0)) (d_gT h (d_gC (d_gNm h 2 rfl rfl rfl (by decide)) (d_gC (d_gNm h 3 rfl rfl rfl (by decide)) d_g0)) rfl)
  (s_one (d_ext h 1 rfl rfl rfl rfl (d_lc h [("column", 4)] (by decide +kernel) (d_rng2 h h.hy.b_range rfl (d_aR d_int (d_aR (d_add (d_var h 3 rfl rfl rfl rfl) d_int) d_r0)) (arR (arR ar0))) (fun _ h1 => (d_gNm h1 4 rfl rfl rfl (by decide))) (fun _ h1 => s_tTrue) (fun _ h1 => (d_tup (d_aL (d_add (d_var h1 2 rfl rfl rfl rfl) d_int) (d_aL (d_var h1 4 rfl rfl rfl rfl) d_a0))))))))
  (s_one (d_retV h 1 rfl rfl rfl rfl))))
/-! is_outside -/
abbrev st_is_outside : Stmt := topS 55
abbrev N_is_outside : List Str := [Str.ofString "one", Str.ofString "other", Str.ofString "thing", Str.ofString "near", Str.ofString "far", Str.ofString "own"]
abbrev L_is_outside : Nms := [(Str.ofString "one", NameKind.local), (Str.ofString "other", NameKind.local), (Str.ofString "thing", NameKind.local), (Str.ofString "near", NameKind.local), (Str.ofString "far", NameKind.local), (Str.ofString "sure_board", NameKind.globalImplicit), (Str.ofString "is_tuple_of", NameKind.globalImplicit), (Str.ofString "all", NameKind.globalImplicit), (Str.ofString "made_cells", NameKind.globalImplicit)]
theorem sc_is_outside : FnScope N_is_outside ["one", "other", "thing"] (defScope st_is_outside) := ⟨rfl, rfl, rfl, by decide +kernel, rfl, by decide +kernel, by decide +kernel⟩
def c_is_outside : SM :=
  (sSeq (sPar2 3 4 (eCall f_sure_board (lCons (eVar 0) lNil)) (eCall f_sure_board (lCons (eVar 1) lNil)))
  (sSeq (sIf (tOr_ (tNot_ (tVal (eCall f_is_tuple_of (lCons (eVar 2) (lCons (eCst (.int 2)) lNil))))) (tNot_ (tVal (eB (f1 gAll) (rCons (eComp [5] (itSeq (eVar 2)) (gNm 5) tTrue (eCall f_is_from (lCons (eVar 5) (lCons (eCst (.int 1)) lNil)))) lNil)))))
  (sRet (eCst (.bl false)))
  sNext)
  (sFrz [4, 3] (sRet (eAnd (e2 (fB cIn) (eVar 2) (eCall f_made_cells (lCons (eVar 3) lNil))) (e2 (fB cNotIn) (eVar 2) (eCall f_made_cells (lCons (eVar 4) lNil))))))))
def f_is_outside : FM := fBody 6 c_is_outside
theorem fn_is_outside {c : Cn} (g : Hy c) : Fn c 13 "is_outside" 3 f_is_outside := fn_bodyD (k := 12) g g.d_is_outside sc_is_outside rfl rfl fun X W h =>
  (s_seq (d_par2 h 3 4 (d_call h (fn_sure_board h.hy) (by decide) rfl rfl (d_aL (d_var h 0 rfl rfl rfl rfl) d_a0) (arL ar0) rfl) (d_call h (fn_sure_board h.hy) (by decide) rfl rfl (d_aL (d_var h 1 rfl rfl rfl rfl) d_a0) (arL ar0) rfl) rfl rfl (by decide) rfl rfl)
  (s_seq (s_if (PW.pt (s_tOr (s_tNot (d_tval (d_call h (fn_is_tuple_of h.hy) (by decide) rfl rfl (d_aL (d_var h 2 rfl rfl rfl rfl) (d_aL d_int d_a0)) (arL (arL ar0)) rfl))) (s_tOr1 (s_tNot (d_tval (d_bi h h.b_all h.hy.b_all rfl (d_aR (d_lc h [("own", 5)] (by decide +kernel) (d_seq (d_var h 2 rfl rfl rfl rfl)) (fun _ h1 => (d_gNm h1 5 rfl rfl rfl (by decide))) (fun _ h1 => s_tTrue) (fun _ h1 => (d_call h1 (fn_is_from h1.hy) (by decide) rfl rfl (d_aL (d_var h1 5 rfl rfl rfl rfl) (d_aL d_int d_a0)) (arL (arL ar0)) rfl))) d_r0)))))))
  (s_one (s_ret d_bl))
  s_nil)
  (s_one (s_sFrz [4, 3] (s_ret (s_eAnd (d_cmp h.m_in (d_var h 2 rfl rfl rfl rfl) (d_call h (fn_made_cells h.hy) (by decide) rfl rfl (d_aL (d_var h 3 rfl rfl rfl rfl) d_a0) (arL ar0) rfl) rfl) (s_eOne (d_cmp h.m_notIn (d_var h 2 rfl rfl rfl rfl) (d_call h (fn_made_cells h.hy) (by decide) rfl rfl (d_aL (d_var h 4 rfl rfl rfl rfl) d_a0) (arL ar0) rfl) rfl))))))))
/-! covers -/
abbrev st_covers : Stmt := topS 24
abbrev N_covers : List Str := [Str.ofString "board", Str.ofString "thing", Str.ofString "k", Str.ofString "length", Str.ofString "column"]
abbrev L_covers : Nms := [(Str.ofString "board", NameKind.local), (Str.ofString "thing", NameKind.cell), (Str.ofString "k", NameKind.local), (Str.ofString "length", NameKind.local), (Str.ofString "is_tuple_of", NameKind.globalImplicit), (Str.ofString "is_set", NameKind.globalImplicit), (Str.ofString "len", NameKind.globalImplicit), (Str.ofString "enumerate", NameKind.globalImplicit), (Str.ofString "all", NameKind.globalImplicit), (Str.ofString "range", NameKind.globalImplicit)]
theorem sc_covers : FnScope N_covers ["board", "thing"] (defScope st_covers) := ⟨rfl, rfl, rfl, by decide +kernel, rfl, by decide +kernel, by decide +kernel⟩
def c_covers : SM :=
  (sSeq (sIf (tOr_ (tNot_ (tVal (eCall f_is_tuple_of (lCons (eVar 1) (lCons (eCst (.int 2)) lNil))))) (tOr_ (tNot_ (tVal (eCall f_is_set (lCons (eIdxN (eVar 1) (eCst (.int 0))) (lCons (eB fLen (rCons (eVar 0) lNil)) lNil))))) (tNot_ (tVal (eCall f_is_set (lCons (eIdxN (eVar 1) (eCst (.int 1))) (lCons (eCst .non) lNil)))))))
  (sRet (eCst (.bl false)))
  sNext)
  (sSeq (sFor (itEnum (lCons (eVar 0) lNil)) (gTp [(gNm 2), (gNm 3)])
  (sIf (tAnd_ (tVal (e2 (fB cNotIn) (e2 fAdd (eVar 2) (eCst (.int 1))) (eIdxN (eVar 1) (eCst (.int 0))))) (tNot_ (tVal (eB (f1 gAll) (rCons (eComp [4] (itRng (rCons (eCst (.int 1)) (rCons (e2 fAdd (eVar 3) (eCst (.int 1))) lNil))) (gNm 4) tTrue (e2 (fB cIn) (eVar 4) (eIdxN (eVar 1) (eCst (.int 1))))) lNil)))))
  (sRet (eCst (.bl false)))
  sNext))
  (sRet (eCst (.bl true)))))
def f_covers : FM := fBody 5 c_covers
theorem fn_covers {c : Cn} (g : Hy c) : Fn c 6 "covers" 2 f_covers := fn_bodyD (k := 5) g g.d_covers sc_covers rfl rfl fun X W h =>
  (s_seq (s_if (PW.pt (s_tOr (s_tNot (d_tval (d_call h (fn_is_tuple_of h.hy) (by decide) rfl rfl (d_aL (d_var h 1 rfl rfl rfl rfl) (d_aL d_int d_a0)) (arL (arL ar0)) rfl))) (s_tOr (s_tNot (d_tval (d_call h (fn_is_set h.hy) (by decide) rfl rfl (d_aL (d_idxN (d_var h 1 rfl rfl rfl rfl) d_int) (d_aL (d_bi h h.b_len h.hy.b_len rfl (d_aR (d_var h 0 rfl rfl rfl rfl) d_r0)) d_a0)) (arL (arL ar0)) rfl))) (s_tOr1 (s_tNot (d_tval (d_call h (fn_is_set h.hy) (by decide) rfl rfl (d_aL (d_idxN (d_var h 1 rfl rfl rfl rfl) d_int) (d_aL d_non d_a0)) (arL (arL ar0)) rfl)))))))
  (s_one (s_ret d_bl))
  s_nil)
  (s_seq (d_for h (vs := [2, 3]) (d_enum h h.hy.b_enumerate rfl (d_aL (d_var h 0 rfl rfl rfl rfl) d_a0) (arL ar0)) (d_gT h (d_gC (d_gNm h 2 rfl rfl rfl (by decide)) (d_gC (d_gNm h 3 rfl rfl rfl (by decide)) d_g0)) rfl)
  (s_one (s_if (PW.pt (s_tAnd (d_tcmp h.m_notIn (d_add (d_var h 2 rfl rfl rfl rfl) d_int) (d_idxN (d_var h 1 rfl rfl rfl rfl) d_int) rfl) (s_tAnd1 (s_tNot (d_tval (d_bi h h.b_all h.hy.b_all rfl (d_aR (d_lc h [("column", 4)] (by decide +kernel) (d_rng2 h h.hy.b_range rfl (d_aR d_int (d_aR (d_add (d_var h 3 rfl rfl rfl rfl) d_int) d_r0)) (arR (arR ar0))) (fun _ h1 => (d_gNm h1 4 rfl rfl rfl (by decide))) (fun _ h1 => s_tTrue) (fun _ h1 => (d_cmp h1.m_in (d_var h1 4 rfl rfl rfl rfl) (d_idxN (d_var h1 1 rfl rfl rfl rfl) d_int) rfl))) d_r0)))))))
  (s_one (s_ret d_bl))
  s_nil)))
  (s_one (s_ret d_bl))))
/-! lines_of -/
abbrev st_lines_of : Stmt := topS 25
abbrev N_lines_of : List Str := [Str.ofString "cover"]
abbrev L_lines_of : Nms := [(Str.ofString "cover", NameKind.local), (Str.ofString "len", NameKind.globalImplicit)]
theorem sc_lines_of : FnScope N_lines_of ["cover"] (defScope st_lines_of) := ⟨rfl, rfl, rfl, by decide +kernel, rfl, by decide +kernel, by decide +kernel⟩
def c_lines_of : SM :=
  (sRet (e2 fAdd (eB fLen (rCons (eIdxN (eVar 0) (eCst (.int 0))) lNil)) (eB fLen (rCons (eIdxN (eVar 0) (eCst (.int 1))) lNil))))
def f_lines_of : FM := fBody 1 c_lines_of
theorem fn_lines_of {c : Cn} (g : Hy c) : Fn c 3 "lines_of" 1 f_lines_of := fn_bodyD (k := 2) g g.d_lines_of sc_lines_of rfl rfl fun X W h =>
  (s_one (s_ret (d_add (d_bi h h.b_len h.hy.b_len rfl (d_aR (d_idxN (d_var h 0 rfl rfl rfl rfl) d_int) d_r0)) (d_bi h h.b_len h.hy.b_len rfl (d_aR (d_idxN (d_var h 0 rfl rfl rfl rfl) d_int) d_r0)))))
/-! is_short_cover -/
abbrev st_is_short_cover : Stmt := topS 51
abbrev N_is_short_cover : List Str := [Str.ofString "board", Str.ofString "many", Str.ofString "thing", Str.ofString "own"]
abbrev L_is_short_cover : Nms := [(Str.ofString "board", NameKind.local), (Str.ofString "many", NameKind.local), (Str.ofString "thing", NameKind.local), (Str.ofString "own", NameKind.local), (Str.ofString "sure_board", NameKind.globalImplicit), (Str.ofString "sure", NameKind.globalImplicit), (Str.ofString "is_from", NameKind.globalImplicit), (Str.ofString "covers", NameKind.globalImplicit), (Str.ofString "lines_of", NameKind.globalImplicit)]
theorem sc_is_short_cover : FnScope N_is_short_cover ["board", "many", "thing"] (defScope st_is_short_cover) := ⟨rfl, rfl, rfl, by decide +kernel, rfl, by decide +kernel, by decide +kernel⟩
def c_is_short_cover : SM :=
  (sSeq (sAsg 3 (eCall f_sure_board (lCons (eVar 0) lNil)))
  (sSeq (sExp (eCall f_sure (lCons (eCall f_is_from (lCons (eVar 1) (lCons (eCst (.int 0)) lNil))) lNil)))
  (sFrz [3] (sRet (eAnd (eCall f_covers (lCons (eVar 3) (lCons (eVar 2) lNil))) (e2 (fB cLt) (eCall f_lines_of (lCons (eVar 2) lNil)) (eVar 1)))))))
def f_is_short_cover : FM := fBody 4 c_is_short_cover
theorem fn_is_short_cover {c : Cn} (g : Hy c) : Fn c 13 "is_short_cover" 3 f_is_short_cover := fn_bodyD (k := 12) g g.d_is_short_cover sc_is_short_cover rfl rfl fun X W h =>
  (s_seq (d_asg h 3 rfl rfl rfl (d_call h (fn_sure_board h.hy) (by decide) rfl rfl (d_aL (d_var h 0 rfl rfl rfl rfl) d_a0) (arL ar0) rfl))
  (s_seq (d_exp (d_call h (fn_sure h.hy) (by decide) rfl rfl (d_aL (d_call h (fn_is_from h.hy) (by decide) rfl rfl (d_aL (d_var h 1 rfl rfl rfl rfl) (d_aL d_int d_a0)) (arL (arL ar0)) rfl) d_a0) (arL ar0) rfl))
  (s_one (s_sFrz [3] (s_ret (s_eAnd (d_call h (fn_covers h.hy) (by decide) rfl rfl (d_aL (d_var h 3 rfl rfl rfl rfl) (d_aL (d_var h 2 rfl rfl rfl rfl) d_a0)) (arL (arL ar0)) rfl) (s_eOne (d_cmp h.m_lt (d_call h (fn_lines_of h.hy) (by decide) rfl rfl (d_aL (d_var h 2 rfl rfl rfl rfl) d_a0) (arL ar0) rfl) (d_var h 1 rfl rfl rfl rfl) (nomark _)))))))))
/-! made_row -/
abbrev st_made_row : Stmt := topS 20
abbrev N_made_row : List Str := [Str.ofString "board", Str.ofString "found", Str.ofString "length", Str.ofString "more", Str.ofString "k", Str.ofString "own", Str.ofString "far"]
abbrev L_made_row : Nms := [(Str.ofString "board", NameKind.local), (Str.ofString "found", NameKind.local), (Str.ofString "length", NameKind.cell), (Str.ofString "more", NameKind.local), (Str.ofString "enumerate", NameKind.globalImplicit), (Str.ofString "zip", NameKind.globalImplicit)]
theorem sc_made_row : FnScope N_made_row ["board"] (defScope st_made_row) := ⟨rfl, rfl, rfl, by decide +kernel, rfl, by decide +kernel, by decide +kernel⟩
def c_made_row : SM :=
  (sSeq (sAsg 1 (eLst (lCons (eCst (.int 1)) lNil)))
  (sSeq (sFor (itSeq (eVar 0)) (gNm 2)
  (sSeq (sFrz [1] (sAsg 3 (eComp [4, 5] (itEnum (lCons (eVar 1) lNil)) (gTp [(gNm 4), (gNm 5)]) tTrue (e2 fMulT (eVar 5) (eB (f2 gMax2) (rCons (e2 fSub (eVar 2) (eVar 4)) (rCons (eCst (.int 0)) lNil)))))))
  (sAsg 1 (eComp [5, 6] (itZip (lCons (e2 fAdd (eVar 1) (eLst (lCons (eCst (.int 0)) lNil))) (lCons (e2 fAdd (eLst (lCons (eCst (.int 0)) lNil)) (eVar 3)) lNil))) (gTp [(gNm 5), (gNm 6)]) tTrue (e2 fAdd (eVar 5) (eVar 6))))))
  (sRetV 1)))
def f_made_row : FM := fBody 7 c_made_row
theorem fn_made_row {c : Cn} (g : Hy c) : Fn c 3 "made_row" 1 f_made_row := fn_bodyD (k := 2) g g.d_made_row sc_made_row rfl rfl fun X W h =>
  (s_seq (d_asg h 1 rfl rfl rfl (d_lst (d_aL d_int d_a0)))
  (s_seq (d_for h (vs := [2]) (d_seq (d_var h 0 rfl rfl rfl rfl)) (d_gNm h 2 rfl rfl rfl (by decide))
  (s_seq (s_sFrz [1] (d_setLc h 3 [("k", 4), ("own", 5)] (by decide +kernel) (d_enum h h.hy.b_enumerate rfl (d_aL (d_var h 1 rfl rfl rfl rfl) d_a0) (arL ar0)) (fun _ h1 => (d_gT h1 (d_gC (d_gNm h1 4 rfl rfl rfl (by decide)) (d_gC (d_gNm h1 5 rfl rfl rfl (by decide)) d_g0)) rfl)) (fun _ h1 => s_tTrue) (fun _ h1 => (d_mul (d_var h1 5 rfl rfl rfl rfl) (d_bi h1 h1.b_max2 h1.hy.b_max rfl (d_aR (d_sub (d_var h1 2 rfl rfl rfl rfl) (d_var h1 4 rfl rfl rfl rfl)) (d_aR d_int d_r0))))) rfl rfl rfl rfl))
  (s_one (d_setLc h 1 [("own", 5), ("far", 6)] (by decide +kernel) (d_zip h h.hy.b_zip rfl (d_aL (d_add (d_var h 1 rfl rfl rfl rfl) (d_lst (d_aL d_int d_a0))) (d_aL (d_add (d_lst (d_aL d_int d_a0)) (d_var h 3 rfl rfl rfl rfl)) d_a0)) (arL (arL ar0))) (fun _ h2 => (d_gT h2 (d_gC (d_gNm h2 5 rfl rfl rfl (by decide)) (d_gC (d_gNm h2 6 rfl rfl rfl (by decide)) d_g0)) rfl)) (fun _ h2 => s_tTrue) (fun _ h2 => (d_add (d_var h2 5 rfl rfl rfl rfl) (d_var h2 6 rfl rfl rfl rfl))) rfl rfl rfl rfl))))
  (s_one (d_retV h 1 rfl rfl rfl rfl))))
/-! laid_so_many -/
abbrev st_laid_so_many : Stmt := topS 21
abbrev N_laid_so_many : List Str := [Str.ofString "board", Str.ofString "many"]
abbrev L_laid_so_many : Nms := [(Str.ofString "board", NameKind.local), (Str.ofString "many", NameKind.local), (Str.ofString "len", NameKind.globalImplicit), (Str.ofString "made_row", NameKind.globalImplicit)]
theorem sc_laid_so_many : FnScope N_laid_so_many ["board", "many"] (defScope st_laid_so_many) := ⟨rfl, rfl, rfl, by decide +kernel, rfl, by decide +kernel, by decide +kernel⟩
def c_laid_so_many : SM :=
  (sRet (eIf (tVal (e2 (fB cLe) (eVar 1) (eB fLen (rCons (eVar 0) lNil)))) (eIdxN (eCall f_made_row (lCons (eVar 0) lNil)) (eVar 1)) (eCst (.int 0))))
def f_laid_so_many : FM := fBody 2 c_laid_so_many
theorem fn_laid_so_many {c : Cn} (g : Hy c) : Fn c 4 "laid_so_many" 2 f_laid_so_many := fn_bodyD (k := 3) g g.d_laid_so_many sc_laid_so_many rfl rfl fun X W h =>
  (s_one (s_ret (s_eIf (d_tcmp h.m_le (d_var h 1 rfl rfl rfl rfl) (d_bi h h.b_len h.hy.b_len rfl (d_aR (d_var h 0 rfl rfl rfl rfl) d_r0)) (nomark _)) (d_idxN (d_call h (fn_made_row h.hy) (by decide) rfl rfl (d_aL (d_var h 0 rfl rfl rfl rfl) d_a0) (arL ar0) rfl) (d_var h 1 rfl rfl rfl rfl)) d_int)))
/-! is_unlike -/
abbrev st_is_unlike : Stmt := topS 49
abbrev N_is_unlike : List Str := [Str.ofString "one", Str.ofString "other", Str.ofString "thing", Str.ofString "near", Str.ofString "far"]
abbrev L_is_unlike : Nms := [(Str.ofString "one", NameKind.local), (Str.ofString "other", NameKind.local), (Str.ofString "thing", NameKind.local), (Str.ofString "near", NameKind.local), (Str.ofString "far", NameKind.local), (Str.ofString "sure_board", NameKind.globalImplicit), (Str.ofString "is_from", NameKind.globalImplicit), (Str.ofString "laid_so_many", NameKind.globalImplicit)]
theorem sc_is_unlike : FnScope N_is_unlike ["one", "other", "thing"] (defScope st_is_unlike) := ⟨rfl, rfl, rfl, by decide +kernel, rfl, by decide +kernel, by decide +kernel⟩
def c_is_unlike : SM :=
  (sSeq (sPar2 3 4 (eCall f_sure_board (lCons (eVar 0) lNil)) (eCall f_sure_board (lCons (eVar 1) lNil)))
  (sFrz [4, 3] (sRet (eAnd (eCall f_is_from (lCons (eVar 2) (lCons (eCst (.int 0)) lNil))) (e2 (fB cNe) (eCall f_laid_so_many (lCons (eVar 3) (lCons (eVar 2) lNil))) (eCall f_laid_so_many (lCons (eVar 4) (lCons (eVar 2) lNil))))))))
def f_is_unlike : FM := fBody 5 c_is_unlike
theorem fn_is_unlike {c : Cn} (g : Hy c) : Fn c 13 "is_unlike" 3 f_is_unlike := fn_bodyD (k := 12) g g.d_is_unlike sc_is_unlike rfl rfl fun X W h =>
  (s_seq (d_par2 h 3 4 (d_call h (fn_sure_board h.hy) (by decide) rfl rfl (d_aL (d_var h 0 rfl rfl rfl rfl) d_a0) (arL ar0) rfl) (d_call h (fn_sure_board h.hy) (by decide) rfl rfl (d_aL (d_var h 1 rfl rfl rfl rfl) d_a0) (arL ar0) rfl) rfl rfl (by decide) rfl rfl)
  (s_one (s_sFrz [4, 3] (s_ret (s_eAnd (d_call h (fn_is_from h.hy) (by decide) rfl rfl (d_aL (d_var h 2 rfl rfl rfl rfl) (d_aL d_int d_a0)) (arL (arL ar0)) rfl) (s_eOne (d_cmp h.m_ne (d_call h (fn_laid_so_many h.hy) (by decide) rfl rfl (d_aL (d_var h 3 rfl rfl rfl rfl) (d_aL (d_var h 2 rfl rfl rfl rfl) d_a0)) (arL (arL ar0)) rfl) (d_call h (fn_laid_so_many h.hy) (by decide) rfl rfl (d_aL (d_var h 4 rfl rfl rfl rfl) (d_aL (d_var h 2 rfl rfl rfl rfl) d_a0)) (arL (arL ar0)) rfl) (nomark _))))))))
/-! is_triple -/
abbrev st_is_triple : Stmt := topS 37
abbrev N_is_triple : List Str := [Str.ofString "thing", Str.ofString "own"]
abbrev L_is_triple : Nms := [(Str.ofString "thing", NameKind.local), (Str.ofString "is_tuple_of", NameKind.globalImplicit), (Str.ofString "all", NameKind.globalImplicit)]
theorem sc_is_triple : FnScope N_is_triple ["thing"] (defScope st_is_triple) := ⟨rfl, rfl, rfl, by decide +kernel, rfl, by decide +kernel, by decide +kernel⟩
def c_is_triple : SM :=
  (sRet (eAnd (eCall f_is_tuple_of (lCons (eVar 0) (lCons (eCst (.int 3)) lNil))) (eB (f1 gAll) (rCons (eComp [1] (itSeq (eVar 0)) (gNm 1) tTrue (eCall f_is_from (lCons (eVar 1) (lCons (eCst (.int 0)) lNil)))) lNil))))
def f_is_triple : FM := fBody 2 c_is_triple
theorem fn_is_triple {c : Cn} (g : Hy c) : Fn c 5 "is_triple" 1 f_is_triple := fn_bodyD (k := 4) g g.d_is_triple sc_is_triple rfl rfl fun X W h =>
  (s_one (s_ret (s_eAnd (d_call h (fn_is_tuple_of h.hy) (by decide) rfl rfl (d_aL (d_var h 0 rfl rfl rfl rfl) (d_aL d_int d_a0)) (arL (arL ar0)) rfl) (s_eOne (d_bi h h.b_all h.hy.b_all rfl (d_aR (d_lc h [("own", 1)] (by decide +kernel) (d_seq (d_var h 0 rfl rfl rfl rfl)) (fun _ h1 => (d_gNm h1 1 rfl rfl rfl (by decide))) (fun _ h1 => s_tTrue) (fun _ h1 => (d_call h1 (fn_is_from h1.hy) (by decide) rfl rfl (d_aL (d_var h1 1 rfl rfl rfl rfl) (d_aL d_int d_a0)) (arL (arL ar0)) rfl))) d_r0))))))
/-! about -/
abbrev st_about : Stmt := topS 16
abbrev N_about : List Str := [Str.ofString "lengths", Str.ofString "size", Str.ofString "k", Str.ofString "own"]
abbrev L_about : Nms := [(Str.ofString "lengths", NameKind.cell), (Str.ofString "size", NameKind.cell), (Str.ofString "tuple", NameKind.globalImplicit), (Str.ofString "range", NameKind.globalImplicit)]
theorem sc_about : FnScope N_about ["lengths", "size"] (defScope st_about) := ⟨rfl, rfl, rfl, by decide +kernel, rfl, by decide +kernel, by decide +kernel⟩
def c_about : SM :=
  (sRet (eB (f1 gTuple) (rCons (eComp [2] (itRng (rCons (eVar 1) lNil)) (gNm 2) tTrue (eB fLen (rCons (eComp [3] (itSeq (eVar 0)) (gNm 3) (tVal (e2 (fB cGe) (eVar 3) (e2 fSub (eVar 1) (eVar 2)))) (eVar 3)) lNil))) lNil)))
def f_about : FM := fBody 4 c_about
theorem fn_about {c : Cn} (g : Hy c) : Fn c 3 "about" 2 f_about := fn_bodyD (k := 2) g g.d_about sc_about rfl rfl fun X W h =>
  (s_one (s_ret (d_bi h h.b_tuple h.hy.b_tuple rfl (d_aR (d_lc h [("k", 2)] (by decide +kernel) (d_rng1 h h.hy.b_range rfl (d_aR (d_var h 1 rfl rfl rfl rfl) d_r0) (arR ar0)) (fun _ h1 => (d_gNm h1 2 rfl rfl rfl (by decide))) (fun _ h1 => s_tTrue) (fun _ h1 => (d_bi h1 h1.b_len h1.hy.b_len rfl (d_aR (d_lc h1 [("own", 3)] (by decide +kernel) (d_seq (d_var h1 0 rfl rfl rfl rfl)) (fun _ h2 => (d_gNm h2 3 rfl rfl rfl (by decide))) (fun _ h2 => (s_tIf (d_tcmp h2.m_ge (d_var h2 3 rfl rfl rfl rfl) (d_sub (d_var h2 1 rfl rfl rfl rfl) (d_var h2 2 rfl rfl rfl rfl)) (nomark _)))) (fun _ h2 => (d_var h2 3 rfl rfl rfl rfl))) d_r0)))) d_r0))))
/-! made_turned -/
abbrev st_made_turned : Stmt := topS 40
abbrev N_made_turned : List Str := [Str.ofString "board", Str.ofString "turn", Str.ofString "row", Str.ofString "column", Str.ofString "size", Str.ofString "window", Str.ofString "found", Str.ofString "length", Str.ofString "own"]
abbrev L_made_turned : Nms := [(Str.ofString "board", NameKind.local), (Str.ofString "turn", NameKind.local), (Str.ofString "row", NameKind.local), (Str.ofString "column", NameKind.cell), (Str.ofString "size", NameKind.local), (Str.ofString "window", NameKind.local), (Str.ofString "found", NameKind.local), (Str.ofString "allowed", NameKind.globalImplicit), (Str.ofString "CanNot", NameKind.globalImplicit), (Str.ofString "tuple", NameKind.globalImplicit), (Str.ofString "about", NameKind.globalImplicit)]
theorem sc_made_turned : FnScope N_made_turned ["board", "turn"] (defScope st_made_turned) := ⟨rfl, rfl, rfl, by decide +kernel, rfl, by decide +kernel, by decide +kernel⟩
def c_made_turned : SM :=
  (sSeq (sIf (tNot_ (tVal (eCall f_allowed (lCons (eVar 0) (lCons (eVar 1) lNil)))))
  (sRaise0 "CanNot")
  sNext)
  (sSeq (sAsgT (gTp [(gNm 2), (gNm 3), (gNm 4)]) (eVar 1))
  (sSeq (sAsg 5 (eComp [7] (itSeq (eSl (eVar 0) (some (e2 fSub (eVar 2) (eCst (.int 1)))) (some (e2 fSub (e2 fAdd (eVar 2) (eVar 4)) (eCst (.int 1)))))) (gNm 7) tTrue (e2 fSub (eVar 7) (eVar 3))))
  (sSeq (sFrz [5] (sAsg 6 (eB (f1 gTuple) (rCons (eComp [8] (itSeq (eCall f_about (lCons (eVar 5) (lCons (eVar 4) lNil)))) (gNm 8) tTrue (e2 fAdd (eVar 3) (eVar 8))) lNil))))
  (sRet (e2 fAdd (e2 fAdd (eSl (eVar 0) none (some (e2 fSub (eVar 2) (eCst (.int 1))))) (eVar 6)) (eSl (eVar 0) (some (e2 fSub (e2 fAdd (eVar 2) (eVar 4)) (eCst (.int 1)))) none)))))))
def f_made_turned : FM := fBody 9 c_made_turned
theorem fn_made_turned {c : Cn} (g : Hy c) : Fn c 4 "made_turned" 2 f_made_turned := fn_bodyD (k := 3) g g.d_made_turned sc_made_turned rfl rfl fun X W h =>
  (s_seq (s_if (s_tNot (d_tval (d_call h (fn_allowed h.hy) (by decide) rfl rfl (d_aL (d_var h 0 rfl rfl rfl rfl) (d_aL (d_var h 1 rfl rfl rfl rfl) d_a0)) (arL (arL ar0)) rfl)))
  (s_one (d_raise0 h h.hy.x_CanNot (by decide) rfl rfl))
  s_nil)
  (s_seq (d_asgT h (vs := [2, 3, 4]) (d_var h 1 rfl rfl rfl rfl) (d_gT h (d_gC (d_gNm h 2 rfl rfl rfl (by decide)) (d_gC (d_gNm h 3 rfl rfl rfl (by decide)) (d_gC (d_gNm h 4 rfl rfl rfl (by decide)) d_g0))) rfl))
  (s_seq (d_setLc h 5 [("length", 7)] (by decide +kernel) (d_seq (d_sl (d_var h 0 rfl rfl rfl rfl) (s_pSome (d_sub (d_var h 2 rfl rfl rfl rfl) d_int)) (s_pSome (d_sub (d_add (d_var h 2 rfl rfl rfl rfl) (d_var h 4 rfl rfl rfl rfl)) d_int)))) (fun _ h1 => (d_gNm h1 7 rfl rfl rfl (by decide))) (fun _ h1 => s_tTrue) (fun _ h1 => (d_sub (d_var h1 7 rfl rfl rfl rfl) (d_var h1 3 rfl rfl rfl rfl))) rfl rfl rfl rfl)
  (s_seq (s_sFrz [5] (d_asg h 6 rfl rfl rfl (d_bi h h.b_tuple h.hy.b_tuple rfl (d_aR (d_lc h [("own", 8)] (by decide +kernel) (d_seq (d_call h (fn_about h.hy) (by decide) rfl rfl (d_aL (d_var h 5 rfl rfl rfl rfl) (d_aL (d_var h 4 rfl rfl rfl rfl) d_a0)) (arL (arL ar0)) rfl)) (fun _ h2 => (d_gNm h2 8 rfl rfl rfl (by decide))) (fun _ h2 => s_tTrue) (fun _ h2 => (d_add (d_var h2 3 rfl rfl rfl rfl) (d_var h2 8 rfl rfl rfl rfl)))) d_r0))))
  (s_one (s_ret (d_add (d_add (d_sl (d_var h 0 rfl rfl rfl rfl) s_pNone (s_pSome (d_sub (d_var h 2 rfl rfl rfl rfl) d_int))) (d_var h 6 rfl rfl rfl rfl)) (d_sl (d_var h 0 rfl rfl rfl rfl) (s_pSome (d_sub (d_add (d_var h 2 rfl rfl rfl rfl) (d_var h 4 rfl rfl rfl rfl)) d_int)) s_pNone))))))))
/-! is_way -/
abbrev st_is_way : Stmt := topS 48
abbrev N_is_way : List Str := [Str.ofString "one", Str.ofString "other", Str.ofString "thing", Str.ofString "here", Str.ofString "far", Str.ofString "turn"]
abbrev L_is_way : Nms := [(Str.ofString "one", NameKind.local), (Str.ofString "other", NameKind.local), (Str.ofString "thing", NameKind.local), (Str.ofString "here", NameKind.local), (Str.ofString "far", NameKind.local), (Str.ofString "turn", NameKind.local), (Str.ofString "sure_board", NameKind.globalImplicit), (Str.ofString "isinstance", NameKind.globalImplicit), (Str.ofString "tuple", NameKind.globalImplicit), (Str.ofString "is_triple", NameKind.globalImplicit), (Str.ofString "allowed", NameKind.globalImplicit), (Str.ofString "made_turned", NameKind.globalImplicit)]
theorem sc_is_way : FnScope N_is_way ["one", "other", "thing"] (defScope st_is_way) := ⟨rfl, rfl, rfl, by decide +kernel, rfl, by decide +kernel, by decide +kernel⟩
def c_is_way : SM :=
  (sSeq (sPar2 3 4 (eCall f_sure_board (lCons (eVar 0) lNil)) (eCall f_sure_board (lCons (eVar 1) lNil)))
  (sSeq (sIf (tNot_ (tVal (eIsi ["tuple"] (eVar 2))))
  (sRet (eCst (.bl false)))
  sNext)
  (sSeq (sFor (itSeq (eVar 2)) (gNm 5)
  (sSeq (sFrz [3] (sIf (tOr_ (tNot_ (tVal (eCall f_is_triple (lCons (eVar 5) lNil)))) (tNot_ (tVal (eCall f_allowed (lCons (eVar 3) (lCons (eVar 5) lNil))))))
  (sRet (eCst (.bl false)))
  sNext))
  (sFrz [3] (sAsg 3 (eCall f_made_turned (lCons (eVar 3) (lCons (eVar 5) lNil)))))))
  (sRet (e2 (fB cEq) (eVar 3) (eVar 4))))))
def f_is_way : FM := fBody 6 c_is_way
theorem fn_is_way {c : Cn} (g : Hy c) : Fn c 13 "is_way" 3 f_is_way := fn_bodyD (k := 12) g g.d_is_way sc_is_way rfl rfl fun X W h =>
  (s_seq (d_par2 h 3 4 (d_call h (fn_sure_board h.hy) (by decide) rfl rfl (d_aL (d_var h 0 rfl rfl rfl rfl) d_a0) (arL ar0) rfl) (d_call h (fn_sure_board h.hy) (by decide) rfl rfl (d_aL (d_var h 1 rfl rfl rfl rfl) d_a0) (arL ar0) rfl) rfl rfl (by decide) rfl rfl)
  (s_seq (s_if (s_tNot (d_tval (d_isi1 h (d_var h 2 rfl rfl rfl rfl) kt_tuple h.hy.b_isinstance rfl h.hy.b_tuple rfl (by decide +kernel))))
  (s_one (s_ret d_bl))
  s_nil)
  (s_seq (d_for h (vs := [5]) (d_seq (d_var h 2 rfl rfl rfl rfl)) (d_gNm h 5 rfl rfl rfl (by decide))
  (s_seq (s_sFrz [3] (s_if (PW.pt (s_tOr (s_tNot (d_tval (d_call h (fn_is_triple h.hy) (by decide) rfl rfl (d_aL (d_var h 5 rfl rfl rfl rfl) d_a0) (arL ar0) rfl))) (s_tOr1 (s_tNot (d_tval (d_call h (fn_allowed h.hy) (by decide) rfl rfl (d_aL (d_var h 3 rfl rfl rfl rfl) (d_aL (d_var h 5 rfl rfl rfl rfl) d_a0)) (arL (arL ar0)) rfl))))))
  (s_one (s_ret d_bl))
  s_nil))
  (s_one (s_sFrz [3] (d_asg h 3 rfl rfl rfl (d_call h (fn_made_turned h.hy) (by decide) rfl rfl (d_aL (d_var h 3 rfl rfl rfl rfl) (d_aL (d_var h 5 rfl rfl rfl rfl) d_a0)) (arL (arL ar0)) rfl))))))
  (s_one (s_ret (d_cmp h.m_eq (d_var h 3 rfl rfl rfl rfl) (d_var h 4 rfl rfl rfl rfl) (nomark _)))))))
/-! laid -/
abbrev st_laid : Stmt := topS 22
abbrev N_laid : List Str := [Str.ofString "board", Str.ofString "many", Str.ofString "own"]
abbrev L_laid : Nms := [(Str.ofString "board", NameKind.local), (Str.ofString "many", NameKind.local), (Str.ofString "own", NameKind.local), (Str.ofString "sure_board", NameKind.globalImplicit), (Str.ofString "sure", NameKind.globalImplicit), (Str.ofString "is_from", NameKind.globalImplicit), (Str.ofString "laid_so_many", NameKind.globalImplicit)]
theorem sc_laid : FnScope N_laid ["board", "many"] (defScope st_laid) := ⟨rfl, rfl, rfl, by decide +kernel, rfl, by decide +kernel, by decide +kernel⟩
def c_laid : SM :=
  (sSeq (sAsg 2 (eCall f_sure_board (lCons (eVar 0) lNil)))
  (sSeq (sExp (eCall f_sure (lCons (eCall f_is_from (lCons (eVar 1) (lCons (eCst (.int 0)) lNil))) lNil)))
  (sFrz [2] (sRet (eCall f_laid_so_many (lCons (eVar 2) (lCons (eVar 1) lNil)))))))
def f_laid : FM := fBody 3 c_laid
theorem fn_laid {c : Cn} (g : Hy c) : Fn c 13 "laid" 2 f_laid := fn_bodyD (k := 12) g g.d_laid sc_laid rfl rfl fun X W h =>
  (s_seq (d_asg h 2 rfl rfl rfl (d_call h (fn_sure_board h.hy) (by decide) rfl rfl (d_aL (d_var h 0 rfl rfl rfl rfl) d_a0) (arL ar0) rfl))
  (s_seq (d_exp (d_call h (fn_sure h.hy) (by decide) rfl rfl (d_aL (d_call h (fn_is_from h.hy) (by decide) rfl rfl (d_aL (d_var h 1 rfl rfl rfl rfl) (d_aL d_int d_a0)) (arL (arL ar0)) rfl) d_a0) (arL ar0) rfl))
  (s_one (s_sFrz [2] (s_ret (d_call h (fn_laid_so_many h.hy) (by decide) rfl rfl (d_aL (d_var h 2 rfl rfl rfl rfl) (d_aL (d_var h 1 rfl rfl rfl rfl) d_a0)) (arL (arL ar0)) rfl))))))
/-! sure_turn -/
abbrev st_sure_turn : Stmt := topS 38
abbrev N_sure_turn : List Str := [Str.ofString "turn", Str.ofString "own"]
abbrev L_sure_turn : Nms := [(Str.ofString "turn", NameKind.local), (Str.ofString "own", NameKind.local), (Str.ofString "tuple_of", NameKind.globalImplicit), (Str.ofString "sure", NameKind.globalImplicit), (Str.ofString "is_triple", NameKind.globalImplicit), (Str.ofString "max", NameKind.globalImplicit), (Str.ofString "MOST_PART", NameKind.globalImplicit)]
theorem sc_sure_turn : FnScope N_sure_turn ["turn"] (defScope st_sure_turn) := ⟨rfl, rfl, rfl, by decide +kernel, rfl, by decide +kernel, by decide +kernel⟩
def c_sure_turn : SM :=
  (sSeq (sAsg 1 (eCall (f_tuple_of 8) (lCons (eVar 0) lNil)))
  (sSeq (sFrz [1] (sExp (eCall f_sure (lCons (eAnd (eCall f_is_triple (lCons (eVar 1) lNil)) (eAnd (e2 (fB cGe) (eIdxN (eVar 1) (eCst (.int 0))) (eCst (.int 1))) (eAnd (e2 (fB cGe) (eIdxN (eVar 1) (eCst (.int 2))) (eCst (.int 1))) (e2 (fB cLe) (eB (f1 gMax) (rCons (eVar 1) lNil)) (eCst (.int 40)))))) lNil))))
  (sRetV 1)))
def f_sure_turn : FM := fBody 2 c_sure_turn
theorem fn_sure_turn {c : Cn} (g : Hy c) : Fn c 12 "sure_turn" 1 f_sure_turn := fn_bodyD (k := 11) g g.d_sure_turn sc_sure_turn rfl rfl fun X W h =>
  (s_seq (d_asg h 1 rfl rfl rfl (d_call h (fn_tuple_of h.hy 8) (by decide) rfl rfl (d_aL (d_var h 0 rfl rfl rfl rfl) d_a0) (arL ar0) rfl))
  (s_seq (s_sFrz [1] (d_exp (d_call h (fn_sure h.hy) (by decide) rfl rfl (d_aL (s_eAnd (d_call h (fn_is_triple h.hy) (by decide) rfl rfl (d_aL (d_var h 1 rfl rfl rfl rfl) d_a0) (arL ar0) rfl) (s_eAnd (d_cmp h.m_ge (d_idxN (d_var h 1 rfl rfl rfl rfl) d_int) d_int (nomark _)) (s_eAnd (d_cmp h.m_ge (d_idxN (d_var h 1 rfl rfl rfl rfl) d_int) d_int (nomark _)) (s_eOne (d_cmp h.m_le (d_bi h h.b_max h.hy.b_max rfl (d_aR (d_var h 1 rfl rfl rfl rfl) d_r0)) (d_glob h h.hy.g_MOST_PART rfl rfl) (nomark _)))))) d_a0) (arL ar0) rfl)))
  (s_one (d_retV h 1 rfl rfl rfl rfl))))
/-! turned -/
abbrev st_turned : Stmt := topS 41
abbrev N_turned : List Str := [Str.ofString "board", Str.ofString "turn", Str.ofString "own"]
abbrev L_turned : Nms := [(Str.ofString "board", NameKind.local), (Str.ofString "turn", NameKind.local), (Str.ofString "own", NameKind.local), (Str.ofString "sure_board", NameKind.globalImplicit), (Str.ofString "made_turned", NameKind.globalImplicit), (Str.ofString "sure_turn", NameKind.globalImplicit)]
theorem sc_turned : FnScope N_turned ["board", "turn"] (defScope st_turned) := ⟨rfl, rfl, rfl, by decide +kernel, rfl, by decide +kernel, by decide +kernel⟩
def c_turned : SM :=
  (sSeq (sAsg 2 (eCall f_sure_board (lCons (eVar 0) lNil)))
  (sFrz [2] (sRet (eCall f_made_turned (lCons (eVar 2) (lCons (eCall f_sure_turn (lCons (eVar 1) lNil)) lNil))))))
def f_turned : FM := fBody 3 c_turned
theorem fn_turned {c : Cn} (g : Hy c) : Fn c 13 "turned" 2 f_turned := fn_bodyD (k := 12) g g.d_turned sc_turned rfl rfl fun X W h =>
  (s_seq (d_asg h 2 rfl rfl rfl (d_call h (fn_sure_board h.hy) (by decide) rfl rfl (d_aL (d_var h 0 rfl rfl rfl rfl) d_a0) (arL ar0) rfl))
  (s_one (s_sFrz [2] (s_ret (d_call h (fn_made_turned h.hy) (by decide) rfl rfl (d_aL (d_var h 2 rfl rfl rfl rfl) (d_aL (d_call h (fn_sure_turn h.hy) (by decide) rfl rfl (d_aL (d_var h 1 rfl rfl rfl rfl) d_a0) (arL ar0) rfl) d_a0)) (arL (arL ar0)) rfl)))))
/-! _law_right -/
abbrev st__law_right : Stmt := topS 69
abbrev N__law_right : List Str := [Str.ofString "box", Str.ofString "board", Str.ofString "here", Str.ofString "turns", Str.ofString "step", Str.ofString "some", Str.ofString "turn", Str.ofString "bent", Str.ofString "got", Str.ofString "short", Str.ofString "other", Str.ofString "many", Str.ofString "laying", Str.ofString "size", Str.ofString "k", Str.ofString "rows", Str.ofString "wide", Str.ofString "columns", Str.ofString "lines", Str.ofString "web", Str.ofString "free", Str.ofString "far", Str.ofString "own", Str.ofString "numbers", Str.ofString "drawn", Str.ofString "due", Str.ofString "cell", Str.ofString "near", Str.ofString "column", Str.ofString "length"]
abbrev L__law_right : Nms := [(Str.ofString "box", NameKind.cell), (Str.ofString "board", NameKind.local), (Str.ofString "here", NameKind.local), (Str.ofString "turns", NameKind.local), (Str.ofString "step", NameKind.local), (Str.ofString "some", NameKind.local), (Str.ofString "turn", NameKind.local), (Str.ofString "bent", NameKind.local), (Str.ofString "got", NameKind.local), (Str.ofString "short", NameKind.local), (Str.ofString "other", NameKind.local), (Str.ofString "many", NameKind.local), (Str.ofString "laying", NameKind.local), (Str.ofString "size", NameKind.local), (Str.ofString "k", NameKind.local), (Str.ofString "rows", NameKind.cell), (Str.ofString "wide", NameKind.local), (Str.ofString "columns", NameKind.local), (Str.ofString "lines", NameKind.local), (Str.ofString "web", NameKind.cell), (Str.ofString "free", NameKind.local), (Str.ofString "far", NameKind.cell), (Str.ofString "own", NameKind.local), (Str.ofString "numbers", NameKind.local), (Str.ofString "drawn", NameKind.local), (Str.ofString "due", NameKind.local), (Str.ofString "cell", NameKind.local), (Str.ofString "near", NameKind.local), (Str.ofString "_law_board", NameKind.globalImplicit), (Str.ofString "_law_take", NameKind.globalImplicit), (Str.ofString "range", NameKind.globalImplicit), (Str.ofString "all_turns", NameKind.globalImplicit), (Str.ofString "_law_of", NameKind.globalImplicit), (Str.ofString "turned", NameKind.globalImplicit), (Str.ofString "is_way", NameKind.globalImplicit), (Str.ofString "list", NameKind.globalImplicit), (Str.ofString "len", NameKind.globalImplicit), (Str.ofString "_law_same", NameKind.globalImplicit), (Str.ofString "is_unlike", NameKind.globalImplicit), (Str.ofString "laid", NameKind.globalImplicit), (Str.ofString "_law_laying", NameKind.globalImplicit), (Str.ofString "is_laying_with", NameKind.globalImplicit), (Str.ofString "tuple", NameKind.globalImplicit), (Str.ofString "max", NameKind.globalImplicit), (Str.ofString "enumerate", NameKind.globalImplicit), (Str.ofString "is_short_cover", NameKind.globalImplicit), (Str.ofString "_law_below", NameKind.globalImplicit), (Str.ofString "_law_sets", NameKind.globalImplicit), (Str.ofString "_law_heard", NameKind.globalImplicit), (Str.ofString "_law_pick", NameKind.globalImplicit), (Str.ofString "_law_told", NameKind.globalImplicit), (Str.ofString "is_board_with", NameKind.globalImplicit), (Str.ofString "min", NameKind.globalImplicit), (Str.ofString "is_lacking", NameKind.globalImplicit), (Str.ofString "is_outside", NameKind.globalImplicit)]
theorem sc__law_right : FnScope N__law_right ["box"] (defScope st__law_right) := ⟨rfl, rfl, rfl, by decide +kernel, rfl, by decide +kernel, by decide +kernel⟩
def c__law_right : SM :=
  (sSeq (sAsg 1 (eCall f__law_board (lCons (eVar 0) (lCons (eCall f__law_take (lCons (eVar 0) (lCons (eCst (.int 6)) lNil))) (lCons (eCst (.int 4)) lNil)))))
  (sSeq (sFrz [1] (sPar2 2 3 (eVar 1) (eTup lNil)))
  (sSeq (sFor (itRng (rCons (eCall f__law_take (lCons (eVar 0) (lCons (eCst (.int 4)) lNil))) lNil)) (gNm 4)
  (sSeq (sFrz [2] (sAsg 5 (eCall f_all_turns (lCons (eVar 2) lNil))))
  (sIf (tVal (e2 (fB cNe) (eVar 5) (eLst lNil)))
  (sSeq (sFrz [5] (sAsg 6 (eCall f__law_of (lCons (eVar 0) (lCons (eVar 5) lNil)))))
  (sFrz [2, 6] (sPar2 2 3 (eCall f_turned (lCons (eVar 2) (lCons (eVar 6) lNil))) (e2 fAdd (eVar 3) (eTup (lCons (eVar 6) lNil))))))
  sNext)))
  (sSeq (sAsg 7 (e2 fAdd (eSl (eVar 3) none (some (e1 fNeg (eCst (.int 1))))) (eTup (lCons (eTup (lCons (eCst (.int 1)) (lCons (eCst (.int 9)) (lCons (eCst (.int 2)) lNil)))) lNil))))
  (sSeq (sFrz [1, 2, 3] (sAsg 8 (eLst (lCons (eCall f_is_way (lCons (eVar 1) (lCons (eVar 2) (lCons (eVar 3) lNil)))) (lCons (eCall f_is_way (lCons (eVar 2) (lCons (eVar 1) (lCons (e1 fRev (eVar 3)) lNil)))) (lCons (eCall f_is_way (lCons (eVar 1) (lCons (eVar 2) (lCons (eB (f1 gList) (rCons (eVar 3) lNil)) lNil)))) lNil))))))
  (sSeq (sFrz [7, 1, 2, 3] (sAsg 8 (e2 fAdd (eVar 8) (eLst (lCons (eCall f_is_way (lCons (eVar 1) (lCons (eVar 2) (lCons (eVar 7) lNil)))) (lCons (eCall f_is_way (lCons (eVar 1) (lCons (eVar 2) (lCons (eCst .non) lNil)))) (lCons (eCall f_is_way (lCons (eVar 1) (lCons (eIf (tVal (e2 (fB cLt) (eB fLen (rCons (eVar 2) lNil)) (eCst (.int 6)))) (e2 fAdd (eVar 2) (eTup (lCons (eCst (.int 9)) lNil))) (eTup lNil)) (lCons (eVar 3) lNil)))) lNil)))))))
  (sSeq (sFrz [1, 2] (sAsg 9 (eCall f_is_way (lCons (eVar 1) (lCons (eVar 2) (lCons (eSl (eVar 3) (some (eCst (.int 1))) none) lNil))))))
  (sSeq (sFrz [8] (sIf (tOr_ (tNot_ (tVal (eCall (f__law_same 8) (lCons (eVar 8) (lCons (eLst (lCons (eCst (.bl true)) (lCons (eCst (.bl true)) (lCons (eCst (.bl false)) (lCons (eCst (.bl false)) (lCons (eCst (.bl false)) (lCons (eCst (.bl false)) lNil))))))) lNil))))) (tAnd_ (tVal (e2 (fB cNe) (eVar 2) (eVar 1))) (tAnd_ (tVal (e2 (fB cEq) (eB fLen (rCons (eVar 3) lNil)) (eCst (.int 1)))) (tVal (eVar 9)))))
  (sRet (eCst (.bl false)))
  sNext))
  (sSeq (sAsg 10 (eCall f__law_board (lCons (eVar 0) (lCons (eCall f__law_take (lCons (eVar 0) (lCons (eCst (.int 6)) lNil))) (lCons (eCst (.int 4)) lNil)))))
  (sSeq (sFor (itRng (rCons (eCst (.int 7)) lNil)) (gNm 11)
  (sFrz [1, 10] (sIf (tNot_ (tVal (eCall (f__law_same 8) (lCons (eCall f_is_unlike (lCons (eVar 1) (lCons (eVar 10) (lCons (eVar 11) lNil)))) (lCons (e2 (fB cNe) (eCall f_laid (lCons (eVar 1) (lCons (eVar 11) lNil))) (eCall f_laid (lCons (eVar 10) (lCons (eVar 11) lNil)))) lNil)))))
  (sRet (eCst (.bl false)))
  sNext)))
  (sSeq (sFrz [1] (sPar2 12 11 (eCall f__law_laying (lCons (eVar 0) (lCons (eVar 1) lNil))) (eCall f__law_take (lCons (eVar 0) (lCons (eCst (.int 5)) lNil)))))
  (sSeq (sFrz [12] (sAsg 13 (eB fLen (rCons (eComp [28] (itSeq (eVar 12)) (gNm 28) (tVal (e2 (fB cGt) (eVar 28) (eCst (.int 0)))) (eVar 28)) lNil))))
  (sSeq (sFrz [1, 12] (sAsg 8 (eLst (lCons (eCall f_is_laying_with (lCons (eVar 1) (lCons (eVar 11) (lCons (eVar 12) lNil)))) (lCons (eCall f_is_laying_with (lCons (eVar 1) (lCons (eVar 13) (lCons (eVar 12) lNil)))) (lCons (eCall f_is_laying_with (lCons (eVar 1) (lCons (eVar 13) (lCons (eB (f1 gList) (rCons (eVar 12) lNil)) lNil)))) lNil))))))
  (sSeq (sFrz [8] (sIf (tNot_ (tVal (eCall (f__law_same 8) (lCons (eVar 8) (lCons (eLst (lCons (e2 (fB cEq) (eVar 11) (eVar 13)) (lCons (eCst (.bl true)) (lCons (eCst (.bl false)) lNil)))) lNil)))))
  (sRet (eCst (.bl false)))
  sNext))
  (sSeq (sAsg 15 (eB (f1 gTuple) (rCons (eComp [14] (itRng (rCons (eCst (.int 1)) (rCons (e2 fAdd (eB fLen (rCons (eVar 1) lNil)) (eCst (.int 1))) lNil))) (gNm 14) (tVal (e2 (fB cEq) (eCall f__law_take (lCons (eVar 0) (lCons (eCst (.int 2)) lNil))) (eCst (.int 0)))) (eVar 14)) lNil)))
  (sSeq (sFrz [1] (sAsg 16 (eB (f1 gMax) (rCons (e2 fAdd (eComp [14, 29] (itEnum (lCons (eVar 1) lNil)) (gTp [(gNm 14), (gNm 29)]) (tVal (e2 (fB cNotIn) (e2 fAdd (eVar 14) (eCst (.int 1))) (eVar 15))) (eVar 29)) (eLst (lCons (eCst (.int 0)) lNil))) lNil))))
  (sSeq (sAsg 17 (eRng true (rCons (eCst (.int 1)) (rCons (e2 fAdd (eVar 16) (eCst (.int 1))) lNil))))
  (sSeq (sAsg 18 (e2 fAdd (eB fLen (rCons (eVar 15) lNil)) (eVar 16)))
  (sSeq (sFrz [1, 18] (sAsg 8 (eLst (lCons (eCall f_is_short_cover (lCons (eVar 1) (lCons (e2 fAdd (eVar 18) (eCst (.int 1))) (lCons (eTup (lCons (eVar 15) (lCons (eVar 17) lNil))) lNil)))) (lCons (eCall f_is_short_cover (lCons (eVar 1) (lCons (eVar 18) (lCons (eTup (lCons (eVar 15) (lCons (eVar 17) lNil))) lNil)))) lNil)))))
  (sSeq (sFrz [1] (sApp 8 (eCall f_is_short_cover (lCons (eVar 1) (lCons (eCst (.int 99)) (lCons (eTup (lCons (eVar 15) (lCons (eSl (eVar 17) (some (eCst (.int 1))) none) lNil))) lNil))))))
  (sSeq (sFrz [8] (sIf (tNot_ (tVal (eCall (f__law_same 8) (lCons (eVar 8) (lCons (eLst (lCons (eCst (.bl true)) (lCons (eCst (.bl false)) (lCons (e2 (fB cEq) (eVar 16) (eCst (.int 0))) lNil)))) lNil)))))
  (sRet (eCst (.bl false)))
  sNext))
  (sSeq (sAsg 19 (eCall f__law_below (lCons (eVar 0) (lCons (eCall f__law_take (lCons (eVar 0) (lCons (eCst (.int 6)) lNil))) lNil))))
  (sSeq (sAsg 5 (eCall f__law_of (lCons (eVar 0) (lCons (eCall f__law_sets (lCons (eRng false (rCons (eCst (.int 1)) (rCons (e2 fAdd (eB fLen (rCons (eVar 19) lNil)) (eCst (.int 1))) lNil))) lNil)) lNil))))
  (sSeq (sAsg 20 (eCst (.int 0)))
  (sSeq (sFrz [5] (sFor (itEnum (lCons (eVar 5) lNil)) (gTp [(gNm 14), (gNm 21)])
  (sAsg 20 (e2 fAdd (eVar 20) (eB fLen (rCons (eComp [22] (itSeq (eSl (eVar 5) none (some (eVar 14)))) (gNm 22) (tVal (e2 (fB cLe) (eVar 22) (eIdxN (eVar 19) (e2 fSub (eVar 21) (eCst (.int 1)))))) (eVar 22)) lNil))))))
  (sSeq (sFrz [5, 19] (sAsg 8 (eLst (lCons (eCall f__law_heard (lCons (eVar 19) (lCons (eB fLen (rCons (eVar 5) lNil)) (lCons (eVar 5) lNil)))) (lCons (eCall f__law_heard (lCons (eVar 19) (lCons (e2 fAdd (eB fLen (rCons (eVar 5) lNil)) (eCst (.int 1))) (lCons (eVar 5) lNil)))) (lCons (eCall f__law_heard (lCons (eTup (lCons (eCst (.int 1)) lNil)) (lCons (eCst (.int 1)) (lCons (eTup (lCons (eCst (.int 1)) lNil)) lNil)))) lNil))))))
  (sSeq (sFrz [8] (sIf (tNot_ (tVal (eCall (f__law_same 8) (lCons (eVar 8) (lCons (eLst (lCons (e2 (fB cEq) (eVar 20) (eCst (.int 0))) (lCons (eCst (.bl false)) (lCons (eCst (.str "CanNot")) lNil)))) lNil)))))
  (sRet (eCst (.bl false)))
  sNext))
  (sSeq (sFrz [1] (sAsg 23 (eB (f1 gTuple) (rCons (eCall f__law_pick (lCons (eVar 0) (lCons (eB (f1 gList) (rCons (eCall f__law_told (lCons (eVar 1) lNil)) lNil)) (lCons (eB fLen (rCons (eVar 1) lNil)) lNil)))) lNil))))
  (sSeq (sFrz [1] (sAsg 8 (eLst (lCons (eCall f_is_board_with (lCons (eVar 23) (lCons (eVar 1) lNil))) (lCons (eCall f_is_board_with (lCons (eVar 23) (lCons (eB (f1 gList) (rCons (eVar 1) lNil)) lNil))) (lCons (eCall f_is_board_with (lCons (eIf (tVal (e2 (fB cLt) (eB fLen (rCons (eVar 1) lNil)) (eCst (.int 6)))) (e2 fAdd (eVar 23) (eTup (lCons (eCst (.int 0)) lNil))) (eTup lNil)) (lCons (eVar 1) lNil))) lNil))))))
  (sSeq (sFrz [8] (sIf (tNot_ (tVal (eCall (f__law_same 8) (lCons (eVar 8) (lCons (eLst (lCons (eCst (.bl true)) (lCons (eCst (.bl false)) (lCons (eCst (.bl false)) lNil)))) lNil)))))
  (sRet (eCst (.bl false)))
  sNext))
  (sSeq (sAsg 24 (eB (f1 gTuple) (rCons (eComp [14] (itRng (rCons (eCall f__law_take (lCons (eVar 0) (lCons (eCst (.int 5)) lNil))) lNil)) (gNm 14) tTrue (e2 fSub (eCall f__law_take (lCons (eVar 0) (lCons (eCst (.int 9)) lNil))) (eCst (.int 4)))) lNil)))
  (sSeq (sFor (itRng (rCons (e1 fNeg (eCst (.int 6))) (rCons (eCst (.int 3)) lNil))) (gNm 22)
  (sSeq (sAsg 25 (eAnd (e2 (fB cNe) (eVar 24) (eTup lNil)) (eAnd (eChain cLe cLe (eB (f1 gMin) (rCons (eVar 24) lNil)) (eVar 22) (eCst (.int 0))) (e2 (fB cNotIn) (eVar 22) (eVar 24)))))
  (sIf (tNot_ (tVal (eCall (f__law_same 8) (lCons (eCall f_is_lacking (lCons (eVar 24) (lCons (eVar 22) lNil))) (lCons (eVar 25) lNil)))))
  (sRet (eCst (.bl false)))
  sNext)))
  (sSeq (sIf (tNot_ (tVal (eCall (f__law_same 8) (lCons (eLst (lCons (eCall f_is_lacking (lCons (eTup (lCons (e1 fNeg (eCst (.int 1))) lNil)) (lCons (eCst (.bl false)) lNil))) (lCons (eCall f_is_lacking (lCons (eTup (lCons (e1 fNeg (eCst (.int 1))) lNil)) (lCons (eCst .non) lNil))) (lCons (eCall f_is_lacking (lCons (eTup lNil) (lCons (eCst (.int 0)) lNil))) lNil)))) (lCons (eLst (lCons (eCst (.bl false)) (lCons (eCst (.bl false)) (lCons (eCst (.bl false)) lNil)))) lNil)))))
  (sRet (eCst (.bl false)))
  sNext)
  (sSeq (sAsg 26 (eTup (lCons (e2 fAdd (eCst (.int 1)) (eCall f__law_take (lCons (eVar 0) (lCons (eCst (.int 5)) lNil)))) (lCons (e2 fAdd (eCst (.int 1)) (eCall f__law_take (lCons (eVar 0) (lCons (eCst (.int 5)) lNil)))) lNil))))
  (sSeq (sAsg 27 (eAnd (e2 (fB cLe) (eIdxN (eVar 26) (eCst (.int 0))) (eB fLen (rCons (eVar 1) lNil))) (e2 (fB cLe) (eIdxN (eVar 26) (eCst (.int 1))) (eIdxN (eVar 1) (e2 fSub (eIdxN (eVar 26) (eCst (.int 0))) (eCst (.int 1)))))))
  (sSeq (sAsg 21 (eAnd (e2 (fB cLe) (eIdxN (eVar 26) (eCst (.int 0))) (eB fLen (rCons (eVar 10) lNil))) (e2 (fB cLe) (eIdxN (eVar 26) (eCst (.int 1))) (eIdxN (eVar 10) (e2 fSub (eIdxN (eVar 26) (eCst (.int 0))) (eCst (.int 1)))))))
  (sFrz [1, 10] (sRet (eCall (f__law_same 8) (lCons (eLst (lCons (eCall f_is_outside (lCons (eVar 1) (lCons (eVar 10) (lCons (eVar 26) lNil)))) (lCons (eCall f_is_outside (lCons (eVar 1) (lCons (eVar 10) (lCons (eB (f1 gList) (rCons (eVar 26) lNil)) lNil)))) lNil))) (lCons (eLst (lCons (eAnd (eVar 27) (eNot (eVar 21))) (lCons (eCst (.bl false)) lNil))) lNil)))))))))))))))))))))))))))))))))))))))))
def f__law_right : FM := fBody 30 c__law_right
theorem fn__law_right {c : Cn} (g : Hy c) : Fn c 15 "_law_right" 1 f__law_right := fn_bodyD (k := 14) g g.d__law_right sc__law_right rfl rfl fun X W h =>
  (s_seq (d_asg h 1 rfl rfl rfl (d_call h (fn__law_board h.hy) (by decide) rfl rfl (d_aL (d_var h 0 rfl rfl rfl rfl) (d_aL (d_call h (fn__law_take h.hy) (by decide) rfl rfl (d_aL (d_var h 0 rfl rfl rfl rfl) (d_aL d_int d_a0)) (arL (arL ar0)) rfl) (d_aL d_int d_a0))) (arL (arL (arL ar0))) rfl))
  (s_seq (s_sFrz [1] (d_par2 h 2 3 (d_var h 1 rfl rfl rfl rfl) (d_tup d_a0) rfl rfl (by decide) rfl rfl))
  (s_seq (d_for h (vs := [4]) (d_rng1 h h.hy.b_range rfl (d_aR (d_call h (fn__law_take h.hy) (by decide) rfl rfl (d_aL (d_var h 0 rfl rfl rfl rfl) (d_aL d_int d_a0)) (arL (arL ar0)) rfl) d_r0) (arR ar0)) (d_gNm h 4 rfl rfl rfl (by decide))
  (s_seq (s_sFrz [2] (d_asg h 5 rfl rfl rfl (d_call h (fn_all_turns h.hy) (by decide) rfl rfl (d_aL (d_var h 2 rfl rfl rfl rfl) d_a0) (arL ar0) rfl)))
  (s_one (s_if (d_tcmp h.m_ne (d_var h 5 rfl rfl rfl rfl) (d_lst d_a0) (nomark _))
  (s_seq (s_sFrz [5] (d_asg h 6 rfl rfl rfl (d_call h (fn__law_of h.hy) (by decide) rfl rfl (d_aL (d_var h 0 rfl rfl rfl rfl) (d_aL (d_var h 5 rfl rfl rfl rfl) d_a0)) (arL (arL ar0)) rfl)))
  (s_one (s_sFrz [2, 6] (d_par2 h 2 3 (d_call h (fn_turned h.hy) (by decide) rfl rfl (d_aL (d_var h 2 rfl rfl rfl rfl) (d_aL (d_var h 6 rfl rfl rfl rfl) d_a0)) (arL (arL ar0)) rfl) (d_add (d_var h 3 rfl rfl rfl rfl) (d_tup (d_aL (d_var h 6 rfl rfl rfl rfl) d_a0))) rfl rfl (by decide) rfl rfl))))
  s_nil))))
  (s_seq (d_asg h 7 rfl rfl rfl (d_add (d_sl (d_var h 3 rfl rfl rfl rfl) s_pNone (s_pSome (d_neg d_int))) (d_tup (d_aL (d_tup (d_aL d_int (d_aL d_int (d_aL d_int d_a0)))) d_a0))))
  (s_seq (s_sFrz [1, 2, 3] (d_asg h 8 rfl rfl rfl (d_lst (d_aL (d_call h (fn_is_way h.hy) (by decide) rfl rfl (d_aL (d_var h 1 rfl rfl rfl rfl) (d_aL (d_var h 2 rfl rfl rfl rfl) (d_aL (d_var h 3 rfl rfl rfl rfl) d_a0))) (arL (arL (arL ar0))) rfl) (d_aL (d_call h (fn_is_way h.hy) (by decide) rfl rfl (d_aL (d_var h 2 rfl rfl rfl rfl) (d_aL (d_var h 1 rfl rfl rfl rfl) (d_aL (s_rev (d_var h 3 rfl rfl rfl rfl)) d_a0))) (arL (arL (arL ar0))) rfl) (d_aL (d_call h (fn_is_way h.hy) (by decide) rfl rfl (d_aL (d_var h 1 rfl rfl rfl rfl) (d_aL (d_var h 2 rfl rfl rfl rfl) (d_aL (d_bi h h.b_list h.hy.b_list rfl (d_aR (d_var h 3 rfl rfl rfl rfl) d_r0)) d_a0))) (arL (arL (arL ar0))) rfl) d_a0))))))
  (s_seq (s_sFrz [7, 1, 2, 3] (d_asg h 8 rfl rfl rfl (d_add (d_var h 8 rfl rfl rfl rfl) (d_lst (d_aL (d_call h (fn_is_way h.hy) (by decide) rfl rfl (d_aL (d_var h 1 rfl rfl rfl rfl) (d_aL (d_var h 2 rfl rfl rfl rfl) (d_aL (d_var h 7 rfl rfl rfl rfl) d_a0))) (arL (arL (arL ar0))) rfl) (d_aL (d_call h (fn_is_way h.hy) (by decide) rfl rfl (d_aL (d_var h 1 rfl rfl rfl rfl) (d_aL (d_var h 2 rfl rfl rfl rfl) (d_aL d_non d_a0))) (arL (arL (arL ar0))) rfl) (d_aL (d_call h (fn_is_way h.hy) (by decide) rfl rfl (d_aL (d_var h 1 rfl rfl rfl rfl) (d_aL (s_eIf (d_tcmp h.m_lt (d_bi h h.b_len h.hy.b_len rfl (d_aR (d_var h 2 rfl rfl rfl rfl) d_r0)) d_int (nomark _)) (d_add (d_var h 2 rfl rfl rfl rfl) (d_tup (d_aL d_int d_a0))) (d_tup d_a0)) (d_aL (d_var h 3 rfl rfl rfl rfl) d_a0))) (arL (arL (arL ar0))) rfl) d_a0)))))))
  (s_seq (s_sFrz [1, 2] (d_asg h 9 rfl rfl rfl (d_call h (fn_is_way h.hy) (by decide) rfl rfl (d_aL (d_var h 1 rfl rfl rfl rfl) (d_aL (d_var h 2 rfl rfl rfl rfl) (d_aL (d_sl (d_var h 3 rfl rfl rfl rfl) (s_pSome d_int) s_pNone) d_a0))) (arL (arL (arL ar0))) rfl)))
  (s_seq (s_sFrz [8] (s_if (PW.pt (s_tOr (s_tNot (d_tval (d_call h (fn__law_same h.hy 8) (by decide) rfl rfl (d_aL (d_var h 8 rfl rfl rfl rfl) (d_aL (d_lst (d_aL d_bl (d_aL d_bl (d_aL d_bl (d_aL d_bl (d_aL d_bl (d_aL d_bl d_a0))))))) d_a0)) (arL (arL ar0)) rfl))) (s_tOr1 (PW.pt (s_tAnd (d_tcmp h.m_ne (d_var h 2 rfl rfl rfl rfl) (d_var h 1 rfl rfl rfl rfl) (nomark _)) (s_tAnd (d_tcmp h.m_eq (d_bi h h.b_len h.hy.b_len rfl (d_aR (d_var h 3 rfl rfl rfl rfl) d_r0)) d_int (nomark _)) (s_tAnd1 (d_tval (d_var h 9 rfl rfl rfl rfl)))))))))
  (s_one (s_ret d_bl))
  s_nil))
  (s_seq (d_asg h 10 rfl rfl rfl (d_call h (fn__law_board h.hy) (by decide) rfl rfl (d_aL (d_var h 0 rfl rfl rfl rfl) (d_aL (d_call h (fn__law_take h.hy) (by decide) rfl rfl (d_aL (d_var h 0 rfl rfl rfl rfl) (d_aL d_int d_a0)) (arL (arL ar0)) rfl) (d_aL d_int d_a0))) (arL (arL (arL ar0))) rfl))
  (s_seq (d_for h (vs := [11]) (d_rng1 h h.hy.b_range rfl (d_aR d_int d_r0) (arR ar0)) (d_gNm h 11 rfl rfl rfl (by decide))
  (s_one (s_sFrz [1, 10] (s_if (s_tNot (d_tval (d_call h (fn__law_same h.hy 8) (by decide) rfl rfl (d_aL (d_call h (fn_is_unlike h.hy) (by decide) rfl rfl (d_aL (d_var h 1 rfl rfl rfl rfl) (d_aL (d_var h 10 rfl rfl rfl rfl) (d_aL (d_var h 11 rfl rfl rfl rfl) d_a0))) (arL (arL (arL ar0))) rfl) (d_aL (d_cmp h.m_ne (d_call h (fn_laid h.hy) (by decide) rfl rfl (d_aL (d_var h 1 rfl rfl rfl rfl) (d_aL (d_var h 11 rfl rfl rfl rfl) d_a0)) (arL (arL ar0)) rfl) (d_call h (fn_laid h.hy) (by decide) rfl rfl (d_aL (d_var h 10 rfl rfl rfl rfl) (d_aL (d_var h 11 rfl rfl rfl rfl) d_a0)) (arL (arL ar0)) rfl) (nomark _)) d_a0)) (arL (arL ar0)) rfl)))
  (s_one (s_ret d_bl))
  s_nil))))
  (s_seq (s_sFrz [1] (d_par2 h 12 11 (d_call h (fn__law_laying h.hy) (by decide) rfl rfl (d_aL (d_var h 0 rfl rfl rfl rfl) (d_aL (d_var h 1 rfl rfl rfl rfl) d_a0)) (arL (arL ar0)) rfl) (d_call h (fn__law_take h.hy) (by decide) rfl rfl (d_aL (d_var h 0 rfl rfl rfl rfl) (d_aL d_int d_a0)) (arL (arL ar0)) rfl) rfl rfl (by decide) rfl rfl))
  (s_seq (s_sFrz [12] (d_asg h 13 rfl rfl rfl (d_bi h h.b_len h.hy.b_len rfl (d_aR (d_lc h [("column", 28)] (by decide +kernel) (d_seq (d_var h 12 rfl rfl rfl rfl)) (fun _ h1 => (d_gNm h1 28 rfl rfl rfl (by decide))) (fun _ h1 => (s_tIf (d_tcmp h1.m_gt (d_var h1 28 rfl rfl rfl rfl) d_int (nomark _)))) (fun _ h1 => (d_var h1 28 rfl rfl rfl rfl))) d_r0))))
  (s_seq (s_sFrz [1, 12] (d_asg h 8 rfl rfl rfl (d_lst (d_aL (d_call h (fn_is_laying_with h.hy) (by decide) rfl rfl (d_aL (d_var h 1 rfl rfl rfl rfl) (d_aL (d_var h 11 rfl rfl rfl rfl) (d_aL (d_var h 12 rfl rfl rfl rfl) d_a0))) (arL (arL (arL ar0))) rfl) (d_aL (d_call h (fn_is_laying_with h.hy) (by decide) rfl rfl (d_aL (d_var h 1 rfl rfl rfl rfl) (d_aL (d_var h 13 rfl rfl rfl rfl) (d_aL (d_var h 12 rfl rfl rfl rfl) d_a0))) (arL (arL (arL ar0))) rfl) (d_aL (d_call h (fn_is_laying_with h.hy) (by decide) rfl rfl (d_aL (d_var h 1 rfl rfl rfl rfl) (d_aL (d_var h 13 rfl rfl rfl rfl) (d_aL (d_bi h h.b_list h.hy.b_list rfl (d_aR (d_var h 12 rfl rfl rfl rfl) d_r0)) d_a0))) (arL (arL (arL ar0))) rfl) d_a0))))))
  (s_seq (s_sFrz [8] (s_if (s_tNot (d_tval (d_call h (fn__law_same h.hy 8) (by decide) rfl rfl (d_aL (d_var h 8 rfl rfl rfl rfl) (d_aL (d_lst (d_aL (d_cmp h.m_eq (d_var h 11 rfl rfl rfl rfl) (d_var h 13 rfl rfl rfl rfl) (nomark _)) (d_aL d_bl (d_aL d_bl d_a0)))) d_a0)) (arL (arL ar0)) rfl)))
  (s_one (s_ret d_bl))
  s_nil))
  (s_seq (d_asg h 15 rfl rfl rfl (d_bi h h.b_tuple h.hy.b_tuple rfl (d_aR (d_lc h [("k", 14)] (by decide +kernel) (d_rng2 h h.hy.b_range rfl (d_aR d_int (d_aR (d_add (d_bi h h.b_len h.hy.b_len rfl (d_aR (d_var h 1 rfl rfl rfl rfl) d_r0)) d_int) d_r0)) (arR (arR ar0))) (fun _ h2 => (d_gNm h2 14 rfl rfl rfl (by decide))) (fun _ h2 => (s_tIf (d_tcmp h2.m_eq (d_call h2 (fn__law_take h2.hy) (by decide) rfl rfl (d_aL (d_var h2 0 rfl rfl rfl rfl) (d_aL d_int d_a0)) (arL (arL ar0)) rfl) d_int (nomark _)))) (fun _ h2 => (d_var h2 14 rfl rfl rfl rfl))) d_r0)))
  (s_seq (s_sFrz [1] (d_asg h 16 rfl rfl rfl (d_bi h h.b_max h.hy.b_max rfl (d_aR (d_add (d_lc h [("k", 14), ("length", 29)] (by decide +kernel) (d_enum h h.hy.b_enumerate rfl (d_aL (d_var h 1 rfl rfl rfl rfl) d_a0) (arL ar0)) (fun _ h3 => (d_gT h3 (d_gC (d_gNm h3 14 rfl rfl rfl (by decide)) (d_gC (d_gNm h3 29 rfl rfl rfl (by decide)) d_g0)) rfl)) (fun _ h3 => (s_tIf (d_tcmp h3.m_notIn (d_add (d_var h3 14 rfl rfl rfl rfl) d_int) (d_var h3 15 rfl rfl rfl rfl) rfl))) (fun _ h3 => (d_var h3 29 rfl rfl rfl rfl))) (d_lst (d_aL d_int d_a0))) d_r0))))
  (s_seq (d_asg h 17 rfl rfl rfl (s_tupRg2 h.ok.calm (h.gl rfl) h.hy.b_tuple (h.gl rfl) h.hy.b_range d_int (d_add (d_var h 16 rfl rfl rfl rfl) d_int)))
  (s_seq (d_asg h 18 rfl rfl rfl (d_add (d_bi h h.b_len h.hy.b_len rfl (d_aR (d_var h 15 rfl rfl rfl rfl) d_r0)) (d_var h 16 rfl rfl rfl rfl)))
  (s_seq (s_sFrz [1, 18] (d_asg h 8 rfl rfl rfl (d_lst (d_aL (d_call h (fn_is_short_cover h.hy) (by decide) rfl rfl (d_aL (d_var h 1 rfl rfl rfl rfl) (d_aL (d_add (d_var h 18 rfl rfl rfl rfl) d_int) (d_aL (d_tup (d_aL (d_var h 15 rfl rfl rfl rfl) (d_aL (d_var h 17 rfl rfl rfl rfl) d_a0))) d_a0))) (arL (arL (arL ar0))) rfl) (d_aL (d_call h (fn_is_short_cover h.hy) (by decide) rfl rfl (d_aL (d_var h 1 rfl rfl rfl rfl) (d_aL (d_var h 18 rfl rfl rfl rfl) (d_aL (d_tup (d_aL (d_var h 15 rfl rfl rfl rfl) (d_aL (d_var h 17 rfl rfl rfl rfl) d_a0))) d_a0))) (arL (arL (arL ar0))) rfl) d_a0)))))
  (s_seq (s_sFrz [1] (d_app h 8 rfl rfl rfl rfl (d_call h (fn_is_short_cover h.hy) (by decide) rfl rfl (d_aL (d_var h 1 rfl rfl rfl rfl) (d_aL d_int (d_aL (d_tup (d_aL (d_var h 15 rfl rfl rfl rfl) (d_aL (d_sl (d_var h 17 rfl rfl rfl rfl) (s_pSome d_int) s_pNone) d_a0))) d_a0))) (arL (arL (arL ar0))) rfl)))
  (s_seq (s_sFrz [8] (s_if (s_tNot (d_tval (d_call h (fn__law_same h.hy 8) (by decide) rfl rfl (d_aL (d_var h 8 rfl rfl rfl rfl) (d_aL (d_lst (d_aL d_bl (d_aL d_bl (d_aL (d_cmp h.m_eq (d_var h 16 rfl rfl rfl rfl) d_int (nomark _)) d_a0)))) d_a0)) (arL (arL ar0)) rfl)))
  (s_one (s_ret d_bl))
  s_nil))
  (s_seq (d_asg h 19 rfl rfl rfl (d_call h (fn__law_below h.hy) (by decide) rfl rfl (d_aL (d_var h 0 rfl rfl rfl rfl) (d_aL (d_call h (fn__law_take h.hy) (by decide) rfl rfl (d_aL (d_var h 0 rfl rfl rfl rfl) (d_aL d_int d_a0)) (arL (arL ar0)) rfl) d_a0)) (arL (arL ar0)) rfl))
  (s_seq (d_asg h 5 rfl rfl rfl (d_call h (fn__law_of h.hy) (by decide) rfl rfl (d_aL (d_var h 0 rfl rfl rfl rfl) (d_aL (d_call h (fn__law_sets h.hy) (by decide) rfl rfl (d_aL (s_listRg2 h.ok.calm (h.gl rfl) h.hy.b_list (h.gl rfl) h.hy.b_range d_int (d_add (d_bi h h.b_len h.hy.b_len rfl (d_aR (d_var h 19 rfl rfl rfl rfl) d_r0)) d_int)) d_a0) (arL ar0) rfl) d_a0)) (arL (arL ar0)) rfl))
  (s_seq (d_asg h 20 rfl rfl rfl d_int)
  (s_seq (s_sFrz [5] (d_for h (vs := [14, 21]) (d_enum h h.hy.b_enumerate rfl (d_aL (d_var h 5 rfl rfl rfl rfl) d_a0) (arL ar0)) (d_gT h (d_gC (d_gNm h 14 rfl rfl rfl (by decide)) (d_gC (d_gNm h 21 rfl rfl rfl (by decide)) d_g0)) rfl)
  (s_one (d_asg h 20 rfl rfl rfl (d_add (d_var h 20 rfl rfl rfl rfl) (d_bi h h.b_len h.hy.b_len rfl (d_aR (d_lc h [("own", 22)] (by decide +kernel) (d_seq (d_sl (d_var h 5 rfl rfl rfl rfl) s_pNone (s_pSome (d_var h 14 rfl rfl rfl rfl)))) (fun _ h4 => (d_gNm h4 22 rfl rfl rfl (by decide))) (fun _ h4 => (s_tIf (d_tcmp h4.m_le (d_var h4 22 rfl rfl rfl rfl) (d_idxN (d_var h4 19 rfl rfl rfl rfl) (d_sub (d_var h4 21 rfl rfl rfl rfl) d_int)) (nomark _)))) (fun _ h4 => (d_var h4 22 rfl rfl rfl rfl))) d_r0)))))))
  (s_seq (s_sFrz [5, 19] (d_asg h 8 rfl rfl rfl (d_lst (d_aL (d_call h (fn__law_heard h.hy) (by decide) rfl rfl (d_aL (d_var h 19 rfl rfl rfl rfl) (d_aL (d_bi h h.b_len h.hy.b_len rfl (d_aR (d_var h 5 rfl rfl rfl rfl) d_r0)) (d_aL (d_var h 5 rfl rfl rfl rfl) d_a0))) (arL (arL (arL ar0))) rfl) (d_aL (d_call h (fn__law_heard h.hy) (by decide) rfl rfl (d_aL (d_var h 19 rfl rfl rfl rfl) (d_aL (d_add (d_bi h h.b_len h.hy.b_len rfl (d_aR (d_var h 5 rfl rfl rfl rfl) d_r0)) d_int) (d_aL (d_var h 5 rfl rfl rfl rfl) d_a0))) (arL (arL (arL ar0))) rfl) (d_aL (d_call h (fn__law_heard h.hy) (by decide) rfl rfl (d_aL (d_tup (d_aL d_int d_a0)) (d_aL d_int (d_aL (d_tup (d_aL d_int d_a0)) d_a0))) (arL (arL (arL ar0))) rfl) d_a0))))))
  (s_seq (s_sFrz [8] (s_if (s_tNot (d_tval (d_call h (fn__law_same h.hy 8) (by decide) rfl rfl (d_aL (d_var h 8 rfl rfl rfl rfl) (d_aL (d_lst (d_aL (d_cmp h.m_eq (d_var h 20 rfl rfl rfl rfl) d_int (nomark _)) (d_aL d_bl (d_aL d_str d_a0)))) d_a0)) (arL (arL ar0)) rfl)))
  (s_one (s_ret d_bl))
  s_nil))
  (s_seq (s_sFrz [1] (d_asg h 23 rfl rfl rfl (d_bi h h.b_tuple h.hy.b_tuple rfl (d_aR (d_call h (fn__law_pick h.hy) (by decide) rfl rfl (d_aL (d_var h 0 rfl rfl rfl rfl) (d_aL (d_bi h h.b_list h.hy.b_list rfl (d_aR (d_call h (fn__law_told h.hy) (by decide) rfl rfl (d_aL (d_var h 1 rfl rfl rfl rfl) d_a0) (arL ar0) rfl) d_r0)) (d_aL (d_bi h h.b_len h.hy.b_len rfl (d_aR (d_var h 1 rfl rfl rfl rfl) d_r0)) d_a0))) (arL (arL (arL ar0))) rfl) d_r0))))
  (s_seq (s_sFrz [1] (d_asg h 8 rfl rfl rfl (d_lst (d_aL (d_call h (fn_is_board_with h.hy) (by decide) rfl rfl (d_aL (d_var h 23 rfl rfl rfl rfl) (d_aL (d_var h 1 rfl rfl rfl rfl) d_a0)) (arL (arL ar0)) rfl) (d_aL (d_call h (fn_is_board_with h.hy) (by decide) rfl rfl (d_aL (d_var h 23 rfl rfl rfl rfl) (d_aL (d_bi h h.b_list h.hy.b_list rfl (d_aR (d_var h 1 rfl rfl rfl rfl) d_r0)) d_a0)) (arL (arL ar0)) rfl) (d_aL (d_call h (fn_is_board_with h.hy) (by decide) rfl rfl (d_aL (s_eIf (d_tcmp h.m_lt (d_bi h h.b_len h.hy.b_len rfl (d_aR (d_var h 1 rfl rfl rfl rfl) d_r0)) d_int (nomark _)) (d_add (d_var h 23 rfl rfl rfl rfl) (d_tup (d_aL d_int d_a0))) (d_tup d_a0)) (d_aL (d_var h 1 rfl rfl rfl rfl) d_a0)) (arL (arL ar0)) rfl) d_a0))))))
  (s_seq (s_sFrz [8] (s_if (s_tNot (d_tval (d_call h (fn__law_same h.hy 8) (by decide) rfl rfl (d_aL (d_var h 8 rfl rfl rfl rfl) (d_aL (d_lst (d_aL d_bl (d_aL d_bl (d_aL d_bl d_a0)))) d_a0)) (arL (arL ar0)) rfl)))
  (s_one (s_ret d_bl))
  s_nil))
  (s_seq (d_asg h 24 rfl rfl rfl (d_bi h h.b_tuple h.hy.b_tuple rfl (d_aR (d_lc h [("k", 14)] (by decide +kernel) (d_rng1 h h.hy.b_range rfl (d_aR (d_call h (fn__law_take h.hy) (by decide) rfl rfl (d_aL (d_var h 0 rfl rfl rfl rfl) (d_aL d_int d_a0)) (arL (arL ar0)) rfl) d_r0) (arR ar0)) (fun _ h5 => (d_gNm h5 14 rfl rfl rfl (by decide))) (fun _ h5 => s_tTrue) (fun _ h5 => (d_sub (d_call h5 (fn__law_take h5.hy) (by decide) rfl rfl (d_aL (d_var h5 0 rfl rfl rfl rfl) (d_aL d_int d_a0)) (arL (arL ar0)) rfl) d_int))) d_r0)))
  (s_seq (d_for h (vs := [22]) (d_rng2 h h.hy.b_range rfl (d_aR (d_neg d_int) (d_aR d_int d_r0)) (arR (arR ar0))) (d_gNm h 22 rfl rfl rfl (by decide))
  (s_seq (d_asg h 25 rfl rfl rfl (s_eAnd (d_cmp h.m_ne (d_var h 24 rfl rfl rfl rfl) (d_tup d_a0) (nomark _)) (s_eAnd (d_chain h.m_le h.m_le (d_bi h h.b_min h.hy.b_min rfl (d_aR (d_var h 24 rfl rfl rfl rfl) d_r0)) (d_var h 22 rfl rfl rfl rfl) d_int (by with_unfolding_all rfl)) (s_eOne (d_cmp h.m_notIn (d_var h 22 rfl rfl rfl rfl) (d_var h 24 rfl rfl rfl rfl) rfl)))))
  (s_one (s_if (s_tNot (d_tval (d_call h (fn__law_same h.hy 8) (by decide) rfl rfl (d_aL (d_call h (fn_is_lacking h.hy) (by decide) rfl rfl (d_aL (d_var h 24 rfl rfl rfl rfl) (d_aL (d_var h 22 rfl rfl rfl rfl) d_a0)) (arL (arL ar0)) rfl) (d_aL (d_var h 25 rfl rfl rfl rfl) d_a0)) (arL (arL ar0)) rfl)))
  (s_one (s_ret d_bl))
  s_nil))))
  (s_seq (s_if (s_tNot (d_tval (d_call h (fn__law_same h.hy 8) (by decide) rfl rfl (d_aL (d_lst (d_aL (d_call h (fn_is_lacking h.hy) (by decide) rfl rfl (d_aL (d_tup (d_aL (d_neg d_int) d_a0)) (d_aL d_bl d_a0)) (arL (arL ar0)) rfl) (d_aL (d_call h (fn_is_lacking h.hy) (by decide) rfl rfl (d_aL (d_tup (d_aL (d_neg d_int) d_a0)) (d_aL d_non d_a0)) (arL (arL ar0)) rfl) (d_aL (d_call h (fn_is_lacking h.hy) (by decide) rfl rfl (d_aL (d_tup d_a0) (d_aL d_int d_a0)) (arL (arL ar0)) rfl) d_a0)))) (d_aL (d_lst (d_aL d_bl (d_aL d_bl (d_aL d_bl d_a0)))) d_a0)) (arL (arL ar0)) rfl)))
  (s_one (s_ret d_bl))
  s_nil)
  (s_seq (d_asg h 26 rfl rfl rfl (d_tup (d_aL (d_add d_int (d_call h (fn__law_take h.hy) (by decide) rfl rfl (d_aL (d_var h 0 rfl rfl rfl rfl) (d_aL d_int d_a0)) (arL (arL ar0)) rfl)) (d_aL (d_add d_int (d_call h (fn__law_take h.hy) (by decide) rfl rfl (d_aL (d_var h 0 rfl rfl rfl rfl) (d_aL d_int d_a0)) (arL (arL ar0)) rfl)) d_a0))))
  (s_seq (d_asg h 27 rfl rfl rfl (s_eAnd (d_cmp h.m_le (d_idxN (d_var h 26 rfl rfl rfl rfl) d_int) (d_bi h h.b_len h.hy.b_len rfl (d_aR (d_var h 1 rfl rfl rfl rfl) d_r0)) (nomark _)) (s_eOne (d_cmp h.m_le (d_idxN (d_var h 26 rfl rfl rfl rfl) d_int) (d_idxN (d_var h 1 rfl rfl rfl rfl) (d_sub (d_idxN (d_var h 26 rfl rfl rfl rfl) d_int) d_int)) (nomark _)))))
  (s_seq (d_asg h 21 rfl rfl rfl (s_eAnd (d_cmp h.m_le (d_idxN (d_var h 26 rfl rfl rfl rfl) d_int) (d_bi h h.b_len h.hy.b_len rfl (d_aR (d_var h 10 rfl rfl rfl rfl) d_r0)) (nomark _)) (s_eOne (d_cmp h.m_le (d_idxN (d_var h 26 rfl rfl rfl rfl) d_int) (d_idxN (d_var h 10 rfl rfl rfl rfl) (d_sub (d_idxN (d_var h 26 rfl rfl rfl rfl) d_int) d_int)) (nomark _)))))
  (s_one (s_sFrz [1, 10] (s_ret (d_call h (fn__law_same h.hy 8) (by decide) rfl rfl (d_aL (d_lst (d_aL (d_call h (fn_is_outside h.hy) (by decide) rfl rfl (d_aL (d_var h 1 rfl rfl rfl rfl) (d_aL (d_var h 10 rfl rfl rfl rfl) (d_aL (d_var h 26 rfl rfl rfl rfl) d_a0))) (arL (arL (arL ar0))) rfl) (d_aL (d_call h (fn_is_outside h.hy) (by decide) rfl rfl (d_aL (d_var h 1 rfl rfl rfl rfl) (d_aL (d_var h 10 rfl rfl rfl rfl) (d_aL (d_bi h h.b_list h.hy.b_list rfl (d_aR (d_var h 26 rfl rfl rfl rfl) d_r0)) d_a0))) (arL (arL (arL ar0))) rfl) d_a0))) (d_aL (d_lst (d_aL (s_eAnd (d_var h 27 rfl rfl rfl rfl) (s_eOne (s_eNot (d_var h 21 rfl rfl rfl rfl)))) (d_aL d_bl d_a0))) d_a0)) (arL (arL ar0)) rfl))))))))))))))))))))))))))))))))))))))))
/-! law -/
abbrev st_law : Stmt := topS 70
abbrev N_law : List Str := [Str.ofString "script", Str.ofString "box"]
abbrev L_law : Nms := [(Str.ofString "script", NameKind.local), (Str.ofString "box", NameKind.local), (Str.ofString "_law_box", NameKind.globalImplicit), (Str.ofString "_law_cells", NameKind.globalImplicit), (Str.ofString "_law_right", NameKind.globalImplicit)]
theorem sc_law : FnScope N_law ["script"] (defScope st_law) := ⟨rfl, rfl, rfl, by decide +kernel, rfl, by decide +kernel, by decide +kernel⟩
def c_law : SM :=
  (sSeq (sAsg 1 (eCall f__law_box (lCons (eCall f__law_cells (lCons (eVar 0) (lCons (eCst (.int 1)) lNil))) (lCons (eCst (.int 0)) lNil))))
  (sFrz [1] (sRet (eAnd (eCall f__law_right (lCons (eVar 1) lNil)) (eCall f__law_right (lCons (eVar 1) lNil))))))
def f_law : FM := fBody 2 c_law
theorem fn_law {c : Cn} (g : Hy c) : Fn c 16 "law" 1 f_law := fn_bodyD (k := 15) g g.d_law sc_law rfl rfl fun X W h =>
  (s_seq (d_asg h 1 rfl rfl rfl (d_call h (fn__law_box h.hy) (by decide) rfl rfl (d_aL (d_call h (fn__law_cells h.hy) (by decide) rfl rfl (d_aL (d_var h 0 rfl rfl rfl rfl) (d_aL d_int d_a0)) (arL (arL ar0)) rfl) (d_aL d_int d_a0)) (arL (arL ar0)) rfl))
  (s_one (s_sFrz [1] (s_ret (s_eAnd (d_call h (fn__law_right h.hy) (by decide) rfl rfl (d_aL (d_var h 1 rfl rfl rfl rfl) d_a0) (arL ar0) rfl) (s_eOne (d_call h (fn__law_right h.hy) (by decide) rfl rfl (d_aL (d_var h 1 rfl rfl rfl rfl) d_a0) (arL ar0) rfl)))))))

end Rk

namespace Rk
open PySem PySem.Spec L2
-- boxy _law_box eIdx
-- boxy _law_cells stmt sSet
-- boxy _law_take eIdx
-- boxy _law_below f__law_take
-- boxy _law_board f__law_take
theorem j_f_is_number : IF f_is_number := j_body (m := c_is_number) (j_ret (j_eand (j_isi (j_var 0)) (j_enot (j_isi (j_var 0)))))
theorem j_f_is_from : IF f_is_from := j_body (m := c_is_from) (j_ret (j_eand (j_call j_f_is_number (j_lc (j_var 0) j_l0)) (j_2 (j_var 0) (j_var 1))))
theorem j_f_is_set : IF f_is_set := j_body (m := c_is_set) (j_seq (j_if (j_or (j_not (j_tval (j_isi (j_var 0)))) (j_not (j_tval (j_b (j_rc (j_comp (j_seq' (j_var 0)) j_nm j_true (j_call j_f_is_from (j_lc (j_var 2) (j_lc j_cst j_l0)))) j_l0))))) (j_ret j_cst) j_next) (j_seq (j_if (j_and (j_tval (j_2 (j_var 1) j_cst)) (j_not (j_tval (j_b (j_rc (j_comp (j_seq' (j_var 0)) j_nm j_true (j_2 (j_var 2) (j_var 1))) j_l0))))) (j_ret j_cst) j_next) (j_ret (j_b (j_rc (j_comp (j_itrng (j_rc (j_2 (j_b (j_rc (j_var 0) j_l0)) j_cst) j_l0)) j_nm j_true (j_2 (j_idx (j_var 0) (j_var 3)) (j_idx (j_var 0) (j_2 (j_var 3) j_cst)))) j_l0)))))
theorem j_f_lies_below : IF f_lies_below := j_body (m := c_lies_below) (j_ret (j_b (j_rc (j_comp (j_enum (j_lc (j_var 0) j_l0)) (j_tp (j_gsc j_nm (j_gsc j_nm j_gs0))) j_true (j_2 (j_var 2) (j_var 1))) j_l0)))
theorem j_f_look_below : IF f_look_below := j_body (m := c_look_below) (j_if (j_not (j_tval (j_call j_f_lies_below (j_lc (j_var 0) j_l0)))) j_raise j_next)
theorem j_f_sure : IF f_sure := j_body (m := c_sure) (j_if (j_not (j_tval (j_var 0))) j_raise j_next)
theorem j_f_is_board : IF f_is_board := j_body (m := c_is_board) (j_seq (j_if (j_or (j_not (j_tval (j_isi (j_var 0)))) (j_or (j_tval (j_2 (j_b (j_rc (j_var 0) j_l0)) j_cst)) (j_not (j_tval (j_b (j_rc (j_comp (j_seq' (j_var 0)) j_nm j_true (j_call j_f_is_from (j_lc (j_var 1) (j_lc j_cst j_l0)))) j_l0)))))) (j_ret j_cst) j_next) (j_ret (j_b (j_rc (j_comp (j_itrng (j_rc (j_2 (j_b (j_rc (j_var 0) j_l0)) j_cst) j_l0)) j_nm j_true (j_2 (j_idx (j_var 0) (j_var 2)) (j_idx (j_var 0) (j_2 (j_var 2) j_cst)))) j_l0))))
theorem j_f_tuple_of : ∀ n, IF (f_tuple_of n)
  | 0 => fun _ _ _ => trivial
  | n + 1 => by
    have hrec := j_f_tuple_of n
    exact j_body (m := c_tuple_of _) (j_seq (j_if (j_tval (j_isi (j_var 0))) (j_ret (j_b (j_rc (j_comp (j_seq' (j_var 0)) j_nm j_true (j_call hrec (j_lc (j_var 1) j_l0))) j_l0))) j_next) (j_retV 0))
theorem j_f_sure_board : IF f_sure_board := j_body (m := c_sure_board) (j_seq (j_asg (j_call (j_f_tuple_of 8) (j_lc (j_var 0) j_l0))) (j_seq (j_frz (j_exp (j_call j_f_sure (j_lc (j_call j_f_is_board (j_lc (j_var 1) j_l0)) j_l0)))) (j_retV 1)))
theorem j_f_are_tied : IF f_are_tied := j_body (m := c_are_tied) (j_ret (j_2 (j_var 1) (j_idx (j_var 0) (j_2 (j_var 2) j_cst))))
theorem j_f_tied_all : IF f_tied_all := j_body (m := c_tied_all) (j_seq (j_for (j_enum (j_lc (j_var 1) j_l0)) (j_tp (j_gsc j_nm (j_gsc j_nm j_gs0))) (j_if (j_not (j_tval (j_b (j_rc (j_comp (j_seq' (j_sl (j_var 1) (j_p1 (j_2 (j_var 2) j_cst)) j_p0)) j_nm j_true (j_call j_f_are_tied (j_lc (j_var 0) (j_lc (j_var 3) (j_lc (j_var 4) j_l0))))) j_l0)))) (j_ret j_cst) j_next)) (j_ret j_cst))
theorem j_f_is_tied : IF f_is_tied := j_body (m := c_is_tied) (j_seq (j_asg (j_call j_f_sure_board (j_lc (j_var 0) j_l0))) (j_seq (j_exp (j_call j_f_sure (j_lc (j_call j_f_is_from (j_lc (j_var 1) (j_lc j_cst j_l0))) j_l0))) (j_seq (j_frz (j_exp (j_call j_f_look_below (j_lc (j_var 3) j_l0)))) (j_frz (j_ret (j_eand (j_call j_f_is_set (j_lc (j_var 2) (j_lc (j_b (j_rc (j_var 3) j_l0)) j_l0))) (j_eand (j_2 (j_b (j_rc (j_var 2) j_l0)) (j_var 1)) (j_call j_f_tied_all (j_lc (j_var 3) (j_lc (j_var 2) j_l0))))))))))
theorem j_f__law_heard : IF f__law_heard := j_body (m := c__law_heard) (j_seq (j_asg j_cst) (j_seq (j_try (j_asg (j_call j_f_is_tied (j_lc (j_var 0) (j_lc (j_var 1) (j_lc (j_var 2) j_l0))))) (j_hc (j_asg j_cst) j_h0)) (j_retV 3)))
-- boxy _law_of f__law_take
-- boxy _law_laying f__law_of
-- boxy _law_pick stmt sPick
theorem j_f__law_same : ∀ n, IF (f__law_same n)
  | 0 => fun _ _ _ => trivial
  | n + 1 => by
    have hrec := j_f__law_same n
    exact j_body (m := c__law_same _) (j_seq (j_if (j_tval (j_isi (j_var 1))) (j_seq (j_if (j_or (j_tval (j_2 (j_isi (j_var 0)) (j_isi (j_var 1)))) (j_tval (j_2 (j_isi (j_var 0)) (j_isi (j_var 1))))) (j_ret j_cst) j_next) (j_ret (j_eand (j_2 (j_b (j_rc (j_var 0) j_l0)) (j_b (j_rc (j_var 1) j_l0))) (j_b (j_rc (j_comp (j_zip (j_lc (j_var 0) (j_lc (j_var 1) j_l0))) (j_tp (j_gsc j_nm (j_gsc j_nm j_gs0))) j_true (j_call hrec (j_lc (j_var 2) (j_lc (j_var 3) j_l0)))) j_l0))))) j_next) (j_seq (j_if (j_or (j_tval (j_2 (j_var 1) j_cst)) (j_tval (j_isi (j_var 1)))) (j_ret (j_eand (j_2 (j_var 0) (j_var 1)) (j_eand (j_2 (j_isi (j_var 0)) (j_isi (j_var 1))) (j_2 (j_2 (j_var 0) j_cst) (j_2 (j_var 1) j_cst))))) j_next) (j_ret (j_eand (j_isi (j_var 0)) (j_eand (j_enot (j_isi (j_var 0))) (j_2 (j_var 0) (j_var 1)))))))
theorem j_f__law_sets : IF f__law_sets := j_body (m := c__law_sets) (j_seq (j_asg (j_lst (j_lc (j_tup j_l0) j_l0))) (j_seq (j_for (j_seq' (j_var 0)) j_nm (j_frz (j_asg (j_2 (j_var 1) (j_comp (j_seq' (j_var 1)) j_nm j_true (j_2 (j_var 3) (j_tup (j_lc (j_var 2) j_l0)))))))) (j_retV 1)))
theorem j_f__law_told : IF f__law_told := j_body (m := c__law_told) (j_ret (j_b (j_rc (j_b (j_rc (j_comp (j_enum (j_lc (j_var 0) j_l0)) (j_tp (j_gsc j_nm (j_gsc j_nm j_gs0))) j_true (j_2 (j_var 2) (j_var 1))) j_l0)) j_l0)))
theorem j_f_allowed : IF f_allowed := j_body (m := c_allowed) (j_seq (j_asgT (j_tp (j_gsc j_nm (j_gsc j_nm (j_gsc j_nm j_gs0)))) (j_var 1)) (j_seq (j_if (j_or (j_tval (j_2 (j_var 2) j_cst)) (j_or (j_tval (j_2 (j_var 3) j_cst)) (j_or (j_tval (j_2 (j_var 4) j_cst)) (j_tval (j_2 (j_2 (j_2 (j_var 2) (j_var 4)) j_cst) (j_b (j_rc (j_var 0) j_l0))))))) (j_ret j_cst) j_next) (j_seq (j_par3 (j_sl (j_var 0) j_p0 (j_p1 (j_2 (j_var 2) j_cst))) (j_sl (j_var 0) (j_p1 (j_2 (j_var 2) j_cst)) (j_p1 (j_2 (j_2 (j_var 2) (j_var 4)) j_cst))) (j_sl (j_var 0) (j_p1 (j_2 (j_2 (j_var 2) (j_var 4)) j_cst)) j_p0)) (j_seq (j_frz (j_if (j_or (j_not (j_tval (j_b (j_rc (j_comp (j_seq' (j_var 5)) j_nm j_true (j_2 (j_var 8) (j_var 3))) j_l0)))) (j_not (j_tval (j_b (j_rc (j_comp (j_seq' (j_var 7)) j_nm j_true (j_2 (j_var 8) (j_2 (j_var 3) (j_var 4)))) j_l0))))) (j_ret j_cst) j_next)) (j_ret (j_eand (j_2 (j_idx (j_var 6) j_cst) (j_var 3)) (j_2 (j_idx (j_var 6) (j_1 j_cst)) (j_2 (j_var 3) (j_var 4)))))))))
theorem j_f_all_turns : IF f_all_turns := j_body (m := c_all_turns) (j_seq (j_par2 (j_call j_f_sure_board (j_lc (j_var 0) j_l0)) (j_lst j_l0)) (j_seq (j_for (j_itrng (j_rc j_cst (j_rc (j_b (j_rc (j_var 1) j_l0)) j_l0))) j_nm (j_for (j_itrng (j_rc (j_2 (j_idx (j_var 1) (j_2 (j_var 3) j_cst)) j_cst) j_l0)) j_nm (j_for (j_itrng (j_rc j_cst (j_rc (j_2 (j_2 (j_b (j_rc (j_var 1) j_l0)) (j_var 3)) j_cst) j_l0))) j_nm (j_frz (j_if (j_tval (j_call j_f_allowed (j_lc (j_var 1) (j_lc (j_tup (j_lc (j_var 3) (j_lc (j_var 4) (j_lc (j_var 5) j_l0)))) j_l0)))) (j_app 2 (by decide) (j_tup (j_lc (j_var 3) (j_lc (j_var 4) (j_lc (j_var 5) j_l0))))) j_next))))) (j_retV 2)))
theorem j_f_made_shifts : IF f_made_shifts := j_body (m := c_made_shifts) (j_ret (j_b (j_rc (j_comp (j_enum (j_lc (j_var 0) j_l0)) (j_tp (j_gsc j_nm (j_gsc j_nm j_gs0))) j_true (j_2 (j_var 2) (j_var 1))) j_l0)))
theorem j_f_made_told : IF f_made_told := j_body (m := c_made_told) (j_ret (j_b (j_rc (j_b (j_rc (j_call j_f_made_shifts (j_lc (j_var 0) j_l0)) j_l0)) j_l0)))
theorem j_f_is_between : IF f_is_between := j_body (m := c_is_between) (j_ret (j_eand (j_call j_f_is_number (j_lc (j_var 0) j_l0)) (j_chain (j_var 1) (j_var 0) (j_var 2))))
theorem j_f_are_numbers : IF f_are_numbers := j_body (m := c_are_numbers) (j_seq (j_if (j_or (j_not (j_tval (j_isi (j_var 0)))) (j_tval (j_2 (j_b (j_rc (j_var 0) j_l0)) j_cst))) (j_ret j_cst) j_next) (j_ret (j_b (j_rc (j_comp (j_seq' (j_var 0)) j_nm j_true (j_call j_f_is_between (j_lc (j_var 1) (j_lc (j_1 j_cst) (j_lc j_cst j_l0))))) j_l0))))
theorem j_f_sure_numbers : IF f_sure_numbers := j_body (m := c_sure_numbers) (j_seq (j_asg (j_call (j_f_tuple_of 8) (j_lc (j_var 0) j_l0))) (j_seq (j_frz (j_exp (j_call j_f_sure (j_lc (j_call j_f_are_numbers (j_lc (j_var 1) j_l0)) j_l0)))) (j_retV 1)))
theorem j_f_is_board_with : IF f_is_board_with := j_body (m := c_is_board_with) (j_seq (j_asg (j_call j_f_sure_numbers (j_lc (j_var 0) j_l0))) (j_ret (j_eand (j_call j_f_is_board (j_lc (j_var 1) j_l0)) (j_2 (j_call j_f_made_told (j_lc (j_var 1) j_l0)) (j_b (j_rc (j_b (j_rc (j_var 2) j_l0)) j_l0))))))
theorem j_f_is_lacking : IF f_is_lacking := j_body (m := c_is_lacking) (j_seq (j_asg (j_call j_f_sure_numbers (j_lc (j_var 0) j_l0))) (j_ret (j_eand (j_call j_f_is_number (j_lc (j_var 1) j_l0)) (j_eand (j_2 (j_var 2) (j_tup j_l0)) (j_eand (j_chain (j_b (j_rc (j_var 2) j_l0)) (j_var 1) j_cst) (j_2 (j_var 1) (j_var 2)))))))
theorem j_f_count_pieces : IF f_count_pieces := j_body (m := c_count_pieces) (j_ret (j_b (j_rc (j_comp (j_seq' (j_var 0)) j_nm (j_tval (j_2 (j_var 1) j_cst)) (j_var 1)) j_l0)))
theorem j_f_is_tuple_of : IF f_is_tuple_of := j_body (m := c_is_tuple_of) (j_ret (j_eand (j_isi (j_var 0)) (j_2 (j_b (j_rc (j_var 0) j_l0)) (j_var 1))))
theorem j_f_is_laid : IF f_is_laid := j_body (m := c_is_laid) (j_seq (j_if (j_not (j_tval (j_call j_f_is_tuple_of (j_lc (j_var 1) (j_lc (j_b (j_rc (j_var 0) j_l0)) j_l0))))) (j_ret j_cst) j_next) (j_seq (j_if (j_not (j_tval (j_b (j_rc (j_comp (j_zip (j_lc (j_var 1) (j_lc (j_var 0) j_l0))) (j_tp (j_gsc j_nm (j_gsc j_nm j_gs0))) j_true (j_call j_f_is_between (j_lc (j_var 3) (j_lc j_cst (j_lc (j_var 4) j_l0))))) j_l0)))) (j_ret j_cst) j_next) (j_seq (j_asg (j_comp (j_seq' (j_var 1)) j_nm (j_tval (j_2 (j_var 3) j_cst)) (j_var 3))) (j_ret (j_2 (j_1 (j_var 2)) (j_b (j_rc (j_var 2) j_l0)))))))
theorem j_f_is_laying_with : IF f_is_laying_with := j_body (m := c_is_laying_with) (j_seq (j_asg (j_call j_f_sure_board (j_lc (j_var 0) j_l0))) (j_seq (j_exp (j_call j_f_sure (j_lc (j_call j_f_is_from (j_lc (j_var 1) (j_lc j_cst j_l0))) j_l0))) (j_frz (j_ret (j_eand (j_call j_f_is_laid (j_lc (j_var 3) (j_lc (j_var 2) j_l0))) (j_2 (j_call j_f_count_pieces (j_lc (j_var 2) j_l0)) (j_var 1)))))))
theorem j_f_made_cells : IF f_made_cells := j_body (m := c_made_cells) (j_seq (j_asg (j_lst j_l0)) (j_seq (j_for (j_enum (j_lc (j_var 0) j_l0)) (j_tp (j_gsc j_nm (j_gsc j_nm j_gs0))) (j_ext 1 (by decide) (j_comp (j_itrng (j_rc j_cst (j_rc (j_2 (j_var 3) j_cst) j_l0))) j_nm j_true (j_tup (j_lc (j_2 (j_var 2) j_cst) (j_lc (j_var 4) j_l0)))))) (j_retV 1)))
theorem j_f_is_outside : IF f_is_outside := j_body (m := c_is_outside) (j_seq (j_par2 (j_call j_f_sure_board (j_lc (j_var 0) j_l0)) (j_call j_f_sure_board (j_lc (j_var 1) j_l0))) (j_seq (j_if (j_or (j_not (j_tval (j_call j_f_is_tuple_of (j_lc (j_var 2) (j_lc j_cst j_l0))))) (j_not (j_tval (j_b (j_rc (j_comp (j_seq' (j_var 2)) j_nm j_true (j_call j_f_is_from (j_lc (j_var 5) (j_lc j_cst j_l0)))) j_l0))))) (j_ret j_cst) j_next) (j_frz (j_ret (j_eand (j_2 (j_var 2) (j_call j_f_made_cells (j_lc (j_var 3) j_l0))) (j_2 (j_var 2) (j_call j_f_made_cells (j_lc (j_var 4) j_l0))))))))
theorem j_f_covers : IF f_covers := j_body (m := c_covers) (j_seq (j_if (j_or (j_not (j_tval (j_call j_f_is_tuple_of (j_lc (j_var 1) (j_lc j_cst j_l0))))) (j_or (j_not (j_tval (j_call j_f_is_set (j_lc (j_idx (j_var 1) j_cst) (j_lc (j_b (j_rc (j_var 0) j_l0)) j_l0))))) (j_not (j_tval (j_call j_f_is_set (j_lc (j_idx (j_var 1) j_cst) (j_lc j_cst j_l0))))))) (j_ret j_cst) j_next) (j_seq (j_for (j_enum (j_lc (j_var 0) j_l0)) (j_tp (j_gsc j_nm (j_gsc j_nm j_gs0))) (j_if (j_and (j_tval (j_2 (j_2 (j_var 2) j_cst) (j_idx (j_var 1) j_cst))) (j_not (j_tval (j_b (j_rc (j_comp (j_itrng (j_rc j_cst (j_rc (j_2 (j_var 3) j_cst) j_l0))) j_nm j_true (j_2 (j_var 4) (j_idx (j_var 1) j_cst))) j_l0))))) (j_ret j_cst) j_next)) (j_ret j_cst)))
theorem j_f_lines_of : IF f_lines_of := j_body (m := c_lines_of) (j_ret (j_2 (j_b (j_rc (j_idx (j_var 0) j_cst) j_l0)) (j_b (j_rc (j_idx (j_var 0) j_cst) j_l0))))
theorem j_f_is_short_cover : IF f_is_short_cover := j_body (m := c_is_short_cover) (j_seq (j_asg (j_call j_f_sure_board (j_lc (j_var 0) j_l0))) (j_seq (j_exp (j_call j_f_sure (j_lc (j_call j_f_is_from (j_lc (j_var 1) (j_lc j_cst j_l0))) j_l0))) (j_frz (j_ret (j_eand (j_call j_f_covers (j_lc (j_var 3) (j_lc (j_var 2) j_l0))) (j_2 (j_call j_f_lines_of (j_lc (j_var 2) j_l0)) (j_var 1)))))))
theorem j_f_made_row : IF f_made_row := j_body (m := c_made_row) (j_seq (j_asg (j_lst (j_lc j_cst j_l0))) (j_seq (j_for (j_seq' (j_var 0)) j_nm (j_seq (j_frz (j_asg (j_comp (j_enum (j_lc (j_var 1) j_l0)) (j_tp (j_gsc j_nm (j_gsc j_nm j_gs0))) j_true (j_2 (j_var 5) (j_b (j_rc (j_2 (j_var 2) (j_var 4)) (j_rc j_cst j_l0))))))) (j_asg (j_comp (j_zip (j_lc (j_2 (j_var 1) (j_lst (j_lc j_cst j_l0))) (j_lc (j_2 (j_lst (j_lc j_cst j_l0)) (j_var 3)) j_l0))) (j_tp (j_gsc j_nm (j_gsc j_nm j_gs0))) j_true (j_2 (j_var 5) (j_var 6)))))) (j_retV 1)))
theorem j_f_laid_so_many : IF f_laid_so_many := j_body (m := c_laid_so_many) (j_ret (j_eif (j_tval (j_2 (j_var 1) (j_b (j_rc (j_var 0) j_l0)))) (j_idx (j_call j_f_made_row (j_lc (j_var 0) j_l0)) (j_var 1)) j_cst))
theorem j_f_is_unlike : IF f_is_unlike := j_body (m := c_is_unlike) (j_seq (j_par2 (j_call j_f_sure_board (j_lc (j_var 0) j_l0)) (j_call j_f_sure_board (j_lc (j_var 1) j_l0))) (j_frz (j_ret (j_eand (j_call j_f_is_from (j_lc (j_var 2) (j_lc j_cst j_l0))) (j_2 (j_call j_f_laid_so_many (j_lc (j_var 3) (j_lc (j_var 2) j_l0))) (j_call j_f_laid_so_many (j_lc (j_var 4) (j_lc (j_var 2) j_l0))))))))
theorem j_f_is_triple : IF f_is_triple := j_body (m := c_is_triple) (j_ret (j_eand (j_call j_f_is_tuple_of (j_lc (j_var 0) (j_lc j_cst j_l0))) (j_b (j_rc (j_comp (j_seq' (j_var 0)) j_nm j_true (j_call j_f_is_from (j_lc (j_var 1) (j_lc j_cst j_l0)))) j_l0))))
theorem j_f_about : IF f_about := j_body (m := c_about) (j_ret (j_b (j_rc (j_comp (j_itrng (j_rc (j_var 1) j_l0)) j_nm j_true (j_b (j_rc (j_comp (j_seq' (j_var 0)) j_nm (j_tval (j_2 (j_var 3) (j_2 (j_var 1) (j_var 2)))) (j_var 3)) j_l0))) j_l0)))
theorem j_f_made_turned : IF f_made_turned := j_body (m := c_made_turned) (j_seq (j_if (j_not (j_tval (j_call j_f_allowed (j_lc (j_var 0) (j_lc (j_var 1) j_l0))))) j_raise j_next) (j_seq (j_asgT (j_tp (j_gsc j_nm (j_gsc j_nm (j_gsc j_nm j_gs0)))) (j_var 1)) (j_seq (j_asg (j_comp (j_seq' (j_sl (j_var 0) (j_p1 (j_2 (j_var 2) j_cst)) (j_p1 (j_2 (j_2 (j_var 2) (j_var 4)) j_cst)))) j_nm j_true (j_2 (j_var 7) (j_var 3)))) (j_seq (j_frz (j_asg (j_b (j_rc (j_comp (j_seq' (j_call j_f_about (j_lc (j_var 5) (j_lc (j_var 4) j_l0)))) j_nm j_true (j_2 (j_var 3) (j_var 8))) j_l0)))) (j_ret (j_2 (j_2 (j_sl (j_var 0) j_p0 (j_p1 (j_2 (j_var 2) j_cst))) (j_var 6)) (j_sl (j_var 0) (j_p1 (j_2 (j_2 (j_var 2) (j_var 4)) j_cst)) j_p0)))))))
theorem j_f_is_way : IF f_is_way := j_body (m := c_is_way) (j_seq (j_par2 (j_call j_f_sure_board (j_lc (j_var 0) j_l0)) (j_call j_f_sure_board (j_lc (j_var 1) j_l0))) (j_seq (j_if (j_not (j_tval (j_isi (j_var 2)))) (j_ret j_cst) j_next) (j_seq (j_for (j_seq' (j_var 2)) j_nm (j_seq (j_frz (j_if (j_or (j_not (j_tval (j_call j_f_is_triple (j_lc (j_var 5) j_l0)))) (j_not (j_tval (j_call j_f_allowed (j_lc (j_var 3) (j_lc (j_var 5) j_l0)))))) (j_ret j_cst) j_next)) (j_frz (j_asg (j_call j_f_made_turned (j_lc (j_var 3) (j_lc (j_var 5) j_l0))))))) (j_ret (j_2 (j_var 3) (j_var 4))))))
theorem j_f_laid : IF f_laid := j_body (m := c_laid) (j_seq (j_asg (j_call j_f_sure_board (j_lc (j_var 0) j_l0))) (j_seq (j_exp (j_call j_f_sure (j_lc (j_call j_f_is_from (j_lc (j_var 1) (j_lc j_cst j_l0))) j_l0))) (j_frz (j_ret (j_call j_f_laid_so_many (j_lc (j_var 2) (j_lc (j_var 1) j_l0)))))))
theorem j_f_sure_turn : IF f_sure_turn := j_body (m := c_sure_turn) (j_seq (j_asg (j_call (j_f_tuple_of 8) (j_lc (j_var 0) j_l0))) (j_seq (j_frz (j_exp (j_call j_f_sure (j_lc (j_eand (j_call j_f_is_triple (j_lc (j_var 1) j_l0)) (j_eand (j_2 (j_idx (j_var 1) j_cst) j_cst) (j_eand (j_2 (j_idx (j_var 1) j_cst) j_cst) (j_2 (j_b (j_rc (j_var 1) j_l0)) j_cst)))) j_l0)))) (j_retV 1)))
theorem j_f_turned : IF f_turned := j_body (m := c_turned) (j_seq (j_asg (j_call j_f_sure_board (j_lc (j_var 0) j_l0))) (j_frz (j_ret (j_call j_f_made_turned (j_lc (j_var 2) (j_lc (j_call j_f_sure_turn (j_lc (j_var 1) j_l0)) j_l0))))))
-- boxy _law_right f__law_board
-- boxy law f__law_box
end Rk

namespace Rk
open PySem PySem.Spec L2
theorem ev_is_number (i : Int) (b : Bx) : f_is_number [.int i] b = .ok (.bl true) .sh b := rfl
theorem ev_is_from (i j : Int) (b : Bx) : f_is_from [.int i, .int j] b = .ok (.bl (decide (j ≤ i))) .sh b := rfl
theorem ev_is_between (i lo hi : Int) (b : Bx) : f_is_between [.int i, .int lo, .int hi] b = .ok (.bl (decide (lo ≤ i) && decide (i ≤ hi))) .sh b := by
  unfold f_is_between fBody c_is_between
  simp only [sRet, eAnd, eCall, lCons, lNil, eVar, eChain, cI, List.map_cons, List.map_nil, List.cons_append, List.nil_append, List.length_cons, List.length_nil, List.getElem?_cons_zero, List.getElem?_cons_succ, Nat.reduceAdd, Nat.sub_self, List.replicate, ev_is_number, if_true]
  cases decide (lo ≤ i) <;> rfl
theorem ev_sure_true (b : Bx) : f_sure [.bl true] b = .ok .non .sh b := rfl
theorem ev_sure_false (b : Bx) : f_sure [.bl false] b = .exc "Unfit" [] b := rfl
theorem ev_is_board (ns : List Int) (hz : ns.length ≤ 1000000) (b : Bx) : f_is_board [T ns] b = .ok (.bl (isBd ns)) .sh b := by
  have c1 : ∀ {k : Kd}, eComp [1] (itSeq (eVar 0)) (gNm 1) tTrue (eCall f_is_from (lCons (eVar 1) (lCons (eCst (.int 0)) lNil))) [Sl.val (T ns), .none, .none] b = .ok (.lst (ns.map fun n => .bl (decide (0 ≤ n)))) .fr b := fun {k} =>
    eComp_map D.int (fun n => .bl (decide (0 ≤ n))) (it_seq (k := .sh) rfl (by decide) rfl) hz fun x _ => ⟨_, .sh, rfl, rfl, rfl, by decide⟩
  have e1 := ev_all (c1 (k := .sh))
  have c2 : eComp [2] (itRng (rCons (e2 fSub (eB fLen (rCons (eVar 0) lNil)) (eCst (.int 1))) lNil)) (gNm 2) tTrue (e2 (fB cLe) (eIdxN (eVar 0) (eVar 2)) (eIdxN (eVar 0) (e2 fAdd (eVar 2) (eCst (.int 1))))) [Sl.val (T ns), .none, .none] b =
      .ok (.lst ((List.range (ns.length - 1)).map fun k => .bl (decide (ns.getD k 0 ≤ ns.getD (k + 1) 0)))) .fr b := by
    have hr : itRng (rCons (e2 fSub (eB fLen (rCons (eVar 0) lNil)) (eCst (.int 1))) lNil) [Sl.val (T ns), .none, .none] b = .ok ((List.range (ns.length - 1)).map fun i : Nat => .int (0 + (i : Nat))) b := by
      have := it_rng1 (n := ((ns.map D.int).length : Nat) - 1) (E := e2 fSub (eB fLen (rCons (eVar 0) lNil)) (eCst (.int 1))) (δ := [Sl.val (T ns), .none, .none]) (b := b) (b1 := b) (k := .sh) rfl (by rw [List.length_map]; omega) (by omega)
      rw [this]
      congr 3
      rw [List.length_map]; omega
    refine eComp_map (fun i : Nat => .int (0 + (i : Nat))) _ hr (by rw [List.length_range]; omega) fun k hk => ?_
    have hk := List.mem_range.mp hk
    refine ⟨[Sl.val (T ns), .none, .val (.int (0 + (k : Nat)))], .sh, rfl, rfl, ?_, by decide⟩
    have a1 : eIdxN (eVar 0) (eVar 2) [Sl.val (T ns), .none, .val (.int (0 + (k : Nat)))] b = .ok (.int (ns.getD k 0)) .sh b := ev_idxN (k := .sh) rfl (k2 := .sh) rfl (atI_ints (atI_getD (by omega)))
    have a2 : eIdxN (eVar 0) (e2 fAdd (eVar 2) (eCst (.int 1))) [Sl.val (T ns), .none, .val (.int (0 + (k : Nat)))] b = .ok (.int (ns.getD (k + 1) 0)) .sh b := ev_idxN (k := .sh) rfl (k2 := .sh) rfl (atI_ints (atI_getD1 (by omega)))
    exact ev_2 a1 a2 rfl
  have e2' := ev_all c2
  have ht : (tOr_ (tNot_ (tVal (eIsi ["tuple"] (eVar 0)))) (tOr_ (tVal (e2 (fB cGt) (eB fLen (rCons (eVar 0) lNil)) (eCst (.int 6)))) (tNot_ (tVal (eB (f1 gAll) (rCons (eComp [1] (itSeq (eVar 0)) (gNm 1) tTrue (eCall f_is_from (lCons (eVar 1) (lCons (eCst (.int 0)) lNil)))) lNil)))))) [Sl.val (T ns), .none, .none] b
      = .ok (false || (decide ((6 : Int) < ((ns.map D.int).length : Nat)) || !(ns.all fun n => decide (0 ≤ n)))) b :=
    ev_tor (t := false) (ev_tnot (t := true) (ev_tval (k := .sh) rfl)) (fun _ => ev_tor (ev_tval (k := .sh) (ev_2 (k := .sh) (k2 := .sh) (ev_b1 (k := .sh) rfl rfl) rfl rfl)) (fun _ => ev_tnot (ev_tval e1)) fun _ => rfl) fun _ => rfl
  unfold f_is_board c_is_board
  refine fb_ret ?_
  rw [Bool.false_or, List.length_map] at ht
  cases hB : (decide ((6 : Int) < (ns.length : Nat)) || !(ns.all fun n => decide (0 ≤ n))) with
  | true =>
    rw [hB] at ht
    have : isBd ns = false := by
      unfold isBd
      by_cases h6 : ns.length ≤ 6
      · rw [decide_eq_false (by omega), Bool.false_or, Bool.not_eq_true'] at hB
        rw [hB, Bool.and_false, Bool.false_and]
      · rw [decide_eq_false h6, Bool.false_and, Bool.false_and]
    rw [this]
    exact st_seqR (st_ifT ht rfl)
  | false =>
    rw [hB] at ht
    have : isBd ns = upB ns := by
      rw [Bool.or_eq_false_iff] at hB
      unfold isBd
      have h1 := of_decide_eq_false hB.1
      have h2 : (ns.all fun n => decide (0 ≤ n)) = true := by simpa using hB.2
      rw [h2, decide_eq_true (by omega)]; rfl
    rw [this]
    exact st_seq (st_ifF ht rfl) (st_ret e2' (by decide))
theorem ev_tuple_of_int (n : Nat) (i : Int) (b : Bx) : f_tuple_of (n + 1) [.int i] b = .ok (.int i) .sh b := rfl
theorem ev_tuple_of (n : Nat) (ns : List Int) (hz : ns.length ≤ 1000000) (b : Bx) : f_tuple_of (n + 2) [T ns] b = .ok (T ns) .sh b := by
  have c1 : eComp [1] (itSeq (eVar 0)) (gNm 1) tTrue (eCall (f_tuple_of (n + 1)) (lCons (eVar 1) lNil)) [Sl.val (T ns), .none] b = .ok (.lst (ns.map D.int)) .fr b :=
    eComp_map D.int D.int (it_seq (k := .sh) rfl (by decide) rfl) hz fun x _ => ⟨_, .sh, rfl, rfl, rfl, by decide⟩
  show fBody 2 (c_tuple_of (f_tuple_of (n + 1))) [T ns] b = _
  exact fb_ret (st_seqR (st_ifT (ev_tval (k := .sh) rfl) (st_ret (ev_tuple c1) (by decide))))
theorem ev_sure_board (ns : List Int) (h : isBd ns = true) (b : Bx) : f_sure_board [T ns] b = .ok (T ns) .sh b := by
  have hl := isBd_len h
  have e := ev_is_board ns (by omega) b
  rw [h] at e
  exact fb_ret (st_seq (st_asg (ev_call (ev_lc rfl (by decide) rfl) (ev_tuple_of 6 ns (by omega) b) (by decide)) rfl)
    (st_seq (st_frz (st_exp (ev_call (ev_lc (ev_call (ev_lc (k := .sh) rfl (by decide) rfl) e (by decide)) (by decide) rfl) (ev_sure_true b) (by decide)))) rfl))
theorem ev_sure_ok {t : Bool} (h : t = true) (b : Bx) : f_sure [.bl t] b = .ok .non .sh b := by rw [h]; rfl
theorem ev_sure_between {i lo hi : Int} (h1 : lo ≤ i) (h2 : i ≤ hi) {δ : Slots} {b : Bx} {l : LM} (h : l δ b = .ok [.int i, .int lo, .int hi] b) : eCall f_sure (lCons (eCall f_is_between l) lNil) δ b = .ok .non .sh b :=
  ev_call (ev_lc (ev_call h (ev_is_between i lo hi b) (by decide)) (by decide) rfl) (ev_sure_ok (by rw [decide_eq_true h1, decide_eq_true h2]; rfl) b) (by decide)
theorem ev_made_cells (ns : List Int) (hl : ns.length ≤ 1000) (h0 : ∀ n ∈ ns, 0 ≤ n) (hb : ∀ n ∈ ns, n ≤ 100) (b : Bx) : f_made_cells [T ns] b = .ok (.lst (cellsD ns ns.length)) .fr b := by
  obtain ⟨δ', e, u, v, w, rfl⟩ := for_inv (F := fun i : Nat => D.tup [.int (i : Nat), .int (ns.getD i 0)]) (g := gTp [(gNm 2), (gNm 3)]) (b := b)
    (body := sExt 1 (eComp [4] (itRng (rCons (eCst (.int 1)) (rCons (e2 fAdd (eVar 3) (eCst (.int 1))) lNil))) (gNm 4) tTrue (eTup (lCons (e2 fAdd (eVar 2) (eCst (.int 1))) (lCons (eVar 4) lNil)))))
    (fun k δ => ∃ u v w, δ = [Sl.val (T ns), .own (cellsD ns k), u, v, w]) (List.range ns.length) 0 [Sl.val (T ns), .own [], .none, .none, .none] ⟨_, _, _, rfl⟩ fun i x δ hx hp => by
      obtain ⟨u, v, w, rfl⟩ := hp
      rw [Nat.zero_add] at *
      have hi : i < ns.length := by
        rcases Nat.lt_or_ge i ns.length with q | q
        · exact q
        · rw [List.getElem?_eq_none (by rw [List.length_range]; exact q)] at hx; cases hx
      rw [List.getElem?_range hi] at hx
      cases hx
      have hg : ns.getD i 0 ∈ ns := by rw [List.getD_eq_getElem?_getD, List.getElem?_eq_getElem hi]; exact List.getElem_mem ..
      have er := ev_row (δ := [Sl.val (T ns), .own (cellsD ns i), .val (.int (i : Nat)), .val (.int (ns.getD i 0)), w]) (b := b) (k := i) (n := ns.getD i 0) (i := 2) (j := 3) (c := 4) (hb _ hg) (fun _ => rfl) rfl rfl (by decide) (by decide) (by show 4 < 5; omega) (h0 _ hg)
      refine ⟨_, [Sl.val (T ns), .own (cellsD ns (i + 1)), .val (.int (i : Nat)), .val (.int (ns.getD i 0)), w], rfl, ?_, _, _, _, rfl⟩
      have hz := cellsD_len ns hb (i + 1) (by omega)
      rw [cellsD_succ, List.length_append] at hz
      show sExt 1 _ [Sl.val (T ns), .own (cellsD ns i), .val (.int (i : Nat)), .val (.int (ns.getD i 0)), w] b = _
      unfold sExt
      show (match eComp _ _ _ _ _ [Sl.val (T ns), .own (cellsD ns i), .val (.int (i : Nat)), .val (.int (ns.getD i 0)), w] b with | .ok (.lst es) _ b1 => _ | .ok _ _ _ => _ | .exc x fs b => _ | .bad => _) = _
      rw [er]
      dsimp only
      rw [if_pos (show _ ≤ big from Nat.le_trans hz (by unfold big; omega)), cellsD_succ]
      rfl
  rw [Nat.zero_add, List.length_range] at e
  exact fb_ret (st_seq (st_asg (k := .fr) rfl rfl) (st_seq (st_for (it_enum (k := .sh) rfl (by decide) rfl) e) rfl))
theorem ev_take (m : Int) (n : Int) (b : Bx) (hb : Bok m b) (hm : m ≤ 1000000) (h1 : 1 ≤ n) (h2 : n ≤ 1000000) : ∃ r b', f__law_take [.box, .int n] b = .ok (.int r) .sh b' ∧ 0 ≤ r ∧ r < n ∧ Bok (m + 1) b' := by
  obtain ⟨hx, hz, hzm⟩ := hb
  have t : tVal (e2 (fB cGt) (eIdx (eVar 0) (eCst (.int 0))) (eCst (.int 0))) [Sl.val .box, .val (.int n), .none, .none, .none, .none] b = .ok (decide (0 < b.x)) b := ev_tval (k := .sh) (ev_2 (box_x rfl) (k2 := .sh) rfl rfl)
  by_cases hp : 0 < b.x
  · rw [decide_eq_true hp] at t
    refine ⟨b.x.fmod n, ⟨b.x.fdiv n, b.y, b.z⟩, ?_, (fmod_range (by omega)).1, (fmod_range (by omega)).2, Int.fdiv_nonneg (by omega) (by omega), hz, by show b.z ≤ m + 1; omega⟩
    have s1 : sAsg 2 (e2 fMod (eB (f1 gInt) (rCons (eIdx (eVar 0) (eCst (.int 0))) lNil)) (eVar 1)) [Sl.val .box, .val (.int n), .none, .none, .none, .none] b = .nx [Sl.val .box, .val (.int n), .val (.int (b.x.fmod n)), .none, .none, .none] b :=
      st_asg (ev_2 (ev_b1 (k3 := .sh) (box_x rfl) rfl) (k2 := .sh) rfl (mod_ii (by omega))) rfl
    have s2 : sSet 0 (eCst (.int 0)) (e2 fDiv (eIdx (eVar 0) (eCst (.int 0))) (eVar 1)) [Sl.val .box, .val (.int n), .val (.int (b.x.fmod n)), .none, .none, .none] b = .nx [Sl.val .box, .val (.int n), .val (.int (b.x.fmod n)), .none, .none, .none] ⟨b.x.fdiv n, b.y, b.z⟩ :=
      st_setB (kk := .sh) (z := b.x.fdiv n) (ev_2 (box_x rfl) (k2 := .sh) rfl (by
exact div_ii (by omega) (by omega))) (by decide) rfl (kd := .sh) rfl rfl
    exact fb_ret (st_seqR (st_ifT t (st_seq s1 (st_seq s2 rfl))))
  · rw [decide_eq_false hp] at t
    generalize hb' : (⟨b.x, b.y, b.z + 1⟩ : Bx) = b'
    have y' : b'.y = b.y := by rw [← hb']
    have z' : b'.z = b.z + 1 := by rw [← hb']
    have x' : b'.x = b.x := by rw [← hb']
    have s0 : sSet 0 (eCst (.int 2)) (e2 fAdd (eIdx (eVar 0) (eCst (.int 2))) (eCst (.int 1))) [Sl.val .box, .val (.int n), .none, .none, .none, .none] b = .nx [Sl.val .box, .val (.int n), .none, .none, .none, .none] b' :=
      st_setB (kk := .sh) (z := b.z + 1) (b2 := b) (k := 2) (kd := .sh) (ev_2 (box_z rfl) (k2 := .sh) rfl rfl) (by decide) rfl rfl (by rw [← hb']; rfl)
    obtain ⟨once, e1, o1, o2⟩ : ∃ once, sAsg 3 (e2 fMod (eB (f1 gInt) (rCons (e2 fMulT (e2 fAdd (eIdx (eVar 0) (eCst (.int 1))) (e2 fMulT (eCst (.int 48271)) (eIdx (eVar 0) (eCst (.int 2))))) (e2 fAdd (eCst (.int 39373)) (eIdx (eVar 0) (eCst (.int 2))))) lNil)) (eCst (.int 2147483647))) [Sl.val .box, .val (.int n), .none, .none, .none, .none] b' = .nx [Sl.val .box, .val (.int n), .none, .val (.int once), .none, .none] b' ∧ 0 ≤ once ∧ once < 2147483647 :=
      ⟨((b'.y + 48271 * b'.z) * (39373 + b'.z)).fmod 2147483647, st_asg (ev_2 (ev_b1 (k3 := .sh) (ev_2 (ev_2 (box_y rfl) (ev_2 (k := .sh) rfl (box_z rfl) (mul_ii (.inl ⟨by omega, by omega⟩))) rfl) (ev_2 (k := .sh) rfl (box_z rfl) rfl) (mul_ii (.inl ⟨by omega, by omega⟩))) rfl) (k2 := .sh) rfl (mod_ii (by omega))) rfl, (fmod_range (by omega)).1, (fmod_range (by omega)).2⟩
    obtain ⟨far, e2', f1', f2'⟩ : ∃ far, sAsg 4 (e2 fAdd (e2 fMod (eB (f1 gInt) (rCons (eVar 3) lNil)) (eCst (.int 40009))) (eCst (.int 7))) [Sl.val .box, .val (.int n), .none, .val (.int once), .none, .none] b' = .nx [Sl.val .box, .val (.int n), .none, .val (.int once), .val (.int far), .none] b' ∧ 0 ≤ far ∧ far < 100000 := by
      have q := fmod_range (i := once) (n := 40009) (by omega)
      exact ⟨once.fmod 40009 + 7, st_asg (ev_2 (ev_2 (ev_b1 (k := .sh) (k3 := .sh) rfl rfl) (k2 := .sh) rfl (mod_ii (by omega))) (k2 := .sh) rfl rfl) rfl, by omega, by omega⟩
    obtain ⟨twice, e3, t1, t2⟩ : ∃ twice, sAsg 5 (e2 fMod (eB (f1 gInt) (rCons (e2 fMulT (e2 fAdd (e2 fAdd (eVar 3) (eIdx (eVar 0) (eCst (.int 2)))) (e2 fDiv (eIdx (eVar 0) (eCst (.int 1))) (eCst (.int 1000003)))) (eVar 4)) lNil)) (eCst (.int 2147483629))) [Sl.val .box, .val (.int n), .none, .val (.int once), .val (.int far), .none] b' = .nx [Sl.val .box, .val (.int n), .none, .val (.int once), .val (.int far), .val (.int twice)] b' ∧ 0 ≤ twice ∧ twice < 2147483629 :=
      ⟨((once + b'.z + b'.y.fdiv 1000003) * far).fmod 2147483629, st_asg (ev_2 (ev_b1 (k3 := .sh) (ev_2 (ev_2 (ev_2 (k := .sh) rfl (box_z rfl) rfl) (ev_2 (box_y rfl) (k2 := .sh) rfl (div_ii (by omega) (by omega))) rfl) (k2 := .sh) rfl (mul_ii (.inl ⟨by omega, by omega⟩))) rfl) (k2 := .sh) rfl (mod_ii (by omega))) rfl, (fmod_range (by omega)).1, (fmod_range (by omega)).2⟩
    have q : 0 ≤ (((twice * 48271 + once).fmod 2147483587).fdiv 64).fmod n ∧ (((twice * 48271 + once).fmod 2147483587).fdiv 64).fmod n < n := fmod_range (by omega)
    refine ⟨(((twice * 48271 + once).fmod 2147483587).fdiv 64).fmod n, b', ?_, q.1, q.2, by rw [x']; exact hx, by omega, by omega⟩
    exact fb_ret (st_seq (st_ifF t rfl) (st_seq s0 (st_seq e1 (st_seq e2' (st_seq e3 (st_ret (ev_2 (ev_b1 (k3 := .sh) (ev_2 (ev_2 (ev_b1 (k3 := .sh) (ev_2 (ev_2 (k := .sh) rfl (k2 := .sh) rfl (mul_ii (.inl ⟨by omega, by omega⟩))) (k2 := .sh) rfl rfl) rfl) (k2 := .sh) rfl (mod_ii (by omega))) (k2 := .sh) rfl (div_ii (by omega) (by omega))) rfl) (k2 := .sh) rfl (mod_ii (by omega))) (by decide)))))))
theorem comp_take {n : Int} (h1 : 1 ≤ n) (h2 : n ≤ 1000000) {δ : Slots} {l : LM} {c : Nat} (hl : ∀ x b, l (δ.set c (.val x)) b = .ok [.box, .int n] b) : ∀ (xs : List Nat) (m : Int) (b : Bx), Bok m b → m + xs.length ≤ 1000000 →
    ∃ (rs : List Int) (b' : Bx), compL (gNm c) tTrue (eCall f__law_take l) δ (xs.map fun i : Nat => D.int (0 + (i : Nat))) b = .ok (rs.map D.int) b' ∧ rs.length = xs.length ∧ (∀ r ∈ rs, 0 ≤ r ∧ r < n) ∧ Bok (m + xs.length) b'
  | [], m, b, hb, _ => ⟨[], b, rfl, rfl, (fun r h => absurd h (by simp)), by simpa using hb⟩
  | x :: xs, m, b, hb, hm => by
    rw [List.length_cons] at hm
    obtain ⟨r, b1, e, r1, r2, hb1⟩ := ev_take m n b hb (by omega) h1 h2
    obtain ⟨rs, b', e', h3, h4, h5⟩ := comp_take h1 h2 hl xs (m + 1) b1 hb1 (by omega)
    refine ⟨r :: rs, b', ?_, by simp [h3], fun q hq => ?_, by rw [List.length_cons]; exact h5.mono (by omega)⟩
    · rw [List.map_cons]
      unfold compL
      show (match eCall f__law_take l (δ.set c (.val _)) b with | .ok _ .bo _ => _ | .ok y _ b2 => _ | _ => _) = _
      rw [ev_call (hl _ b) e (by decide)]
      dsimp only
      rw [e']
      rfl
    · rcases List.mem_cons.mp hq with rfl | hq
      · exact ⟨r1, r2⟩
      · exact h4 q hq
theorem ev_board (m : Int) (rows : Nat) (most : Int) (b : Bx) (hb : Bok m b) (hm : m + 6 ≤ 1000000) (hr : rows ≤ 6) (h0 : 0 ≤ most) (h1 : most ≤ 1000) : ∃ ns b', f__law_board [.box, .int (rows : Nat), .int most] b = .ok (T ns) .sh b' ∧ ns.length = rows ∧ isBd ns = true ∧ (∀ n ∈ ns, n ≤ most) ∧ ns.Pairwise (· ≤ ·) ∧ Bok (m + 6) b' := by
  obtain ⟨rs, b', e, h3, h4, h5⟩ := comp_take (n := most + 1) (by omega) (by omega) (δ := [Sl.val .box, .val (.int (rows : Nat)), .val (.int most), .none]) (c := 3)
    (l := lCons (eVar 0) (lCons (e2 fAdd (eVar 2) (eCst (.int 1))) lNil)) (fun x b => rfl) (List.range rows) m b hb (by rw [List.length_range]; omega)
  rw [List.length_range] at h3 h5
  have c : eComp [3] (itRng (rCons (eVar 1) lNil)) (gNm 3) tTrue (eCall f__law_take (lCons (eVar 0) (lCons (e2 fAdd (eVar 2) (eCst (.int 1))) lNil))) [Sl.val .box, .val (.int (rows : Nat)), .val (.int most), .none] b = .ok (Ls rs) .fr b' :=
    eComp_of (it_rng1 (k := .sh) (n := (rows : Nat)) rfl (by omega) (by omega)) (by rw [List.length_map, List.length_range, Int.toNat_natCast]; omega) e
  refine ⟨sortI rs, b', fb_ret (st_ret (ev_b1 (ev_b1 c (sort_L rs)) rfl) (by decide)), by rw [sortI_len, h3], isBd_of (by rw [sortI_len, h3]; exact hr) (fun n hn => (h4 n ((sortI_perm rs).mem_iff.mp hn)).1) (sortI_sorted rs), fun n hn => ?_, sortI_sorted rs, h5.mono (by omega)⟩
  have := (h4 n ((sortI_perm rs).mem_iff.mp hn)).2
  omega
theorem ev_box (s : Int) (b : Bx) : ∃ x y, f__law_box [.lst [.int s], .int 0] b = .ok (.lst [.int x, .int y, .int 0]) .fr b ∧ 0 ≤ x := by
  have s1 : sAsg 2 (eIf (tVal (e2 (fB cLt) (eVar 1) (eB fLen (rCons (eVar 0) lNil)))) (eIdx (eVar 0) (eVar 1)) (eCst (.int 0))) [Sl.val (.lst [.int s]), .val (.int 0), .none] b = .nx [Sl.val (.lst [.int s]), .val (.int 0), .val (.int s)] b :=
    st_asg (k := .sh) (ev_ifT (b1 := b) rfl (ev_idx (k := .sh) rfl (k2 := .sh) rfl rfl)) rfl
  have a1 : eB (f1 gAbs) (rCons (eVar 2) lNil) [Sl.val (.lst [.int s]), .val (.int 0), .val (.int s)] b = .ok (.int (if s < 0 then -s else s)) .sh b := ev_b1 (k := .sh) rfl rfl
  have a2 : ∃ t : Bool, eB (f1 gInt) (rCons (e2 (fB cGe) (eB (f1 gAbs) (rCons (eVar 2) lNil)) (e2 fPow (eCst (.int 10)) (eCst (.int 18)))) lNil) [Sl.val (.lst [.int s]), .val (.int 0), .val (.int s)] b = .ok (.int (if t then 1 else 0)) .sh b :=
    ⟨_, ev_b1 (ev_2 a1 (k2 := .sh) (ev_2 (k := .sh) rfl (k2 := .sh) rfl rfl) rfl) rfl⟩
  obtain ⟨t, a2⟩ := a2
  have a3 : (e2 fMulT (eB (f1 gAbs) (rCons (eVar 2) lNil)) (eB (f1 gInt) (rCons (e2 (fB cGe) (eB (f1 gAbs) (rCons (eVar 2) lNil)) (e2 fPow (eCst (.int 10)) (eCst (.int 18)))) lNil))) [Sl.val (.lst [.int s]), .val (.int 0), .val (.int s)] b = .ok (.int ((if s < 0 then -s else s) * (if t then 1 else 0))) .sh b :=
    ev_2 a1 a2 (mul_ii (.inl (by cases t <;> constructor <;> simp)))
  refine ⟨_, _, fb_ret (st_seq s1 (st_ret (ev_lst (ev_lc a3 (by decide) (ev_lc (ev_2 (ev_2 (ev_2 (ev_b1 (k := .sh) (k3 := .sh) rfl rfl) (k2 := .sh) rfl (mod_ii (by omega))) (ev_2 (k := .sh) rfl (k2 := .sh) rfl rfl) rfl) (k2 := .sh) rfl rfl) (by decide) (ev_lc (k := .sh) rfl (by decide) rfl))) (by show 3 ≤ 1000; omega)) (by decide))), ?_⟩
  refine Int.mul_nonneg ?_ (by cases t <;> simp)
  split <;> omega
theorem ev_cells (ns : List Int) (hl : ns.length ≤ 63) (b : Bx) : ∃ s, f__law_cells [.scr ns, .int 1] b = .ok (.lst [.int s]) .fr b := by
  have s1 : ∃ s0, sAsg 2 (eOrT (eB (f1 gList) (rCons (eSl (eVar 0) none (some (eVar 1))) lNil)) (eLst (lCons (eCst (.int 0)) lNil))) [Sl.val (.scr ns), .val (.int 1), .none, .none, .none, .none] b = .nx [Sl.val (.scr ns), .val (.int 1), .own [.int s0], .none, .none, .none] b := by
    have a : eB (f1 gList) (rCons (eSl (eVar 0) none (some (eVar 1))) lNil) [Sl.val (.scr ns), .val (.int 1), .none, .none, .none, .none] b = .ok (Ls (cutD ns none (some 1))) .fr b := ev_b1 (ev_slS (k := .sh) (b1 := b) (b2 := b) rfl rfl rfl) rfl
    rcases cut_one ns with e | ⟨s, e⟩
    · rw [e] at a
      refine ⟨0, st_asg (k := .fr) (d := .lst [.int 0]) ?_ rfl⟩
      unfold eOrT
      rw [a]
      rfl
    · rw [e] at a
      refine ⟨s, st_asg (k := .fr) (d := .lst [.int s]) ?_ rfl⟩
      unfold eOrT
      rw [a]
      rfl
  obtain ⟨s0, s1⟩ := s1
  have hz := cutD_len ns (some 1) (some 63)
  obtain ⟨δ', e, s, u, v, w, rfl⟩ := for_inv (F := fun i : Nat => D.tup [.int (i : Nat), .int ((cutD ns (some 1) (some 63)).getD i 0)]) (g := gTp [(gNm 3), (gNm 4)]) (b := b)
    (body := sSeq (sAsg 5 (e2 fMod (eB (f1 gInt) (rCons (eVar 3) lNil)) (eVar 1))) (sSet 2 (eVar 5) (e2 fAdd (eIdx (eVar 2) (eVar 5)) (e2 fMulT (eVar 4) (e2 fAdd (eVar 3) (eCst (.int 2)))))))
    (fun _ δ => ∃ s u v w, δ = [Sl.val (.scr ns), .val (.int 1), .own [.int s], u, v, w]) (List.range (cutD ns (some 1) (some 63)).length) 0 [Sl.val (.scr ns), .val (.int 1), .own [.int s0], .none, .none, .none] ⟨_, _, _, _, rfl⟩ fun i x δ hx hp => by
      obtain ⟨s, u, v, w, rfl⟩ := hp
      have hi : i < (cutD ns (some 1) (some 63)).length := by
        rcases Nat.lt_or_ge i (cutD ns (some 1) (some 63)).length with q | q
        · exact q
        · rw [List.getElem?_eq_none (by rw [List.length_range]; exact q)] at hx; cases hx
      rw [List.getElem?_range hi] at hx
      cases hx
      refine ⟨_, [Sl.val (.scr ns), .val (.int 1), .own [.int (s + (cutD ns (some 1) (some 63)).getD i 0 * ((i : Nat) + 2))], .val (.int (i : Nat)), .val (.int ((cutD ns (some 1) (some 63)).getD i 0)), .val (.int (((i : Nat) : Int).fmod 1))], rfl, ?_, _, _, _, _, rfl⟩
      have f0 : ((i : Nat) : Int).fmod 1 = 0 := by rw [Int.fmod_eq_emod_of_nonneg _ (by omega)]; omega
      refine st_seq (st_asg (δ1 := [Sl.val (.scr ns), .val (.int 1), .own [.int s], .val (.int (i : Nat)), .val (.int ((cutD ns (some 1) (some 63)).getD i 0)), .val (.int (((i : Nat) : Int).fmod 1))]) (ev_2 (ev_b1 (k := .sh) (k3 := .sh) rfl rfl) (k2 := .sh) rfl (mod_ii (by omega))) rfl) ?_
      rw [f0]
      have m1 : e2 fMulT (eVar 4) (e2 fAdd (eVar 3) (eCst (.int 2))) [Sl.val (.scr ns), .val (.int 1), .own [.int s], .val (.int (i : Nat)), .val (.int ((cutD ns (some 1) (some 63)).getD i 0)), .val (.int 0)] b = .ok (.int ((cutD ns (some 1) (some 63)).getD i 0 * ((i : Nat) + 2))) .sh b :=
        ev_2 (k := .sh) rfl (k2 := .sh) (ev_2 (k := .sh) rfl (k2 := .sh) rfl rfl) (mul_ii (.inl ⟨by omega, by omega⟩))
      exact st_setO (n := 0) (kk := .sh) (v := .int (s + (cutD ns (some 1) (some 63)).getD i 0 * ((i : Nat) + 2))) (k := 0) (ds := [.int s]) (ev_2 (ev_idx (k := .bo) (d := .lst [.int s]) (i := 0) (x := .int s) rfl (k2 := .sh) rfl rfl) m1 rfl) (by decide) rfl (kd := .sh) rfl rfl
  have it := it_enum (ns := cutD ns (some 1) (some 63)) (d := Ls (cutD ns (some 1) (some 63))) (E := eSl (eVar 0) (some (eVar 1)) (some (eCst (.int 63)))) (δ := [Sl.val (.scr ns), .val (.int 1), .own [.int s0], .none, .none, .none]) (b := b) (b1 := b) (k := .fr) (ev_slS (k := .sh) (b1 := b) (b2 := b) rfl rfl rfl) (by decide) rfl
  exact ⟨s, fb_ret (st_seq s1 (st_seq (st_for it e) rfl))⟩
theorem ev_mbox (ns : List Int) (hl : ns.length ≤ 63) (δ : Slots) (h : δ[0]? = some (.val (.scr ns))) (b : Bx) : ∃ b', (eCall f__law_box (lCons (eCall f__law_cells (lCons (eVar 0) (lCons (eCst (.int 1)) lNil))) (lCons (eCst (.int 0)) lNil))) δ b = .ok (.lst [.int b'.x, .int b'.y, .int b'.z]) .fr b ∧ Bok 0 b' := by
  obtain ⟨s, e1⟩ := ev_cells ns hl b
  obtain ⟨x, y, e2, hx⟩ := ev_box s b
  have v : eVar 0 δ b = .ok (.scr ns) .sh b := by unfold eVar; rw [h]
  exact ⟨⟨x, y, 0⟩, ev_call (ev_lc (ev_call (ev_lc v (by decide) (ev_lc (k := .sh) rfl (by decide) rfl)) e1 (by decide)) (by decide) (ev_lc (k := .sh) rfl (by decide) rfl)) e2 (by decide), hx, Int.le_refl _, Int.le_refl _⟩
theorem ev_same : ∀ (n : Nat) (d : D) (b : Bx), okD n d = true → f__law_same n [d, d] b = .ok (.bl true) .sh b
  | 0, _, _, h => by cases h
  | n + 1, .non, b, _ => rfl
  | n + 1, .bl t, b, _ => by cases t <;> rfl
  | n + 1, .int i, b, _ => by
    have e : e2 (fB cEq) (eVar 0) (eVar 1) [Sl.val (.int i), .val (.int i), .none, .none] b = .ok (.bl true) .sh b := by
      have := ev_2 (A := eVar 0) (B := eVar 1) (δ := [Sl.val (.int i), .val (.int i), .none, .none]) (b := b) (k := .sh) rfl (k2 := .sh) rfl (eq_ii i i)
      rwa [decide_eq_true rfl] at this
    refine fb_ret (st_seq (st_ifF (t := tVal (eIsi ["list", "tuple"] (eVar 1))) (b1 := b) rfl rfl) (st_seq (st_ifF (b1 := b) rfl rfl) (st_ret (k := .sh) ?_ (by decide))))
    exact ev_and (t := true) (u := true) (k := .sh) rfl (fun _ => ev_and (t := true) (u := true) (k := .sh) rfl (fun _ => e) (fun _ => rfl)) (fun _ => rfl)
  | n + 1, .str s, b, h => by
    have hs : SeqAt.shaped (.str s) = true := h
    have q : cEq (.str s) (.str s) = some true := by
      unfold cEq
      simp only [pyd]
      rw [if_pos ⟨hs, hs⟩]
      simp [PyData.eqv]
    have e : e2 (fB cEq) (eVar 0) (eVar 1) [Sl.val (.str s), .val (.str s), .none, .none] b = .ok (.bl true) .sh b := ev_2 (k := .sh) rfl (k2 := .sh) rfl (by unfold fB; rw [q])
    refine fb_ret (st_seq (st_ifF (t := tVal (eIsi ["list", "tuple"] (eVar 1))) (b1 := b) rfl rfl) (st_seqR (st_ifT (b1 := b) rfl (st_ret (k := .sh) ?_ (by decide)))))
    exact ev_and (t := true) (u := true) e (fun _ => rfl) (fun _ => rfl)
  | n + 1, .tup ds, b, h => by
    have h' : (decide (ds.length ≤ 1000000) && ds.all (okD n)) = true := h
    rw [Bool.and_eq_true] at h'
    have hl := of_decide_eq_true h'.1
    have hd := List.all_eq_true.mp h'.2
    have c : eComp [2, 3] (itZip (lCons (eVar 0) (lCons (eVar 1) lNil))) (gTp [(gNm 2), (gNm 3)]) tTrue (eCall (f__law_same n) (lCons (eVar 2) (lCons (eVar 3) lNil))) [Sl.val (.tup ds), .val (.tup ds), .none, .none] b = .ok (.lst (ds.map fun _ => .bl true)) .fr b := by
      refine eComp_map (fun d : D => D.tup [d, d]) _ (b1 := b) ?_ hl fun d hd' => ⟨[Sl.val (.tup ds), .val (.tup ds), .val d, .val d], .sh, rfl, rfl, ev_call (ev_lc (k := .sh) rfl (by decide) (ev_lc (k := .sh) rfl (by decide) rfl)) (ev_same n d b (hd d hd')) (by decide), by decide⟩
      show OutL.ok (zipD ds ds) b = _
      unfold zipD
      rw [zip_self]
    have a := ev_all c
    rw [all_true] at a
    have le : e2 (fB cEq) (eB fLen (rCons (eVar 0) lNil)) (eB fLen (rCons (eVar 1) lNil)) [Sl.val (.tup ds), .val (.tup ds), .none, .none] b = .ok (.bl true) .sh b := by
      have := ev_2 (A := eB fLen (rCons (eVar 0) lNil)) (B := eB fLen (rCons (eVar 1) lNil)) (δ := [Sl.val (.tup ds), .val (.tup ds), .none, .none]) (b := b) (k := .sh) (ev_b1 (k := .sh) rfl rfl) (k2 := .sh) (ev_b1 (k := .sh) rfl rfl) (eq_ii (ds.length : Nat) (ds.length : Nat))
      rwa [decide_eq_true rfl] at this
    exact fb_ret (st_seqR (st_ifT (b1 := b) rfl (st_seq (st_ifF (b1 := b) rfl rfl) (st_ret (ev_and (t := true) (u := true) le (fun _ => a) (fun _ => rfl)) (by decide)))))
  | n + 1, .lst ds, b, h => by
    have h' : (decide (ds.length ≤ 1000000) && ds.all (okD n)) = true := h
    rw [Bool.and_eq_true] at h'
    have hl := of_decide_eq_true h'.1
    have hd := List.all_eq_true.mp h'.2
    have c : eComp [2, 3] (itZip (lCons (eVar 0) (lCons (eVar 1) lNil))) (gTp [(gNm 2), (gNm 3)]) tTrue (eCall (f__law_same n) (lCons (eVar 2) (lCons (eVar 3) lNil))) [Sl.val (.lst ds), .val (.lst ds), .none, .none] b = .ok (.lst (ds.map fun _ => .bl true)) .fr b := by
      refine eComp_map (fun d : D => D.tup [d, d]) _ (b1 := b) ?_ hl fun d hd' => ⟨[Sl.val (.lst ds), .val (.lst ds), .val d, .val d], .sh, rfl, rfl, ev_call (ev_lc (k := .sh) rfl (by decide) (ev_lc (k := .sh) rfl (by decide) rfl)) (ev_same n d b (hd d hd')) (by decide), by decide⟩
      show OutL.ok (zipD ds ds) b = _
      unfold zipD
      rw [zip_self]
    have a := ev_all c
    rw [all_true] at a
    have le : e2 (fB cEq) (eB fLen (rCons (eVar 0) lNil)) (eB fLen (rCons (eVar 1) lNil)) [Sl.val (.lst ds), .val (.lst ds), .none, .none] b = .ok (.bl true) .sh b := by
      have := ev_2 (A := eB fLen (rCons (eVar 0) lNil)) (B := eB fLen (rCons (eVar 1) lNil)) (δ := [Sl.val (.lst ds), .val (.lst ds), .none, .none]) (b := b) (k := .sh) (ev_b1 (k := .sh) rfl rfl) (k2 := .sh) (ev_b1 (k := .sh) rfl rfl) (eq_ii (ds.length : Nat) (ds.length : Nat))
      rwa [decide_eq_true rfl] at this
    exact fb_ret (st_seqR (st_ifT (b1 := b) rfl (st_seq (st_ifF (b1 := b) rfl rfl) (st_ret (ev_and (t := true) (u := true) le (fun _ => a) (fun _ => rfl)) (by decide)))))
  | n + 1, .box, _, h => by cases h
  | n + 1, .fn _, _, h => by cases h
  | n + 1, .dct _, _, h => by cases h
  | n + 1, .scr _, _, h => by cases h
theorem same_ok {A B : EM} {δ : Slots} {b b1 b2 : Bx} {d : D} {k k2 : Kd} (h : A δ b = .ok d k b1) (hk : k ≠ .bo) (h' : B δ b1 = .ok d k2 b2) (hk2 : k2 ≠ .bo) (ok : okD 8 d = true) : eCall (f__law_same 8) (lCons A (lCons B lNil)) δ b = .ok (.bl true) .sh b2 :=
  ev_call (ev_lc h hk (ev_lc h' hk2 rfl)) (ev_same 8 d b2 ok) (by decide)
theorem Good.chk {is : List Nat} {A B : EM} {r : SM} {δ δ1 : Slots} {b : Bx} {M : Int} {d : D} {k k2 : Kd} (hf : frz is δ = δ1) (h : A δ1 b = .ok d k b) (hk : k ≠ .bo) (h' : B δ1 b = .ok d k2 b) (hk2 : k2 ≠ .bo) (ok : okD 8 d = true) (t : Good r δ1 b M) :
    Good (sSeq (sFrz is (sIf (tNot_ (tVal (eCall (f__law_same 8) (lCons A (lCons B lNil))))) (sRet (eCst (.bl false))) sNext)) r) δ b M := by
  refine Good.seq (δ1 := δ1) (b1 := b) (st_frz ?_) t
  rw [hf]
  exact st_check (same_ok h hk h' hk2 ok)
theorem st_try {KS : List Str} {m : SM} {hs : List (Str × SM)} {δ δ1 : Slots} {b b1 : Bx} (h : m δ b = .nx δ1 b1) : sTry KS m hs δ b = .nx δ1 b1 := by
  unfold sTry
  rw [h]
theorem st_tryx {KS : List Str} {m : SM} {hs : List (Str × SM)} {δ δ1 : Slots} {b b1 : Bx} {x : Str} {fs : List D} {o : SOut} (h : m δ b = .exc x fs δ1 b1) (hx : x ∈ KS) (e : caught hs x fs δ1 b1 = o) : sTry KS m hs δ b = o := by
  unfold sTry
  rw [h]
  dsimp only
  rw [if_pos hx]
  exact e
/-- a draw from 0 to n - 1 -/
theorem GoodA.take {S : List Nat} {δm : Slots} {r : SM} {b : Bx} {m M : Int} {i : Nat} {n : Int} (hb : Bok m b) (h0 : δm[0]? = some (.val .box)) (hS : 0 ∉ S) (hm : m ≤ 1000000) (h1 : 1 ≤ n) (h2 : n ≤ 1000000)
    (t : ∀ (v : Int) (b' : Bx), 0 ≤ v → v < n → Bok (m + 1) b' → GoodA S (δm.set i (.val (.int v))) r b' M) : GoodA S δm (sSeq (sAsg i (eCall f__law_take (lCons (eVar 0) (lCons (eCst (.int n)) lNil)))) r) b M := fun δ a => by
  obtain ⟨v, b', e, v0, v1, hb'⟩ := ev_take m n b hb hm h1 h2
  have x0 : eVar 0 δ b = .ok .box .sh b := by unfold eVar; rw [← a.2 0 hS, h0]
  exact Good.seq (st_asg (k := .sh) (call2 x0 (by decide) (k2 := .sh) rfl (by decide) e (by decide)) rfl) (t v b' v0 v1 hb' _ (a.set i _))
end Rk

namespace Rk
open PySem PySem.Spec L2
structure Lay (ns l : List Int) : Prop where
  len : l.length = ns.length
  rng : ∀ k, k < ns.length → 0 ≤ l.getD k 0 ∧ l.getD k 0 ≤ ns.getD k 0
  nd : (l.filter fun x => decide (0 < x)).Nodup
theorem ev_cf {δ : Slots} {b : Bx} {vs : List Nat} {im : LM} {c : Nat} {t : BM} {m : EM} (p : Int → Bool) (G : Int → D) {xs : List Int} (hi : im δ b = .ok (xs.map D.int) b) (hl : xs.length ≤ 1000000)
    (ht : ∀ x, x ∈ xs → t ((wipeD δ vs).set c (.val (.int x))) b = .ok (p x) b) (hm : ∀ x, x ∈ xs → p x = true → m ((wipeD δ vs).set c (.val (.int x))) b = .ok (G x) .sh b) :
    eComp vs im (gNm c) t m δ b = .ok (.lst ((xs.filter p).map G)) .fr b := eComp_filter (fun x : Int => D.int x) G p hi hl fun x hx => ⟨_, rfl, ht x hx, fun hp => ⟨.sh, hm x hx hp, by decide⟩⟩
theorem nin_T {x : Int} {ys : List Int} {A B : EM} {δ : Slots} {b : Bx} {k k2 : Kd} (h : A δ b = .ok (.int x) k b) (h' : B δ b = .ok (T ys) k2 b) : tVal (e2 (fB cNotIn) A B) δ b = .ok (!memI x ys) b := ev_tval (ev_2 h h' (y_ninT x ys))
theorem rng_small {a c : Int} (h : c - a ≤ 1000000) : (rngI a c).length ≤ 1000000 := by rw [rngI_len]; omega
theorem ev_is_tuple_of (l : List Int) (n : Int) (b : Bx) : f_is_tuple_of [T l, .int n] b = .ok (.bl (decide ((l.length : Int) = n))) .sh b := by
  have := ev_and (m := eIsi ["tuple"] (eVar 0)) (r := e2 (fB cEq) (eB fLen (rCons (eVar 0) lNil)) (eVar 1)) (δ := [Sl.val (T l), .val (.int n)]) (b := b) (b1 := b) (b2 := b) (t := true) (u := decide ((l.length : Int) = n)) (k := .sh) rfl (fun _ => ev_2 (ev_b1 (k := .sh) rfl (len_T l)) (k2 := .sh) rfl (eq_ii _ n)) (fun _ => rfl)
  rw [Bool.true_and] at this
  exact fb_ret (st_ret this (by decide))
theorem zip_between {ns l : List Int} (h : Lay ns l) : ((l.zip ns).all fun p => decide (0 ≤ p.1) && decide (p.1 ≤ p.2)) = true := by
  rw [List.all_eq_true]
  intro p hp
  obtain ⟨i, hi, rfl⟩ := List.getElem_of_mem hp
  rw [List.length_zip] at hi
  have hl := h.len
  have := h.rng i (by omega)
  rw [List.getElem_zip]
  rw [List.getD_eq_getElem?_getD, List.getElem?_eq_getElem (by omega), List.getD_eq_getElem?_getD, List.getElem?_eq_getElem (by omega)] at this
  simp only [Option.getD_some] at this
  simp [this]
theorem ev_is_laid {ns l : List Int} (h : Lay ns l) (hl : ns.length ≤ 100) (b : Bx) : f_is_laid [T ns, T l] b = .ok (.bl true) .sh b := by
  have e1 := ev_is_tuple_of l (ns.length : Nat) b
  rw [decide_eq_true (by rw [h.len])] at e1
  have hll := h.len
  have z := zip_between h
  have c2 : eComp [3, 4] (itZip (lCons (eVar 1) (lCons (eVar 0) lNil))) (gTp [(gNm 3), (gNm 4)]) tTrue (eCall f_is_between (lCons (eVar 3) (lCons (eCst (.int 0)) (lCons (eVar 4) lNil)))) [Sl.val (T ns), .val (T l), .none, .none, .none] b = .ok (.lst ((l.zip ns).map fun p => .bl (decide (0 ≤ p.1) && decide (p.1 ≤ p.2)))) .fr b :=
    eComp_map (fun p : Int × Int => D.tup [.int p.1, .int p.2]) _ (it_zip (k := .sh) rfl (by decide) (k2 := .sh) rfl (by decide) rfl rfl) (by rw [List.length_zip]; omega) fun p _ => ⟨_, .sh, rfl, rfl, call3 (k := .sh) rfl (by decide) (k2 := .sh) rfl (by decide) (k3 := .sh) rfl (by decide) (ev_is_between _ _ _ b) (by decide), by decide⟩
  have a2 := ev_all c2
  rw [z] at a2
  have c3 : eComp [3] (itSeq (eVar 1)) (gNm 3) (tVal (e2 (fB cGt) (eVar 3) (eCst (.int 0)))) (eVar 3) [Sl.val (T ns), .val (T l), .none, .none, .none] b = .ok (Ls (l.filter fun x => decide (0 < x))) .fr b :=
    ev_cf (fun x => decide (0 < x)) D.int (it_seq (k := .sh) (d := T l) rfl (by decide) rfl) (by omega) (fun x _ => ev_tval (ev_2 (k := .sh) rfl (k2 := .sh) rfl rfl)) (fun x _ _ => rfl)
  have hf : (l.filter fun x => decide (0 < x)).length ≤ 4000 := Nat.le_trans (List.length_filter_le ..) (by omega)
  have e4 : fLenSet (Ls (l.filter fun x => decide (0 < x))) = some (.int ((l.filter fun x => decide (0 < x)).length : Nat), .sh) := by
    show (match intsD _ with | some ns => _ | none => _) = _
    rw [intsD_map]
    dsimp only
    rw [if_pos ⟨h.nd, hf⟩]
  have e5 := eq_ii ((l.filter fun x => decide (0 < x)).length : Nat) ((l.filter fun x => decide (0 < x)).length : Nat)
  rw [decide_eq_true rfl] at e5
  refine fb_ret (st_seq (st_ifF (ev_tnot (ev_tval (call2 (k := .sh) rfl (by decide) (ev_b1 (k := .sh) rfl (len_T ns)) (by decide) e1 (by decide)))) rfl) (st_seq (st_ifF (ev_tnot (ev_tval a2)) rfl) (st_seq (st_asg c3 rfl) (st_ret (ev_2 (ev_1 (k := .bo) rfl e4) (ev_b1 (k := .bo) rfl (len_L _)) e5) (by decide)))))
theorem atI_D {ns : List Int} {k : Nat} (h : k < ns.length) : L2.atI (ns.map D.int) (k : Int) = some (.int (ns.getD k 0)) := atI_ints (by
  have := atI_getD h
  rwa [Int.zero_add] at this)
theorem getD_mem {ns : List Int} {k : Nat} (h : k < ns.length) : ns.getD k 0 ∈ ns := by
  rw [List.getD_eq_getElem?_getD, List.getElem?_eq_getElem h]
  exact List.getElem_mem ..
theorem add_L {xs ys : List D} (h : xs.length + ys.length ≤ 1000000) : fAdd (.lst xs) (.lst ys) = some (.lst (xs ++ ys), .fr) := by
  show (if xs.length + ys.length ≤ big then some (D.lst (xs ++ ys), Kd.fr) else none) = _
  rw [if_pos (show xs.length + ys.length ≤ big from h)]
structure LayP (ns l : List Int) : Prop where
  len : l.length ≤ ns.length
  rng : ∀ k, k < l.length → 0 ≤ l.getD k 0 ∧ l.getD k 0 ≤ ns.getD k 0
  nd : (l.filter fun x => decide (0 < x)).Nodup
theorem LayP.lay {ns l : List Int} (h : LayP ns l) (hl : l.length = ns.length) : Lay ns l := ⟨hl, fun k hk => h.rng k (by omega), h.nd⟩
theorem LayP.snoc {ns l : List Int} (h : LayP ns l) {z : Int} (hl : l.length < ns.length) (h0 : 0 ≤ z) (h1 : z ≤ ns.getD l.length 0) (hz : z = 0 ∨ z ∉ l) : LayP ns (l ++ [z]) := by
  refine ⟨by rw [List.length_append]; simp; omega, fun k hk => ?_, ?_⟩
  · rw [List.length_append, List.length_singleton] at hk
    rcases Nat.lt_or_ge k l.length with q | q
    · rw [List.getD_eq_getElem?_getD, List.getElem?_append_left q, ← List.getD_eq_getElem?_getD]; exact h.rng k q
    · have : k = l.length := by omega
      subst this
      rw [List.getD_eq_getElem?_getD, List.getElem?_append_right (Nat.le_refl _), Nat.sub_self]
      exact ⟨h0, h1⟩
  · rw [List.filter_append]
    rcases hz with rfl | hz
    · have e : [(0 : Int)].filter (fun x => decide (0 < x)) = [] := by simp
      rw [e, List.append_nil]; exact h.nd
    · refine List.nodup_append.mpr ⟨h.nd, ?_, ?_⟩
      · exact List.Nodup.sublist List.filter_sublist (by simp)
      · intro a ha c hc
        have := (List.mem_filter.mp hc).1
        rw [List.mem_singleton.mp this]
        rintro rfl
        exact hz (List.mem_filter.mp ha).1
theorem ev_of (m : Int) (pool : List D) (b : Bx) (hb : Bok m b) (hm : m ≤ 1000000) (h1 : pool ≠ []) (h2 : pool.length ≤ 1000000) : ∃ x b', f__law_of [.box, .lst pool] b = .ok x .sh b' ∧ x ∈ pool ∧ Bok (m + 1) b' := by
  have hp : 0 < pool.length := List.length_pos_iff.mpr h1
  obtain ⟨v, b', e, v0, v1, hb'⟩ := ev_take m (pool.length : Nat) b hb hm (by omega) (by omega)
  obtain ⟨k, rfl⟩ := Int.eq_ofNat_of_zero_le v0
  have hk : k < pool.length := by omega
  refine ⟨pool[k], b', fb_ret (st_ret (ev_idxN (k := .sh) rfl (call2 (k := .sh) rfl (by decide) (ev_b1 (k := .sh) (d := .int (pool.length : Nat)) rfl rfl) (by decide) e (by decide)) (by show L2.atI pool ((k : Nat) : Int) = _; exact atI_nat (List.getElem?_eq_getElem hk))) (by decide)), List.getElem_mem .., hb'⟩
/-! ### TURNS: (row - 1, column, size) -/
abbrev Tn := Nat × Nat × Nat
def tD (t : Tn) : D := T [((t.1 : Nat) : Int) + 1, (t.2.1 : Nat), (t.2.2 : Nat)]
def win (h : List Int) (t : Tn) : List Int := (h.drop t.1).take t.2.2
def alw (h : List Int) (t : Tn) : Bool := decide (t.1 + t.2.2 ≤ h.length) && (((h.take t.1).all fun x => decide (x ≤ (t.2.1 : Nat))) && ((h.drop (t.1 + t.2.2)).all fun x => decide (((t.2.1 : Nat) : Int) + (t.2.2 : Nat) ≤ x)) && (decide (((t.2.1 : Nat) : Int) ≤ (win h t).getD 0 0) && decide ((win h t).getLastD 0 ≤ ((t.2.1 : Nat) : Int) + (t.2.2 : Nat))))
def trn (h : List Int) (t : Tn) : List Int := h.take t.1 ++ (abt ((win h t).map fun x => x - (t.2.1 : Nat)) (t.2.2 : Nat)).map (fun x => ((t.2.1 : Nat) : Int) + x) ++ h.drop (t.1 + t.2.2)
theorem ev_slB {xs : List Int} {A I J : EM} {δ : Slots} {b b1 b2 b3 : Bx} {k k2 k3 : Kd} {i j : Int} {n m : Nat} (h : A δ b = .ok (T xs) k b1) (h' : I δ b1 = .ok (.int i) k2 b2) (h'' : J δ b2 = .ok (.int j) k3 b3) (hi : i = (n : Int)) (hj : j = ((n + m : Nat) : Int)) (hn : n + m ≤ xs.length) : eSl A (some I) (some J) δ b = .ok (T ((xs.drop n).take m)) .sh b3 := by
  unfold eSl
  rw [h]
  dsimp only [part]
  rw [h']
  dsimp only
  rw [h'']
  dsimp only [fSl]
  rw [hi, hj]
  unfold cutD
  rw [HT.sIx_nat, HT.sIx_nat, List.length_map, Nat.min_eq_left hn, Nat.min_eq_left (by omega), show n + m - n = m by omega, ← List.map_drop, ← List.map_take]
theorem win_len {h : List Int} {t : Tn} (hl : t.1 + t.2.2 ≤ h.length) : (win h t).length = t.2.2 := by
  unfold win
  rw [List.length_take, List.length_drop]; omega
theorem all_of {α : Type} {xs : List α} {p : α → Bool} {E : EM} {δ : Slots} {b b1 : Bx} {k : Kd} (h : E δ b = .ok (.lst (xs.map fun x => .bl (p x))) k b1) : tVal (eB (f1 gAll) (rCons E lNil)) δ b = .ok (xs.all p) b1 := ev_tval (ev_all h)
section
variable {h : List Int} {t : Tn} (hl : h.length ≤ 100) (hs : 2 ≤ t.2.2) (b : Bx)
include hl hs
theorem ev_allowed : f_allowed [T h, tD t] b = .ok (.bl (alw h t)) .sh b := by
  obtain ⟨r, c, s⟩ := t
  dsimp only at hs
  have t4 : tVal (e2 (fB cGt) (e2 fSub (e2 fAdd (eVar 2) (eVar 4)) (eCst (.int 1))) (eB fLen (rCons (eVar 0) lNil))) [Sl.val (T h), .val (tD (r, c, s)), .val (.int ((r : Nat) + 1)), .val (.int (c : Nat)), .val (.int (s : Nat)), .none, .none, .none, .none] b = .ok (decide ((h.length : Int) < (r : Nat) + 1 + (s : Nat) - 1)) b :=
    ev_tval (ev_2 (k := .sh) (ev_2 (f := fSub) (ev_2 (f := fAdd) (k := .sh) (x := .int ((r : Nat) + 1)) rfl (k2 := .sh) (y := .int (s : Nat)) rfl rfl) (k2 := .sh) (y := .int 1) rfl rfl) (ev_b1 (k := .sh) (A := eVar 0) rfl (len_T h)) rfl)
  have t1 : tVal (e2 (fB cLt) (eVar 2) (eCst (.int 1))) [Sl.val (T h), .val (tD (r, c, s)), .val (.int ((r : Nat) + 1)), .val (.int (c : Nat)), .val (.int (s : Nat)), .none, .none, .none, .none] b = .ok (decide (((r : Nat) : Int) + 1 < 1)) b := ev_tval (ev_2 (k := .sh) rfl (k2 := .sh) rfl rfl)
  have t2 : tVal (e2 (fB cLt) (eVar 3) (eCst (.int 0))) [Sl.val (T h), .val (tD (r, c, s)), .val (.int ((r : Nat) + 1)), .val (.int (c : Nat)), .val (.int (s : Nat)), .none, .none, .none, .none] b = .ok (decide (((c : Nat) : Int) < 0)) b := ev_tval (ev_2 (k := .sh) rfl (k2 := .sh) rfl rfl)
  have t3 : tVal (e2 (fB cLt) (eVar 4) (eCst (.int 2))) [Sl.val (T h), .val (tD (r, c, s)), .val (.int ((r : Nat) + 1)), .val (.int (c : Nat)), .val (.int (s : Nat)), .none, .none, .none, .none] b = .ok (decide (((s : Nat) : Int) < 2)) b := ev_tval (ev_2 (k := .sh) rfl (k2 := .sh) rfl rfl)
  rw [decide_eq_false (by omega)] at t1 t2 t3
  have tt := ev_tor t1 (fun _ => ev_tor t2 (fun _ => ev_tor t3 (fun _ => t4) (fun _ => rfl)) (fun _ => rfl)) (fun _ => rfl)
  rw [Bool.false_or, Bool.false_or, Bool.false_or] at tt
  have s0 : sAsgT (gTp [(gNm 2), (gNm 3), (gNm 4)]) (eVar 1) [Sl.val (T h), .val (tD (r, c, s)), .none, .none, .none, .none, .none, .none, .none] b = .nx [Sl.val (T h), .val (tD (r, c, s)), .val (.int ((r : Nat) + 1)), .val (.int (c : Nat)), .val (.int (s : Nat)), .none, .none, .none, .none] b := st_asgT (k := .sh) rfl (by decide) rfl
  unfold alw
  dsimp only
  by_cases hr : r + s ≤ h.length
  · rw [decide_eq_false (by omega)] at tt
    rw [decide_eq_true hr, Bool.true_and]
    have wl := win_len (h := h) (t := (r, c, s)) hr
    dsimp only at wl
    have a0 : e2 fSub (eVar 2) (eCst (.int 1)) [Sl.val (T h), .val (tD (r, c, s)), .val (.int ((r : Nat) + 1)), .val (.int (c : Nat)), .val (.int (s : Nat)), .none, .none, .none, .none] b = .ok (.int (r : Nat)) .sh b := ev_2 (k := .sh) rfl (k2 := .sh) rfl (by show some (D.int ((r : Int) + 1 - 1), Kd.sh) = _; rw [Int.add_sub_cancel])
    have a1 : e2 fSub (e2 fAdd (eVar 2) (eVar 4)) (eCst (.int 1)) [Sl.val (T h), .val (tD (r, c, s)), .val (.int ((r : Nat) + 1)), .val (.int (c : Nat)), .val (.int (s : Nat)), .none, .none, .none, .none] b = .ok (.int ((r + s : Nat))) .sh b := ev_2 (f := fSub) (ev_2 (f := fAdd) (k := .sh) (x := .int ((r : Nat) + 1)) rfl (k2 := .sh) (y := .int (s : Nat)) rfl rfl) (k2 := .sh) (y := .int 1) rfl (by show some (D.int ((r : Int) + 1 + (s : Int) - 1), Kd.sh) = _; rw [show (r : Int) + 1 + (s : Int) - 1 = ((r + s : Nat) : Int) by omega])
    have p3 : sPar3 5 6 7 (eSl (eVar 0) none (some (e2 fSub (eVar 2) (eCst (.int 1))))) (eSl (eVar 0) (some (e2 fSub (eVar 2) (eCst (.int 1)))) (some (e2 fSub (e2 fAdd (eVar 2) (eVar 4)) (eCst (.int 1))))) (eSl (eVar 0) (some (e2 fSub (e2 fAdd (eVar 2) (eVar 4)) (eCst (.int 1)))) none) [Sl.val (T h), .val (tD (r, c, s)), .val (.int ((r : Nat) + 1)), .val (.int (c : Nat)), .val (.int (s : Nat)), .none, .none, .none, .none] b
        = .nx [Sl.val (T h), .val (tD (r, c, s)), .val (.int ((r : Nat) + 1)), .val (.int (c : Nat)), .val (.int (s : Nat)), .val (T (h.take r)), .val (T (win h (r, c, s))), .val (T (h.drop (r + s))), .none] b := by
      unfold sPar3
      rw [ev_slTo (k := .sh) (n := r) (b1 := b) rfl a0 rfl (by omega)]
      dsimp only
      rw [ev_slB (k := .sh) (n := r) (m := s) (b1 := b) rfl a0 a1 rfl rfl (by omega)]
      dsimp only
      rw [ev_slFrom (k := .sh) (n := r + s) (b1 := b) rfl a1 rfl (by omega)]
      rfl
    have u1 : tVal (eB (f1 gAll) (rCons (eComp [8] (itSeq (eVar 5)) (gNm 8) tTrue (e2 (fB cLe) (eVar 8) (eVar 3))) lNil)) [Sl.val (T h), .val (tD (r, c, s)), .val (.int ((r : Nat) + 1)), .val (.int (c : Nat)), .val (.int (s : Nat)), .val (T (h.take r)), .val (T (win h (r, c, s))), .val (T (h.drop (r + s))), .none] b = .ok ((h.take r).all fun x => decide (x ≤ (c : Nat))) b :=
      all_of (eComp_map D.int _ (it_seq (k := .sh) (d := T (h.take r)) rfl (by decide) rfl) (by rw [List.length_take]; omega) fun x _ => ⟨_, .sh, rfl, rfl, rfl, by decide⟩)
    have u2 : tVal (eB (f1 gAll) (rCons (eComp [8] (itSeq (eVar 7)) (gNm 8) tTrue (e2 (fB cGe) (eVar 8) (e2 fAdd (eVar 3) (eVar 4)))) lNil)) [Sl.val (T h), .val (tD (r, c, s)), .val (.int ((r : Nat) + 1)), .val (.int (c : Nat)), .val (.int (s : Nat)), .val (T (h.take r)), .val (T (win h (r, c, s))), .val (T (h.drop (r + s))), .none] b = .ok ((h.drop (r + s)).all fun x => decide (((c : Nat) : Int) + (s : Nat) ≤ x)) b :=
      all_of (eComp_map D.int _ (it_seq (k := .sh) (d := T (h.drop (r + s))) rfl (by decide) rfl) (by rw [List.length_drop]; omega) fun x _ => ⟨_, .sh, rfl, rfl, rfl, by decide⟩)
    have u3 : eAnd (e2 (fB cGe) (eIdxN (eVar 6) (eCst (.int 0))) (eVar 3)) (e2 (fB cLe) (eIdxN (eVar 6) (e1 fNeg (eCst (.int 1)))) (e2 fAdd (eVar 3) (eVar 4))) [Sl.val (T h), .val (tD (r, c, s)), .val (.int ((r : Nat) + 1)), .val (.int (c : Nat)), .val (.int (s : Nat)), .val (T (h.take r)), .val (T (win h (r, c, s))), .val (T (h.drop (r + s))), .none] b
        = .ok (.bl (decide (((c : Nat) : Int) ≤ (win h (r, c, s)).getD 0 0) && decide ((win h (r, c, s)).getLastD 0 ≤ ((c : Nat) : Int) + (s : Nat)))) .sh b :=
      ev_and (k := .sh) (ev_2 (ev_idxN (i := ((0 : Nat) : Int)) (k := .sh) rfl (k2 := .sh) rfl (atI_D (by omega))) (k2 := .sh) rfl rfl) (fun _ => ev_2 (ev_idxN (i := -1) (k := .sh) rfl (k2 := .sh) rfl (atI_ints (atI_last (fun e => by rw [e] at wl; simp at wl; omega)))) (k2 := .sh) rfl rfl) (fun _ => rfl)
    have tt2 := ev_tor (ev_tnot u1) (fun _ => ev_tnot u2) (fun _ => rfl)
    refine fb_ret (st_seq s0 (st_seq (st_ifF tt rfl) (st_seq p3 ?_)))
    cases hu : ((h.take r).all fun x => decide (x ≤ (c : Nat))) && ((h.drop (r + s)).all fun x => decide (((c : Nat) : Int) + (s : Nat) ≤ x)) with
    | false =>
      rw [show (!((h.take r).all fun x => decide (x ≤ (c : Nat))) || !((h.drop (r + s)).all fun x => decide (((c : Nat) : Int) + (s : Nat) ≤ x))) = true by rw [← Bool.not_and, hu]; rfl] at tt2
      rw [Bool.false_and]
      exact st_seqR (st_frz (st_ifT tt2 rfl))
    | true =>
      rw [show (!((h.take r).all fun x => decide (x ≤ (c : Nat))) || !((h.drop (r + s)).all fun x => decide (((c : Nat) : Int) + (s : Nat) ≤ x))) = false by rw [← Bool.not_and, hu]; rfl] at tt2
      rw [Bool.true_and]
      exact st_seq (st_frz (st_ifF tt2 rfl)) (st_ret u3 (by decide))
  · rw [decide_eq_true (by omega)] at tt
    rw [decide_eq_false hr, Bool.false_and]
    exact fb_ret (st_seq s0 (st_seqR (st_ifT tt rfl)))
end
end Rk

namespace Rk
open PySem PySem.Spec L2

theorem ev_aboutL (ns : List Int) (s : Int) (hl : ns.length ≤ 1000) (h0 : 0 ≤ s) (h1 : s ≤ 1000) (b : Bx) : f_about [Ls ns, .int s] b = .ok (T (abt ns s)) .sh b := by
  have c : eComp [2] (itRng (rCons (eVar 1) lNil)) (gNm 2) tTrue (eB fLen (rCons (eComp [3] (itSeq (eVar 0)) (gNm 3) (tVal (e2 (fB cGe) (eVar 3) (e2 fSub (eVar 1) (eVar 2)))) (eVar 3)) lNil)) [Sl.val (Ls ns), .val (.int s), .none, .none] b = .ok (.lst ((List.range s.toNat).map fun k : Nat => .int (((ns.filter fun n => decide (s - (0 + (k : Nat)) ≤ n)).length : Nat)))) .fr b :=
    eComp_map (fun i : Nat => D.int (0 + (i : Nat))) _ (it_rng1 (k := .sh) rfl (by omega) (by omega)) (by rw [List.length_range]; omega) fun k _ => ⟨_, .sh, rfl, rfl, ev_b1 (ev_cf (fun n => decide (s - (0 + (k : Nat)) ≤ n)) D.int (it_seq (k := .sh) (d := Ls ns) rfl (by decide) rfl) (by omega) (fun x _ => ev_tval (ev_2 (k := .sh) rfl (k2 := .sh) (ev_2 (f := fSub) (k := .sh) (x := .int s) rfl (k2 := .sh) (y := .int (0 + (k : Nat))) rfl rfl) rfl)) (fun x _ _ => rfl)) (len_L _), by decide⟩
  have e : ((List.range s.toNat).map fun k : Nat => D.int (((ns.filter fun n => decide (s - (0 + (k : Nat)) ≤ n)).length : Nat))) = (abt ns s).map D.int := by unfold abt; rw [List.map_map]; rfl
  rw [e] at c
  exact fb_ret (st_ret (ev_tuple c) (by decide))
theorem abt_len (ns : List Int) (s : Nat) : (abt ns (s : Nat)).length = s := by unfold abt; rw [List.length_map, List.length_range, Int.toNat_natCast]
theorem trn_len {h : List Int} {t : Tn} (hl : t.1 + t.2.2 ≤ h.length) : (trn h t).length = h.length := by
  unfold trn
  rw [List.length_append, List.length_append, List.length_map, abt_len, List.length_take, List.length_drop]; omega
theorem alw_le {h : List Int} {t : Tn} (ha : alw h t = true) : t.1 + t.2.2 ≤ h.length := by
  unfold alw at ha
  rw [Bool.and_eq_true] at ha
  exact of_decide_eq_true ha.1
theorem alw_col {h : List Int} {t : Tn} (hs : 2 ≤ t.2.2) (ha : alw h t = true) : ((t.2.1 : Nat) : Int) ≤ h.getD t.1 0 := by
  have hl := alw_le ha
  unfold alw at ha
  rw [Bool.and_eq_true, Bool.and_eq_true, Bool.and_eq_true, Bool.and_eq_true] at ha
  have := of_decide_eq_true ha.2.2.1
  unfold win at this
  rw [List.getD_eq_getElem?_getD, List.getElem?_take, if_pos (by omega), List.getElem?_drop, Nat.add_zero, ← List.getD_eq_getElem?_getD] at this
  exact this
section
variable {h : List Int} {t : Tn} (hl : h.length ≤ 100) (hs : 2 ≤ t.2.2) (b : Bx)
include hl hs
theorem ev_made_turned (ha : alw h t = true) : f_made_turned [T h, tD t] b = .ok (T (trn h t)) .sh b := by
  have al := ev_allowed hl hs b
  rw [ha] at al
  have hr := alw_le ha
  obtain ⟨r, c, s⟩ := t
  dsimp only at hs hr
  have wl := win_len (h := h) (t := (r, c, s)) hr
  dsimp only at wl
  have a0 : ∀ (u5 u6 : Sl), e2 fSub (eVar 2) (eCst (.int 1)) [Sl.val (T h), .val (tD (r, c, s)), .val (.int ((r : Nat) + 1)), .val (.int (c : Nat)), .val (.int (s : Nat)), u5, u6, .none, .none] b = .ok (.int (r : Nat)) .sh b := fun u5 u6 => ev_2 (k := .sh) rfl (k2 := .sh) rfl (by show some (D.int ((r : Int) + 1 - 1), Kd.sh) = _; rw [Int.add_sub_cancel])
  have a1 : ∀ (u5 u6 : Sl), e2 fSub (e2 fAdd (eVar 2) (eVar 4)) (eCst (.int 1)) [Sl.val (T h), .val (tD (r, c, s)), .val (.int ((r : Nat) + 1)), .val (.int (c : Nat)), .val (.int (s : Nat)), u5, u6, .none, .none] b = .ok (.int ((r + s : Nat))) .sh b := fun u5 u6 => ev_2 (f := fSub) (ev_2 (f := fAdd) (k := .sh) (x := .int ((r : Nat) + 1)) rfl (k2 := .sh) (y := .int (s : Nat)) rfl rfl) (k2 := .sh) (y := .int 1) rfl (by show some (D.int ((r : Int) + 1 + (s : Int) - 1), Kd.sh) = _; rw [show (r : Int) + 1 + (s : Int) - 1 = ((r + s : Nat) : Int) by omega])
  have c1 : eComp [7] (itSeq (eSl (eVar 0) (some (e2 fSub (eVar 2) (eCst (.int 1)))) (some (e2 fSub (e2 fAdd (eVar 2) (eVar 4)) (eCst (.int 1)))))) (gNm 7) tTrue (e2 fSub (eVar 7) (eVar 3)) [Sl.val (T h), .val (tD (r, c, s)), .val (.int ((r : Nat) + 1)), .val (.int (c : Nat)), .val (.int (s : Nat)), .none, .none, .none, .none] b = .ok (Ls ((win h (r, c, s)).map fun x => x - (c : Nat))) .fr b := by
    have q := eComp_map (vs := [7]) (g := gNm 7) (t := tTrue) (m := e2 fSub (eVar 7) (eVar 3)) D.int (fun x : Int => D.int (x - (c : Nat))) (it_seq (k := .sh) (d := T (win h (r, c, s))) (ev_slB (k := .sh) (n := r) (m := s) (b1 := b) (A := eVar 0) rfl (a0 .none .none) (a1 .none .none) rfl rfl (by omega)) (by decide) rfl) (by rw [wl]; omega) fun x _ => ⟨_, .sh, rfl, rfl, rfl, by decide⟩
    rw [q]
    show Out.ok (.lst _) .fr b = .ok (.lst (List.map _ (List.map _ _))) .fr b
    rw [List.map_map]; rfl
  have c2 : eB (f1 gTuple) (rCons (eComp [8] (itSeq (eCall f_about (lCons (eVar 5) (lCons (eVar 4) lNil)))) (gNm 8) tTrue (e2 fAdd (eVar 3) (eVar 8))) lNil) [Sl.val (T h), .val (tD (r, c, s)), .val (.int ((r : Nat) + 1)), .val (.int (c : Nat)), .val (.int (s : Nat)), .val (Ls ((win h (r, c, s)).map fun x => x - (c : Nat))), .none, .none, .none] b = .ok (T ((abt ((win h (r, c, s)).map fun x => x - (c : Nat)) (s : Nat)).map fun x => ((c : Nat) : Int) + x)) .sh b := by
    have q := eComp_map (vs := [8]) (g := gNm 8) (t := tTrue) (m := e2 fAdd (eVar 3) (eVar 8)) D.int (fun x : Int => D.int (((c : Nat) : Int) + x)) (it_seq (k := .sh) (d := T (abt ((win h (r, c, s)).map fun x => x - (c : Nat)) (s : Nat))) (E := eCall f_about (lCons (eVar 5) (lCons (eVar 4) lNil))) (δ := [Sl.val (T h), .val (tD (r, c, s)), .val (.int ((r : Nat) + 1)), .val (.int (c : Nat)), .val (.int (s : Nat)), .val (Ls ((win h (r, c, s)).map fun x => x - (c : Nat))), .none, .none, .none]) (call2 (k := .sh) rfl (by decide) (k2 := .sh) rfl (by decide) (ev_aboutL _ _ (by rw [List.length_map, wl]; omega) (by omega) (by omega) b) (by decide)) (by decide) rfl) (by rw [abt_len]; omega) fun x _ => ⟨_, .sh, rfl, rfl, rfl, by decide⟩
    refine (ev_tuple q).trans ?_
    show Out.ok (.tup _) .sh b = .ok (.tup (List.map _ (List.map _ _))) .sh b
    rw [List.map_map]; rfl
  have r1 : e2 fAdd (e2 fAdd (eSl (eVar 0) none (some (e2 fSub (eVar 2) (eCst (.int 1))))) (eVar 6)) (eSl (eVar 0) (some (e2 fSub (e2 fAdd (eVar 2) (eVar 4)) (eCst (.int 1)))) none) [Sl.val (T h), .val (tD (r, c, s)), .val (.int ((r : Nat) + 1)), .val (.int (c : Nat)), .val (.int (s : Nat)), .val (Ls ((win h (r, c, s)).map fun x => x - (c : Nat))), .val (T ((abt ((win h (r, c, s)).map fun x => x - (c : Nat)) (s : Nat)).map fun x => ((c : Nat) : Int) + x)), .none, .none] b = .ok (T (trn h (r, c, s))) .sh b :=
    ev_2 (ev_2 (ev_slTo (k := .sh) (n := r) (b1 := b) rfl (a0 _ _) rfl (by omega)) (k2 := .sh) rfl (add_T (by rw [List.length_map, abt_len, List.length_take]; omega))) (ev_slFrom (k := .sh) (n := r + s) (b1 := b) rfl (a1 _ _) rfl (by omega)) (add_T (by rw [List.length_append, List.length_map, abt_len, List.length_take, List.length_drop]; omega))
  exact fb_ret (st_seq (st_ifF (ev_tnot (ev_tval (call2 (k := .sh) rfl (by decide) (k2 := .sh) rfl (by decide) al (by decide)))) rfl) (st_seq (st_asgT (k := .sh) (m := eVar 1) (d := tD (r, c, s)) (δ1 := [Sl.val (T h), .val (tD (r, c, s)), .val (.int ((r : Nat) + 1)), .val (.int (c : Nat)), .val (.int (s : Nat)), .none, .none, .none, .none]) rfl (by decide) rfl) (st_seq (st_asg c1 rfl) (st_seq (st_frz (st_asg c2 rfl)) (st_ret r1 (by decide))))))
omit hl hs in
theorem ev_is_triple : f_is_triple [tD t] b = .ok (.bl true) .sh b := by
  have e1 := ev_is_tuple_of [((t.1 : Nat) : Int) + 1, (t.2.1 : Nat), (t.2.2 : Nat)] 3 b
  have c := eComp_map (vs := [1]) (g := gNm 1) (t := tTrue) (m := eCall f_is_from (lCons (eVar 1) (lCons (eCst (.int 0)) lNil))) (δ := [Sl.val (tD t), .none]) (b := b) D.int (fun x : Int => D.bl (decide (0 ≤ x))) (it_seq (k := .sh) (d := tD t) (E := eVar 0) (b1 := b) rfl (by decide) rfl) (by show 3 ≤ 1000000; omega) fun x _ => ⟨_, .sh, rfl, rfl, call2 (k := .sh) rfl (by decide) (k2 := .sh) rfl (by decide) (ev_is_from x 0 b) (by decide), by decide⟩
  have a := ev_all c
  have z : ([((t.1 : Nat) : Int) + 1, (t.2.1 : Nat), (t.2.2 : Nat)].all fun x => decide (0 ≤ x)) = true := by simp; omega
  rw [z] at a
  exact fb_ret (st_ret (ev_and (t := true) (u := true) (call2 (k := .sh) rfl (by decide) (k2 := .sh) rfl (by decide) e1 (by decide)) (fun _ => a) (fun _ => rfl)) (by decide))
end
theorem ev_sure_turn {t : Tn} (h1 : t.1 ≤ 30) (h2 : t.2.1 ≤ 30) (hs : 2 ≤ t.2.2) (h3 : t.2.2 ≤ 30) (b : Bx) : f_sure_turn [tD t] b = .ok (tD t) .sh b := by
  have mx : f1 gMax [tD t] = some (.int (max (((t.1 : Nat) : Int) + 1) (max ((t.2.1 : Nat) : Int) ((t.2.2 : Nat) : Int))), .sh) := rfl
  have a4 : e2 (fB cLe) (eB (f1 gMax) (rCons (eVar 1) lNil)) (eCst (.int 40)) [Sl.val (tD t), .val (tD t)] b = .ok (.bl true) .sh b := by
    have := ev_2 (f := fB cLe) (A := eB (f1 gMax) (rCons (eVar 1) lNil)) (B := eCst (.int 40)) (δ := [Sl.val (tD t), .val (tD t)]) (b := b) (ev_b1 (k := .sh) (A := eVar 1) rfl mx) (k2 := .sh) (b2 := b) (y := .int 40) (d := .bl (decide (max (((t.1 : Nat) : Int) + 1) (max ((t.2.1 : Nat) : Int) ((t.2.2 : Nat) : Int)) ≤ 40))) rfl rfl
    rwa [decide_eq_true (by omega)] at this
  have a2 : e2 (fB cGe) (eIdxN (eVar 1) (eCst (.int 0))) (eCst (.int 1)) [Sl.val (tD t), .val (tD t)] b = .ok (.bl true) .sh b := by
    have := ev_2 (f := fB cGe) (A := eIdxN (eVar 1) (eCst (.int 0))) (B := eCst (.int 1)) (δ := [Sl.val (tD t), .val (tD t)]) (b := b) (ev_idxN (i := 0) (k := .sh) (A := eVar 1) (x := .int (((t.1 : Nat) : Int) + 1)) rfl (k2 := .sh) rfl rfl) (k2 := .sh) (b2 := b) (y := .int 1) (d := .bl (decide (1 ≤ ((t.1 : Nat) : Int) + 1))) rfl rfl
    rwa [decide_eq_true (by omega)] at this
  have a3 : e2 (fB cGe) (eIdxN (eVar 1) (eCst (.int 2))) (eCst (.int 1)) [Sl.val (tD t), .val (tD t)] b = .ok (.bl true) .sh b := by
    have := ev_2 (f := fB cGe) (A := eIdxN (eVar 1) (eCst (.int 2))) (B := eCst (.int 1)) (δ := [Sl.val (tD t), .val (tD t)]) (b := b) (ev_idxN (i := 2) (k := .sh) (A := eVar 1) (x := .int ((t.2.2 : Nat))) rfl (k2 := .sh) rfl rfl) (k2 := .sh) (b2 := b) (y := .int 1) (d := .bl (decide (1 ≤ ((t.2.2 : Nat) : Int)))) rfl rfl
    rwa [decide_eq_true (by omega)] at this
  refine fb_ret (st_seq (st_asg (k := .sh) (call1 (k := .sh) rfl (by decide) (ev_tuple_of 6 _ (by show 3 ≤ 1000000; omega) b) (by decide)) rfl) (st_seq (st_frz (st_exp (call1 (ev_and (t := true) (u := true) (call1 (k := .sh) rfl (by decide) (ev_is_triple b) (by decide)) (fun _ => ev_and (t := true) (u := true) a2 (fun _ => ev_and (t := true) (u := true) a3 (fun _ => a4) (fun _ => rfl)) (fun _ => rfl)) (fun _ => rfl)) (by decide) (ev_sure_ok rfl b) (by decide)))) rfl))
theorem ev_turned {h : List Int} {t : Tn} (hB : isBd h = true) (h1 : t.1 ≤ 30) (h2 : t.2.1 ≤ 30) (hs : 2 ≤ t.2.2) (ha : alw h t = true) (b : Bx) : f_turned [T h, tD t] b = .ok (T (trn h t)) .sh b := by
  have hl := isBd_len hB
  have hr := alw_le ha
  exact fb_ret (st_seq (st_asg (k := .sh) (call1 (k := .sh) rfl (by decide) (ev_sure_board h hB b) (by decide)) rfl) (st_frz (st_ret (call2 (k := .sh) rfl (by decide) (call1 (k := .sh) rfl (by decide) (ev_sure_turn h1 h2 hs (by omega) b) (by decide)) (by decide) (ev_made_turned (by omega) hs b ha) (by decide)) (by decide))))
/-! ### ways -/
def wy : List Int → List Tn → Option (List Int)
  | h, [] => some h
  | h, t :: ts => bif alw h t then wy (trn h t) ts else none
def bdW : SM := (sSeq (sFrz [3] (sIf (tOr_ (tNot_ (tVal (eCall f_is_triple (lCons (eVar 5) lNil)))) (tNot_ (tVal (eCall f_allowed (lCons (eVar 3) (lCons (eVar 5) lNil))))))
  (sRet (eCst (.bl false)))
  sNext))
  (sFrz [3] (sAsg 3 (eCall f_made_turned (lCons (eVar 3) (lCons (eVar 5) lNil))))))
theorem way_go (a0 a1 a2 far : D) (b : Bx) : ∀ (ts : List Tn) (h : List Int) (u : Sl), h.length ≤ 100 → (∀ t ∈ ts, 2 ≤ t.2.2) →
    (∀ h', wy h ts = some h' → ∃ u', forL (gNm 5) bdW (ts.map tD) [Sl.val a0, .val a1, .val a2, .val (T h), .val far, u] b = .nx [Sl.val a0, .val a1, .val a2, .val (T h'), .val far, u'] b) ∧
    (wy h ts = none → forL (gNm 5) bdW (ts.map tD) [Sl.val a0, .val a1, .val a2, .val (T h), .val far, u] b = .ret (.bl false) .sh b)
  | [], h, u, _, _ => ⟨fun h' e => by cases e; exact ⟨u, rfl⟩, fun e => (nomatch e)⟩
  | t :: ts, h, u, hl, hs => by
    have hst := hs t List.mem_cons_self
    have al := ev_allowed hl hst b
    have tt := ev_tor (δ := [Sl.val a0, .val a1, .val a2, .val (T h), .val far, .val (tD t)]) (b := b) (ev_tnot (ev_tval (call1 (A := eVar 5) (k := .sh) rfl (by decide) (ev_is_triple b) (by decide)))) (fun _ => ev_tnot (ev_tval (call2 (A := eVar 3) (B := eVar 5) (k := .sh) rfl (by decide) (k2 := .sh) rfl (by decide) al (by decide)))) (fun _ => rfl)
    rw [show (!true) = false from rfl, Bool.false_or] at tt
    rw [List.map_cons]
    unfold wy
    cases ha : alw h t with
    | false =>
      rw [ha] at tt
      refine ⟨fun h' e => (nomatch e), fun _ => ?_⟩
      unfold forL
      rw [show gNm 5 (tD t) [Sl.val a0, .val a1, .val a2, .val (T h), .val far, u] = some [Sl.val a0, .val a1, .val a2, .val (T h), .val far, .val (tD t)] from rfl]
      dsimp only
      have : bdW [Sl.val a0, .val a1, .val a2, .val (T h), .val far, .val (tD t)] b = .ret (.bl false) .sh b := st_seqR (st_frz (st_ifT tt rfl))
      rw [this]
    | true =>
      rw [ha] at tt
      obtain ⟨g1, g2⟩ := way_go a0 a1 a2 far b ts (trn h t) (.val (tD t)) (by rw [trn_len (alw_le ha)]; exact hl) fun x hx => hs x (List.mem_cons_of_mem _ hx)
      have st : bdW [Sl.val a0, .val a1, .val a2, .val (T h), .val far, .val (tD t)] b = .nx [Sl.val a0, .val a1, .val a2, .val (T (trn h t)), .val far, .val (tD t)] b :=
        st_seq (st_frz (st_ifF tt rfl)) (st_frz (st_asg (k := .sh) (call2 (k := .sh) rfl (by decide) (k2 := .sh) rfl (by decide) (ev_made_turned hl hst b ha) (by decide)) rfl))
      have e1 : forL (gNm 5) bdW (tD t :: ts.map tD) [Sl.val a0, .val a1, .val a2, .val (T h), .val far, u] b = forL (gNm 5) bdW (ts.map tD) [Sl.val a0, .val a1, .val a2, .val (T (trn h t)), .val far, .val (tD t)] b := by
        conv => lhs; unfold forL
        rw [show gNm 5 (tD t) [Sl.val a0, .val a1, .val a2, .val (T h), .val far, u] = some [Sl.val a0, .val a1, .val a2, .val (T h), .val far, .val (tD t)] from rfl]
        dsimp only
        rw [st]
      rw [e1]
      exact ⟨g1, g2⟩
theorem ev_is_way {one far : List Int} {ts : List Tn} (h1 : isBd one = true) (h2 : isBd far = true) (hs : ∀ t ∈ ts, 2 ≤ t.2.2) (b : Bx) : f_is_way [T one, T far, .tup (ts.map tD)] b = .ok (.bl (match wy one ts with | some h' => decide (h' = far) | none => false)) .sh b := by
  have hl := isBd_len h1
  obtain ⟨g1, g2⟩ := way_go (T one) (T far) (.tup (ts.map tD)) (T far) b ts one .none (by omega) hs
  have s0 : sPar2 3 4 (eCall f_sure_board (lCons (eVar 0) lNil)) (eCall f_sure_board (lCons (eVar 1) lNil)) [Sl.val (T one), .val (T far), .val (.tup (ts.map tD)), .none, .none, .none] b = .nx [Sl.val (T one), .val (T far), .val (.tup (ts.map tD)), .val (T one), .val (T far), .none] b :=
    st_par2 (k := .sh) (k' := .sh) (call1 (k := .sh) rfl (by decide) (ev_sure_board one h1 b) (by decide)) (call1 (k := .sh) rfl (by decide) (ev_sure_board far h2 b) (by decide)) rfl rfl
  have it : itSeq (eVar 2) [Sl.val (T one), .val (T far), .val (.tup (ts.map tD)), .val (T one), .val (T far), .none] b = .ok (ts.map tD) b := it_seq (k := .sh) (d := .tup (ts.map tD)) rfl (by decide) rfl
  cases hw : wy one ts with
  | none => exact fb_ret (st_seq s0 (st_seq (st_ifF (b1 := b) rfl rfl) (st_seqR (st_for it (g2 hw)))))
  | some h' =>
    obtain ⟨u', e⟩ := g1 h' hw
    exact fb_ret (st_seq s0 (st_seq (st_ifF (b1 := b) rfl rfl) (st_seq (st_for it e) (st_ret (ev_2 (k := .sh) rfl (k2 := .sh) rfl (eq_TT h' far)) (by decide)))))
theorem ev_is_way_no {one far : List Int} {d : D} (h1 : isBd one = true) (h2 : isBd far = true) (b : Bx) (hd : eIsi ["tuple"] (eVar 2) [Sl.val (T one), .val (T far), .val d, .val (T one), .val (T far), .none] b = .ok (.bl false) .sh b) : f_is_way [T one, T far, d] b = .ok (.bl false) .sh b :=
  fb_ret (st_seq (st_par2 (k := .sh) (k' := .sh) (call1 (k := .sh) rfl (by decide) (ev_sure_board one h1 b) (by decide)) (call1 (k := .sh) rfl (by decide) (ev_sure_board far h2 b) (by decide)) rfl rfl) (st_seqR (st_ifT (ev_tnot (ev_tval hd)) rfl)))
end Rk

namespace Rk
open PySem PySem.Spec L2
abbrev q1 : SM := (sAsg 1 (eCall f__law_board (lCons (eVar 0) (lCons (eCall f__law_take (lCons (eVar 0) (lCons (eCst (.int 6)) lNil))) (lCons (eCst (.int 4)) lNil)))))
abbrev q2 : SM := (sFrz [1] (sPar2 2 3 (eVar 1) (eTup lNil)))
abbrev q3 : SM := (sFor (itRng (rCons (eCall f__law_take (lCons (eVar 0) (lCons (eCst (.int 4)) lNil))) lNil)) (gNm 4) (sSeq (sFrz [2] (sAsg 5 (eCall f_all_turns (lCons (eVar 2) lNil)))) (sIf (tVal (e2 (fB cNe) (eVar 5) (eLst lNil))) (sSeq (sFrz [5] (sAsg 6 (eCall f__law_of (lCons (eVar 0) (lCons (eVar 5) lNil))))) (sFrz [2, 6] (sPar2 2 3 (eCall f_turned (lCons (eVar 2) (lCons (eVar 6) lNil))) (e2 fAdd (eVar 3) (eTup (lCons (eVar 6) lNil)))))) sNext)))
abbrev q4 : SM := (sAsg 7 (e2 fAdd (eSl (eVar 3) none (some (e1 fNeg (eCst (.int 1))))) (eTup (lCons (eTup (lCons (eCst (.int 1)) (lCons (eCst (.int 9)) (lCons (eCst (.int 2)) lNil)))) lNil))))
abbrev q5 : SM := (sFrz [1, 2, 3] (sAsg 8 (eLst (lCons (eCall f_is_way (lCons (eVar 1) (lCons (eVar 2) (lCons (eVar 3) lNil)))) (lCons (eCall f_is_way (lCons (eVar 2) (lCons (eVar 1) (lCons (e1 fRev (eVar 3)) lNil)))) (lCons (eCall f_is_way (lCons (eVar 1) (lCons (eVar 2) (lCons (eB (f1 gList) (rCons (eVar 3) lNil)) lNil)))) lNil))))))
abbrev q6 : SM := (sFrz [7, 1, 2, 3] (sAsg 8 (e2 fAdd (eVar 8) (eLst (lCons (eCall f_is_way (lCons (eVar 1) (lCons (eVar 2) (lCons (eVar 7) lNil)))) (lCons (eCall f_is_way (lCons (eVar 1) (lCons (eVar 2) (lCons (eCst .non) lNil)))) (lCons (eCall f_is_way (lCons (eVar 1) (lCons (eIf (tVal (e2 (fB cLt) (eB fLen (rCons (eVar 2) lNil)) (eCst (.int 6)))) (e2 fAdd (eVar 2) (eTup (lCons (eCst (.int 9)) lNil))) (eTup lNil)) (lCons (eVar 3) lNil)))) lNil)))))))
abbrev q7 : SM := (sFrz [1, 2] (sAsg 9 (eCall f_is_way (lCons (eVar 1) (lCons (eVar 2) (lCons (eSl (eVar 3) (some (eCst (.int 1))) none) lNil))))))
abbrev q8 : SM := (sFrz [8] (sIf (tOr_ (tNot_ (tVal (eCall (f__law_same 8) (lCons (eVar 8) (lCons (eLst (lCons (eCst (.bl true)) (lCons (eCst (.bl true)) (lCons (eCst (.bl false)) (lCons (eCst (.bl false)) (lCons (eCst (.bl false)) (lCons (eCst (.bl false)) lNil))))))) lNil))))) (tAnd_ (tVal (e2 (fB cNe) (eVar 2) (eVar 1))) (tAnd_ (tVal (e2 (fB cEq) (eB fLen (rCons (eVar 3) lNil)) (eCst (.int 1)))) (tVal (eVar 9))))) (sRet (eCst (.bl false))) sNext))
abbrev q9 : SM := (sAsg 10 (eCall f__law_board (lCons (eVar 0) (lCons (eCall f__law_take (lCons (eVar 0) (lCons (eCst (.int 6)) lNil))) (lCons (eCst (.int 4)) lNil)))))
abbrev q10 : SM := (sFor (itRng (rCons (eCst (.int 7)) lNil)) (gNm 11) (sFrz [1, 10] (sIf (tNot_ (tVal (eCall (f__law_same 8) (lCons (eCall f_is_unlike (lCons (eVar 1) (lCons (eVar 10) (lCons (eVar 11) lNil)))) (lCons (e2 (fB cNe) (eCall f_laid (lCons (eVar 1) (lCons (eVar 11) lNil))) (eCall f_laid (lCons (eVar 10) (lCons (eVar 11) lNil)))) lNil))))) (sRet (eCst (.bl false))) sNext)))
abbrev q11 : SM := (sFrz [1] (sPar2 12 11 (eCall f__law_laying (lCons (eVar 0) (lCons (eVar 1) lNil))) (eCall f__law_take (lCons (eVar 0) (lCons (eCst (.int 5)) lNil)))))
abbrev q12 : SM := (sFrz [12] (sAsg 13 (eB fLen (rCons (eComp [28] (itSeq (eVar 12)) (gNm 28) (tVal (e2 (fB cGt) (eVar 28) (eCst (.int 0)))) (eVar 28)) lNil))))
abbrev q13 : SM := (sFrz [1, 12] (sAsg 8 (eLst (lCons (eCall f_is_laying_with (lCons (eVar 1) (lCons (eVar 11) (lCons (eVar 12) lNil)))) (lCons (eCall f_is_laying_with (lCons (eVar 1) (lCons (eVar 13) (lCons (eVar 12) lNil)))) (lCons (eCall f_is_laying_with (lCons (eVar 1) (lCons (eVar 13) (lCons (eB (f1 gList) (rCons (eVar 12) lNil)) lNil)))) lNil))))))
abbrev q14 : SM := (sFrz [8] (sIf (tNot_ (tVal (eCall (f__law_same 8) (lCons (eVar 8) (lCons (eLst (lCons (e2 (fB cEq) (eVar 11) (eVar 13)) (lCons (eCst (.bl true)) (lCons (eCst (.bl false)) lNil)))) lNil))))) (sRet (eCst (.bl false))) sNext))
abbrev q15 : SM := (sAsg 15 (eB (f1 gTuple) (rCons (eComp [14] (itRng (rCons (eCst (.int 1)) (rCons (e2 fAdd (eB fLen (rCons (eVar 1) lNil)) (eCst (.int 1))) lNil))) (gNm 14) (tVal (e2 (fB cEq) (eCall f__law_take (lCons (eVar 0) (lCons (eCst (.int 2)) lNil))) (eCst (.int 0)))) (eVar 14)) lNil)))
abbrev q16 : SM := (sFrz [1] (sAsg 16 (eB (f1 gMax) (rCons (e2 fAdd (eComp [14, 29] (itEnum (lCons (eVar 1) lNil)) (gTp [(gNm 14), (gNm 29)]) (tVal (e2 (fB cNotIn) (e2 fAdd (eVar 14) (eCst (.int 1))) (eVar 15))) (eVar 29)) (eLst (lCons (eCst (.int 0)) lNil))) lNil))))
abbrev q17 : SM := (sAsg 17 (eRng true (rCons (eCst (.int 1)) (rCons (e2 fAdd (eVar 16) (eCst (.int 1))) lNil))))
abbrev q18 : SM := (sAsg 18 (e2 fAdd (eB fLen (rCons (eVar 15) lNil)) (eVar 16)))
abbrev q19 : SM := (sFrz [1, 18] (sAsg 8 (eLst (lCons (eCall f_is_short_cover (lCons (eVar 1) (lCons (e2 fAdd (eVar 18) (eCst (.int 1))) (lCons (eTup (lCons (eVar 15) (lCons (eVar 17) lNil))) lNil)))) (lCons (eCall f_is_short_cover (lCons (eVar 1) (lCons (eVar 18) (lCons (eTup (lCons (eVar 15) (lCons (eVar 17) lNil))) lNil)))) lNil)))))
abbrev q20 : SM := (sFrz [1] (sApp 8 (eCall f_is_short_cover (lCons (eVar 1) (lCons (eCst (.int 99)) (lCons (eTup (lCons (eVar 15) (lCons (eSl (eVar 17) (some (eCst (.int 1))) none) lNil))) lNil))))))
abbrev q21 : SM := (sFrz [8] (sIf (tNot_ (tVal (eCall (f__law_same 8) (lCons (eVar 8) (lCons (eLst (lCons (eCst (.bl true)) (lCons (eCst (.bl false)) (lCons (e2 (fB cEq) (eVar 16) (eCst (.int 0))) lNil)))) lNil))))) (sRet (eCst (.bl false))) sNext))
abbrev q22 : SM := (sAsg 19 (eCall f__law_below (lCons (eVar 0) (lCons (eCall f__law_take (lCons (eVar 0) (lCons (eCst (.int 6)) lNil))) lNil))))
abbrev q23 : SM := (sAsg 5 (eCall f__law_of (lCons (eVar 0) (lCons (eCall f__law_sets (lCons (eRng false (rCons (eCst (.int 1)) (rCons (e2 fAdd (eB fLen (rCons (eVar 19) lNil)) (eCst (.int 1))) lNil))) lNil)) lNil))))
abbrev q24 : SM := (sAsg 20 (eCst (.int 0)))
abbrev q25 : SM := (sFrz [5] (sFor (itEnum (lCons (eVar 5) lNil)) (gTp [(gNm 14), (gNm 21)]) (sAsg 20 (e2 fAdd (eVar 20) (eB fLen (rCons (eComp [22] (itSeq (eSl (eVar 5) none (some (eVar 14)))) (gNm 22) (tVal (e2 (fB cLe) (eVar 22) (eIdxN (eVar 19) (e2 fSub (eVar 21) (eCst (.int 1)))))) (eVar 22)) lNil))))))
abbrev q26 : SM := (sFrz [5, 19] (sAsg 8 (eLst (lCons (eCall f__law_heard (lCons (eVar 19) (lCons (eB fLen (rCons (eVar 5) lNil)) (lCons (eVar 5) lNil)))) (lCons (eCall f__law_heard (lCons (eVar 19) (lCons (e2 fAdd (eB fLen (rCons (eVar 5) lNil)) (eCst (.int 1))) (lCons (eVar 5) lNil)))) (lCons (eCall f__law_heard (lCons (eTup (lCons (eCst (.int 1)) lNil)) (lCons (eCst (.int 1)) (lCons (eTup (lCons (eCst (.int 1)) lNil)) lNil)))) lNil))))))
abbrev q27 : SM := (sFrz [8] (sIf (tNot_ (tVal (eCall (f__law_same 8) (lCons (eVar 8) (lCons (eLst (lCons (e2 (fB cEq) (eVar 20) (eCst (.int 0))) (lCons (eCst (.bl false)) (lCons (eCst (.str "CanNot")) lNil)))) lNil))))) (sRet (eCst (.bl false))) sNext))
abbrev q28 : SM := (sFrz [1] (sAsg 23 (eB (f1 gTuple) (rCons (eCall f__law_pick (lCons (eVar 0) (lCons (eB (f1 gList) (rCons (eCall f__law_told (lCons (eVar 1) lNil)) lNil)) (lCons (eB fLen (rCons (eVar 1) lNil)) lNil)))) lNil))))
abbrev q29 : SM := (sFrz [1] (sAsg 8 (eLst (lCons (eCall f_is_board_with (lCons (eVar 23) (lCons (eVar 1) lNil))) (lCons (eCall f_is_board_with (lCons (eVar 23) (lCons (eB (f1 gList) (rCons (eVar 1) lNil)) lNil))) (lCons (eCall f_is_board_with (lCons (eIf (tVal (e2 (fB cLt) (eB fLen (rCons (eVar 1) lNil)) (eCst (.int 6)))) (e2 fAdd (eVar 23) (eTup (lCons (eCst (.int 0)) lNil))) (eTup lNil)) (lCons (eVar 1) lNil))) lNil))))))
abbrev q30 : SM := (sFrz [8] (sIf (tNot_ (tVal (eCall (f__law_same 8) (lCons (eVar 8) (lCons (eLst (lCons (eCst (.bl true)) (lCons (eCst (.bl false)) (lCons (eCst (.bl false)) lNil)))) lNil))))) (sRet (eCst (.bl false))) sNext))
abbrev q31 : SM := (sAsg 24 (eB (f1 gTuple) (rCons (eComp [14] (itRng (rCons (eCall f__law_take (lCons (eVar 0) (lCons (eCst (.int 5)) lNil))) lNil)) (gNm 14) tTrue (e2 fSub (eCall f__law_take (lCons (eVar 0) (lCons (eCst (.int 9)) lNil))) (eCst (.int 4)))) lNil)))
abbrev q32 : SM := (sFor (itRng (rCons (e1 fNeg (eCst (.int 6))) (rCons (eCst (.int 3)) lNil))) (gNm 22) (sSeq (sAsg 25 (eAnd (e2 (fB cNe) (eVar 24) (eTup lNil)) (eAnd (eChain cLe cLe (eB (f1 gMin) (rCons (eVar 24) lNil)) (eVar 22) (eCst (.int 0))) (e2 (fB cNotIn) (eVar 22) (eVar 24))))) (sIf (tNot_ (tVal (eCall (f__law_same 8) (lCons (eCall f_is_lacking (lCons (eVar 24) (lCons (eVar 22) lNil))) (lCons (eVar 25) lNil))))) (sRet (eCst (.bl false))) sNext)))
abbrev q33 : SM := (sIf (tNot_ (tVal (eCall (f__law_same 8) (lCons (eLst (lCons (eCall f_is_lacking (lCons (eTup (lCons (e1 fNeg (eCst (.int 1))) lNil)) (lCons (eCst (.bl false)) lNil))) (lCons (eCall f_is_lacking (lCons (eTup (lCons (e1 fNeg (eCst (.int 1))) lNil)) (lCons (eCst .non) lNil))) (lCons (eCall f_is_lacking (lCons (eTup lNil) (lCons (eCst (.int 0)) lNil))) lNil)))) (lCons (eLst (lCons (eCst (.bl false)) (lCons (eCst (.bl false)) (lCons (eCst (.bl false)) lNil)))) lNil))))) (sRet (eCst (.bl false))) sNext)
abbrev q34 : SM := (sAsg 26 (eTup (lCons (e2 fAdd (eCst (.int 1)) (eCall f__law_take (lCons (eVar 0) (lCons (eCst (.int 5)) lNil)))) (lCons (e2 fAdd (eCst (.int 1)) (eCall f__law_take (lCons (eVar 0) (lCons (eCst (.int 5)) lNil)))) lNil))))
abbrev q35 : SM := (sAsg 27 (eAnd (e2 (fB cLe) (eIdxN (eVar 26) (eCst (.int 0))) (eB fLen (rCons (eVar 1) lNil))) (e2 (fB cLe) (eIdxN (eVar 26) (eCst (.int 1))) (eIdxN (eVar 1) (e2 fSub (eIdxN (eVar 26) (eCst (.int 0))) (eCst (.int 1)))))))
abbrev q36 : SM := (sAsg 21 (eAnd (e2 (fB cLe) (eIdxN (eVar 26) (eCst (.int 0))) (eB fLen (rCons (eVar 10) lNil))) (e2 (fB cLe) (eIdxN (eVar 26) (eCst (.int 1))) (eIdxN (eVar 10) (e2 fSub (eIdxN (eVar 26) (eCst (.int 0))) (eCst (.int 1)))))))
abbrev q37 : SM := (sFrz [1, 10] (sRet (eCall (f__law_same 8) (lCons (eLst (lCons (eCall f_is_outside (lCons (eVar 1) (lCons (eVar 10) (lCons (eVar 26) lNil)))) (lCons (eCall f_is_outside (lCons (eVar 1) (lCons (eVar 10) (lCons (eB (f1 gList) (rCons (eVar 26) lNil)) lNil)))) lNil))) (lCons (eLst (lCons (eAnd (eVar 27) (eNot (eVar 21))) (lCons (eCst (.bl false)) lNil))) lNil)))))
theorem right_eq : c__law_right = sSeq q1 (sSeq q2 (sSeq q3 (sSeq q4 (sSeq q5 (sSeq q6 (sSeq q7 (sSeq q8 (sSeq q9 (sSeq q10 (sSeq q11 (sSeq q12 (sSeq q13 (sSeq q14 (sSeq q15 (sSeq q16 (sSeq q17 (sSeq q18 (sSeq q19 (sSeq q20 (sSeq q21 (sSeq q22 (sSeq q23 (sSeq q24 (sSeq q25 (sSeq q26 (sSeq q27 (sSeq q28 (sSeq q29 (sSeq q30 (sSeq q31 (sSeq q32 (sSeq q33 (sSeq q34 (sSeq q35 (sSeq q36 q37))))))))))))))))))))))))))))))))))) := rfl
theorem st_app {i : Nat} {m : EM} {δ : Slots} {b b1 : Bx} {d : D} {k : Kd} {ds : List D} (h : m δ b = .ok d k b1) (hk : k ≠ .bo) (hi : δ[i]? = some (.own ds)) (hl : ds.length ≤ 1000000) : sApp i m δ b = .nx (δ.set i (.own (ds ++ [d]))) b1 := by
  unfold sApp own?
  rw [hi]
  dsimp only
  unfold esh
  rw [h]
  cases k with
  | bo => exact absurd rfl hk
  | sh => dsimp only; rw [if_pos (show ds.length ≤ big from hl)]
  | fr => dsimp only; rw [if_pos (show ds.length ≤ big from hl)]
/-! ### all TURNS -/
def bdT : SM := (sFrz [1] (sIf (tVal (eCall f_allowed (lCons (eVar 1) (lCons (eTup (lCons (eVar 3) (lCons (eVar 4) (lCons (eVar 5) lNil)))) lNil))))
  (sApp 2 (eTup (lCons (eVar 3) (lCons (eVar 4) (lCons (eVar 5) lNil)))))
  sNext))
def bdT2 : SM := (sFor (itRng (rCons (eCst (.int 2)) (rCons (e2 fAdd (e2 fSub (eB fLen (rCons (eVar 1) lNil)) (eVar 3)) (eCst (.int 2))) lNil))) (gNm 5) bdT)
def bdT3 : SM := (sFor (itRng (rCons (e2 fAdd (eIdxN (eVar 1) (e2 fSub (eVar 3) (eCst (.int 1)))) (eCst (.int 1))) lNil)) (gNm 4) bdT2)
theorem ev_all_turns {h : List Int} (hB : isBd h = true) (h6 : ∀ n ∈ h, n ≤ 100) (b : Bx) : ∃ ts : List Tn, f_all_turns [T h] b = .ok (.lst (ts.map tD)) .fr b ∧ (∀ t ∈ ts, alw h t = true ∧ 2 ≤ t.2.2) ∧ ts.length ≤ 1000000 := by
  have hl := isBd_len hB
  obtain ⟨δ', e, ts, u3, u4, u5, rfl, hts, hlen⟩ := for_inv (F := fun i : Nat => D.int (1 + (i : Nat))) (g := gNm 3) (b := b) (body := bdT3)
    (fun i δ => ∃ (ts : List Tn) (u3 u4 u5 : Sl), δ = [Sl.val (T h), .val (T h), .own (ts.map tD), u3, u4, u5] ∧ (∀ t ∈ ts, alw h t = true ∧ 2 ≤ t.2.2) ∧ ts.length ≤ i * 20000) (List.range (((h.length : Nat) : Int) - 1).toNat) 0 [Sl.val (T h), .val (T h), .own [], .none, .none, .none] ⟨[], _, _, _, rfl, by simp, by simp⟩ fun i x δ hx hp => by
      obtain ⟨ts, u3, u4, u5, rfl, hts, hlen⟩ := hp
      rw [Nat.zero_add] at *
      have hi : i < (((h.length : Nat) : Int) - 1).toNat := by
        rcases Nat.lt_or_ge i (((h.length : Nat) : Int) - 1).toNat with q | q
        · exact q
        · rw [List.getElem?_eq_none (by rw [List.length_range]; exact q)] at hx; cases hx
      rw [List.getElem?_range hi] at hx
      obtain rfl := Option.some.inj hx
      have n0 := isBd_pos hB _ (getD_mem (ns := h) (k := i) (by omega))
      have n6 := h6 _ (getD_mem (ns := h) (k := i) (by omega))
      obtain ⟨δ2, e2', ts2, v4, v5, rfl, hts2, hlen2⟩ := for_inv (F := fun j : Nat => D.int (0 + (j : Nat))) (g := gNm 4) (b := b) (body := bdT2)
        (fun j δ => ∃ (ts2 : List Tn) (u4 u5 : Sl), δ = [Sl.val (T h), .val (T h), .own (ts2.map tD), .val (.int (1 + (i : Nat))), u4, u5] ∧ (∀ t ∈ ts2, alw h t = true ∧ 2 ≤ t.2.2) ∧ ts2.length ≤ ts.length + j * 100) (List.range (h.getD i 0 + 1).toNat) 0 [Sl.val (T h), .val (T h), .own (ts.map tD), .val (.int (1 + (i : Nat))), u4, u5] ⟨ts, _, _, rfl, hts, by simp⟩ fun j x δ hx hp => by
          obtain ⟨ts2, u4, u5, rfl, hts2, hlen2⟩ := hp
          rw [Nat.zero_add] at *
          have hj : j < (h.getD i 0 + 1).toNat := by
            rcases Nat.lt_or_ge j (h.getD i 0 + 1).toNat with q | q
            · exact q
            · rw [List.getElem?_eq_none (by rw [List.length_range]; exact q)] at hx; cases hx
          rw [List.getElem?_range hj] at hx
          obtain rfl := Option.some.inj hx
          obtain ⟨δ3, e3', ts3, v5, rfl, hts3, hlen3⟩ := for_inv (F := fun k : Nat => D.int (2 + (k : Nat))) (g := gNm 5) (b := b) (body := bdT)
            (fun k δ => ∃ (ts3 : List Tn) (u5 : Sl), δ = [Sl.val (T h), .val (T h), .own (ts3.map tD), .val (.int (1 + (i : Nat))), .val (.int (0 + (j : Nat))), u5] ∧ (∀ t ∈ ts3, alw h t = true ∧ 2 ≤ t.2.2) ∧ ts3.length ≤ ts2.length + k) (List.range (((h.length : Nat) : Int) - (1 + (i : Nat)) + 2 - 2).toNat) 0 [Sl.val (T h), .val (T h), .own (ts2.map tD), .val (.int (1 + (i : Nat))), .val (.int (0 + (j : Nat))), u5] ⟨ts2, _, rfl, hts2, by simp⟩ fun k x δ hx hp => by
              obtain ⟨ts3, u5, rfl, hts3, hlen3⟩ := hp
              rw [Nat.zero_add] at *
              have hk : k < (((h.length : Nat) : Int) - (1 + (i : Nat)) + 2 - 2).toNat := by
                rcases Nat.lt_or_ge k (((h.length : Nat) : Int) - (1 + (i : Nat)) + 2 - 2).toNat with q | q
                · exact q
                · rw [List.getElem?_eq_none (by rw [List.length_range]; exact q)] at hx; cases hx
              rw [List.getElem?_range hk] at hx
              obtain rfl := Option.some.inj hx
              have tup : eTup (lCons (eVar 3) (lCons (eVar 4) (lCons (eVar 5) lNil))) [Sl.val (T h), .val (T h), .own (ts3.map tD), .val (.int (1 + (i : Nat))), .val (.int (0 + (j : Nat))), .val (.int (2 + (k : Nat)))] b = .ok (tD (i, j, k + 2)) .sh b := by
                have q := ev_tup (l := lCons (eVar 3) (lCons (eVar 4) (lCons (eVar 5) lNil))) (δ := [Sl.val (T h), .val (T h), .own (ts3.map tD), .val (.int (1 + (i : Nat))), .val (.int (0 + (j : Nat))), .val (.int (2 + (k : Nat)))]) (b := b) (ds := [.int (1 + (i : Nat)), .int (0 + (j : Nat)), .int (2 + (k : Nat))]) (ev_lc (k := .sh) rfl (by decide) (ev_lc (k := .sh) rfl (by decide) (ev_lc (k := .sh) rfl (by decide) rfl))) (by show 3 ≤ 1000; omega)
                rw [q]
                unfold tD
                dsimp only
                rw [Int.zero_add, Int.add_comm 1, show (2 : Int) + (k : Nat) = ((k + 2 : Nat) : Int) by omega]
                rfl
              have al := ev_allowed (h := h) (t := (i, j, k + 2)) (by omega) (by show 2 ≤ k + 2; omega) b
              have tt : tVal (eCall f_allowed (lCons (eVar 1) (lCons (eTup (lCons (eVar 3) (lCons (eVar 4) (lCons (eVar 5) lNil)))) lNil))) [Sl.val (T h), .val (T h), .own (ts3.map tD), .val (.int (1 + (i : Nat))), .val (.int (0 + (j : Nat))), .val (.int (2 + (k : Nat)))] b = .ok (alw h (i, j, k + 2)) b := ev_tval (call2 (k := .sh) rfl (by decide) tup (by decide) al (by decide))
              cases ha : alw h (i, j, k + 2) with
              | false =>
                rw [ha] at tt
                exact ⟨_, _, rfl, st_frz (st_ifF tt rfl), ts3, _, rfl, hts3, by omega⟩
              | true =>
                rw [ha] at tt
                refine ⟨_, [Sl.val (T h), .val (T h), .own ((ts3 ++ [(i, j, k + 2)]).map tD), .val (.int (1 + (i : Nat))), .val (.int (0 + (j : Nat))), .val (.int (2 + (k : Nat)))], rfl, st_frz (st_ifT tt ?_), ts3 ++ [(i, j, k + 2)], _, rfl, fun t ht => ?_, by rw [List.length_append]; simp; omega⟩
                · refine (st_app (k := .sh) (ds := ts3.map tD) tup (by decide) rfl (by rw [List.length_map]; omega)).trans ?_
                  rw [List.map_append]
                  rfl
                · rcases List.mem_append.mp ht with q | q
                  · exact hts3 t q
                  · rw [List.mem_singleton.mp q]
                    exact ⟨ha, by show 2 ≤ k + 2; omega⟩
          rw [Nat.zero_add, List.length_range] at hlen3
          refine ⟨_, _, rfl, st_for (it_rng2 (n := 2) (k := .sh) (k2 := .sh) rfl (ev_2 (f := fAdd) (ev_2 (f := fSub) (ev_b1 (k := .sh) (A := eVar 1) rfl (len_T h)) (k2 := .sh) (y := .int (1 + (i : Nat))) rfl rfl) (k2 := .sh) (y := .int 2) rfl rfl) (by omega) (by omega) (by omega) (by omega)) e3', ts3, _, _, rfl, hts3, by omega⟩
      rw [Nat.zero_add, List.length_range] at hlen2
      refine ⟨_, _, rfl, st_for (it_rng1 (n := h.getD i 0 + 1) (k := .sh) (ev_2 (f := fAdd) (ev_idxN (i := (i : Nat)) (x := .int (h.getD i 0)) (k := .sh) rfl (ev_2 (f := fSub) (k := .sh) (x := .int (1 + (i : Nat))) rfl (k2 := .sh) (y := .int 1) rfl (by show some (D.int (1 + (i : Int) - 1), Kd.sh) = _; rw [show 1 + (i : Int) - 1 = i by omega])) (atI_D (by omega))) (k2 := .sh) (y := .int 1) rfl rfl) (by omega) (by omega)) e2', ts2, _, _, _, rfl, hts2, by omega⟩
  rw [Nat.zero_add, List.length_range] at hlen
  refine ⟨ts, fb_ret (st_seq (st_par2 (k := .sh) (k' := .fr) (call1 (k := .sh) rfl (by decide) (ev_sure_board h hB b) (by decide)) (ev_lst ev_l0 (Nat.zero_le _)) rfl rfl) (st_seq (st_for (it_rng2 (n := 1) (k := .sh) rfl (ev_b1 (k := .sh) (A := eVar 1) rfl (len_T h)) (by omega) (by omega) (by omega) (by omega)) e) rfl)), hts, by omega⟩
end Rk

namespace Rk
open PySem PySem.Spec L2

/-! ### BOARDS that TURNS of drawn ones lead to -/
def shK (h : List Int) : Bool := (List.range h.length).all fun k => decide (h.getD k 0 ≤ 4 + ((k : Nat) : Int))
def isR (h : List Int) : Bool := isBd h && (decide (h.length ≤ 5) && shK h)
def stepOk (h : List Int) : Bool := !isR h || (List.range 5).all fun r => (List.range 6).all fun s => !(decide (2 ≤ s) && decide (r + s ≤ h.length)) || (List.range ((h.getD r 0).toNat + 1)).all fun c => !(decide (h.getD (r + s - 1) 0 ≤ ((c : Nat) : Int) + ((s : Nat) : Int)) && alw h (r, c, s)) || (isR (trn h (r, c, s)) && (alw (trn h (r, c, s)) (r, c, s) && decide (trn (trn h (r, c, s)) (r, c, s) = h)))
theorem cut_all {α : Type} {l : List α} {p : α → Bool} (n : Nat) (h : (l.take n).all p = true) (h' : (l.drop n).all p = true) : l.all p = true := by
  rw [← List.take_append_drop n l, List.all_append, h, h']; rfl
theorem tbR_0 : ((List.range 5).all fun r => (brds r 0 8).all stepOk) = true := by decide +kernel
theorem tbR_1 : (((brds 5 0 8).take 108).all stepOk) = true := by decide +kernel
theorem tbR_2 : ((((brds 5 0 8).drop 108).take 108).all stepOk) = true := by decide +kernel
theorem tbR_3 : (((((brds 5 0 8).drop 108).drop 108).take 108).all stepOk) = true := by decide +kernel
theorem tbR_4 : ((((((brds 5 0 8).drop 108).drop 108).drop 108).take 108).all stepOk) = true := by decide +kernel
theorem tbR_5 : (((((((brds 5 0 8).drop 108).drop 108).drop 108).drop 108).take 108).all stepOk) = true := by decide +kernel
theorem tbR_6 : ((((((((brds 5 0 8).drop 108).drop 108).drop 108).drop 108).drop 108).take 108).all stepOk) = true := by decide +kernel
theorem tbR_7 : (((((((((brds 5 0 8).drop 108).drop 108).drop 108).drop 108).drop 108).drop 108).take 108).all stepOk) = true := by decide +kernel
theorem tbR_8 : ((((((((((brds 5 0 8).drop 108).drop 108).drop 108).drop 108).drop 108).drop 108).drop 108).take 108).all stepOk) = true := by decide +kernel
theorem tbR_9 : (((((((((((brds 5 0 8).drop 108).drop 108).drop 108).drop 108).drop 108).drop 108).drop 108).drop 108).take 108).all stepOk) = true := by decide +kernel
theorem tbR_10 : ((((((((((((brds 5 0 8).drop 108).drop 108).drop 108).drop 108).drop 108).drop 108).drop 108).drop 108).drop 108).take 108).all stepOk) = true := by decide +kernel
theorem tbR_11 : (((((((((((((brds 5 0 8).drop 108).drop 108).drop 108).drop 108).drop 108).drop 108).drop 108).drop 108).drop 108).drop 108).take 108).all stepOk) = true := by decide +kernel
theorem tbR_12 : (((((((((((((brds 5 0 8).drop 108).drop 108).drop 108).drop 108).drop 108).drop 108).drop 108).drop 108).drop 108).drop 108).drop 108).all stepOk) = true := by decide +kernel
theorem tbR_all : ((brds 5 0 8).all stepOk) = true := (cut_all 108 tbR_1 (cut_all 108 tbR_2 (cut_all 108 tbR_3 (cut_all 108 tbR_4 (cut_all 108 tbR_5 (cut_all 108 tbR_6 (cut_all 108 tbR_7 (cut_all 108 tbR_8 (cut_all 108 tbR_9 (cut_all 108 tbR_10 (cut_all 108 tbR_11 tbR_12)))))))))))
end Rk

namespace Rk
open PySem PySem.Spec L2

theorem isR_bd {h : List Int} (hr : isR h = true) : isBd h = true := by
  unfold isR at hr
  rw [Bool.and_eq_true] at hr
  exact hr.1
theorem isR_len {h : List Int} (hr : isR h = true) : h.length ≤ 5 := by
  unfold isR at hr
  rw [Bool.and_eq_true, Bool.and_eq_true] at hr
  exact of_decide_eq_true hr.2.1
theorem isR_at {h : List Int} (hr : isR h = true) {k : Nat} (hk : k < h.length) : h.getD k 0 ≤ 4 + ((k : Nat) : Int) := by
  unfold isR shK at hr
  rw [Bool.and_eq_true, Bool.and_eq_true, List.all_eq_true] at hr
  exact of_decide_eq_true (hr.2.2 k (List.mem_range.mpr hk))
theorem isR_8 {h : List Int} (hr : isR h = true) : ∀ n ∈ h, 0 ≤ n ∧ n ≤ 8 := fun n hn => by
  refine ⟨isBd_pos (isR_bd hr) n hn, ?_⟩
  obtain ⟨i, hi, rfl⟩ := List.getElem_of_mem hn
  have := isR_at hr hi
  rw [List.getD_eq_getElem?_getD, List.getElem?_eq_getElem hi] at this
  have hl := isR_len hr
  simp only [Option.getD_some] at this
  omega
theorem alw_last {h : List Int} {t : Tn} (hs : 2 ≤ t.2.2) (ha : alw h t = true) : h.getD (t.1 + t.2.2 - 1) 0 ≤ ((t.2.1 : Nat) : Int) + ((t.2.2 : Nat) : Int) := by
  have hl := alw_le ha
  have wl := win_len hl
  unfold alw at ha
  rw [Bool.and_eq_true, Bool.and_eq_true, Bool.and_eq_true, Bool.and_eq_true] at ha
  have := of_decide_eq_true ha.2.2.2
  rw [List.getLastD_eq_getLast?, List.getLast?_eq_getElem?, wl] at this
  unfold win at this
  rw [List.getElem?_take, if_pos (by omega), List.getElem?_drop, show t.1 + (t.2.2 - 1) = t.1 + t.2.2 - 1 by omega, ← List.getD_eq_getElem?_getD] at this
  exact this
theorem isR_step {h : List Int} {t : Tn} (hr : isR h = true) (hs : 2 ≤ t.2.2) (ha : alw h t = true) : isR (trn h t) = true ∧ alw (trn h t) t = true ∧ trn (trn h t) t = h := by
  have hl := isR_len hr
  have hm : h ∈ brds h.length 0 8 := mem_brds h.length 0 8 h rfl (pw_of_up (isBd_up (isR_bd hr))) fun x hx => by
    have := isR_8 hr x hx
    exact ⟨by omega, by omega⟩
  have ok : stepOk h = true := by
    rcases Nat.lt_or_ge h.length 5 with q | q
    · exact D_all (D_all tbR_0 (List.mem_range.mpr q)) hm
    · rw [show h.length = 5 by omega] at hm
      exact D_all tbR_all hm
  obtain ⟨r, c, s⟩ := t
  have hle := alw_le ha
  have hc := alw_col hs ha
  dsimp only at hs hle hc
  unfold stepOk at ok
  rw [hr, Bool.not_true, Bool.false_or] at ok
  have h1 := D_all (D_all ok (List.mem_range.mpr (show r < 5 by omega))) (List.mem_range.mpr (show s < 6 by omega))
  rw [decide_eq_true hs, decide_eq_true hle, Bool.and_self, Bool.not_true, Bool.false_or] at h1
  have := D_all h1 (List.mem_range.mpr (show c < (h.getD r 0).toNat + 1 by omega))
  rw [ha, decide_eq_true (alw_last (t := (r, c, s)) hs ha), Bool.and_self, Bool.not_true, Bool.false_or, Bool.and_eq_true, Bool.and_eq_true] at this
  exact ⟨this.1, this.2.1, of_decide_eq_true this.2.2⟩
/-! ### ways there and back -/
theorem wy_c (h : List Int) (t : Tn) (ts : List Tn) : wy h (t :: ts) = bif alw h t then wy (trn h t) ts else none := rfl
theorem wy_append : ∀ (ts us : List Tn) (h : List Int), wy h (ts ++ us) = (wy h ts).bind fun h1 => wy h1 us
  | [], us, h => rfl
  | t :: ts, us, h => by
    rw [List.cons_append, wy_c, wy_c]
    cases alw h t with
    | false => rfl
    | true => exact wy_append ts us (trn h t)
theorem wy_R : ∀ (ts : List Tn) (h h' : List Int), isR h = true → (∀ t ∈ ts, 2 ≤ t.2.2) → wy h ts = some h' → isR h' = true ∧ wy h' ts.reverse = some h
  | [], h, h', hr, _, e => by cases e; exact ⟨hr, rfl⟩
  | t :: ts, h, h', hr, hs, e => by
    unfold wy at e
    cases ha : alw h t with
    | false => rw [ha] at e; cases e
    | true =>
      rw [ha] at e
      obtain ⟨g1, g2, g3⟩ := isR_step hr (hs t List.mem_cons_self) ha
      obtain ⟨k1, k2⟩ := wy_R ts (trn h t) h' g1 (fun x hx => hs x (List.mem_cons_of_mem _ hx)) e
      refine ⟨k1, ?_⟩
      rw [List.reverse_cons, wy_append, k2]
      show wy (trn h t) [t] = some h
      unfold wy
      rw [g2]
      show wy (trn (trn h t) t) [] = some h
      rw [g3]; rfl
theorem wy_last {ts : List Tn} {h h' : List Int} (hr : isR h = true) (hs : ∀ t ∈ ts, 2 ≤ t.2.2) (e : wy h ts = some h') : ∃ h1, wy h ts.dropLast = some h1 ∧ isR h1 = true := by
  by_cases ht : ts = []
  · subst ht; exact ⟨h, rfl, hr⟩
  · rw [← List.dropLast_concat_getLast ht, wy_append] at e
    cases q : wy h ts.dropLast with
    | none => rw [q] at e; cases e
    | some h1 => exact ⟨h1, rfl, (wy_R _ _ _ hr (fun t h => hs t (List.dropLast_subset _ h)) q).1⟩
/-! ### lists of lists of numbers, compared with none -/
theorem sh_LT (ls : List (List Int)) : SeqAt.shaped (.list (ls.map fun l => PyData.tuple (l.map PyData.int))) = true := by
  have lay : PyData.canLayAll0 (ls.map fun l => PyData.tuple (l.map PyData.int)) = true := by
    induction ls with
    | nil => simp [PyData.canLayAll0]
    | cons p ps ih => simp [PyData.canLayAll0, PyData.canLay0, lay_ints, ih]
  have dep : PyData.depthAll (ls.map fun l => PyData.tuple (l.map PyData.int)) ≤ 2 := by
    clear lay
    induction ls with
    | nil => simp [PyData.depthAll]
    | cons p ps ih =>
      rw [List.map_cons]
      simp only [PyData.depthAll, PyData.depth, dep_ints]
      exact Nat.max_le.mpr ⟨by omega, ih⟩
  simp [SeqAt.shaped, PyData.canLay0, PyData.depth, lay]
  omega
theorem pyds_LT : ∀ ls : List (List Int), pyds (ls.map T) = some (ls.map fun l => PyData.tuple (l.map PyData.int))
  | [] => rfl
  | l :: ls => by
    rw [List.map_cons]
    show (match pyd (T l), pyds (ls.map T) with | some x, some xs => some (x :: xs) | _, _ => none) = _
    rw [pyds_LT ls, show pyd (T l) = (pyds (l.map D.int)).map PyData.tuple from rfl, pyds_ints]
    rfl
theorem ne_LT (ls : List (List Int)) : fB cNe (.lst (ls.map T)) (.lst []) = some (.bl (!decide (ls = [])), .sh) := by
  unfold fB cNe cEq
  rw [show pyd (.lst (ls.map T)) = (pyds (ls.map T)).map PyData.list from rfl, pyds_LT, show pyd (.lst []) = some (.list []) from rfl]
  dsimp only [Option.map_some]
  rw [if_pos ⟨sh_LT ls, sh_LT []⟩]
  cases ls with
  | nil => simp [PyData.eqv, PyData.eqvAll]
  | cons p ps => simp [PyData.eqv, PyData.eqvAll]
theorem ne_tD (ts : List Tn) : fB cNe (.lst (ts.map tD)) (.lst []) = some (.bl (!decide (ts = [])), .sh) := by
  have := ne_LT (ts.map fun t : Tn => [((t.1 : Nat) : Int) + 1, (t.2.1 : Nat), (t.2.2 : Nat)])
  rw [List.map_map] at this
  rw [show (T ∘ fun t : Tn => [((t.1 : Nat) : Int) + 1, (t.2.1 : Nat), (t.2.2 : Nat)]) = tD from rfl] at this
  rw [this]
  cases ts <;> rfl
theorem add_Td {xs ys : List D} (h : xs.length + ys.length ≤ 1000000) : fAdd (.tup xs) (.tup ys) = some (.tup (xs ++ ys), .sh) := by
  show (if xs.length + ys.length ≤ big then some (D.tup (xs ++ ys), Kd.sh) else none) = _
  rw [if_pos (show xs.length + ys.length ≤ big from h)]
/-! ### up to three TURNS -/
abbrev tl20 : Slots := [.none, .none, .none, .none, .none, .none, .none, .none, .none, .none, .none, .none, .none, .none, .none, .none, .none, .none, .none, .none]
abbrev slA (ns h : List Int) (ts : List Tn) (u4 u5 u6 u7 u8 u9 : Sl) : Slots := .val .box :: .val (T ns) :: .val (T h) :: .val (.tup (ts.map tD)) :: u4 :: u5 :: u6 :: u7 :: u8 :: u9 :: tl20
def bdQ : SM := (sSeq (sFrz [2] (sAsg 5 (eCall f_all_turns (lCons (eVar 2) lNil))))
  (sIf (tVal (e2 (fB cNe) (eVar 5) (eLst lNil)))
  (sSeq (sFrz [5] (sAsg 6 (eCall f__law_of (lCons (eVar 0) (lCons (eVar 5) lNil)))))
  (sFrz [2, 6] (sPar2 2 3 (eCall f_turned (lCons (eVar 2) (lCons (eVar 6) lNil))) (e2 fAdd (eVar 3) (eTup (lCons (eVar 6) lNil))))))
  sNext))
theorem turns_go (ns : List Int) : ∀ (items : List D) (h : List Int) (ts : List Tn) (m : Int) (b : Bx) (u4 u5 u6 : Sl), isR ns = true → isR h = true → wy ns ts = some h → (∀ t ∈ ts, 2 ≤ t.2.2) → ts.length + items.length ≤ 1000 → Bok m b → m + items.length ≤ 100000 → ∃ (h' : List Int) (ts' : List Tn) (v4 v5 v6 : Sl) (b' : Bx),
    forL (gNm 4) bdQ items (slA ns h ts u4 u5 u6 .none .none .none) b = .nx (slA ns h' ts' v4 v5 v6 .none .none .none) b' ∧ isR h' = true ∧ wy ns ts' = some h' ∧ (∀ t ∈ ts', 2 ≤ t.2.2) ∧ ts'.length ≤ 1000 ∧ Bok (m + items.length) b'
  | [], h, ts, m, b, u4, u5, u6, hn, hr, hw, hs, hz, hb, _ => ⟨h, ts, u4, u5, u6, b, rfl, hr, hw, hs, by simpa using hz, by simpa using hb⟩
  | d :: items, h, ts, m, b, u4, u5, u6, hn, hr, hw, hs, hz, hb, hm => by
    rw [List.length_cons] at hm hz
    have hB := isR_bd hr
    obtain ⟨tt, ea, hta, hlt⟩ := ev_all_turns hB (fun n hn => by have := isR_8 hr n hn; omega) b
    have s1 : sFrz [2] (sAsg 5 (eCall f_all_turns (lCons (eVar 2) lNil))) (slA ns h ts (.val d) u5 u6 .none .none .none) b = .nx (slA ns h ts (.val d) (.own (tt.map tD)) u6 .none .none .none) b := st_frz (st_asg (call1 (k := .sh) rfl (by decide) ea (by decide)) rfl)
    have t1 : tVal (e2 (fB cNe) (eVar 5) (eLst lNil)) (slA ns h ts (.val d) (.own (tt.map tD)) u6 .none .none .none) b = .ok (!decide (tt = [])) b := ev_tval (ev_2 (k := .bo) rfl (ev_lst ev_l0 (Nat.zero_le _)) (ne_tD tt))
    by_cases ht : tt = []
    · rw [decide_eq_true ht] at t1
      obtain ⟨h', ts', v4, v5, v6, b', e, q1, q2, q3, q4, q5⟩ := turns_go ns items h ts m b (.val d) (.own (tt.map tD)) u6 hn hr hw hs (by omega) hb (by omega)
      refine ⟨h', ts', v4, v5, v6, b', ?_, q1, q2, q3, q4, by rw [List.length_cons]; exact q5.mono (by omega)⟩
      have st : bdQ (slA ns h ts (.val d) u5 u6 .none .none .none) b = .nx (slA ns h ts (.val d) (.own (tt.map tD)) u6 .none .none .none) b := st_seq s1 (st_ifF t1 rfl)
      conv => lhs; unfold forL
      rw [show gNm 4 d (slA ns h ts u4 u5 u6 .none .none .none) = some (slA ns h ts (.val d) u5 u6 .none .none .none) from rfl]
      dsimp only
      rw [st]
      exact e
    · rw [decide_eq_false ht] at t1
      obtain ⟨x, b1, e1', hx, hb1⟩ := ev_of m (tt.map tD) b hb (by omega) (by simp [ht]) (by rw [List.length_map]; omega)
      obtain ⟨t, htm, rfl⟩ := List.mem_map.mp hx
      obtain ⟨ha, h2⟩ := hta t htm
      have hle := alw_le ha
      have hl := isR_len hr
      have hcol := alw_col h2 ha
      have hc8 := (isR_8 hr _ (getD_mem (ns := h) (k := t.1) (by omega))).2
      obtain ⟨g1, g2, g3⟩ := isR_step hr h2 ha
      have hw' : wy ns (ts ++ [t]) = some (trn h t) := by
        rw [wy_append, hw]
        show wy h [t] = _
        unfold wy
        rw [ha]; rfl
      obtain ⟨h', ts', v4, v5, v6, b', e, q1, q2, q3, q4, q5⟩ := turns_go ns items (trn h t) (ts ++ [t]) (m + 1) b1 (.val d) (.val (.lst (tt.map tD))) (.val (tD t)) hn g1 hw' (fun x hx => by
        rcases List.mem_append.mp hx with q | q
        · exact hs x q
        · rw [List.mem_singleton.mp q]; exact h2) (by rw [List.length_append]; simp; omega) hb1 (by omega)
      refine ⟨h', ts', v4, v5, v6, b', ?_, q1, q2, q3, q4, by rw [List.length_cons]; exact q5.mono (by omega)⟩
      have s2 : sFrz [5] (sAsg 6 (eCall f__law_of (lCons (eVar 0) (lCons (eVar 5) lNil)))) (slA ns h ts (.val d) (.own (tt.map tD)) u6 .none .none .none) b = .nx (slA ns h ts (.val d) (.val (.lst (tt.map tD))) (.val (tD t)) .none .none .none) b1 := st_frz (st_asg (k := .sh) (call2 (k := .sh) rfl (by decide) (k2 := .sh) rfl (by decide) e1' (by decide)) rfl)
      have s3 : sFrz [2, 6] (sPar2 2 3 (eCall f_turned (lCons (eVar 2) (lCons (eVar 6) lNil))) (e2 fAdd (eVar 3) (eTup (lCons (eVar 6) lNil)))) (slA ns h ts (.val d) (.val (.lst (tt.map tD))) (.val (tD t)) .none .none .none) b1 = .nx (slA ns (trn h t) (ts ++ [t]) (.val d) (.val (.lst (tt.map tD))) (.val (tD t)) .none .none .none) b1 :=
        st_frz (st_par2 (k := .sh) (k' := .sh) (call2 (k := .sh) rfl (by decide) (k2 := .sh) rfl (by decide) (ev_turned hB (by omega) (by omega) h2 ha b1) (by decide)) (ev_2 (f := fAdd) (k := .sh) (x := .tup (ts.map tD)) rfl (ev_tup (ev_lc (k := .sh) rfl (by decide) rfl) (by show 1 ≤ 1000; omega)) (add_Td (by rw [List.length_map]; simp; omega))) rfl (by rw [show (ts.map tD ++ [tD t]) = (ts ++ [t]).map tD by rw [List.map_append]; rfl]; rfl))
      have st : bdQ (slA ns h ts (.val d) u5 u6 .none .none .none) b = .nx (slA ns (trn h t) (ts ++ [t]) (.val d) (.val (.lst (tt.map tD))) (.val (tD t)) .none .none .none) b1 := st_seq s1 (st_ifT t1 (st_seq s2 s3))
      conv => lhs; unfold forL
      rw [show gNm 4 d (slA ns h ts u4 u5 u6 .none .none .none) = some (slA ns h ts (.val d) u5 u6 .none .none .none) from rfl]
      dsimp only
      rw [st]
      exact e
end Rk

namespace Rk
open PySem PySem.Spec L2

theorem cut_last {α : Type} (xs : List α) : cutD xs none (some (-1)) = xs.dropLast := by
  unfold cutD
  rw [HT.sIx_none, List.drop_zero, Nat.sub_zero, show HT.sIx xs.length xs.length (some (-1)) = xs.length - 1 by
    show (if (-1 : Int) < 0 then ((-1 : Int) + (xs.length : Int)).toNat else min (-1 : Int).toNat xs.length) = _
    rw [if_pos (by omega)]; omega]
  rw [List.dropLast_eq_take]
theorem cut_one' {α : Type} (xs : List α) : cutD xs (some 1) none = xs.drop 1 := by
  unfold cutD
  rw [HT.sIx_none, show HT.sIx xs.length 0 (some 1) = min 1 xs.length from HT.sIx_nat xs.length 0 1]
  cases xs with
  | nil => rfl
  | cons x xs => rw [Nat.min_eq_left (by simp)]; simp
theorem ev_slLast {ds : List D} {A I : EM} {δ : Slots} {b b1 b2 : Bx} {k k2 : Kd} (h : A δ b = .ok (.tup ds) k b1) (h' : I δ b1 = .ok (.int (-1)) k2 b2) : eSl A none (some I) δ b = .ok (.tup ds.dropLast) .sh b2 := by
  unfold eSl
  rw [h]
  dsimp only [part]
  rw [h']
  dsimp only [fSl]
  rw [cut_last]
theorem ev_sl1 {ds : List D} {A I : EM} {δ : Slots} {b b1 b2 : Bx} {k k2 : Kd} (h : A δ b = .ok (.tup ds) k b1) (h' : I δ b1 = .ok (.int 1) k2 b2) : eSl A (some I) none δ b = .ok (.tup (ds.drop 1)) .sh b2 := by
  unfold eSl
  rw [h]
  dsimp only [part]
  rw [h']
  dsimp only [fSl]
  rw [cut_one']
theorem ev_and3 {A B : EM} {δ : Slots} {b : Bx} {t u : Bool} {k : Kd} (h : A δ b = .ok (.bl t) k b) (h' : B δ b = .ok (.bl u) .sh b) : eAnd A B δ b = .ok (.bl (t && u)) .sh b := ev_and h (fun _ => h') (fun _ => rfl)
section
variable {ns h : List Int} {ts : List Tn} (hn : isR ns = true) (hr : isR h = true) (hw : wy ns ts = some h) (hs : ∀ t ∈ ts, 2 ≤ t.2.2) (hz : ts.length ≤ 1000) (u4 u5 u6 : Sl) (b : Bx)
include hn hr hw hs hz
theorem way_1 : f_is_way [T ns, T h, .tup (ts.map tD)] b = .ok (.bl true) .sh b := by
  have := ev_is_way (isR_bd hn) (isR_bd hr) hs b
  rw [hw] at this
  simpa using this
theorem way_2 : f_is_way [T h, T ns, .tup (ts.map tD).reverse] b = .ok (.bl true) .sh b := by
  have := ev_is_way (ts := ts.reverse) (isR_bd hr) (isR_bd hn) (fun t ht => hs t (List.mem_reverse.mp ht)) b
  rw [(wy_R ts ns h hn hs hw).2, List.map_reverse] at this
  simpa using this
theorem way_4 : f_is_way [T ns, T h, .tup ((ts.dropLast ++ [(0, 9, 2)]).map tD)] b = .ok (.bl false) .sh b := by
  have := ev_is_way (ts := ts.dropLast ++ [(0, 9, 2)]) (isR_bd hn) (isR_bd hr) (fun t ht => by
    rcases List.mem_append.mp ht with q | q
    · exact hs t (List.dropLast_subset _ q)
    · rw [List.mem_singleton.mp q]; exact Nat.le_refl 2) b
  obtain ⟨h1, e1', r1⟩ := wy_last hn hs hw
  have na : alw h1 (0, 9, 2) = false := by
    cases q : alw h1 (0, 9, 2) with
    | false => rfl
    | true =>
      have c := alw_col (t := (0, 9, 2)) (Nat.le_refl 2) q
      have l := alw_le q
      have := isR_at r1 (k := 0) (by dsimp only at l; omega)
      dsimp only at c
      omega
  rw [wy_append, e1'] at this
  have e2' : wy h1 [(0, 9, 2)] = none := by rw [wy_c, na]; rfl
  rw [show (Option.some h1).bind (fun h1 => wy h1 [(0, 9, 2)]) = wy h1 [(0, 9, 2)] from rfl, e2'] at this
  exact this
theorem way_6 : f_is_way [T ns, T (h ++ [9]), .tup (ts.map tD)] b = .ok (.bl false) .sh b := by
  have hB : isBd (h ++ [9]) = true := isBd_of (by rw [List.length_append]; have := isR_len hr; simp; omega) (fun n hn => by
    rcases List.mem_append.mp hn with q | q
    · exact (isR_8 hr n q).1
    · rw [List.mem_singleton.mp q]; omega) (List.pairwise_append.mpr ⟨pw_of_up (isBd_up (isR_bd hr)), List.pairwise_singleton _ _, fun a ha c hc => by
      rw [List.mem_singleton.mp hc]; have := (isR_8 hr a ha).2; omega⟩)
  have := ev_is_way (isR_bd hn) hB hs b
  rw [hw] at this
  have ne : decide (h = h ++ [9]) = false := decide_eq_false fun e => by
    have := congrArg List.length e
    rw [List.length_append] at this
    simp at this
  simpa [ne] using this
theorem sec_a {r : SM} {m M : Int} {b' : Bx} (hb : Bok m b') (t : GoodA [2, 3, 4, 5, 6, 7, 8, 9] (.val .box :: .val (T ns) :: .none :: .none :: .none :: .none :: .none :: .none :: .none :: .none :: tl20) r b' M) :
    Good (sSeq q4 (sSeq q5 (sSeq q6 (sSeq q7 (sSeq q8 r))))) (slA ns h ts u4 u5 u6 .none .none .none) b' M := by
  have hB := isR_bd hr
  have hnB := isR_bd hn
  have lt := hz
  have w3 : f_is_way [T ns, T h, .lst (ts.map tD)] b' = .ok (.bl false) .sh b' := ev_is_way_no hnB hB b' rfl
  have w5 : f_is_way [T ns, T h, .non] b' = .ok (.bl false) .sh b' := ev_is_way_no hnB hB b' rfl
  obtain ⟨v, w7, hv⟩ : ∃ v, f_is_way [T ns, T h, .tup ((ts.drop 1).map tD)] b' = .ok (.bl v) .sh b' ∧ (ts.length = 1 → v = decide (ns = h)) :=
    ⟨_, ev_is_way (ts := ts.drop 1) hnB hB (fun t ht => hs t (List.mem_of_mem_drop ht)) b', fun h1 => by
      match ts, h1 with
      | [t], _ => rfl⟩
  refine Good.seq (δ1 := slA ns h ts u4 u5 u6 (.val (.tup ((ts.dropLast ++ [(0, 9, 2)]).map tD))) .none .none) (b1 := b') (st_asg (k := .sh) (d := .tup ((ts.dropLast ++ [(0, 9, 2)]).map tD)) (ev_2 (b1 := b') (x := .tup (ts.map tD).dropLast) (y := .tup [tD (0, 9, 2)]) (k := .sh) (k2 := .sh) (f := fAdd) ?_ ?_ ?_) rfl) ?_
  · exact ev_slLast (k := .sh) (ds := ts.map tD) (k2 := .sh) rfl rfl
  · exact ev_tup (ev_lc (k := .sh) (ev_tup (ev_lc (k := .sh) rfl (by decide) (ev_lc (k := .sh) rfl (by decide) (ev_lc (k := .sh) rfl (by decide) rfl))) (by show 3 ≤ 1000; omega)) (by decide) rfl) (by show 1 ≤ 1000; omega)
  · rw [add_Td (by rw [List.length_dropLast, List.length_map]; simp; omega), List.map_append, List.map_dropLast]
    rfl
  refine Good.seq (δ1 := slA ns h ts u4 u5 u6 (.val (.tup ((ts.dropLast ++ [(0, 9, 2)]).map tD))) (.own [.bl true, .bl true, .bl false]) .none) (st_frz (st_asg (k := .fr) (eLst3 (call3 (k := .sh) rfl (by decide) (k2 := .sh) rfl (by decide) (k3 := .sh) rfl (by decide) (way_1 hn hr hw hs hz b') (by decide)) (by decide)
    (call3 (k := .sh) rfl (by decide) (k2 := .sh) rfl (by decide) (ev_1 (k := .sh) (x := .tup (ts.map tD)) rfl rfl) (by decide) (way_2 hn hr hw hs hz b') (by decide)) (by decide)
    (call3 (k := .sh) rfl (by decide) (k2 := .sh) rfl (by decide) (ev_b1 (k := .sh) (k3 := .fr) (x := .tup (ts.map tD)) rfl rfl) (by decide) w3 (by decide)) (by decide)) rfl)) ?_
  have l6 : tVal (e2 (fB cLt) (eB fLen (rCons (eVar 2) lNil)) (eCst (.int 6))) (slA ns h ts u4 u5 u6 (.val (.tup ((ts.dropLast ++ [(0, 9, 2)]).map tD))) (.own [.bl true, .bl true, .bl false]) .none) b' = .ok true b' := by
    have q := ev_tval (ev_2 (f := fB cLt) (A := eB fLen (rCons (eVar 2) lNil)) (B := eCst (.int 6)) (δ := slA ns h ts u4 u5 u6 (.val (.tup ((ts.dropLast ++ [(0, 9, 2)]).map tD))) (.own [.bl true, .bl true, .bl false]) .none) (b := b') (ev_b1 (k := .sh) (A := eVar 2) rfl (len_T h)) (k2 := .sh) (b2 := b') (y := .int 6) rfl (d := .bl (decide (((h.length : Nat) : Int) < 6))) (k3 := .sh) rfl)
    rwa [decide_eq_true (by have := isR_len hr; omega)] at q
  refine Good.seq (δ1 := slA ns h ts u4 u5 u6 (.val (.tup ((ts.dropLast ++ [(0, 9, 2)]).map tD))) (.own [.bl true, .bl true, .bl false, .bl false, .bl false, .bl false]) .none) (st_frz (st_asg (k := .fr) (ev_2 (f := fAdd) (k := .bo) (x := .lst [.bl true, .bl true, .bl false]) rfl (eLst3 (call3 (k := .sh) rfl (by decide) (k2 := .sh) rfl (by decide) (k3 := .sh) rfl (by decide) (way_4 hn hr hw hs hz b') (by decide)) (by decide)
    (call3 (k := .sh) rfl (by decide) (k2 := .sh) rfl (by decide) (k3 := .sh) rfl (by decide) w5 (by decide)) (by decide)
    (call3 (k := .sh) rfl (by decide) (ev_ifT l6 (ev_2 (f := fAdd) (k := .sh) (x := T h) rfl (ev_tup (ev_lc (k := .sh) rfl (by decide) rfl) (by show 1 ≤ 1000; omega)) (add_T (xs := h) (ys := [9]) (by have := isR_len hr; simp; omega)))) (by decide) (k3 := .sh) rfl (by decide) (way_6 hn hr hw hs hz b') (by decide)) (by decide)) (add_L (by show 3 + 3 ≤ 1000000; omega))) rfl)) ?_
  refine Good.seq (δ1 := slA ns h ts u4 u5 u6 (.val (.tup ((ts.dropLast ++ [(0, 9, 2)]).map tD))) (.own [.bl true, .bl true, .bl false, .bl false, .bl false, .bl false]) (.val (.bl v))) (st_frz (st_asg (k := .sh) (call3 (k := .sh) rfl (by decide) (k2 := .sh) rfl (by decide) (k3 := .sh) (z := .tup ((ts.drop 1).map tD)) ?_ (by decide) w7 (by decide)) rfl)) ?_
  · rw [List.map_drop]
    exact ev_sl1 (k := .sh) (ds := ts.map tD) (k2 := .sh) rfl rfl
  have tt : tAnd_ (tVal (e2 (fB cNe) (eVar 2) (eVar 1))) (tAnd_ (tVal (e2 (fB cEq) (eB fLen (rCons (eVar 3) lNil)) (eCst (.int 1)))) (tVal (eVar 9))) (slA ns h ts u4 u5 u6 (.val (.tup ((ts.dropLast ++ [(0, 9, 2)]).map tD))) (.val (.lst [.bl true, .bl true, .bl false, .bl false, .bl false, .bl false])) (.val (.bl v))) b' = .ok false b' := by
    have q := ev_tand (m := tVal (e2 (fB cNe) (eVar 2) (eVar 1))) (δ := slA ns h ts u4 u5 u6 (.val (.tup ((ts.dropLast ++ [(0, 9, 2)]).map tD))) (.val (.lst [.bl true, .bl true, .bl false, .bl false, .bl false, .bl false])) (.val (.bl v))) (b := b') (ev_tval (ev_2 (k := .sh) rfl (k2 := .sh) rfl (ne_TT h ns))) (fun _ => ev_tand (ev_tval (ev_2 (f := fB cEq) (ev_b1 (f := fLen) (k := .sh) (A := eVar 3) (x := .tup (ts.map tD)) (d := .int (((ts.map tD).length : Nat))) (k3 := .sh) rfl rfl) (B := eCst (.int 1)) (b2 := b') (k2 := .sh) rfl (eq_ii (((ts.map tD).length : Nat)) 1))) (fun _ => ev_tval (m := eVar 9) (t := v) (k := .sh) rfl) (fun _ => rfl)) (fun _ => rfl)
    rw [q]
    congr 1
    rw [List.length_map]
    by_cases e1 : h = ns
    · rw [decide_eq_true e1]; rfl
    · by_cases q2 : ts.length = 1
      · have hf : v = false := by rw [hv q2]; exact decide_eq_false fun e => e1 e.symm
        rw [hf]; simp
      · rw [decide_eq_false (show ¬ ((ts.length : Nat) : Int) = 1 by omega)]; simp
  refine Good.seq (δ1 := slA ns h ts u4 u5 u6 (.val (.tup ((ts.dropLast ++ [(0, 9, 2)]).map tD))) (.val (.lst [.bl true, .bl true, .bl false, .bl false, .bl false, .bl false])) (.val (.bl v))) (b1 := b') (st_frz (st_ifF (ev_tor (ev_tnot (ev_tval (same_ok (d := .lst [.bl true, .bl true, .bl false, .bl false, .bl false, .bl false]) (k := .sh) rfl (by decide) (ev_lst (ev_lc (k := .sh) rfl (by decide) (ev_lc (k := .sh) rfl (by decide) (ev_lc (k := .sh) rfl (by decide) (ev_lc (k := .sh) rfl (by decide) (ev_lc (k := .sh) rfl (by decide) (ev_lc (k := .sh) rfl (by decide) rfl)))))) (by show 6 ≤ 1000; omega)) (by decide) rfl))) (fun _ => tt) (fun _ => rfl)) rfl)) ?_
  refine t _ ⟨rfl, fun i hi => ?_⟩
  rcases i with _ | _ | _ | _ | _ | _ | _ | _ | _ | _ | i
  iterate 10 first | rfl | exact absurd (by decide) hi
  rfl
end
end Rk

namespace Rk
open PySem PySem.Spec L2
abbrev SP : List Nat := [2, 3, 4, 5, 6, 7, 8, 9, 10, 11, 12, 13, 15, 16, 17, 18, 19, 23, 24, 25, 26, 27, 28, 29]
abbrev mP (a0 a1 : Sl) : Slots := [a0, a1, .none, .none, .none, .none, .none, .none, .none, .none, .none, .none, .none, .none, .none, .none, .none, .none, .none, .none, .none, .none, .none, .none, .none, .none, .none, .none, .none, .none]
theorem ofP {a0 a1 : Sl} {r : SM} {b : Bx} {M : Int} (t : ∀ x2 x3 x4 x5 x6 x7 x8 x9 x10 x11 x12 x13 x15 x16 x17 x18 x19 x23 x24 x25 x26 x27 x28 x29 : Sl, Good r [a0, a1, x2, x3, x4, x5, x6, x7, x8, x9, x10, x11, x12, x13, .none, x15, x16, x17, x18, x19, .none, .none, .none, x23, x24, x25, x26, x27, x28, x29] b M) : GoodA SP (mP a0 a1) r b M := fun δ a => by
  obtain ⟨hl, ha⟩ := a
  match δ, hl, ha with
  | [x0, x1, x2, x3, x4, x5, x6, x7, x8, x9, x10, x11, x12, x13, x14, x15, x16, x17, x18, x19, x20, x21, x22, x23, x24, x25, x26, x27, x28, x29], _, ha =>
    obtain rfl : a0 = x0 := by simpa using ha 0 (by decide)
    obtain rfl : a1 = x1 := by simpa using ha 1 (by decide)
    obtain rfl : Sl.none = x14 := by simpa using ha 14 (by decide)
    obtain rfl : Sl.none = x20 := by simpa using ha 20 (by decide)
    obtain rfl : Sl.none = x21 := by simpa using ha 21 (by decide)
    obtain rfl : Sl.none = x22 := by simpa using ha 22 (by decide)
    exact t x2 x3 x4 x5 x6 x7 x8 x9 x10 x11 x12 x13 x15 x16 x17 x18 x19 x23 x24 x25 x26 x27 x28 x29
theorem toP {a0 a1 : Sl} {r : SM} {b : Bx} {M : Int} (t : GoodA SP (mP a0 a1) r b M) (x2 x3 x4 x5 x6 x7 x8 x9 x10 x11 x12 x13 x15 x16 x17 x18 x19 x23 x24 x25 x26 x27 x28 x29 : Sl) : Good r [a0, a1, x2, x3, x4, x5, x6, x7, x8, x9, x10, x11, x12, x13, .none, x15, x16, x17, x18, x19, .none, .none, .none, x23, x24, x25, x26, x27, x28, x29] b M := by
  refine t _ ⟨rfl, fun i hi => ?_⟩
  rcases i with _ | _ | _ | _ | _ | _ | _ | _ | _ | _ | _ | _ | _ | _ | _ | _ | _ | _ | _ | _ | _ | _ | _ | _ | _ | _ | _ | _ | _ | _ | i
  iterate 30 first | rfl | exact absurd (by decide) hi
  rfl
abbrev SC : List Nat := [2, 3, 4, 5, 6, 7, 8, 9, 11, 12, 13, 15, 16, 17, 18, 19, 23, 24, 25, 26, 27, 28, 29]
abbrev mC (a0 a1 a10 : Sl) : Slots := [a0, a1, .none, .none, .none, .none, .none, .none, .none, .none, a10, .none, .none, .none, .none, .none, .none, .none, .none, .none, .none, .none, .none, .none, .none, .none, .none, .none, .none, .none]
theorem ofC {a0 a1 a10 : Sl} {r : SM} {b : Bx} {M : Int} (t : ∀ x2 x3 x4 x5 x6 x7 x8 x9 x11 x12 x13 x15 x16 x17 x18 x19 x23 x24 x25 x26 x27 x28 x29 : Sl, Good r [a0, a1, x2, x3, x4, x5, x6, x7, x8, x9, a10, x11, x12, x13, .none, x15, x16, x17, x18, x19, .none, .none, .none, x23, x24, x25, x26, x27, x28, x29] b M) : GoodA SC (mC a0 a1 a10) r b M := fun δ a => by
  obtain ⟨hl, ha⟩ := a
  match δ, hl, ha with
  | [x0, x1, x2, x3, x4, x5, x6, x7, x8, x9, x10, x11, x12, x13, x14, x15, x16, x17, x18, x19, x20, x21, x22, x23, x24, x25, x26, x27, x28, x29], _, ha =>
    obtain rfl : a0 = x0 := by simpa using ha 0 (by decide)
    obtain rfl : a1 = x1 := by simpa using ha 1 (by decide)
    obtain rfl : a10 = x10 := by simpa using ha 10 (by decide)
    obtain rfl : Sl.none = x14 := by simpa using ha 14 (by decide)
    obtain rfl : Sl.none = x20 := by simpa using ha 20 (by decide)
    obtain rfl : Sl.none = x21 := by simpa using ha 21 (by decide)
    obtain rfl : Sl.none = x22 := by simpa using ha 22 (by decide)
    exact t x2 x3 x4 x5 x6 x7 x8 x9 x11 x12 x13 x15 x16 x17 x18 x19 x23 x24 x25 x26 x27 x28 x29
theorem toC {a0 a1 a10 : Sl} {r : SM} {b : Bx} {M : Int} (t : GoodA SC (mC a0 a1 a10) r b M) (x2 x3 x4 x5 x6 x7 x8 x9 x11 x12 x13 x15 x16 x17 x18 x19 x23 x24 x25 x26 x27 x28 x29 : Sl) : Good r [a0, a1, x2, x3, x4, x5, x6, x7, x8, x9, a10, x11, x12, x13, .none, x15, x16, x17, x18, x19, .none, .none, .none, x23, x24, x25, x26, x27, x28, x29] b M := by
  refine t _ ⟨rfl, fun i hi => ?_⟩
  rcases i with _ | _ | _ | _ | _ | _ | _ | _ | _ | _ | _ | _ | _ | _ | _ | _ | _ | _ | _ | _ | _ | _ | _ | _ | _ | _ | _ | _ | _ | _ | i
  iterate 30 first | rfl | exact absurd (by decide) hi
  rfl
abbrev SD : List Nat := [2, 3, 4, 5, 6, 7, 8, 9, 11, 12, 13, 16, 17, 18, 19, 23, 24, 25, 26, 27, 28, 29]
abbrev mD (a0 a1 a10 a15 : Sl) : Slots := [a0, a1, .none, .none, .none, .none, .none, .none, .none, .none, a10, .none, .none, .none, .none, a15, .none, .none, .none, .none, .none, .none, .none, .none, .none, .none, .none, .none, .none, .none]
theorem ofD {a0 a1 a10 a15 : Sl} {r : SM} {b : Bx} {M : Int} (t : ∀ x2 x3 x4 x5 x6 x7 x8 x9 x11 x12 x13 x16 x17 x18 x19 x23 x24 x25 x26 x27 x28 x29 : Sl, Good r [a0, a1, x2, x3, x4, x5, x6, x7, x8, x9, a10, x11, x12, x13, .none, a15, x16, x17, x18, x19, .none, .none, .none, x23, x24, x25, x26, x27, x28, x29] b M) : GoodA SD (mD a0 a1 a10 a15) r b M := fun δ a => by
  obtain ⟨hl, ha⟩ := a
  match δ, hl, ha with
  | [x0, x1, x2, x3, x4, x5, x6, x7, x8, x9, x10, x11, x12, x13, x14, x15, x16, x17, x18, x19, x20, x21, x22, x23, x24, x25, x26, x27, x28, x29], _, ha =>
    obtain rfl : a0 = x0 := by simpa using ha 0 (by decide)
    obtain rfl : a1 = x1 := by simpa using ha 1 (by decide)
    obtain rfl : a10 = x10 := by simpa using ha 10 (by decide)
    obtain rfl : a15 = x15 := by simpa using ha 15 (by decide)
    obtain rfl : Sl.none = x14 := by simpa using ha 14 (by decide)
    obtain rfl : Sl.none = x20 := by simpa using ha 20 (by decide)
    obtain rfl : Sl.none = x21 := by simpa using ha 21 (by decide)
    obtain rfl : Sl.none = x22 := by simpa using ha 22 (by decide)
    exact t x2 x3 x4 x5 x6 x7 x8 x9 x11 x12 x13 x16 x17 x18 x19 x23 x24 x25 x26 x27 x28 x29
theorem toD {a0 a1 a10 a15 : Sl} {r : SM} {b : Bx} {M : Int} (t : GoodA SD (mD a0 a1 a10 a15) r b M) (x2 x3 x4 x5 x6 x7 x8 x9 x11 x12 x13 x16 x17 x18 x19 x23 x24 x25 x26 x27 x28 x29 : Sl) : Good r [a0, a1, x2, x3, x4, x5, x6, x7, x8, x9, a10, x11, x12, x13, .none, a15, x16, x17, x18, x19, .none, .none, .none, x23, x24, x25, x26, x27, x28, x29] b M := by
  refine t _ ⟨rfl, fun i hi => ?_⟩
  rcases i with _ | _ | _ | _ | _ | _ | _ | _ | _ | _ | _ | _ | _ | _ | _ | _ | _ | _ | _ | _ | _ | _ | _ | _ | _ | _ | _ | _ | _ | _ | i
  iterate 30 first | rfl | exact absurd (by decide) hi
  rfl
abbrev SE : List Nat := [2, 3, 4, 6, 7, 8, 9, 11, 12, 13, 15, 16, 17, 18, 23, 24, 25, 26, 27, 28, 29]
abbrev mE (a0 a1 a5 a10 a19 : Sl) : Slots := [a0, a1, .none, .none, .none, a5, .none, .none, .none, .none, a10, .none, .none, .none, .none, .none, .none, .none, .none, a19, .none, .none, .none, .none, .none, .none, .none, .none, .none, .none]
theorem ofE {a0 a1 a5 a10 a19 : Sl} {r : SM} {b : Bx} {M : Int} (t : ∀ x2 x3 x4 x6 x7 x8 x9 x11 x12 x13 x15 x16 x17 x18 x23 x24 x25 x26 x27 x28 x29 : Sl, Good r [a0, a1, x2, x3, x4, a5, x6, x7, x8, x9, a10, x11, x12, x13, .none, x15, x16, x17, x18, a19, .none, .none, .none, x23, x24, x25, x26, x27, x28, x29] b M) : GoodA SE (mE a0 a1 a5 a10 a19) r b M := fun δ a => by
  obtain ⟨hl, ha⟩ := a
  match δ, hl, ha with
  | [x0, x1, x2, x3, x4, x5, x6, x7, x8, x9, x10, x11, x12, x13, x14, x15, x16, x17, x18, x19, x20, x21, x22, x23, x24, x25, x26, x27, x28, x29], _, ha =>
    obtain rfl : a0 = x0 := by simpa using ha 0 (by decide)
    obtain rfl : a1 = x1 := by simpa using ha 1 (by decide)
    obtain rfl : a5 = x5 := by simpa using ha 5 (by decide)
    obtain rfl : a10 = x10 := by simpa using ha 10 (by decide)
    obtain rfl : a19 = x19 := by simpa using ha 19 (by decide)
    obtain rfl : Sl.none = x14 := by simpa using ha 14 (by decide)
    obtain rfl : Sl.none = x20 := by simpa using ha 20 (by decide)
    obtain rfl : Sl.none = x21 := by simpa using ha 21 (by decide)
    obtain rfl : Sl.none = x22 := by simpa using ha 22 (by decide)
    exact t x2 x3 x4 x6 x7 x8 x9 x11 x12 x13 x15 x16 x17 x18 x23 x24 x25 x26 x27 x28 x29
theorem toE {a0 a1 a5 a10 a19 : Sl} {r : SM} {b : Bx} {M : Int} (t : GoodA SE (mE a0 a1 a5 a10 a19) r b M) (x2 x3 x4 x6 x7 x8 x9 x11 x12 x13 x15 x16 x17 x18 x23 x24 x25 x26 x27 x28 x29 : Sl) : Good r [a0, a1, x2, x3, x4, a5, x6, x7, x8, x9, a10, x11, x12, x13, .none, x15, x16, x17, x18, a19, .none, .none, .none, x23, x24, x25, x26, x27, x28, x29] b M := by
  refine t _ ⟨rfl, fun i hi => ?_⟩
  rcases i with _ | _ | _ | _ | _ | _ | _ | _ | _ | _ | _ | _ | _ | _ | _ | _ | _ | _ | _ | _ | _ | _ | _ | _ | _ | _ | _ | _ | _ | _ | i
  iterate 30 first | rfl | exact absurd (by decide) hi
  rfl
abbrev SZ : List Nat := [2, 3, 4, 5, 6, 7, 8, 9, 11, 12, 13, 14, 15, 16, 17, 18, 19, 20, 21, 22, 23, 24, 25, 26, 27, 28, 29]
abbrev mZ (a0 a1 a10 : Sl) : Slots := [a0, a1, .none, .none, .none, .none, .none, .none, .none, .none, a10, .none, .none, .none, .none, .none, .none, .none, .none, .none, .none, .none, .none, .none, .none, .none, .none, .none, .none, .none]
theorem ofZ {a0 a1 a10 : Sl} {r : SM} {b : Bx} {M : Int} (t : ∀ x2 x3 x4 x5 x6 x7 x8 x9 x11 x12 x13 x14 x15 x16 x17 x18 x19 x20 x21 x22 x23 x24 x25 x26 x27 x28 x29 : Sl, Good r [a0, a1, x2, x3, x4, x5, x6, x7, x8, x9, a10, x11, x12, x13, x14, x15, x16, x17, x18, x19, x20, x21, x22, x23, x24, x25, x26, x27, x28, x29] b M) : GoodA SZ (mZ a0 a1 a10) r b M := fun δ a => by
  obtain ⟨hl, ha⟩ := a
  match δ, hl, ha with
  | [x0, x1, x2, x3, x4, x5, x6, x7, x8, x9, x10, x11, x12, x13, x14, x15, x16, x17, x18, x19, x20, x21, x22, x23, x24, x25, x26, x27, x28, x29], _, ha =>
    obtain rfl : a0 = x0 := by simpa using ha 0 (by decide)
    obtain rfl : a1 = x1 := by simpa using ha 1 (by decide)
    obtain rfl : a10 = x10 := by simpa using ha 10 (by decide)
    exact t x2 x3 x4 x5 x6 x7 x8 x9 x11 x12 x13 x14 x15 x16 x17 x18 x19 x20 x21 x22 x23 x24 x25 x26 x27 x28 x29
theorem toZ {a0 a1 a10 : Sl} {r : SM} {b : Bx} {M : Int} (t : GoodA SZ (mZ a0 a1 a10) r b M) (x2 x3 x4 x5 x6 x7 x8 x9 x11 x12 x13 x14 x15 x16 x17 x18 x19 x20 x21 x22 x23 x24 x25 x26 x27 x28 x29 : Sl) : Good r [a0, a1, x2, x3, x4, x5, x6, x7, x8, x9, a10, x11, x12, x13, x14, x15, x16, x17, x18, x19, x20, x21, x22, x23, x24, x25, x26, x27, x28, x29] b M := by
  refine t _ ⟨rfl, fun i hi => ?_⟩
  rcases i with _ | _ | _ | _ | _ | _ | _ | _ | _ | _ | _ | _ | _ | _ | _ | _ | _ | _ | _ | _ | _ | _ | _ | _ | _ | _ | _ | _ | _ | _ | i
  iterate 30 first | rfl | exact absurd (by decide) hi
  rfl
section
variable {ns : List Int} (hB : isBd ns = true) (h6 : ∀ n ∈ ns, n ≤ 100)
include hB h6
theorem laying_go : ∀ (xs found : List Int) (m : Int) (b : Bx) (u v w : Sl), ns.drop found.length = xs → LayP ns found → Bok m b → m + xs.length ≤ 1000000 → ∃ l u' v' w' b',
    forL (gNm 3) (sSeq (sAsg 4 (eComp [5] (itRng (rCons (eCst (.int 1)) (rCons (e2 fAdd (eVar 3) (eCst (.int 1))) lNil))) (gNm 5) (tVal (e2 (fB cNotIn) (eVar 5) (eVar 2))) (eVar 5)))
      (sAsg 2 (e2 fAdd (eVar 2) (eTup (lCons (eCall f__law_of (lCons (eVar 0) (lCons (e2 fAdd (eLst (lCons (eCst (.int 0)) lNil)) (eVar 4)) lNil))) lNil)))))
      (xs.map D.int) [Sl.val .box, .val (T ns), .val (T found), u, v, w] b = .nx [Sl.val .box, .val (T ns), .val (T l), u', v', w'] b' ∧ Lay ns l ∧ Bok (m + xs.length) b'
  | [], found, m, b, u, v, w, hd, hp, hb, _ => by
    have : ns.length ≤ found.length := List.drop_eq_nil_iff.mp hd
    exact ⟨found, u, v, w, b, rfl, hp.lay (Nat.le_antisymm hp.len this), by simpa using hb⟩
  | n :: xs, found, m, b, u, v, w, hd, hp, hb, hm => by
    rw [List.length_cons] at hm
    have hl := isBd_len hB
    have hlt : found.length < ns.length := by
      rcases Nat.lt_or_ge found.length ns.length with q | q
      · exact q
      · rw [List.drop_eq_nil_iff.mpr q] at hd; cases hd
    have hn : n = ns.getD found.length 0 := by
      rw [List.drop_eq_getElem_cons hlt] at hd
      rw [List.getD_eq_getElem?_getD, List.getElem?_eq_getElem hlt]
      exact (List.cons.inj hd).1.symm
    have hd' : ns.drop (found.length + 1) = xs := by
      rw [List.drop_eq_getElem_cons hlt] at hd
      exact (List.cons.inj hd).2
    have n0 : 0 ≤ n := by rw [hn]; exact isBd_pos hB _ (getD_mem hlt)
    have n6 : n ≤ 100 := by rw [hn]; exact h6 _ (getD_mem hlt)
    have c1 : eComp [5] (itRng (rCons (eCst (.int 1)) (rCons (e2 fAdd (eVar 3) (eCst (.int 1))) lNil))) (gNm 5) (tVal (e2 (fB cNotIn) (eVar 5) (eVar 2))) (eVar 5) [Sl.val .box, .val (T ns), .val (T found), .val (.int n), v, w] b = .ok (Ls ((rngI 1 (n + 1)).filter fun x => !memI x found)) .fr b :=
      ev_cf (fun x => !memI x found) D.int (it_rngI (k := .sh) (k2 := .sh) (n := 1) (m := n + 1) rfl (ev_2 (k := .sh) rfl (k2 := .sh) rfl rfl) (by omega) (by omega) (by omega) (by omega)) (rng_small (by omega)) (fun x _ => nin_T (k := .sh) rfl (k2 := .sh) rfl) (fun x _ _ => rfl)
    have hf : ((rngI 1 (n + 1)).filter fun x => !memI x found).length ≤ 1000 := Nat.le_trans (List.length_filter_le ..) (by rw [rngI_len]; omega)
    obtain ⟨x, b1, e1', hx, hb1⟩ := ev_of m ((0 :: (rngI 1 (n + 1)).filter fun x => !memI x found).map D.int) b hb (by omega) (by simp) (by rw [List.length_map, List.length_cons]; omega)
    obtain ⟨z, hz, rfl⟩ := List.mem_map.mp hx
    have hz' : 0 ≤ z ∧ z ≤ n ∧ (z = 0 ∨ z ∉ found) := by
      rcases List.mem_cons.mp hz with rfl | hz
      · exact ⟨Int.le_refl _, n0, .inl rfl⟩
      · obtain ⟨h1, h2⟩ := List.mem_filter.mp hz
        have := mem_rngI.mp h1
        refine ⟨by omega, by omega, .inr fun hm => ?_⟩
        rw [memI_iff.mpr hm] at h2; cases h2
    have hp' := hp.snoc hlt hz'.1 (by rw [← hn]; exact hz'.2.1) hz'.2.2
    obtain ⟨l, u', v', w', b', e, hL, hb'⟩ := laying_go xs (found ++ [z]) (m + 1) b1 (.val (.int n)) (.own (((rngI 1 (n + 1)).filter fun x => !memI x found).map D.int)) w (by rw [List.length_append]; exact hd') hp' hb1 (by omega)
    refine ⟨l, u', v', w', b', ?_, hL, by rw [List.length_cons]; exact hb'.mono (by omega)⟩
    rw [List.map_cons]
    unfold forL
    rw [show gNm 3 (D.int n) [Sl.val .box, .val (T ns), .val (T found), u, v, w] = some [Sl.val .box, .val (T ns), .val (T found), .val (.int n), v, w] from rfl]
    dsimp only
    have st : (sSeq (sAsg 4 (eComp [5] (itRng (rCons (eCst (.int 1)) (rCons (e2 fAdd (eVar 3) (eCst (.int 1))) lNil))) (gNm 5) (tVal (e2 (fB cNotIn) (eVar 5) (eVar 2))) (eVar 5)))
      (sAsg 2 (e2 fAdd (eVar 2) (eTup (lCons (eCall f__law_of (lCons (eVar 0) (lCons (e2 fAdd (eLst (lCons (eCst (.int 0)) lNil)) (eVar 4)) lNil))) lNil))))) [Sl.val .box, .val (T ns), .val (T found), .val (.int n), v, w] b = .nx [Sl.val .box, .val (T ns), .val (T (found ++ [z])), .val (.int n), .own (((rngI 1 (n + 1)).filter fun x => !memI x found).map D.int), w] b1 := by
      have hfl := hp.len
      refine st_seq (st_asg c1 rfl) (st_asg (ev_2 (f := fAdd) (k := .sh) (x := T found) rfl (ev_tup (ev_lc (call2 (k := .sh) rfl (by decide) (ev_2 (f := fAdd) (ev_lst (ev_lc (k := .sh) rfl (by decide) rfl) (by show 1 ≤ 1000; omega)) (k2 := .bo) rfl (add_L (by rw [List.length_map]; simp; omega))) (by decide) e1' (by decide)) (by decide) rfl) (by show 1 ≤ 1000; omega)) (add_T (xs := found) (ys := [z]) (by simp; omega))) rfl)
    rw [st]
    exact e
theorem ev_laying (m : Int) (b : Bx) (hb : Bok m b) (hm : m ≤ 1000) : ∃ l b', f__law_laying [.box, T ns] b = .ok (T l) .sh b' ∧ Lay ns l ∧ Bok (m + 10) b' := by
  have hl := isBd_len hB
  obtain ⟨l, u', v', w', b', e, hL, hb'⟩ := laying_go hB h6 ns [] m b .none .none .none rfl ⟨Nat.zero_le _, fun k hk => absurd hk (Nat.not_lt_zero _), by simp⟩ hb (by omega)
  exact ⟨l, b', fb_ret (st_seq (st_asg (k := .sh) (d := T []) rfl rfl) (st_seq (st_for (it_seq (k := .sh) (d := T ns) rfl (by decide) rfl) e) rfl)), hL, hb'.mono (by omega)⟩
end
theorem eraseIdx_map' {α β : Type} (f : α → β) : ∀ (l : List α) (k : Nat), (l.map f).eraseIdx k = (l.eraseIdx k).map f
  | [], _ => rfl
  | x :: xs, 0 => rfl
  | x :: xs, k + 1 => by
    show f x :: (xs.map f).eraseIdx k = f x :: (xs.eraseIdx k).map f
    rw [eraseIdx_map' f xs k]
theorem erase_perm {α : Type} : ∀ (l : List α) (k : Nat) (hk : k < l.length), (l[k] :: l.eraseIdx k).Perm l
  | x :: xs, 0, _ => List.Perm.refl _
  | x :: xs, k + 1, hk => by
    have hk' : k < xs.length := by simpa using hk
    have ih := erase_perm xs k hk'
    show (xs[k] :: x :: xs.eraseIdx k).Perm (x :: xs)
    exact (List.Perm.swap x xs[k] _).trans (List.Perm.cons x ih)
/-! ### all of some, in a drawn order -/
theorem pick_go (n : Int) (d1 : D) : ∀ (items : List D) (ps fs : List Int) (m : Int) (b : Bx) (u : Sl), ps.length = items.length → Bok m b → m + items.length ≤ 1000 → fs.length + ps.length ≤ 1000 → ∃ (zs : List Int) (u' : Sl) (b' : Bx),
    forL (gNm 5) (sPick 4 3 (eCall f__law_take (lCons (eVar 0) (lCons (eB fLen (rCons (eVar 3) lNil)) lNil)))) items [Sl.val .box, .val d1, .val (.int n), .own (ps.map D.int), .own (fs.map D.int), u] b
      = .nx [Sl.val .box, .val d1, .val (.int n), .own [], .own (zs.map D.int), u'] b' ∧ zs.Perm (fs ++ ps) ∧ Bok (m + items.length) b'
  | [], ps, fs, m, b, u, hl, hb, _, _ => by
    have : ps = [] := List.eq_nil_of_length_eq_zero hl
    subst this
    exact ⟨fs, u, b, rfl, by rw [List.append_nil], by simpa using hb⟩
  | x :: items, ps, fs, m, b, u, hl, hb, hm, hz => by
    rw [List.length_cons] at hl hm
    obtain ⟨v, b1, e1', v0, v1, hb1⟩ := ev_take m (ps.length : Nat) b hb (by omega) (by omega) (by omega)
    obtain ⟨k, rfl⟩ := Int.eq_ofNat_of_zero_le v0
    have hk : k < ps.length := by omega
    obtain ⟨zs, u', b', e, hp, hb'⟩ := pick_go n d1 items (ps.eraseIdx k) (fs ++ [ps[k]]) (m + 1) b1 (.val x) (by rw [List.length_eraseIdx_of_lt hk]; omega) hb1 (by omega) (by rw [List.length_eraseIdx_of_lt hk, List.length_append]; simp; omega)
    refine ⟨zs, u', b', ?_, hp.trans ?_, by rw [List.length_cons]; exact hb'.mono (by omega)⟩
    · unfold forL
      rw [show gNm 5 x [Sl.val .box, .val d1, .val (.int n), .own (ps.map D.int), .own (fs.map D.int), u] = some [Sl.val .box, .val d1, .val (.int n), .own (ps.map D.int), .own (fs.map D.int), .val x] from rfl]
      dsimp only
      have hlen : (eB fLen (rCons (eVar 3) lNil)) [Sl.val .box, .val d1, .val (.int n), .own (ps.map D.int), .own (fs.map D.int), .val x] b = .ok (.int (ps.length : Nat)) .sh b := ev_b1 (k := .bo) (A := eVar 3) rfl (len_L ps)
      have ht : eCall f__law_take (lCons (eVar 0) (lCons (eB fLen (rCons (eVar 3) lNil)) lNil)) [Sl.val .box, .val d1, .val (.int n), .own (ps.map D.int), .own (fs.map D.int), .val x] b = .ok (.int (k : Nat)) .sh b1 := call2 (k := .sh) rfl (by decide) hlen (by decide) e1' (by decide)
      have st : sPick 4 3 (eCall f__law_take (lCons (eVar 0) (lCons (eB fLen (rCons (eVar 3) lNil)) lNil))) [Sl.val .box, .val d1, .val (.int n), .own (ps.map D.int), .own (fs.map D.int), .val x] b = .nx [Sl.val .box, .val d1, .val (.int n), .own ((ps.eraseIdx k).map D.int), .own ((fs ++ [ps[k]]).map D.int), .val x] b1 := by
        unfold sPick
        show (if (4 : Nat) = 3 then SOut.bad else match (eCall f__law_take (lCons (eVar 0) (lCons (eB fLen (rCons (eVar 3) lNil)) lNil))) [Sl.val .box, .val d1, .val (.int n), .own (ps.map D.int), .own (fs.map D.int), .val x] b with | .ok (.int k) _ b1 => _ | .ok _ _ _ => _ | .exc x fs b => _ | .bad => _) = _
        rw [if_neg (by decide), ht]
        dsimp only
        rw [ixN_nat (by rw [List.length_map]; exact hk)]
        dsimp only
        rw [List.getElem?_map, List.getElem?_eq_getElem hk]
        dsimp only [Option.map_some]
        rw [if_pos ⟨by rw [List.length_map]; unfold big; omega, by rw [List.length_map]; unfold big; omega⟩, eraseIdx_map']
        rw [List.map_append]
        rfl
      rw [st]
      exact e
    · rw [List.append_assoc]
      exact List.Perm.append_left fs (erase_perm ps k hk)
theorem ev_pick (xs : List Int) (m : Int) (b : Bx) (hb : Bok m b) (hm : m ≤ 500) (hz : xs.length ≤ 100) : ∃ zs b', f__law_pick [.box, Ls xs, .int (xs.length : Nat)] b = .ok (Ls zs) .fr b' ∧ zs.Perm xs ∧ Bok (m + 100) b' := by
  obtain ⟨zs, u', b', e, hp, hb'⟩ := pick_go (xs.length : Nat) (Ls xs) ((List.range xs.length).map fun i : Nat => .int (0 + (i : Nat))) xs [] m b .none (by simp) hb (by simp; omega) (by simp; omega)
  refine ⟨zs, b', fb_ret (st_seq (st_par2 (k := .fr) (k' := .fr) (ev_b1 (k := .sh) rfl (y_lstL xs)) (ev_lst ev_l0 (Nat.zero_le _)) rfl rfl) (st_seq (st_for (it_rng1 (n := (xs.length : Nat)) (k := .sh) (ev_b2 (k := .sh) (x := .int (xs.length : Nat)) (ev_b1 (k := .sh) rfl rfl) (k2 := .sh) (ev_b1 (k := .bo) (A := eVar 3) rfl (len_L xs)) ?_) (by omega) (by omega)) (by rw [Int.toNat_natCast]; exact e)) rfl)), by simpa using hp, hb'.mono (by simp; omega)⟩
  show some (D.int (if ((xs.length : Nat) : Int) < ((xs.length : Nat) : Int) then _ else _), Kd.sh) = _
  rw [if_neg (Int.lt_irrefl _)]
def pcs (l : List Int) : Nat := (l.filter fun x => decide (0 < x)).length
/-! ### cells, pairs -/
def pD (q : Int × Int) : D := .tup [.int q.1, .int q.2]
def pP (q : Int × Int) : PyData := .tuple [.int q.1, .int q.2]
def rowP (k : Nat) (n : Int) : List (Int × Int) := (rngI 1 (n + 1)).map fun c => (((k : Nat) : Int) + 1, c)
def cellsPr (ns : List Int) (n : Nat) : List (Int × Int) := (List.range n).flatMap fun k => rowP k (ns.getD k 0)
theorem rowC_eq (k : Nat) (n : Int) : rowC k n = (rowP k n).map pD := by
  unfold rowC rowP rngI
  rw [List.map_map, List.map_map, show (n + 1 - 1).toNat = n.toNat by omega]
  rfl
theorem cellsD_eq (ns : List Int) (n : Nat) : cellsD ns n = (cellsPr ns n).map pD := by
  unfold cellsD cellsPr
  rw [List.map_flatMap]
  congr 1
  funext k
  exact rowC_eq k _
theorem mem_cellsPr {ns : List Int} {n : Nat} {q : Int × Int} : q ∈ cellsPr ns n ↔ ∃ k, k < n ∧ q.1 = (k : Nat) + 1 ∧ 1 ≤ q.2 ∧ q.2 ≤ ns.getD k 0 := by
  unfold cellsPr rowP
  rw [List.mem_flatMap]
  constructor
  · rintro ⟨k, hk, h⟩
    obtain ⟨c, hc, rfl⟩ := List.mem_map.mp h
    have := mem_rngI.mp hc
    exact ⟨k, List.mem_range.mp hk, rfl, this.1, by show c ≤ _; omega⟩
  · rintro ⟨k, hk, h1, h2, h3⟩
    exact ⟨k, List.mem_range.mpr hk, List.mem_map.mpr ⟨q.2, mem_rngI.mpr ⟨h2, by omega⟩, by rw [← h1]⟩⟩
theorem pyds_pairs : ∀ ps : List (Int × Int), pyds (ps.map pD) = some (ps.map pP)
  | [] => rfl
  | p :: ps => by
    rw [List.map_cons]
    show (match pyd (pD p), pyds (ps.map pD) with | some x, some xs => some (x :: xs) | _, _ => none) = _
    rw [pyds_pairs ps]; rfl
theorem lay_pairs (ps : List (Int × Int)) : PyData.canLayAll0 (ps.map pP) = true := by
  induction ps with
  | nil => simp [PyData.canLayAll0]
  | cons p ps ih => simp [PyData.canLayAll0, PyData.canLay0, pP, ih]
theorem dep_pairs (ps : List (Int × Int)) : PyData.depthAll (ps.map pP) ≤ 2 := by
  induction ps with
  | nil => simp [PyData.depthAll]
  | cons p ps ih =>
    rw [List.map_cons]
    simp only [PyData.depthAll, PyData.depth, pP]
    simp
    exact Nat.max_le.mpr ⟨by omega, ih⟩
theorem sh_pairs (ps : List (Int × Int)) : SeqAt.shaped (.list (ps.map pP)) = true := by
  have := dep_pairs ps
  simp [SeqAt.shaped, PyData.canLay0, PyData.depth, lay_pairs]
  omega
theorem sh_pair (p : Int × Int) : SeqAt.shaped (pP p) = true := by
  simp [SeqAt.shaped, PyData.canLay0, PyData.canLayAll0, PyData.depth, PyData.depthAll, pP]
theorem eqv_pair (p q : Int × Int) : PyData.eqv (pP p) (pP q) = decide (p = q) := by
  obtain ⟨a, b⟩ := p
  obtain ⟨c, d⟩ := q
  simp [pP, PyData.eqv, PyData.eqvAll]
  by_cases h1 : a = c <;> by_cases h2 : b = d <;> simp [h1, h2]
theorem in_pairs (p : Int × Int) (ps : List (Int × Int)) : cIn (pD p) (.lst (ps.map pD)) = some (decide (p ∈ ps)) := by
  show (match pyd (pD p), pyds (ps.map pD) with | some d, some es => if SeqAt.shaped d = true ∧ SeqAt.shaped (.list es) = true then some (es.any fun z => PyData.eqv z d) else none | _, _ => none) = _
  rw [pyds_pairs ps]
  show (if SeqAt.shaped (pP p) = true ∧ SeqAt.shaped (.list (ps.map pP)) = true then some ((ps.map pP).any fun z => PyData.eqv z (pP p)) else none) = _
  rw [if_pos ⟨sh_pair p, sh_pairs ps⟩, List.any_map]
  congr 1
  rw [Bool.eq_iff_iff, List.any_eq_true, decide_eq_true_eq]
  constructor
  · rintro ⟨q, hq, e⟩
    have e : PyData.eqv (pP q) (pP p) = true := e
    rw [eqv_pair] at e
    rw [← of_decide_eq_true e]; exact hq
  · intro hp
    exact ⟨p, hp, by show PyData.eqv (pP p) (pP p) = true; rw [eqv_pair]; simp⟩
theorem inB_pairs (p : Int × Int) (ps : List (Int × Int)) : fB cIn (pD p) (.lst (ps.map pD)) = some (.bl (decide (p ∈ ps)), .sh) := by unfold fB; rw [in_pairs]
theorem ninB_pairs (p : Int × Int) (ps : List (Int × Int)) : fB cNotIn (pD p) (.lst (ps.map pD)) = some (.bl (!decide (p ∈ ps)), .sh) := by unfold fB cNotIn; rw [in_pairs]; rfl
theorem ne_pairs (ps : List (Int × Int)) : fB cNe (.lst (ps.map pD)) (.lst []) = some (.bl (!decide (ps = [])), .sh) := by
  unfold fB cNe cEq
  rw [show pyd (.lst (ps.map pD)) = (pyds (ps.map pD)).map PyData.list from rfl, pyds_pairs, show pyd (.lst []) = some (.list []) from rfl]
  dsimp only [Option.map_some]
  rw [if_pos ⟨sh_pairs ps, sh_pairs []⟩]
  cases ps with
  | nil => simp [PyData.eqv, PyData.eqvAll]
  | cons p ps => simp [PyData.eqv, PyData.eqvAll]
/-- each row is told, or all its columns are -/
def isF (ns r c : List Int) : Bool := !(enumR 0 ns).any fun p => !memI (p.1 + 1) r && !((rngI 1 (p.2 + 1)).all fun x => memI x c)
/-! ### covers by the program -/
def covR : SM := 
  (sSeq (sFor (itEnum (lCons (eVar 0) lNil)) (gTp [(gNm 2), (gNm 3)])
  (sIf (tAnd_ (tVal (e2 (fB cNotIn) (e2 fAdd (eVar 2) (eCst (.int 1))) (eIdxN (eVar 1) (eCst (.int 0))))) (tNot_ (tVal (eB (f1 gAll) (rCons (eComp [4] (itRng (rCons (eCst (.int 1)) (rCons (e2 fAdd (eVar 3) (eCst (.int 1))) lNil))) (gNm 4) tTrue (e2 (fB cIn) (eVar 4) (eIdxN (eVar 1) (eCst (.int 1))))) lNil)))))
  (sRet (eCst (.bl false)))
  sNext))
  (sRet (eCst (.bl true))))
def s_cov : SpR1 covR (fun a : List Int × List Int × List Int => [Sl.val (T a.1), .val ((eP (eT D.int) (eT D.int)) a.2), .none, .none, .none]) D.bl .sh := ⟨_, fun a => (r_mix (m_for (Δ := fun st1 : Sl × Sl => [(Sl.val ((eT D.int) a.1)), (Sl.val ((eP (eT D.int) (eT D.int)) a.2)), st1.1, st1.2, Sl.none]) (Sl.none, Sl.none) rfl (i_enumT (t_var (eT D.int) rfl) (by decide)) (fun _ _ => rfl) (fun st1 x2 => (m_if (t_and (t_tval (t_2 y_ninT (t_2 y_addI (t_var D.int rfl) (t_cst D.int)) (t_fst0 (t_var (eP (eT D.int) (eT D.int)) rfl)))) (t_not (t_tval (t_b1 y_all (t_comp (i_rng2 (t_cst D.int) (t_2 y_addI (t_var D.int rfl) (t_cst D.int))) (fun _ => rfl) (fun x3 => t_true) (fun x3 => (t_2 y_inT (t_var D.int rfl) (t_fst1 (t_var (eP (eT D.int) (eT D.int)) rfl)))) (by decide)))))) (m_ret (r_ret (t_cst D.bl) (by decide))) (m_nx (n_map (fun _ => ((Sl.val (D.int x2.1)), (Sl.val (D.int x2.2)))) n_next (fun _ => rfl)))))) (fun st1 => (r_ret (t_cst D.bl) (by decide))))⟩
theorem RetR.run {α : Type} {s : SM} {δ : Slots} {e : α → D} {k : Kd} {r : Re α} {v : α} (h : RetR s δ e k r) (hr : r = .ok v) (b : Bx) : s δ b = .ret (e v) k b := by
  have := h b
  rw [hr] at this
  exact this
theorem ev_covR (ns r c : List Int) (h : ∀ n ∈ ns, 0 ≤ n ∧ n ≤ 1000) (b : Bx) : covR [Sl.val (T ns), .val (.tup [T r, T c]), .none, .none, .none] b = .ret (.bl (isF ns r c)) .sh b := by
  refine (s_cov.ok (ns, r, c)).run (v := isF ns r c) ?_ b
  unfold s_cov isF
  simp only [bindR_ok]
  rw [foldM_any (q := fun p : Int × Int => !memI (p.1 + 1) r && !((rngI 1 (p.2 + 1)).all fun x => memI x c)) (r := false) (g := fun _ p => (Sl.val (D.int p.1), Sl.val (D.int p.2))) fun st x hx => ?_]
  · cases (enumR 0 ns).any fun p => !memI (p.1 + 1) r && !((rngI 1 (p.2 + 1)).all fun x => memI x c) <;> rfl
  · obtain ⟨h0, h1⟩ := h _ (mem_enumR hx)
    obtain ⟨k, n⟩ := x
    dsimp only at h0 h1 ⊢
    cases hr : memI (k + 1) r with
    | true => rfl
    | false =>
      try dsimp only [Bool.not_false, cond_true]
      have e1' : (decide ((1 : Int) ≤ 1000000) && decide ((-1000000 : Int) ≤ 1) && (decide (n + 1 ≤ 1000000) && decide (-1000000 ≤ n + 1))) = true := by
        simp; omega
      have e2' : (rngI 1 (n + 1)).length.ble 1000000 = true := by rw [rngI_len]; exact Nat.ble_eq_true_of_le (by omega)
      have e3' := compR_ok (t := fun x12 => Re.ok true) (m := fun x : Int => Re.ok (memI x c)) (p := fun x => true) (g := fun x => memI x c) (xs := rngI 1 (n + 1)) (fun _ _ => rfl) (fun _ _ _ => rfl)
      rw [guard_ok e1', bindR_ok, guard_ok e2', e3']
      have e4 : (((rngI 1 (n + 1)).filter fun _ => true).map fun x => memI x c).all id = (rngI 1 (n + 1)).all fun x => memI x c := by
        rw [List.filter_eq_self.mpr (fun _ _ => rfl), List.all_map]; rfl
      dsimp only [Re.bind]
      rw [e4]
      cases (rngI 1 (n + 1)).all fun x => memI x c <;> rfl
theorem ev_covers (ns r c : List Int) (h : ∀ n ∈ ns, 0 ≤ n ∧ n ≤ 1000) (b : Bx) (h1 : f_is_set [T r, .int (ns.length : Nat)] b = .ok (.bl true) .sh b) (h2 : f_is_set [T c, .non] b = .ok (.bl true) .sh b) :
    f_covers [T ns, .tup [T r, T c]] b = .ok (.bl (isF ns r c)) .sh b := by
  have ht : f_is_tuple_of [.tup [T r, T c], .int 2] b = .ok (.bl true) .sh b :=
    fb_ret (st_ret (ev_and (t := true) (u := true) (k := .sh) rfl (fun _ => ev_2 (k := .sh) (ev_b1 (k := .sh) rfl rfl) (k2 := .sh) rfl (eq_ii 2 2)) (fun _ => rfl)) (by decide))
  have c1 : eCall f_is_tuple_of (lCons (eVar 1) (lCons (eCst (.int 2)) lNil)) [Sl.val (T ns), .val (.tup [T r, T c]), .none, .none, .none] b = .ok (.bl true) .sh b := call2 (k := .sh) rfl (by decide) (k2 := .sh) rfl (by decide) ht (by decide)
  have c2 : eCall f_is_set (lCons (eIdxN (eVar 1) (eCst (.int 0))) (lCons (eB fLen (rCons (eVar 0) lNil)) lNil)) [Sl.val (T ns), .val (.tup [T r, T c]), .none, .none, .none] b = .ok (.bl true) .sh b :=
    call2 (ev_idxN (k := .sh) rfl (k2 := .sh) rfl rfl) (by decide) (ev_b1 (k := .sh) rfl (len_T ns)) (by decide) h1 (by decide)
  have c3 : eCall f_is_set (lCons (eIdxN (eVar 1) (eCst (.int 1))) (lCons (eCst .non) lNil)) [Sl.val (T ns), .val (.tup [T r, T c]), .none, .none, .none] b = .ok (.bl true) .sh b :=
    call2 (ev_idxN (k := .sh) rfl (k2 := .sh) rfl rfl) (by decide) (k2 := .sh) rfl (by decide) h2 (by decide)
  exact fb_ret (st_seq (st_ifF (ev_tor (ev_tnot (ev_tval c1)) (fun _ => ev_tor (ev_tnot (ev_tval c2)) (fun _ => ev_tnot (ev_tval c3)) (fun _ => rfl)) (fun _ => rfl)) rfl) (ev_covR ns r c h b))
end Rk

namespace Rk
open PySem PySem.Spec L2

def bds : List (List Int) := (List.range 6).flatMap fun r => brds r 0 4
theorem mem_bds {ns : List Int} (hl : ns.length ≤ 5) (hp : ns.Pairwise (· ≤ ·)) (h0 : ∀ n ∈ ns, 0 ≤ n) (h4 : ∀ n ∈ ns, n ≤ 4) : ns ∈ bds :=
  List.mem_flatMap.mpr ⟨ns.length, List.mem_range.mpr (by omega), mem_brds ns.length 0 4 ns rfl hp fun x hx => ⟨by have := h0 x hx; omega, by have := h4 x hx; omega⟩⟩
def okI : Out → Bool
  | .ok (.int _) .sh _ => true
  | _ => false
theorem okI_run {f : FM} {ds : List D} (h : IF f) (e : okI (f ds b00) = true) : ∃ v : Int, ∀ b, f ds b = .ok (.int v) .sh b := by
  unfold okI at e
  split at e
  · rename_i v b1 q
    exact ⟨v, fun b => j_fn h ⟨b1, q⟩ b⟩
  · cases e
theorem tb_lz0 : ((bds.take 126).all fun ns => (List.range 7).all fun k => okI (f_laid_so_many [T ns, .int (k : Nat)] b00)) = true := by decide +kernel
theorem tb_lz1 : ((bds.drop 126).all fun ns => (List.range 7).all fun k => okI (f_laid_so_many [T ns, .int (k : Nat)] b00)) = true := by decide +kernel
theorem lz {ns : List Int} (h : ns ∈ bds) {k : Nat} (hk : k < 7) : ∃ v : Int, ∀ b, f_laid_so_many [T ns, .int (k : Nat)] b = .ok (.int v) .sh b :=
  okI_run j_f_laid_so_many (D_all (D_all (cut_all 126 tb_lz0 tb_lz1) h) (List.mem_range.mpr hk))
/-- a drawn BOARD -/
structure Dr (ns : List Int) : Prop where
  bd : isBd ns = true
  len : ns.length ≤ 5
  le : ∀ n ∈ ns, n ≤ 4
  pw : ns.Pairwise (· ≤ ·)
theorem Dr.mem {ns : List Int} (h : Dr ns) : ns ∈ bds := mem_bds h.len h.pw (isBd_pos h.bd) h.le
theorem Dr.isR {ns : List Int} (h : Dr ns) : isR ns = true := by
  unfold Rk.isR shK
  rw [h.bd, decide_eq_true h.len, Bool.true_and, Bool.true_and, List.all_eq_true]
  intro k hk
  have := h.le _ (getD_mem (List.mem_range.mp hk))
  exact decide_eq_true (by omega)
theorem ev_drawn (m : Int) (b : Bx) (hb : Bok m b) (hm : m ≤ 100000) {δ : Slots} (h0 : ∀ b, eVar 0 δ b = .ok .box .sh b) : ∃ ns b', eCall f__law_board (lCons (eVar 0) (lCons (eCall f__law_take (lCons (eVar 0) (lCons (eCst (.int 6)) lNil))) (lCons (eCst (.int 4)) lNil))) δ b = .ok (T ns) .sh b' ∧ Dr ns ∧ Bok (m + 7) b' := by
  obtain ⟨r, b1, ed1, r0, r7, hb1⟩ := ev_take m 6 b hb (by omega) (by omega) (by omega)
  obtain ⟨R, rfl⟩ := Int.eq_ofNat_of_zero_le r0
  obtain ⟨ns, b2, ed2, hl, hB, h4, hpw, hb2⟩ := ev_board (m + 1) R 4 b1 hb1 (by omega) (by omega) (by omega) (by omega)
  exact ⟨ns, b2, call3 (h0 b) (by decide) (call2 (h0 b) (by decide) (k2 := .sh) rfl (by decide) ed1 (by decide)) (by decide) (k3 := .sh) rfl (by decide) ed2 (by decide), ⟨hB, by omega, h4, hpw⟩, hb2.mono (by omega)⟩
theorem sec_b {ns : List Int} (hn : Dr ns) {r : SM} {m M : Int} {b : Bx} (hb : Bok m b) (hm : m ≤ 1000) (t : ∀ os b', Dr os → Bok (m + 7) b' → GoodA SC (mC (.val .box) (.val (T ns)) (.val (T os))) r b' M) :
    GoodA SP (mP (.val .box) (.val (T ns))) (sSeq q9 (sSeq q10 r)) b M := by
  refine ofP fun x2 x3 x4 x5 x6 x7 x8 x9 x10 x11 x12 x13 x15 x16 x17 x18 x19 x23 x24 x25 x26 x27 x28 x29 => ?_
  obtain ⟨os, b', e, ho, hb'⟩ := ev_drawn m b hb (by omega) (δ := [.val .box, .val (T ns), x2, x3, x4, x5, x6, x7, x8, x9, x10, x11, x12, x13, .none, x15, x16, x17, x18, x19, .none, .none, .none, x23, x24, x25, x26, x27, x28, x29]) fun b => rfl
  refine Good.seq (st_asg e rfl) ?_
  obtain ⟨δ', el, u, rfl⟩ := for_inv (F := fun i : Nat => D.int (0 + (i : Nat))) (g := gNm 11) (b := b') (body := (sFrz [1, 10] (sIf (tNot_ (tVal (eCall (f__law_same 8) (lCons (eCall f_is_unlike (lCons (eVar 1) (lCons (eVar 10) (lCons (eVar 11) lNil)))) (lCons (e2 (fB cNe) (eCall f_laid (lCons (eVar 1) (lCons (eVar 11) lNil))) (eCall f_laid (lCons (eVar 10) (lCons (eVar 11) lNil)))) lNil)))))
  (sRet (eCst (.bl false)))
  sNext)))
    (fun _ δ => ∃ u : Sl, δ = [.val .box, .val (T ns), x2, x3, x4, x5, x6, x7, x8, x9, .val (T os), u, x12, x13, .none, x15, x16, x17, x18, x19, .none, .none, .none, x23, x24, x25, x26, x27, x28, x29]) (List.range 7) 0 [.val .box, .val (T ns), x2, x3, x4, x5, x6, x7, x8, x9, .val (T os), x11, x12, x13, .none, x15, x16, x17, x18, x19, .none, .none, .none, x23, x24, x25, x26, x27, x28, x29] ⟨_, rfl⟩ fun i x δ hx hp => by
      obtain ⟨u, rfl⟩ := hp
      have hi : i < 7 := by
        rcases Nat.lt_or_ge i 7 with q | q
        · exact q
        · rw [List.getElem?_eq_none (by rw [List.length_range]; exact q)] at hx; cases hx
      rw [List.getElem?_range hi] at hx
      obtain rfl := Option.some.inj hx
      rw [Int.zero_add]
      obtain ⟨v, hv⟩ := lz hn.mem hi
      obtain ⟨w, hw⟩ := lz ho.mem hi
      have fr := ev_is_from (i : Nat) 0 b'
      rw [decide_eq_true (by omega)] at fr
      have un : f_is_unlike [T ns, T os, .int (i : Nat)] b' = .ok (.bl (!decide (v = w))) .sh b' :=
        fb_ret (st_seq (st_par2 (k := .sh) (k' := .sh) (call1 (k := .sh) rfl (by decide) (ev_sure_board ns hn.bd b') (by decide)) (call1 (k := .sh) rfl (by decide) (ev_sure_board os ho.bd b') (by decide)) rfl rfl) (st_frz (st_ret (ev_and3 (t := true) (call2 (k := .sh) rfl (by decide) (k2 := .sh) rfl (by decide) fr (by decide)) (ev_2 (call2 (k := .sh) rfl (by decide) (k2 := .sh) rfl (by decide) (hv b') (by decide)) (call2 (k := .sh) rfl (by decide) (k2 := .sh) rfl (by decide) (hw b') (by decide)) (y_neI v w))) (by decide))))
      have ld : ∀ zs (z : Int), isBd zs = true → f_laid_so_many [T zs, .int (i : Nat)] b' = .ok (.int z) .sh b' → f_laid [T zs, .int (i : Nat)] b' = .ok (.int z) .sh b' := fun zs z hz e =>
        fb_ret (st_seq (st_asg (k := .sh) (call1 (k := .sh) rfl (by decide) (ev_sure_board zs hz b') (by decide)) rfl) (st_seq (st_exp (call1 (call2 (k := .sh) rfl (by decide) (k2 := .sh) rfl (by decide) fr (by decide)) (by decide) (ev_sure_ok rfl b') (by decide))) (st_frz (st_ret (call2 (k := .sh) rfl (by decide) (k2 := .sh) rfl (by decide) e (by decide)) (by decide)))))
      exact ⟨[.val .box, .val (T ns), x2, x3, x4, x5, x6, x7, x8, x9, .val (T os), .val (.int (i : Nat)), x12, x13, .none, x15, x16, x17, x18, x19, .none, .none, .none, x23, x24, x25, x26, x27, x28, x29], _, rfl, st_frz (st_check (same_ok (d := .bl (!decide (v = w))) (call3 (k := .sh) rfl (by decide) (k2 := .sh) rfl (by decide) (k3 := .sh) rfl (by decide) un (by decide)) (by decide) (ev_2 (call2 (k := .sh) rfl (by decide) (k2 := .sh) rfl (by decide) (ld ns v hn.bd (hv b')) (by decide)) (call2 (k := .sh) rfl (by decide) (k2 := .sh) rfl (by decide) (ld os w ho.bd (hw b')) (by decide)) (y_neI v w)) (by decide) rfl)), _, rfl⟩
  refine Good.seq (st_for (it_rng1 (n := 7) (k := .sh) rfl (by omega) (by omega)) el) ?_
  exact toC (t os b' ho hb') ..
theorem ev_is_laying_with {ns l : List Int} (hB : isBd ns = true) (h : Lay ns l) (k : Nat) (b : Bx) : f_is_laying_with [T ns, .int (k : Nat), T l] b = .ok (.bl (decide (((pcs l : Nat) : Int) = (k : Nat)))) .sh b := by
  have hl := isBd_len hB
  have hll := h.len
  have fr := ev_is_from (k : Nat) 0 b
  rw [decide_eq_true (by omega)] at fr
  have e : f_count_pieces [T l] b = .ok (.int (pcs l : Nat)) .sh b :=
    fb_ret (st_ret (ev_b1 (ev_cf (fun x => decide (0 < x)) D.int (it_seq (k := .sh) (d := T l) rfl (by decide) rfl) (by omega) (fun x _ => ev_tval (ev_2 (k := .sh) rfl (k2 := .sh) rfl rfl)) (fun x _ _ => rfl)) (len_L _)) (by decide))
  exact fb_ret (st_seq (st_asg (k := .sh) (call1 (k := .sh) rfl (by decide) (ev_sure_board ns hB b) (by decide)) rfl) (st_seq (st_exp (call1 (call2 (k := .sh) rfl (by decide) (k2 := .sh) rfl (by decide) fr (by decide)) (by decide) (ev_sure_ok rfl b) (by decide))) (st_frz (st_ret (ev_and3 (t := true) (call2 (k := .sh) rfl (by decide) (k2 := .sh) rfl (by decide) (ev_is_laid h (by omega) b) (by decide)) (ev_2 (call1 (k := .sh) rfl (by decide) e (by decide)) (k2 := .sh) rfl (eq_ii _ _))) (by decide)))))
theorem ev_is_laying_withL {ns l : List Int} (hB : isBd ns = true) (k : Nat) (b : Bx) : f_is_laying_with [T ns, .int (k : Nat), Ls l] b = .ok (.bl false) .sh b := by
  have fr := ev_is_from (k : Nat) 0 b
  rw [decide_eq_true (by omega)] at fr
  have e1 : f_is_tuple_of [Ls l, .int (ns.length : Nat)] b = .ok (.bl false) .sh b := by
    refine fb_ret (st_ret (k := .sh) ?_ (by decide))
    exact ev_and (t := false) (u := true) (k := .sh) rfl (fun h => nomatch h) (fun _ => rfl)
  have e2' : f_is_laid [T ns, Ls l] b = .ok (.bl false) .sh b := fb_ret (st_seqR (st_ifT (ev_tnot (ev_tval (call2 (k := .sh) rfl (by decide) (ev_b1 (k := .sh) (A := eVar 0) rfl (len_T ns)) (by decide) e1 (by decide)))) rfl))
  refine fb_ret (st_seq (st_asg (k := .sh) (call1 (k := .sh) rfl (by decide) (ev_sure_board ns hB b) (by decide)) rfl) (st_seq (st_exp (call1 (call2 (k := .sh) rfl (by decide) (k2 := .sh) rfl (by decide) fr (by decide)) (by decide) (ev_sure_ok rfl b) (by decide))) (st_frz (st_ret (k := .sh) ?_ (by decide)))))
  exact ev_and (t := false) (u := true) (k := .sh) (call2 (k := .sh) rfl (by decide) (k2 := .sh) rfl (by decide) e2' (by decide)) (fun h => nomatch h) (fun _ => rfl)
theorem sec_c {ns os : List Int} (hn : Dr ns) {r : SM} {m M : Int} {b : Bx} (hb : Bok m b) (hm : m ≤ 900) (t : ∀ b', Bok (m + 20) b' → GoodA SC (mC (.val .box) (.val (T ns)) (.val (T os))) r b' M) :
    GoodA SC (mC (.val .box) (.val (T ns)) (.val (T os))) (sSeq q11 (sSeq q12 (sSeq q13 (sSeq q14 r)))) b M := by
  refine ofC fun x2 x3 x4 x5 x6 x7 x8 x9 x11 x12 x13 x15 x16 x17 x18 x19 x23 x24 x25 x26 x27 x28 x29 => ?_
  obtain ⟨l, b1, el, hL, hb1⟩ := ev_laying hn.bd (fun n h => by have := hn.le n h; omega) m b hb (by omega)
  obtain ⟨k, b2, ek, k0, k5, hb2⟩ := ev_take (m + 10) 5 b1 hb1 (by omega) (by omega) (by omega)
  obtain ⟨K, rfl⟩ := Int.eq_ofNat_of_zero_le k0
  have hll := hL.len
  have hl := isBd_len hn.bd
  refine Good.seq (st_frz (st_par2 (δ1 := [.val .box, .val (T ns), x2, x3, x4, x5, x6, x7, x8, x9, .val (T os), x11, .val (T l), x13, .none, x15, x16, x17, x18, x19, .none, .none, .none, x23, x24, x25, x26, x27, x28, x29]) (δ2 := [.val .box, .val (T ns), x2, x3, x4, x5, x6, x7, x8, x9, .val (T os), .val (.int (K : Nat)), .val (T l), x13, .none, x15, x16, x17, x18, x19, .none, .none, .none, x23, x24, x25, x26, x27, x28, x29]) (k := .sh) (k' := .sh) (call2 (k := .sh) rfl (by decide) (k2 := .sh) rfl (by decide) el (by decide)) (call2 (k := .sh) rfl (by decide) (k2 := .sh) rfl (by decide) ek (by decide)) rfl rfl)) ?_
  refine Good.seq (st_frz (st_asg (δ1 := [.val .box, .val (T ns), x2, x3, x4, x5, x6, x7, x8, x9, .val (T os), .val (.int (K : Nat)), .val (T l), .val (.int (pcs l : Nat)), .none, x15, x16, x17, x18, x19, .none, .none, .none, x23, x24, x25, x26, x27, x28, x29]) (k := .sh) (ev_b1 (ev_cf (fun x => decide (0 < x)) D.int (it_seq (k := .sh) (d := T l) rfl (by decide) rfl) (by omega) (fun x _ => ev_tval (ev_2 (k := .sh) rfl (k2 := .sh) rfl rfl)) (fun x _ _ => rfl)) (len_L _)) rfl)) ?_
  have g1 := ev_is_laying_with hn.bd hL K b2
  have g2 := ev_is_laying_with hn.bd hL (pcs l) b2
  rw [decide_eq_true rfl] at g2
  have g3 := ev_is_laying_withL (l := l) hn.bd (pcs l) b2
  refine Good.seq (st_frz (st_asg (δ1 := [.val .box, .val (T ns), x2, x3, x4, x5, x6, x7, .own [.bl (decide (((pcs l : Nat) : Int) = (K : Nat))), .bl true, .bl false], x9, .val (T os), .val (.int (K : Nat)), .val (T l), .val (.int (pcs l : Nat)), .none, x15, x16, x17, x18, x19, .none, .none, .none, x23, x24, x25, x26, x27, x28, x29]) (k := .fr) (eLst3 (call3 (k := .sh) rfl (by decide) (k2 := .sh) rfl (by decide) (k3 := .sh) rfl (by decide) g1 (by decide)) (by decide) (call3 (k := .sh) rfl (by decide) (k2 := .sh) rfl (by decide) (k3 := .sh) rfl (by decide) g2 (by decide)) (by decide) (call3 (k := .sh) rfl (by decide) (k2 := .sh) rfl (by decide) (ev_b1 (k := .sh) (k3 := .fr) (x := T l) rfl (y_lstT l)) (by decide) g3 (by decide)) (by decide)) rfl)) ?_
  have e11 := eq_ii ((K : Nat) : Int) ((pcs l : Nat) : Int)
  rw [show decide (((K : Nat) : Int) = ((pcs l : Nat) : Int)) = decide (((pcs l : Nat) : Int) = ((K : Nat) : Int)) by simp [eq_comm]] at e11
  refine Good.seq (st_frz (st_check (δ := [.val .box, .val (T ns), x2, x3, x4, x5, x6, x7, .val (.lst [.bl (decide (((pcs l : Nat) : Int) = (K : Nat))), .bl true, .bl false]), x9, .val (T os), .val (.int (K : Nat)), .val (T l), .val (.int (pcs l : Nat)), .none, x15, x16, x17, x18, x19, .none, .none, .none, x23, x24, x25, x26, x27, x28, x29]) (same_ok (k := .sh) rfl (by decide) (eLst3 (ev_2 (k := .sh) rfl (k2 := .sh) rfl e11) (by decide) (k2 := .sh) rfl (by decide) (k3 := .sh) rfl (by decide)) (by decide) rfl))) ?_
  exact toC (t b2 (hb2.mono (by omega))) ..
end Rk

namespace Rk
open PySem PySem.Spec L2

theorem tb_set1 : ((List.range 6).all fun k => (subs (rngI 1 ((k : Nat) + 1))).all fun r => okDB (.bl true) .sh (f_is_set [T r, .int (k : Nat)] b00)) = true := by decide +kernel
theorem tb_set2 : ((List.range 5).all fun w => okDB (.bl true) .sh (f_is_set [T (rngI 1 ((w : Nat) + 1)), .non] b00) && okDB (.bl true) .sh (f_is_set [T ((rngI 1 ((w : Nat) + 1)).drop 1), .non] b00)) = true := by decide +kernel
/-- lengths of the rows that are not told -/
def flP (ns rs : List Int) : List Int := (((enumR 0 ns).filter fun p => !memI (p.1 + 1) rs).map fun p => p.2)
theorem maxI_up : ∀ {l : List Int} {x : Int}, x ∈ l → x ≤ maxI l
  | [a], x, h => by rw [List.mem_singleton.mp h]; exact Int.le_refl _
  | a :: c :: r, x, h => by
    show x ≤ max a (maxI (c :: r))
    rcases List.mem_cons.mp h with rfl | h
    · exact Int.le_max_left _ _
    · exact Int.le_trans (maxI_up h) (Int.le_max_right _ _)
theorem maxI_in : ∀ {l : List Int}, l ≠ [] → maxI l ∈ l
  | [], h => absurd rfl h
  | [a], _ => List.mem_singleton.mpr rfl
  | a :: c :: r, _ => by
    show max a (maxI (c :: r)) ∈ a :: c :: r
    rcases Int.le_total a (maxI (c :: r)) with h | h
    · rw [Int.max_eq_right h]; exact List.mem_cons_of_mem _ (maxI_in (by simp))
    · rw [Int.max_eq_left h]; exact List.mem_cons_self
def wdP (ns rs : List Int) : Int := maxI (flP ns rs ++ [0])
theorem wdP_ge (ns rs : List Int) : 0 ≤ wdP ns rs := maxI_up (List.mem_append_right _ (List.mem_singleton.mpr rfl))
theorem wdP_le {ns rs : List Int} (h : ∀ n ∈ ns, n ≤ 4) : wdP ns rs ≤ 4 := by
  rcases List.mem_append.mp (maxI_in (l := flP ns rs ++ [0]) (by simp)) with q | q
  · obtain ⟨p, hp, e⟩ := List.mem_map.mp q
    unfold wdP
    rw [← e]
    exact h _ (mem_enumR (List.mem_filter.mp hp).1)
  · unfold wdP
    rw [List.mem_singleton.mp q]; omega
theorem wdP_all {ns rs : List Int} {p : Int × Int} (hp : p ∈ enumR 0 ns) (h : memI (p.1 + 1) rs = false) : p.2 ≤ wdP ns rs :=
  maxI_up (List.mem_append_left _ (List.mem_map.mpr ⟨p, List.mem_filter.mpr ⟨hp, by rw [h]; rfl⟩, rfl⟩))
theorem cov_yes (ns rs : List Int) : isF ns rs (rngI 1 (wdP ns rs + 1)) = true := by
  unfold isF
  rw [Bool.not_eq_true', List.any_eq_false]
  intro p hp
  cases hm : memI (p.1 + 1) rs with
  | true => simp
  | false =>
    have := wdP_all hp hm
    have e : ((rngI 1 (p.2 + 1)).all fun x => memI x (rngI 1 (wdP ns rs + 1))) = true := List.all_eq_true.mpr fun x hx => memI_iff.mpr (by
      have := mem_rngI.mp hx
      exact mem_rngI.mpr ⟨this.1, by omega⟩)
    rw [e]; simp
theorem drop1_rng (w : Int) : (rngI 1 (w + 1)).drop 1 = rngI 2 (w + 1) := by
  unfold rngI
  rw [← List.map_drop]
  rcases Int.le_total w 0 with h | h
  · rw [show (w + 1 - 1).toNat = 0 by omega, show (w + 1 - 2).toNat = 0 by omega]; rfl
  · apply List.ext_getElem?
    intro i
    rw [List.getElem?_map, List.getElem?_drop, List.getElem?_map]
    by_cases q : i < (w + 1 - 2).toNat
    · rw [List.getElem?_range (by omega), List.getElem?_range q]
      simp only [Option.map_some]
      congr 1
      omega
    · rw [List.getElem?_eq_none (by rw [List.length_range]; omega), List.getElem?_eq_none (by rw [List.length_range]; omega)]
      rfl
theorem cov_no (ns rs : List Int) : isF ns rs ((rngI 1 (wdP ns rs + 1)).drop 1) = decide (wdP ns rs = 0) := by
  rw [drop1_rng]
  have h0 := wdP_ge ns rs
  by_cases hw : wdP ns rs = 0
  · rw [decide_eq_true hw]
    unfold isF
    rw [Bool.not_eq_true', List.any_eq_false]
    intro p hp
    cases hm : memI (p.1 + 1) rs with
    | true => simp
    | false =>
      have := wdP_all hp hm
      have e : rngI 1 (p.2 + 1) = [] := by unfold rngI; rw [show (p.2 + 1 - 1).toNat = 0 by omega]; rfl
      rw [e]; simp
  · rw [decide_eq_false hw]
    unfold isF
    rw [Bool.not_eq_false', List.any_eq_true]
    rcases List.mem_append.mp (maxI_in (l := flP ns rs ++ [0]) (by simp)) with q | q
    · obtain ⟨p, hp, e⟩ := List.mem_map.mp q
      obtain ⟨h1, h2⟩ := List.mem_filter.mp hp
      refine ⟨p, h1, ?_⟩
      rw [h2, Bool.true_and, Bool.not_eq_true', List.all_eq_false]
      have e' : p.2 = wdP ns rs := e
      refine ⟨1, mem_rngI.mpr ⟨Int.le_refl _, by omega⟩, fun hm => ?_⟩
      have := mem_rngI.mp (memI_iff.mp hm)
      omega
    · exact absurd (List.mem_singleton.mp q) hw
theorem ev_short {ns rs cs : List Int} {k : Int} (hB : isBd ns = true) (h6 : ∀ n ∈ ns, n ≤ 100) (hk : 0 ≤ k) (b : Bx) (h1 : f_is_set [T rs, .int (ns.length : Nat)] b = .ok (.bl true) .sh b) (h2 : f_is_set [T cs, .non] b = .ok (.bl true) .sh b) :
    f_is_short_cover [T ns, .int k, .tup [T rs, T cs]] b = .ok (.bl (isF ns rs cs && decide (((rs.length : Nat) : Int) + ((cs.length : Nat) : Int) < k))) .sh b := by
  have fr := ev_is_from k 0 b
  rw [decide_eq_true hk] at fr
  have cv := ev_covers ns rs cs (fun n hn => ⟨isBd_pos hB n hn, by have := h6 n hn; omega⟩) b h1 h2
  have ln : f_lines_of [.tup [T rs, T cs]] b = .ok (.int (((rs.length : Nat) : Int) + ((cs.length : Nat) : Int))) .sh b :=
    fb_ret (st_ret (ev_2 (f := fAdd) (ev_b1 (ev_idxN (k := .sh) (i := 0) (x := T rs) rfl (k2 := .sh) rfl rfl) (len_T rs)) (ev_b1 (ev_idxN (k := .sh) (i := 1) (x := T cs) rfl (k2 := .sh) rfl rfl) (len_T cs)) rfl) (by decide))
  exact fb_ret (st_seq (st_asg (k := .sh) (call1 (k := .sh) rfl (by decide) (ev_sure_board ns hB b) (by decide)) rfl) (st_seq (st_exp (call1 (call2 (k := .sh) rfl (by decide) (k2 := .sh) rfl (by decide) fr (by decide)) (by decide) (ev_sure_ok rfl b) (by decide))) (st_frz (st_ret (ev_and3 (call2 (k := .sh) rfl (by decide) (k2 := .sh) rfl (by decide) cv (by decide)) (ev_2 (call1 (k := .sh) rfl (by decide) ln (by decide)) (k2 := .sh) rfl rfl)) (by decide)))))
theorem sec_d {ns os : List Int} (hn : Dr ns) {r : SM} {m M : Int} {b : Bx} (hb : Bok m b) (hm : m ≤ 900) (t : ∀ b', Bok (m + 100) b' → GoodA SC (mC (.val .box) (.val (T ns)) (.val (T os))) r b' M) :
    GoodA SC (mC (.val .box) (.val (T ns)) (.val (T os))) (sSeq q15 (sSeq q16 (sSeq q17 (sSeq q18 (sSeq q19 (sSeq q20 (sSeq q21 r))))))) b M := by
  have hl := isBd_len hn.bd
  have h6 : ∀ n ∈ ns, n ≤ 100 := fun n h => by have := hn.le n h; omega
  have hl5 := hn.len
  refine GoodA.pick (S' := SD) (hi := (ns.length : Int) + 1) hb (by omega) (fun δ a => ?_) (by omega) (by omega) (by show 14 < 30; omega) (fun δ a x m b hb hm => ?_) (by decide) fun rs b1 hrs hb1 => ?_
  · exact ev_2 (ev_b1 (eVar_ag a (i := 1) (d := T ns) (by decide) rfl b) (len_T ns)) (k2 := .sh) rfl rfl
  · obtain ⟨v, b', e, _, _, hb'⟩ := ev_take m 2 b hb hm (by omega) (by omega)
    have x0 : eVar 0 ((wipeD δ [14]).set 14 (.val (.int x))) b = .ok .box .sh b := by
      unfold eVar
      rw [List.getElem?_set_ne (by decide)]
      show (match (δ.set 14 Sl.none)[0]? with | some (.val d) => Out.ok d .sh b | some (.own ds) => Out.ok (.lst ds) .bo b | _ => Out.bad) = _
      rw [List.getElem?_set_ne (by decide), ← a.2 0 (by decide)]; rfl
    exact ⟨_, b', ev_tval (ev_2 (call2 x0 (by decide) (k2 := .sh) rfl (by decide) e (by decide)) (k2 := .sh) rfl (eq_ii v 0)), hb'⟩
  refine (?_ : GoodA SD (mD (.val .box) (.val (T ns)) (.val (T os)) (.val (T rs))) _ b1 M)
  refine ofD fun x2 x3 x4 x5 x6 x7 x8 x9 x11 x12 x13 x16 x17 x18 x19 x23 x24 x25 x26 x27 x28 x29 => ?_
  have w0 := wdP_ge ns rs
  have w4 := wdP_le (rs := rs) hn.le
  obtain ⟨w, ew⟩ := Int.eq_ofNat_of_zero_le w0
  have s1 := fun b => okDB_run j_f_is_set (D_all (D_all tb_set1 (List.mem_range.mpr (show ns.length < 6 by omega))) (mem_subs hrs)) b
  have s23 := D_all tb_set2 (List.mem_range.mpr (show w < 5 by omega))
  rw [Bool.and_eq_true] at s23
  have s2 := fun b => okDB_run j_f_is_set s23.1 b
  have s3 := fun b => okDB_run j_f_is_set s23.2 b
  rw [← ew] at s2 s3
  have flen : (enumR 0 ns).length ≤ 100 := by
    have : ∀ (l : List Int) (i : Nat), (enumR i l).length = l.length := fun l => by
      induction l with
      | nil => intro i; rfl
      | cons x xs ih => intro i; show (_ :: enumR (i + 1) xs).length = _; rw [List.length_cons, ih, List.length_cons]
    rw [this]; omega
  have c16 : eComp [14, 29] (itEnum (lCons (eVar 1) lNil)) (gTp [(gNm 14), (gNm 29)]) (tVal (e2 (fB cNotIn) (e2 fAdd (eVar 14) (eCst (.int 1))) (eVar 15))) (eVar 29) [.val .box, .val (T ns), x2, x3, x4, x5, x6, x7, x8, x9, .val (T os), x11, x12, x13, .none, .val (T rs), x16, x17, x18, x19, .none, .none, .none, x23, x24, x25, x26, x27, x28, x29] b1 = .ok (Ls (flP ns rs)) .fr b1 := by
    have it : itEnum (lCons (eVar 1) lNil) [.val .box, .val (T ns), x2, x3, x4, x5, x6, x7, x8, x9, .val (T os), x11, x12, x13, .none, .val (T rs), x16, x17, x18, x19, .none, .none, .none, x23, x24, x25, x26, x27, x28, x29] b1 = .ok ((enumR 0 ns).map (eP D.int D.int)) b1 := by
      unfold itEnum
      rw [ev_lc (A := eVar 1) (x := T ns) (k := .sh) (b1 := b1) rfl (by decide) ev_l0]
      dsimp only
      rw [show toItems (T ns) = some (ns.map D.int) from rfl]
      dsimp only
      rw [enumR_D D.int 0 ns]
    have q := eComp_filter (vs := [14, 29]) (g := gTp [(gNm 14), (gNm 29)]) (t := tVal (e2 (fB cNotIn) (e2 fAdd (eVar 14) (eCst (.int 1))) (eVar 15))) (m := eVar 29) (eP D.int D.int) (fun p : Int × Int => D.int p.2) (fun p => !memI (p.1 + 1) rs) it (by omega) fun p hp => ⟨_, rfl, nin_T (ev_2 (f := fAdd) (k := .sh) (x := .int p.1) rfl (k2 := .sh) (y := .int 1) rfl rfl) (k2 := .sh) rfl, fun _ => ⟨.sh, rfl, by decide⟩⟩
    rw [q]
    unfold flP
    show Out.ok (.lst _) .fr b1 = .ok (.lst (List.map _ (List.map _ _))) .fr b1
    rw [List.map_map]; rfl
  have hfl : (flP ns rs).length ≤ 100 := by
    unfold flP
    rw [List.length_map]
    exact Nat.le_trans (List.length_filter_le ..) flen
  have mx : f1 gMax [Ls (flP ns rs ++ [0])] = some (.int (wdP ns rs), .sh) := by
    show intsNe maxI ((flP ns rs ++ [0]).map D.int) = _
    unfold intsNe
    rw [intsD_map]
    cases q : flP ns rs ++ [0] with
    | nil => simp at q
    | cons a l =>
      unfold wdP
      rw [q]
  refine Good.seq (st_frz (st_asg (δ1 := [.val .box, .val (T ns), x2, x3, x4, x5, x6, x7, x8, x9, .val (T os), x11, x12, x13, .none, .val (T rs), .val (.int (wdP ns rs)), x17, x18, x19, .none, .none, .none, x23, x24, x25, x26, x27, x28, x29]) (k := .sh) (ev_b1 (ev_2 (f := fAdd) c16 (ev_lst (ev_lc (k := .sh) rfl (by decide) rfl) (by show 1 ≤ 1000; omega)) (d := Ls (flP ns rs ++ [0])) (k3 := .fr) (by rw [add_L (by rw [List.length_map]; simp; omega), show (flP ns rs).map D.int ++ [D.int 0] = (flP ns rs ++ [0]).map D.int by rw [List.map_append]; rfl])) mx) rfl)) ?_
  refine Good.seq (st_asg (δ1 := [.val .box, .val (T ns), x2, x3, x4, x5, x6, x7, x8, x9, .val (T os), x11, x12, x13, .none, .val (T rs), .val (.int (wdP ns rs)), .val (T (rngI 1 (wdP ns rs + 1))), x18, x19, .none, .none, .none, x23, x24, x25, x26, x27, x28, x29]) (k := .sh) (ev_rngT (k := .sh) (i := 1) rfl (ev_2 (f := fAdd) (k := .sh) (x := .int (wdP ns rs)) rfl (k2 := .sh) (y := .int 1) rfl rfl) (by unfold rgOk; simp; omega)) rfl) ?_
  refine Good.seq (st_asg (δ1 := [.val .box, .val (T ns), x2, x3, x4, x5, x6, x7, x8, x9, .val (T os), x11, x12, x13, .none, .val (T rs), .val (.int (wdP ns rs)), .val (T (rngI 1 (wdP ns rs + 1))), .val (.int (((rs.length : Nat) : Int) + wdP ns rs)), x19, .none, .none, .none, x23, x24, x25, x26, x27, x28, x29]) (k := .sh) (ev_2 (f := fAdd) (ev_b1 (k := .sh) (A := eVar 15) rfl (len_T rs)) (k2 := .sh) (y := .int (wdP ns rs)) rfl rfl) rfl) ?_
  have rl : ((rngI 1 (wdP ns rs + 1)).length : Int) = wdP ns rs := by rw [rngI_len]; omega
  have g1 := ev_short (k := ((rs.length : Nat) : Int) + wdP ns rs + 1) hn.bd h6 (by omega) b1 (s1 b1) (s2 b1)
  rw [cov_yes, rl, decide_eq_true (by omega), Bool.and_self] at g1
  have g2 := ev_short (k := ((rs.length : Nat) : Int) + wdP ns rs) hn.bd h6 (by omega) b1 (s1 b1) (s2 b1)
  rw [cov_yes, rl, decide_eq_false (by omega), Bool.and_false] at g2
  have hrl : rs.length ≤ 10 := by
    have := hrs.length_le
    rw [rngI_len] at this
    omega
  have g3 := ev_short (k := 99) hn.bd h6 (by omega) b1 (s1 b1) (s3 b1)
  rw [cov_no, decide_eq_true (show ((rs.length : Nat) : Int) + ((((rngI 1 (wdP ns rs + 1)).drop 1).length : Nat) : Int) < 99 by rw [List.length_drop]; omega), Bool.and_true] at g3
  have tp : eTup (lCons (eVar 15) (lCons (eVar 17) lNil)) [.val .box, .val (T ns), x2, x3, x4, x5, x6, x7, x8, x9, .val (T os), x11, x12, x13, .none, .val (T rs), .val (.int (wdP ns rs)), .val (T (rngI 1 (wdP ns rs + 1))), .val (.int (((rs.length : Nat) : Int) + wdP ns rs)), x19, .none, .none, .none, x23, x24, x25, x26, x27, x28, x29] b1 = .ok (.tup [T rs, T (rngI 1 (wdP ns rs + 1))]) .sh b1 := ev_tup (ev_lc (k := .sh) rfl (by decide) (ev_lc (k := .sh) rfl (by decide) rfl)) (by show 2 ≤ 1000; omega)
  refine Good.seq (st_frz (st_asg (δ1 := [.val .box, .val (T ns), x2, x3, x4, x5, x6, x7, .own [.bl true, .bl false], x9, .val (T os), x11, x12, x13, .none, .val (T rs), .val (.int (wdP ns rs)), .val (T (rngI 1 (wdP ns rs + 1))), .val (.int (((rs.length : Nat) : Int) + wdP ns rs)), x19, .none, .none, .none, x23, x24, x25, x26, x27, x28, x29]) (k := .fr) (eLst2 (call3 (k := .sh) rfl (by decide) (ev_2 (f := fAdd) (k := .sh) (x := .int (((rs.length : Nat) : Int) + wdP ns rs)) rfl (k2 := .sh) (y := .int 1) rfl rfl) (by decide) tp (by decide) g1 (by decide)) (by decide) (call3 (k := .sh) rfl (by decide) (k2 := .sh) rfl (by decide) tp (by decide) g2 (by decide)) (by decide)) rfl)) ?_
  have sl : eSl (eVar 17) (some (eCst (.int 1))) none [.val .box, .val (T ns), x2, x3, x4, x5, x6, x7, .own [.bl true, .bl false], x9, .val (T os), x11, x12, x13, .none, .val (T rs), .val (.int (wdP ns rs)), .val (T (rngI 1 (wdP ns rs + 1))), .val (.int (((rs.length : Nat) : Int) + wdP ns rs)), x19, .none, .none, .none, x23, x24, x25, x26, x27, x28, x29] b1 = .ok (T ((rngI 1 (wdP ns rs + 1)).drop 1)) .sh b1 := by
    have := ev_sl1 (A := eVar 17) (I := eCst (.int 1)) (δ := [.val .box, .val (T ns), x2, x3, x4, x5, x6, x7, .own [.bl true, .bl false], x9, .val (T os), x11, x12, x13, .none, .val (T rs), .val (.int (wdP ns rs)), .val (T (rngI 1 (wdP ns rs + 1))), .val (.int (((rs.length : Nat) : Int) + wdP ns rs)), x19, .none, .none, .none, x23, x24, x25, x26, x27, x28, x29]) (b := b1) (b1 := b1) (b2 := b1) (k := .sh) (ds := (rngI 1 (wdP ns rs + 1)).map D.int) (k2 := .sh) rfl rfl
    rw [this, ← List.map_drop]
  refine Good.seq (st_frz (st_app (k := .sh) (ds := [.bl true, .bl false]) (call3 (k := .sh) rfl (by decide) (k2 := .sh) rfl (by decide) (ev_tup (ev_lc (k := .sh) rfl (by decide) (ev_lc sl (by decide) rfl)) (by show 2 ≤ 1000; omega)) (by decide) g3 (by decide)) (by decide) rfl (by show 2 ≤ 1000000; omega))) ?_
  refine Good.seq (st_frz (st_check (δ := [.val .box, .val (T ns), x2, x3, x4, x5, x6, x7, .val (.lst [.bl true, .bl false, .bl (decide (wdP ns rs = 0))]), x9, .val (T os), x11, x12, x13, .none, .val (T rs), .val (.int (wdP ns rs)), .val (T (rngI 1 (wdP ns rs + 1))), .val (.int (((rs.length : Nat) : Int) + wdP ns rs)), x19, .none, .none, .none, x23, x24, x25, x26, x27, x28, x29]) (same_ok (k := .sh) rfl (by decide) (eLst3 (k1 := .sh) rfl (by decide) (k2 := .sh) rfl (by decide) (ev_2 (k := .sh) rfl (k2 := .sh) rfl (eq_ii (wdP ns rs) 0)) (by decide)) (by decide) rfl))) ?_
  exact toC (t b1 (hb1.mono (by omega))) ..
end Rk

namespace Rk
open PySem PySem.Spec L2

/-! ### webs -/
def webs : Nat → List (List Int)
  | 0 => [[]]
  | k + 1 => (webs k).flatMap fun w => ((List.range (k + 1)).filter fun v => decide (w.getLastD 0 ≤ ((v : Nat) : Int))).map fun v => w ++ [((v : Nat) : Int)]
theorem webs_ok : ∀ (k : Nat) (w : List Int), w ∈ webs k → w.length = k ∧ 0 ≤ w.getLastD 0 ∧ w.getLastD 0 ≤ ((k : Nat) : Int)
  | 0, w, h => by rw [List.mem_singleton.mp h]; exact ⟨rfl, Int.le_refl _, Int.le_refl _⟩
  | k + 1, w, h => by
    unfold webs at h
    obtain ⟨w', h1, h2⟩ := List.mem_flatMap.mp h
    obtain ⟨v, h3, rfl⟩ := List.mem_map.mp h2
    have := webs_ok k w' h1
    have hv := List.mem_range.mp (List.mem_filter.mp h3).1
    refine ⟨by rw [List.length_append, this.1]; rfl, ?_, ?_⟩ <;> rw [List.getLastD_eq_getLast?, List.getLast?_append] <;> simp <;> omega
theorem webs_snoc {k : Nat} {w : List Int} (h : w ∈ webs k) {v : Int} (h1 : w.getLastD 0 ≤ v) (h2 : v ≤ ((k : Nat) : Int)) : w ++ [v] ∈ webs (k + 1) := by
  have := webs_ok k w h
  unfold webs
  refine List.mem_flatMap.mpr ⟨w, h, List.mem_map.mpr ⟨v.toNat, List.mem_filter.mpr ⟨List.mem_range.mpr (by omega), decide_eq_true (by omega)⟩, ?_⟩⟩
  rw [show ((v.toNat : Nat) : Int) = v by omega]
def bdB : SM := (sSeq (sAsg 4 (eIf (tVal (e2 (fB cNe) (eVar 2) (eLst lNil))) (eIdxN (eVar 2) (e1 fNeg (eCst (.int 1)))) (eCst (.int 0))))
  (sApp 2 (e2 fAdd (eVar 4) (eCall f__law_take (lCons (eVar 0) (lCons (e2 fAdd (e2 fSub (eVar 3) (eVar 4)) (eCst (.int 1))) lNil))))))
theorem below_go (R : D) : ∀ (n k : Nat) (w : List Int) (m : Int) (b : Bx) (u3 u4 : Sl), w ∈ webs k → k + n ≤ 100 → Bok m b → m + n ≤ 100000 → ∃ (w' : List Int) (v3 v4 : Sl) (b' : Bx),
    forL (gNm 3) bdB ((List.range' k n).map fun i : Nat => D.int (0 + (i : Nat))) [Sl.val .box, .val R, .own (w.map D.int), u3, u4] b = .nx [Sl.val .box, .val R, .own (w'.map D.int), v3, v4] b' ∧ w' ∈ webs (k + n) ∧ Bok (m + n) b'
  | 0, k, w, m, b, u3, u4, hw, _, hb, _ => ⟨w, u3, u4, b, rfl, hw, by simpa using hb⟩
  | n + 1, k, w, m, b, u3, u4, hw, hk, hb, hm => by
    obtain ⟨wl, w0, wk⟩ := webs_ok k w hw
    obtain ⟨v, b1, e, v0, v1, hb1⟩ := ev_take m (((k : Nat) : Int) - w.getLastD 0 + 1) b hb (by omega) (by omega) (by omega)
    have hs := webs_snoc hw (v := w.getLastD 0 + v) (by omega) (by omega)
    obtain ⟨w', v3, v4, b', e', hw', hb'⟩ := below_go R n (k + 1) (w ++ [w.getLastD 0 + v]) (m + 1) b1 (.val (.int (0 + (k : Nat)))) (.val (.int (w.getLastD 0))) hs (by omega) hb1 (by omega)
    refine ⟨w', v3, v4, b', ?_, by rwa [show k + (n + 1) = k + 1 + n by omega], hb'.mono (by omega)⟩
    have tt : tVal (e2 (fB cNe) (eVar 2) (eLst lNil)) [Sl.val .box, .val R, .own (w.map D.int), .val (.int (0 + (k : Nat))), u4] b = .ok (!decide (w = [])) b := ev_tval (ev_2 (k := .bo) (x := Ls w) rfl (ev_lst ev_l0 (Nat.zero_le _)) (y_neL w []))
    have a4 : eIf (tVal (e2 (fB cNe) (eVar 2) (eLst lNil))) (eIdxN (eVar 2) (e1 fNeg (eCst (.int 1)))) (eCst (.int 0)) [Sl.val .box, .val R, .own (w.map D.int), .val (.int (0 + (k : Nat))), u4] b = .ok (.int (w.getLastD 0)) .sh b := by
      by_cases hn : w = []
      · rw [decide_eq_true hn] at tt
        subst hn
        exact ev_ifF tt rfl
      · rw [decide_eq_false hn] at tt
        exact ev_ifT tt (ev_idxN (i := -1) (k := .bo) (d := Ls w) rfl (k2 := .sh) rfl (atI_ints (atI_last hn)))
    have st : bdB [Sl.val .box, .val R, .own (w.map D.int), .val (.int (0 + (k : Nat))), u4] b = .nx [Sl.val .box, .val R, .own ((w ++ [w.getLastD 0 + v]).map D.int), .val (.int (0 + (k : Nat))), .val (.int (w.getLastD 0))] b1 := by
      refine st_seq (st_asg a4 rfl) ((st_app (k := .sh) (ds := w.map D.int) (d := .int (w.getLastD 0 + v)) (ev_2 (f := fAdd) (k := .sh) (x := .int (w.getLastD 0)) rfl (call2 (k := .sh) rfl (by decide) (ev_2 (f := fAdd) (ev_2 (f := fSub) (k := .sh) (x := .int (0 + (k : Nat))) rfl (k2 := .sh) (y := .int (w.getLastD 0)) rfl rfl) (k2 := .sh) (y := .int 1) rfl (d := .int (((k : Nat) : Int) - w.getLastD 0 + 1)) (k3 := .sh) (by show some (D.int (0 + ((k : Nat) : Int) - w.getLastD 0 + 1), Kd.sh) = _; rw [Int.zero_add])) (by decide) e (by decide)) rfl) (by decide) rfl (by rw [List.length_map]; omega)).trans ?_)
      rw [show w.map D.int ++ [D.int (w.getLastD 0 + v)] = (w ++ [w.getLastD 0 + v]).map D.int by rw [List.map_append]; rfl]
      rfl
    rw [List.range'_succ, List.map_cons]
    conv => lhs; unfold forL
    rw [show gNm 3 (D.int (0 + (k : Nat))) [Sl.val .box, .val R, .own (w.map D.int), u3, u4] = some [Sl.val .box, .val R, .own (w.map D.int), .val (.int (0 + (k : Nat))), u4] from rfl]
    dsimp only
    rw [st]
    exact e'
theorem ev_below (R : Nat) (hR : R ≤ 6) (m : Int) (b : Bx) (hb : Bok m b) (hm : m ≤ 1000) : ∃ w b', f__law_below [.box, .int (R : Nat)] b = .ok (T w) .sh b' ∧ w ∈ webs R ∧ Bok (m + 6) b' := by
  obtain ⟨w', v3, v4, b', e, hw, hb'⟩ := below_go (.int (R : Nat)) R 0 [] m b .none .none (by simp [webs]) (by omega) hb (by omega)
  rw [Nat.zero_add] at hw
  refine ⟨w', b', fb_ret (st_seq (st_asg (k := .fr) (ev_lst ev_l0 (Nat.zero_le _)) rfl) (st_seq (st_for (it_rng1 (n := (R : Nat)) (k := .sh) rfl (by omega) (by omega)) (by rw [Int.toNat_natCast, List.range_eq_range']; exact e)) (st_ret (ev_b1 (k := .bo) (x := Ls w') rfl rfl) (by decide)))), hw, hb'.mono (by omega)⟩
def setsP (l : List Int) : List (List Int) := l.foldl (fun found own => found ++ found.map (· ++ [own])) [[]]
theorem sets_all : ((List.range 6).all fun n => okDB (eL (eT D.int) (setsP (rngI 1 ((n : Nat) + 1)))) .fr (f__law_sets [Ls (rngI 1 ((n : Nat) + 1))] b00)) = true := by decide +kernel
theorem ev_sets (n : Nat) (h : n < 6) (b : Bx) : f__law_sets [Ls (rngI 1 ((n : Nat) + 1))] b = .ok (eL (eT D.int) (setsP (rngI 1 ((n : Nat) + 1)))) .fr b := okDB_run j_f__law_sets (D_all sets_all (List.mem_range.mpr h)) b
theorem sets_mem {l s : List Int} (h : s ∈ setsP l) : (∀ x ∈ s, x ∈ l) ∧ s.length ≤ l.length := by
  have go : ∀ (l done : List Int) (found : List (List Int)), (∀ s ∈ found, (∀ x ∈ s, x ∈ done) ∧ s.length ≤ done.length) → ∀ s ∈ l.foldl (fun found own => found ++ found.map (· ++ [own])) found, (∀ x ∈ s, x ∈ done ++ l) ∧ s.length ≤ (done ++ l).length := by
    intro l
    induction l with
    | nil => intro done found hf s hs; rw [List.append_nil]; exact hf s hs
    | cons y ys ih =>
      intro done found hf s hs
      have := ih (done ++ [y]) (found ++ found.map (· ++ [y])) (fun s hs => by
        rcases List.mem_append.mp hs with q | q
        · refine ⟨fun x hx => List.mem_append_left _ ((hf s q).1 x hx), ?_⟩
          rw [List.length_append]; have := (hf s q).2; simp; omega
        · obtain ⟨s', hs', rfl⟩ := List.mem_map.mp q
          refine ⟨fun x hx => ?_, ?_⟩
          · rcases List.mem_append.mp hx with z | z
            · exact List.mem_append_left _ ((hf s' hs').1 x z)
            · exact List.mem_append_right _ z
          · rw [List.length_append, List.length_append]; have := (hf s' hs').2; simp; omega) s hs
      rwa [List.append_assoc] at this
  have := go l [] [[]] (fun s hs => by rw [List.mem_singleton.mp hs]; exact ⟨fun x hx => (nomatch hx), Nat.le_refl _⟩) s h
  rwa [List.nil_append] at this
/-- pairs that are not tied -/
def frT (w s : List Int) (j : Nat) : Nat := ((s.take j).filter fun x => decide (x ≤ w.getD (s.getD j 0 - 1).toNat 0)).length
def frK (w s : List Int) : Nat → Nat
  | 0 => 0
  | i + 1 => frK w s i + frT w s i
def frP (w s : List Int) : Int := ((frK w s s.length : Nat) : Int)
def e26 : EM := (eLst (lCons (eCall f__law_heard (lCons (eVar 19) (lCons (eB fLen (rCons (eVar 5) lNil)) (lCons (eVar 5) lNil)))) (lCons (eCall f__law_heard (lCons (eVar 19) (lCons (e2 fAdd (eB fLen (rCons (eVar 5) lNil)) (eCst (.int 1))) (lCons (eVar 5) lNil)))) (lCons (eCall f__law_heard (lCons (eTup (lCons (eCst (.int 1)) lNil)) (lCons (eCst (.int 1)) (lCons (eTup (lCons (eCst (.int 1)) lNil)) lNil)))) lNil))))
def dmE2 (w s : List Int) : Slots := [.val .box, .none, .none, .none, .none, .val (T s), .none, .none, .none, .none, .none, .none, .none, .none, .none, .none, .none, .none, .none, .val (T w), .val (.int (frP w s)), .none, .none, .none, .none, .none, .none, .none, .none, .none]
def okE26 (w s : List Int) : Bool := okDB (.lst [.bl (decide (frP w s = 0)), .bl false, .str "CanNot"]) .fr (e26 (dmE2 w s) b00)
theorem tb_e0 : ((List.range 5).all fun r => (webs r).all fun w => (setsP (rngI 1 ((r : Nat) + 1))).all (okE26 w)) = true := by decide +kernel
theorem tb_e1 : (((webs 5).take 14).all fun w => (setsP (rngI 1 6)).all (okE26 w)) = true := by decide +kernel
theorem tb_e2 : ((((webs 5).drop 14).take 14).all fun w => (setsP (rngI 1 6)).all (okE26 w)) = true := by decide +kernel
theorem tb_e3 : ((((webs 5).drop 14).drop 14).all fun w => (setsP (rngI 1 6)).all (okE26 w)) = true := by decide +kernel
theorem tb_e {r : Nat} (hr : r < 6) {w s : List Int} (hw : w ∈ webs r) (hs : s ∈ setsP (rngI 1 ((r : Nat) + 1))) : okE26 w s = true := by
  rcases Nat.lt_or_ge r 5 with q | q
  · exact D_all (D_all (D_all tb_e0 (List.mem_range.mpr q)) hw) hs
  · obtain rfl : r = 5 := by omega
    exact D_all (D_all (cut_all 14 tb_e1 (cut_all 14 tb_e2 tb_e3)) hw) hs
end Rk

namespace Rk
open PySem PySem.Spec L2
theorem ie26 : IE [0, 1, 2, 3, 4, 6, 7, 8, 9, 10, 11, 12, 13, 14, 15, 16, 17, 18, 21, 22, 23, 24, 25, 26, 27, 28, 29] e26 := (j_lst (j_lc (j_call j_f__law_heard (j_lc (j_var 19) (j_lc (j_b (j_rc (j_var 5) j_l0)) (j_lc (j_var 5) j_l0)))) (j_lc (j_call j_f__law_heard (j_lc (j_var 19) (j_lc (j_2 (j_b (j_rc (j_var 5) j_l0)) j_cst) (j_lc (j_var 5) j_l0)))) (j_lc (j_call j_f__law_heard (j_lc (j_tup (j_lc j_cst j_l0)) (j_lc j_cst (j_lc (j_tup (j_lc j_cst j_l0)) j_l0)))) j_l0))))
theorem i33 : IS [2, 3, 4, 5, 6, 7, 8, 9, 11, 12, 13, 14, 15, 16, 17, 18, 19, 20, 21, 22, 23, 24, 25, 26, 27, 28, 29] q33 := (j_if (j_not (j_tval (j_call (j_f__law_same 8) (j_lc (j_lst (j_lc (j_call j_f_is_lacking (j_lc (j_tup (j_lc (j_1 j_cst) j_l0)) (j_lc j_cst j_l0))) (j_lc (j_call j_f_is_lacking (j_lc (j_tup (j_lc (j_1 j_cst) j_l0)) (j_lc j_cst j_l0))) (j_lc (j_call j_f_is_lacking (j_lc (j_tup j_l0) (j_lc j_cst j_l0))) j_l0)))) (j_lc (j_lst (j_lc j_cst (j_lc j_cst (j_lc j_cst j_l0)))) j_l0))))) (j_ret j_cst) j_next)
theorem sec_e {ns os : List Int} {r : SM} {m M : Int} {b : Bx} (hb : Bok m b) (hm : m ≤ 800) (t : ∀ b', Bok (m + 20) b' → GoodA SZ (mZ (.val .box) (.val (T ns)) (.val (T os))) r b' M) :
    GoodA SC (mC (.val .box) (.val (T ns)) (.val (T os))) (sSeq q22 (sSeq q23 (sSeq q24 (sSeq q25 (sSeq q26 (sSeq q27 r)))))) b M := by
  refine ofC fun x2 x3 x4 x5 x6 x7 x8 x9 x11 x12 x13 x15 x16 x17 x18 x19 x23 x24 x25 x26 x27 x28 x29 => ?_
  obtain ⟨r1, b1, er, r0, r6, hb1⟩ := ev_take m 6 b hb (by omega) (by omega) (by omega)
  obtain ⟨R, rfl⟩ := Int.eq_ofNat_of_zero_le r0
  obtain ⟨w, b2, ew, hw, hb2⟩ := ev_below R (by omega) (m + 1) b1 hb1 (by omega)
  obtain ⟨wl, -, -⟩ := webs_ok R w hw
  obtain ⟨x, b3, es, hx, hb3⟩ := ev_of (m + 1 + 6) ((setsP (rngI 1 ((R : Nat) + 1))).map T) b2 hb2 (by omega) (by
    intro h
    have : ∀ (l : List Int) (found : List (List Int)), found ≠ [] → l.foldl (fun found own => found ++ found.map (· ++ [own])) found ≠ [] := by
      intro l
      induction l with
      | nil => intro found h; exact h
      | cons y ys ih => intro found h; exact ih _ (by simp [h])
    exact this (rngI 1 ((R : Nat) + 1)) [[]] (by simp) (List.map_eq_nil_iff.mp h)) (by
    have : ∀ (l : List Int) (found : List (List Int)), (l.foldl (fun found own => found ++ found.map (· ++ [own])) found).length = found.length * 2 ^ l.length := by
      intro l
      induction l with
      | nil => intro found; simp
      | cons y ys ih => intro found; rw [List.foldl_cons, ih, List.length_append, List.length_map, List.length_cons, Nat.pow_succ, ← Nat.mul_two, Nat.mul_assoc, Nat.mul_comm 2]
    rw [List.length_map]
    unfold setsP
    rw [this, rngI_len, List.length_singleton, Nat.one_mul]
    have : 2 ^ (((R : Nat) : Int) + 1 - 1).toNat ≤ 2 ^ 5 := Nat.pow_le_pow_right (by omega) (by omega)
    omega)
  obtain ⟨s, hs, rfl⟩ := List.mem_map.mp hx
  obtain ⟨sm, sl⟩ := sets_mem hs
  rw [rngI_len] at sl
  have ok := tb_e (show R < 6 by omega) hw hs
  refine Good.seq (δ1 := [.val .box, .val (T ns), x2, x3, x4, x5, x6, x7, x8, x9, .val (T os), x11, x12, x13, .none, x15, x16, x17, x18, .val (T w), .none, .none, .none, x23, x24, x25, x26, x27, x28, x29]) (b1 := b2) (st_asg (k := .sh) (call2 (k := .sh) rfl (by decide) (call2 (k := .sh) rfl (by decide) (k2 := .sh) rfl (by decide) er (by decide)) (by decide) ew (by decide)) rfl) ?_
  have rg : eRng false (rCons (eCst (.int 1)) (rCons (e2 fAdd (eB fLen (rCons (eVar 19) lNil)) (eCst (.int 1))) lNil)) [.val .box, .val (T ns), x2, x3, x4, x5, x6, x7, x8, x9, .val (T os), x11, x12, x13, .none, x15, x16, x17, x18, .val (T w), .none, .none, .none, x23, x24, x25, x26, x27, x28, x29] b2 = .ok (Ls (rngI 1 ((R : Nat) + 1))) .fr b2 :=
    ev_rngL (k := .sh) (i := 1) (j := ((R : Nat) : Int) + 1) rfl (ev_2 (f := fAdd) (ev_b1 (k := .sh) (A := eVar 19) rfl (len_T w)) (k2 := .sh) (y := .int 1) rfl (by rw [wl]; rfl)) (by unfold rgOk; simp; omega)
  refine Good.seq (δ1 := [.val .box, .val (T ns), x2, x3, x4, .val (T s), x6, x7, x8, x9, .val (T os), x11, x12, x13, .none, x15, x16, x17, x18, .val (T w), .none, .none, .none, x23, x24, x25, x26, x27, x28, x29]) (b1 := b3) (st_asg (k := .sh) (call2 (k := .sh) rfl (by decide) (call1 rg (by decide) (ev_sets R (by omega) b2) (by decide)) (by decide) es (by decide)) rfl) ?_
  refine Good.seq (δ1 := [.val .box, .val (T ns), x2, x3, x4, .val (T s), x6, x7, x8, x9, .val (T os), x11, x12, x13, .none, x15, x16, x17, x18, .val (T w), .val (.int 0), .none, .none, x23, x24, x25, x26, x27, x28, x29]) (b1 := b3) (st_asg (k := .sh) rfl rfl) ?_
  obtain ⟨δ', el, u14, u21, rfl⟩ := for_inv (F := fun i : Nat => D.tup [.int (i : Nat), .int (s.getD i 0)]) (g := gTp [(gNm 14), (gNm 21)]) (b := b3) (body := (sAsg 20 (e2 fAdd (eVar 20) (eB fLen (rCons (eComp [22] (itSeq (eSl (eVar 5) none (some (eVar 14)))) (gNm 22) (tVal (e2 (fB cLe) (eVar 22) (eIdxN (eVar 19) (e2 fSub (eVar 21) (eCst (.int 1)))))) (eVar 22)) lNil)))))
    (fun i δ => ∃ u14 u21 : Sl, δ = [.val .box, .val (T ns), x2, x3, x4, .val (T s), x6, x7, x8, x9, .val (T os), x11, x12, x13, u14, x15, x16, x17, x18, .val (T w), .val (.int (frK w s i : Nat)), u21, .none, x23, x24, x25, x26, x27, x28, x29]) (List.range s.length) 0 [.val .box, .val (T ns), x2, x3, x4, .val (T s), x6, x7, x8, x9, .val (T os), x11, x12, x13, .none, x15, x16, x17, x18, .val (T w), .val (.int 0), .none, .none, x23, x24, x25, x26, x27, x28, x29] ⟨_, _, rfl⟩ fun i x δ hx hp => by
      obtain ⟨u14, u21, rfl⟩ := hp
      rw [Nat.zero_add] at *
      have hi : i < s.length := by
        rcases Nat.lt_or_ge i s.length with q | q
        · exact q
        · rw [List.getElem?_eq_none (by rw [List.length_range]; exact q)] at hx; cases hx
      rw [List.getElem?_range hi] at hx
      obtain rfl := Option.some.inj hx
      have hr := mem_rngI.mp (sm _ (getD_mem hi))
      have c := ev_cf (vs := [22]) (c := 22) (t := tVal (e2 (fB cLe) (eVar 22) (eIdxN (eVar 19) (e2 fSub (eVar 21) (eCst (.int 1)))))) (m := eVar 22) (im := itSeq (eSl (eVar 5) none (some (eVar 14)))) (δ := [.val .box, .val (T ns), x2, x3, x4, .val (T s), x6, x7, x8, x9, .val (T os), x11, x12, x13, .val (.int (i : Nat)), x15, x16, x17, x18, .val (T w), .val (.int (frK w s i : Nat)), .val (.int (s.getD i 0)), .none, x23, x24, x25, x26, x27, x28, x29]) (b := b3) (fun x => decide (x ≤ w.getD (s.getD i 0 - 1).toNat 0)) D.int (xs := s.take i)
        (it_seq (k := .sh) (d := T (s.take i)) (ev_slTo (k := .sh) (n := i) (i := (i : Nat)) (b1 := b3) rfl (k2 := .sh) rfl rfl (by omega)) (by decide) rfl) (by rw [List.length_take]; omega)
        (fun x _ => ev_tval (ev_2 (k := .sh) rfl (ev_idxN (i := (((s.getD i 0 - 1).toNat : Nat) : Int)) (x := .int (w.getD (s.getD i 0 - 1).toNat 0)) (k := .sh) rfl (ev_2 (f := fSub) (k := .sh) (x := .int (s.getD i 0)) rfl (k2 := .sh) (y := .int 1) rfl (by show some (D.int (s.getD i 0 - 1), Kd.sh) = _; rw [show (((s.getD i 0 - 1).toNat : Nat) : Int) = s.getD i 0 - 1 by omega])) (atI_D (by omega))) rfl)) (fun x _ _ => rfl)
      refine ⟨_, [.val .box, .val (T ns), x2, x3, x4, .val (T s), x6, x7, x8, x9, .val (T os), x11, x12, x13, .val (.int (i : Nat)), x15, x16, x17, x18, .val (T w), .val (.int (frK w s (i + 1) : Nat)), .val (.int (s.getD i 0)), .none, x23, x24, x25, x26, x27, x28, x29], rfl, st_asg (k := .sh) (ev_2 (f := fAdd) (k := .sh) (x := .int (frK w s i : Nat)) rfl (ev_b1 c (len_L _)) (d := .int (frK w s (i + 1) : Nat)) rfl) rfl, _, _, rfl⟩
  rw [Nat.zero_add, List.length_range] at el
  refine Good.seq (st_frz (st_for (it_enum (ns := s) (d := T s) (k := .sh) rfl (by decide) rfl) el)) ?_
  unfold okE26 at ok
  have ev := j_ev ie26 (δ := dmE2 w s) (δ' := [.val .box, .val (T ns), x2, x3, x4, .val (T s), x6, x7, x8, x9, .val (T os), x11, x12, x13, u14, x15, x16, x17, x18, .val (T w), .val (.int (frP w s)), u21, .none, x23, x24, x25, x26, x27, x28, x29]) (d := .lst [.bl (decide (frP w s = 0)), .bl false, .str "CanNot"]) (k := .fr) (by
    cases q : e26 (dmE2 w s) b00 with
    | bad => rw [q] at ok; cases ok
    | exc _ _ _ => rw [q] at ok; cases ok
    | ok d k b0 =>
      rw [q] at ok
      have ok' : (deq d (.lst [.bl (decide (frP w s = 0)), .bl false, .str "CanNot"]) && decide (k = Kd.fr)) = true := ok
      rw [Bool.and_eq_true] at ok'
      rw [← deq_eq ok'.1, ← of_decide_eq_true ok'.2]
      exact ⟨b0, rfl⟩) ⟨rfl, fun i hi => by
      rcases i with _ | _ | _ | _ | _ | _ | _ | _ | _ | _ | _ | _ | _ | _ | _ | _ | _ | _ | _ | _ | _ | _ | _ | _ | _ | _ | _ | _ | _ | _ | i
      iterate 30 first | rfl | exact absurd (by decide) hi
      rfl⟩ b3
  refine Good.seq (δ1 := [.val .box, .val (T ns), x2, x3, x4, .val (T s), x6, x7, .own [.bl (decide (frP w s = 0)), .bl false, .str "CanNot"], x9, .val (T os), x11, x12, x13, u14, x15, x16, x17, x18, .val (T w), .val (.int (frP w s)), u21, .none, x23, x24, x25, x26, x27, x28, x29]) (b1 := b3) (st_frz (st_asg (k := .fr) ev rfl)) ?_
  refine Good.seq (st_frz (st_check (δ := [.val .box, .val (T ns), x2, x3, x4, .val (T s), x6, x7, .val (.lst [.bl (decide (frP w s = 0)), .bl false, .str "CanNot"]), x9, .val (T os), x11, x12, x13, u14, x15, x16, x17, x18, .val (T w), .val (.int (frP w s)), u21, .none, x23, x24, x25, x26, x27, x28, x29]) (same_ok (k := .sh) rfl (by decide) (eLst3 (ev_2 (k := .sh) rfl (k2 := .sh) rfl (eq_ii (frP w s) 0)) (by decide) (k2 := .sh) rfl (by decide) (k3 := .sh) rfl (by decide)) (by decide) ?_))) ?_
  · show (decide (3 ≤ 1000000) && ([D.bl (decide (frP w s = 0)), .bl false, .str "CanNot"].all (okD 7))) = true
    rw [decide_eq_true (by omega)]
    show (true && (okD 7 (.bl _) && (okD 7 (.bl false) && (okD 7 (.str "CanNot") && true)))) = true
    rw [okD_str 6 "CanNot" shCan]; rfl
  exact toZ (t b3 (hb3.mono (by omega))) ..
end Rk

namespace Rk
open PySem PySem.Spec L2

/-! ### told numbers -/
def shP (ns : List Int) : List Int := (enumR 0 ns).map fun p => p.2 - p.1
def tlP (ns : List Int) : List Int := sortI (shP ns)
theorem enumR_len {α : Type} : ∀ (l : List α) (i : Nat), (enumR i l).length = l.length
  | [], _ => rfl
  | x :: xs, i => by show (_ :: enumR (i + 1) xs).length = _; rw [List.length_cons, enumR_len, List.length_cons]
theorem enumR_bd {α : Type} : ∀ {l : List α} {i : Nat} {p : Int × α}, p ∈ enumR i l → ((i : Nat) : Int) ≤ p.1 ∧ p.1 < ((i : Nat) : Int) + ((l.length : Nat) : Int)
  | [], _, _, h => nomatch h
  | x :: xs, i, p, h => by
    have h' : p ∈ (((i : Nat) : Int), x) :: enumR (i + 1) xs := h
    rcases List.mem_cons.mp h' with rfl | h
    · rw [List.length_cons]
      dsimp only
      omega
    · have := enumR_bd h
      rw [List.length_cons]
      omega
theorem ev_shifts {δ : Slots} {b : Bx} (ns : List Int) (hl : ns.length ≤ 100) (h : ∀ b, eVar 0 δ b = .ok (T ns) .sh b) (hw : ∀ x y : D, ∃ δ1, (gTp [(gNm 1), (gNm 2)]) (.tup [x, y]) (wipeD δ [1, 2]) = some δ1 ∧ (∀ b, eVar 1 δ1 b = .ok x .sh b) ∧ (∀ b, eVar 2 δ1 b = .ok y .sh b)) :
    eComp [1, 2] (itEnum (lCons (eVar 0) lNil)) (gTp [(gNm 1), (gNm 2)]) tTrue (e2 fSub (eVar 2) (eVar 1)) δ b = .ok (Ls (shP ns)) .fr b := by
  have it : itEnum (lCons (eVar 0) lNil) δ b = .ok ((enumR 0 ns).map (eP D.int D.int)) b := by
    unfold itEnum
    rw [ev_lc (k := .sh) (h b) (by decide) ev_l0]
    dsimp only
    rw [show toItems (T ns) = some (ns.map D.int) from rfl]
    dsimp only
    rw [enumR_D D.int 0 ns]
  have q := eComp_map (vs := [1, 2]) (g := gTp [(gNm 1), (gNm 2)]) (t := tTrue) (m := e2 fSub (eVar 2) (eVar 1)) (eP D.int D.int) (fun p : Int × Int => D.int (p.2 - p.1)) it (by rw [enumR_len]; omega) fun p hp => by
    obtain ⟨δ1, g1, g2, g3⟩ := hw (.int p.1) (.int p.2)
    exact ⟨δ1, .sh, g1, rfl, ev_2 (f := fSub) (g3 b) (g2 b) rfl, by decide⟩
  rw [q]
  unfold shP
  show Out.ok (.lst _) .fr b = .ok (.lst (List.map _ (List.map _ _))) .fr b
  rw [List.map_map]; rfl
theorem ev_law_told (ns : List Int) (hl : ns.length ≤ 100) (b : Bx) : f__law_told [T ns] b = .ok (T (tlP ns)) .sh b :=
  fb_ret (st_ret (ev_b1 (ev_b1 (ev_shifts ns hl (fun b => rfl) (fun x y => ⟨_, rfl, fun b => rfl, fun b => rfl⟩)) (sort_L _)) rfl) (by decide))
theorem ev_made_told (ns : List Int) (hl : ns.length ≤ 100) (b : Bx) : f_made_told [T ns] b = .ok (T (tlP ns)) .sh b := by
  have e : f_made_shifts [T ns] b = .ok (T (shP ns)) .sh b := fb_ret (st_ret (ev_b1 (ev_shifts ns hl (fun b => rfl) (fun x y => ⟨_, rfl, fun b => rfl, fun b => rfl⟩)) rfl) (by decide))
  exact fb_ret (st_ret (ev_b1 (ev_b1 (call1 (k := .sh) rfl (by decide) e (by decide)) (sort_T _)) rfl) (by decide))
theorem tl_len (ns : List Int) : (tlP ns).length = ns.length := by
  unfold tlP shP
  rw [sortI_len, List.length_map, enumR_len]
theorem tl_bd {ns : List Int} (h : Dr ns) : ∀ x ∈ tlP ns, -26 ≤ x ∧ x ≤ 26 := fun x hx => by
  have hx' := (sortI_perm _).mem_iff.mp hx
  obtain ⟨p, hp, rfl⟩ := List.mem_map.mp hx'
  have h1 := enumR_bd hp
  have h2 := mem_enumR hp
  have := h.le _ h2
  have := isBd_pos h.bd _ h2
  have := h.len
  try dsimp only
  omega
theorem ev_sure_numbers (l : List Int) (hl : l.length ≤ 6) (h : ∀ x ∈ l, -26 ≤ x ∧ x ≤ 26) (b : Bx) : f_sure_numbers [T l] b = .ok (T l) .sh b := by
  have ar : f_are_numbers [T l] b = .ok (.bl true) .sh b := by
    have t1 : tVal (e2 (fB cGt) (eB fLen (rCons (eVar 0) lNil)) (eCst (.int 6))) [Sl.val (T l), .none] b = .ok false b := by
      have := ev_tval (ev_2 (f := fB cGt) (A := eB fLen (rCons (eVar 0) lNil)) (B := eCst (.int 6)) (δ := [Sl.val (T l), .none]) (b := b) (ev_b1 (k := .sh) (A := eVar 0) rfl (len_T l)) (k2 := .sh) (b2 := b) (y := .int 6) (d := .bl (decide ((6 : Int) < ((l.length : Nat) : Int)))) (k3 := .sh) rfl rfl)
      rwa [decide_eq_false (by omega)] at this
    have c := eComp_map (vs := [1]) (g := gNm 1) (t := tTrue) (m := eCall f_is_between (lCons (eVar 1) (lCons (e1 fNeg (eCst (.int 26))) (lCons (eCst (.int 26)) lNil)))) (δ := [Sl.val (T l), .none]) (b := b) D.int (fun x : Int => D.bl (decide (-26 ≤ x) && decide (x ≤ 26))) (it_seq (k := .sh) (d := T l) (E := eVar 0) (b1 := b) rfl (by decide) rfl) (by omega) fun x _ => ⟨_, .sh, rfl, rfl, call3 (k := .sh) rfl (by decide) (k2 := .sh) (y := .int (-26)) rfl (by decide) (k3 := .sh) rfl (by decide) (ev_is_between x (-26) 26 b) (by decide), by decide⟩
    have a := ev_all c
    rw [show (l.all fun x => decide (-26 ≤ x) && decide (x ≤ 26)) = true from List.all_eq_true.mpr fun x hx => by have := h x hx; simp [this]] at a
    have t0 : tNot_ (tVal (eIsi ["tuple"] (eVar 0))) [Sl.val (T l), .none] b = .ok false b := rfl
    exact fb_ret (st_seq (st_ifF (ev_tor t0 (fun _ => t1) (fun _ => rfl)) rfl) (st_ret a (by decide)))
  exact fb_ret (st_seq (st_asg (k := .sh) (call1 (k := .sh) rfl (by decide) (ev_tuple_of 6 l (by omega) b) (by decide)) rfl) (st_seq (st_frz (st_exp (call1 (call1 (k := .sh) rfl (by decide) ar (by decide)) (by decide) (ev_sure_ok rfl b) (by decide)))) rfl))
theorem ev_board_with (l ns : List Int) (hl : l.length ≤ 6) (h : ∀ x ∈ l, -26 ≤ x ∧ x ≤ 26) (hB : isBd ns = true) (b : Bx) : f_is_board_with [T l, T ns] b = .ok (.bl (decide (tlP ns = sortI l))) .sh b := by
  have hz := isBd_len hB
  have ib := ev_is_board ns (by omega) b
  rw [hB] at ib
  exact fb_ret (st_seq (st_asg (k := .sh) (call1 (k := .sh) rfl (by decide) (ev_sure_numbers l hl h b) (by decide)) rfl) (st_ret (ev_and3 (t := true) (call1 (k := .sh) rfl (by decide) ib (by decide)) (ev_2 (call1 (k := .sh) rfl (by decide) (ev_made_told ns (by omega) b) (by decide)) (ev_b1 (k3 := .sh) (ev_b1 (k := .sh) (A := eVar 2) rfl (sort_T l)) rfl) (eq_TT _ _))) (by decide)))
theorem ev_board_withL (l ns : List Int) (hl : l.length ≤ 6) (h : ∀ x ∈ l, -26 ≤ x ∧ x ≤ 26) (b : Bx) : f_is_board_with [T l, Ls ns] b = .ok (.bl false) .sh b := by
  have ib : f_is_board [Ls ns] b = .ok (.bl false) .sh b := fb_ret (st_seqR (st_ifT (b1 := b) rfl rfl))
  refine fb_ret (st_seq (st_asg (k := .sh) (call1 (k := .sh) rfl (by decide) (ev_sure_numbers l hl h b) (by decide)) rfl) (st_ret (k := .sh) ?_ (by decide)))
  exact ev_and (t := false) (u := true) (k := .sh) (call1 (k := .sh) rfl (by decide) ib (by decide)) (fun h => nomatch h) (fun _ => rfl)
theorem sec_f {ns os : List Int} (hn : Dr ns) {r : SM} {m M : Int} {b : Bx} (hb : Bok m b) (hm : m ≤ 480) (t : ∀ b', Bok (m + 100) b' → GoodA SZ (mZ (.val .box) (.val (T ns)) (.val (T os))) r b' M) :
    GoodA SZ (mZ (.val .box) (.val (T ns)) (.val (T os))) (sSeq q28 (sSeq q29 (sSeq q30 r))) b M := by
  refine ofZ fun x2 x3 x4 x5 x6 x7 x8 x9 x11 x12 x13 x14 x15 x16 x17 x18 x19 x20 x21 x22 x23 x24 x25 x26 x27 x28 x29 => ?_
  have hl5 := hn.len
  obtain ⟨ys, b1, ep, hp, hb1⟩ := ev_pick (tlP ns) m b hb (by omega) (by rw [tl_len]; omega)
  rw [tl_len] at ep
  have yl : ys.length = ns.length := by rw [hp.length_eq, tl_len]
  have yb : ∀ x ∈ ys, -26 ≤ x ∧ x ≤ 26 := fun x hx => tl_bd hn x (hp.mem_iff.mp hx)
  have so : sortI ys = tlP ns := sorted_unique ((sortI_perm ys).trans hp) (sortI_sorted ys) (sortI_sorted _)
  refine Good.seq (δ1 := [.val .box, .val (T ns), x2, x3, x4, x5, x6, x7, x8, x9, .val (T os), x11, x12, x13, x14, x15, x16, x17, x18, x19, x20, x21, x22, .val (T ys), x24, x25, x26, x27, x28, x29]) (b1 := b1) (st_frz (st_asg (k := .sh) (ev_b1 (k := .fr) (x := Ls ys) (call3 (k := .sh) rfl (by decide) (ev_b1 (k := .sh) (k3 := .fr) (x := T (tlP ns)) (call1 (k := .sh) rfl (by decide) (ev_law_told ns (by omega) b) (by decide)) (y_lstT _)) (by decide) (ev_b1 (k := .sh) (A := eVar 1) rfl (len_T ns)) (by decide) ep (by decide)) rfl) rfl)) ?_
  have g1 := ev_board_with ys ns (by omega) yb hn.bd b1
  rw [so, decide_eq_true rfl] at g1
  have g2 := ev_board_withL ys ns (by omega) yb b1
  have g3 := ev_board_with (ys ++ [0]) ns (by rw [List.length_append]; simp; omega) (fun x hx => by
    rcases List.mem_append.mp hx with q | q
    · exact yb x q
    · rw [List.mem_singleton.mp q]; omega) hn.bd b1
  rw [decide_eq_false (fun e => by
    have := congrArg List.length e
    rw [tl_len, sortI_len, List.length_append] at this
    simp at this
    omega)] at g3
  have l6 : tVal (e2 (fB cLt) (eB fLen (rCons (eVar 1) lNil)) (eCst (.int 6))) [.val .box, .val (T ns), x2, x3, x4, x5, x6, x7, x8, x9, .val (T os), x11, x12, x13, x14, x15, x16, x17, x18, x19, x20, x21, x22, .val (T ys), x24, x25, x26, x27, x28, x29] b1 = .ok true b1 := by
    have q := ev_tval (ev_2 (f := fB cLt) (A := eB fLen (rCons (eVar 1) lNil)) (B := eCst (.int 6)) (δ := [.val .box, .val (T ns), x2, x3, x4, x5, x6, x7, x8, x9, .val (T os), x11, x12, x13, x14, x15, x16, x17, x18, x19, x20, x21, x22, .val (T ys), x24, x25, x26, x27, x28, x29]) (b := b1) (ev_b1 (k := .sh) (A := eVar 1) rfl (len_T ns)) (k2 := .sh) (b2 := b1) (y := .int 6) rfl (d := .bl (decide (((ns.length : Nat) : Int) < 6))) (k3 := .sh) rfl)
    rwa [decide_eq_true (by omega)] at q
  refine Good.seq (δ1 := [.val .box, .val (T ns), x2, x3, x4, x5, x6, x7, .own [.bl true, .bl false, .bl false], x9, .val (T os), x11, x12, x13, x14, x15, x16, x17, x18, x19, x20, x21, x22, .val (T ys), x24, x25, x26, x27, x28, x29]) (b1 := b1) (st_frz (st_asg (k := .fr) (eLst3 (call2 (k := .sh) rfl (by decide) (k2 := .sh) rfl (by decide) g1 (by decide)) (by decide) (call2 (k := .sh) rfl (by decide) (ev_b1 (k := .sh) (k3 := .fr) (x := T ns) rfl (y_lstT ns)) (by decide) g2 (by decide)) (by decide) (call2 (ev_ifT l6 (ev_2 (f := fAdd) (k := .sh) (x := T ys) rfl (ev_tup (ev_lc (k := .sh) rfl (by decide) rfl) (by show 1 ≤ 1000; omega)) (add_T (xs := ys) (ys := [0]) (by simp; omega)))) (by decide) (k2 := .sh) rfl (by decide) g3 (by decide)) (by decide)) rfl)) ?_
  refine Good.seq (st_frz (st_check (δ := [.val .box, .val (T ns), x2, x3, x4, x5, x6, x7, .val (.lst [.bl true, .bl false, .bl false]), x9, .val (T os), x11, x12, x13, x14, x15, x16, x17, x18, x19, x20, x21, x22, .val (T ys), x24, x25, x26, x27, x28, x29]) (same_ok (k := .sh) rfl (by decide) (eLst3 (k1 := .sh) rfl (by decide) (k2 := .sh) rfl (by decide) (k3 := .sh) rfl (by decide)) (by decide) rfl))) ?_
  exact toZ (t b1 (hb1.mono (by omega))) ..
end Rk

namespace Rk
open PySem PySem.Spec L2

theorem comp_sub {n c4 : Int} (h1 : 1 ≤ n) (h2 : n ≤ 1000000) {δ : Slots} {l : LM} {c : Nat} (hl : ∀ x b, l (δ.set c (.val x)) b = .ok [.box, .int n] b) : ∀ (xs : List D) (m : Int) (b : Bx), Bok m b → m + xs.length ≤ 1000000 →
    ∃ (rs : List Int) (b' : Bx), compL (gNm c) tTrue (e2 fSub (eCall f__law_take l) (eCst (.int c4))) δ xs b = .ok (rs.map D.int) b' ∧ rs.length = xs.length ∧ (∀ r ∈ rs, -c4 ≤ r ∧ r < n - c4) ∧ Bok (m + xs.length) b'
  | [], m, b, hb, _ => ⟨[], b, rfl, rfl, (fun r h => nomatch h), by simpa using hb⟩
  | x :: xs, m, b, hb, hm => by
    rw [List.length_cons] at hm
    obtain ⟨r, b1, e, r1, r2, hb1⟩ := ev_take m n b hb (by omega) h1 h2
    obtain ⟨rs, b', e', h3, h4, h5⟩ := comp_sub (c4 := c4) h1 h2 hl xs (m + 1) b1 hb1 (by omega)
    have st : e2 fSub (eCall f__law_take l) (eCst (.int c4)) (δ.set c (.val x)) b = .ok (.int (r - c4)) .sh b1 := ev_2 (f := fSub) (ev_call (hl x b) e (by decide)) (k2 := .sh) (y := .int c4) rfl rfl
    refine ⟨(r - c4) :: rs, b', ?_, by simp [h3], fun q hq => ?_, by rw [List.length_cons]; exact h5.mono (by omega)⟩
    · unfold compL
      rw [show gNm c x δ = some (δ.set c (.val x)) from rfl]
      dsimp only
      rw [show tTrue (δ.set c (.val x)) b = .ok true b from rfl]
      dsimp only
      rw [st]
      dsimp only
      rw [e']
      rfl
    · rcases List.mem_cons.mp hq with rfl | hq
      · omega
      · exact h4 q hq
theorem ev_chainI {A B C : EM} {δ : Slots} {b : Bx} {i j k : Int} {k1 k2 k3 : Kd} (h : A δ b = .ok (.int i) k1 b) (h' : B δ b = .ok (.int j) k2 b) (h'' : C δ b = .ok (.int k) k3 b) : eChain cLe cLe A B C δ b = .ok (.bl (decide (i ≤ j) && decide (j ≤ k))) .sh b := by
  unfold eChain
  rw [h]
  dsimp only
  rw [h']
  dsimp only
  rw [show cLe (.int i) (.int j) = some (decide (i ≤ j)) from rfl]
  cases decide (i ≤ j) with
  | false => rfl
  | true =>
    dsimp only
    rw [h'']
    dsimp only
    rw [show cLe (.int j) (.int k) = some (decide (j ≤ k)) from rfl]
    rfl
def lkP (ds : List Int) (x : Int) : Bool := !decide (ds = []) && ((decide (minI ds ≤ x) && decide (x ≤ 0)) && !memI x ds)
theorem ev_lk {A X Z : EM} {δ : Slots} {b : Bx} {ds : List Int} {x : Int} (hA : A δ b = .ok (T ds) .sh b) (hX : X δ b = .ok (.int x) .sh b) (hZ : Z δ b = .ok (.int 0) .sh b) :
    eAnd (e2 (fB cNe) A (eTup lNil)) (eAnd (eChain cLe cLe (eB (f1 gMin) (rCons A lNil)) X Z) (e2 (fB cNotIn) X A)) δ b = .ok (.bl (lkP ds x)) .sh b := by
  have t1 : e2 (fB cNe) A (eTup lNil) δ b = .ok (.bl (!decide (ds = []))) .sh b := ev_2 hA (ev_tup ev_l0 (Nat.zero_le _)) (ne_TT ds [])
  unfold lkP
  refine ev_and t1 (fun hn => ?_) (fun _ => rfl)
  have mn : f1 gMin [T ds] = some (.int (minI ds), .sh) := by
    show intsNe minI (ds.map D.int) = _
    unfold intsNe
    rw [intsD_map]
    cases ds with
    | nil => simp at hn
    | cons a l => rfl
  exact ev_and3 (ev_chainI (ev_b1 hA mn) hX hZ) (ev_2 hX hA (y_ninT x ds))
theorem ev_is_lacking (ds : List Int) (x : Int) (hl : ds.length ≤ 6) (h : ∀ x ∈ ds, -26 ≤ x ∧ x ≤ 26) (b : Bx) : f_is_lacking [T ds, .int x] b = .ok (.bl (lkP ds x)) .sh b :=
  fb_ret (st_seq (st_asg (k := .sh) (call1 (k := .sh) rfl (by decide) (ev_sure_numbers ds hl h b) (by decide)) rfl) (st_ret (ev_and3 (t := true) (call1 (k := .sh) rfl (by decide) (ev_is_number x b) (by decide)) (ev_lk (A := eVar 2) (X := eVar 1) (Z := eCst (.int 0)) rfl rfl rfl)) (by decide)))
theorem tb_l1 : okDB (.bl false) .sh (f_is_lacking [T [-1], .bl false] b00) = true := by decide +kernel
theorem tb_l2 : okDB (.bl false) .sh (f_is_lacking [T [-1], .non] b00) = true := by decide +kernel
theorem tb_l3 : okDB (.bl false) .sh (f_is_lacking [T [], .int 0] b00) = true := by decide +kernel
theorem sec_g {ns os : List Int} {r : SM} {m M : Int} {b : Bx} (hb : Bok m b) (hm : m ≤ 1000) (t : ∀ b', Bok (m + 10) b' → GoodA SZ (mZ (.val .box) (.val (T ns)) (.val (T os))) r b' M) :
    GoodA SZ (mZ (.val .box) (.val (T ns)) (.val (T os))) (sSeq q31 (sSeq q32 (sSeq q33 r))) b M := by
  refine ofZ fun x2 x3 x4 x5 x6 x7 x8 x9 x11 x12 x13 x14 x15 x16 x17 x18 x19 x20 x21 x22 x23 x24 x25 x26 x27 x28 x29 => ?_
  obtain ⟨v, b1, ev, v0, v5, hb1⟩ := ev_take m 5 b hb (by omega) (by omega) (by omega)
  obtain ⟨K, rfl⟩ := Int.eq_ofNat_of_zero_le v0
  obtain ⟨ds, b2, ec, dl, db, hb2⟩ := comp_sub (n := 9) (c4 := 4) (by omega) (by omega) (δ := wipeD [.val .box, .val (T ns), x2, x3, x4, x5, x6, x7, x8, x9, .val (T os), x11, x12, x13, x14, x15, x16, x17, x18, x19, x20, x21, x22, x23, x24, x25, x26, x27, x28, x29] [14]) (l := lCons (eVar 0) (lCons (eCst (.int 9)) lNil)) (c := 14) (fun x b => rfl) ((List.range K).map fun i : Nat => D.int (0 + (i : Nat))) (m + 1) b1 hb1 (by rw [List.length_map, List.length_range]; omega)
  rw [List.length_map, List.length_range] at dl hb2
  have db' : ∀ x ∈ ds, -26 ≤ x ∧ x ≤ 26 := fun x hx => by have := db x hx; omega
  have it : itRng (rCons (eCall f__law_take (lCons (eVar 0) (lCons (eCst (.int 5)) lNil))) lNil) [.val .box, .val (T ns), x2, x3, x4, x5, x6, x7, x8, x9, .val (T os), x11, x12, x13, x14, x15, x16, x17, x18, x19, x20, x21, x22, x23, x24, x25, x26, x27, x28, x29] b = .ok ((List.range K).map fun i : Nat => D.int (0 + (i : Nat))) b1 := it_rng1 (n := (K : Nat)) (call2 (k := .sh) rfl (by decide) (k2 := .sh) rfl (by decide) ev (by decide)) (by omega) (by omega)
  refine Good.seq (δ1 := [.val .box, .val (T ns), x2, x3, x4, x5, x6, x7, x8, x9, .val (T os), x11, x12, x13, x14, x15, x16, x17, x18, x19, x20, x21, x22, x23, .val (T ds), x25, x26, x27, x28, x29]) (b1 := b2) (st_asg (k := .sh) (ev_b1 (eComp_of it (by rw [List.length_map, List.length_range]; omega) ec) rfl) rfl) ?_
  obtain ⟨δ', el, u22, u25, rfl⟩ := for_inv (F := fun i : Nat => D.int (-6 + (i : Nat))) (g := gNm 22) (b := b2) (body := (sSeq (sAsg 25 (eAnd (e2 (fB cNe) (eVar 24) (eTup lNil)) (eAnd (eChain cLe cLe (eB (f1 gMin) (rCons (eVar 24) lNil)) (eVar 22) (eCst (.int 0))) (e2 (fB cNotIn) (eVar 22) (eVar 24)))))
  (sIf (tNot_ (tVal (eCall (f__law_same 8) (lCons (eCall f_is_lacking (lCons (eVar 24) (lCons (eVar 22) lNil))) (lCons (eVar 25) lNil)))))
  (sRet (eCst (.bl false)))
  sNext)))
    (fun _ δ => ∃ u22 u25 : Sl, δ = [.val .box, .val (T ns), x2, x3, x4, x5, x6, x7, x8, x9, .val (T os), x11, x12, x13, x14, x15, x16, x17, x18, x19, x20, x21, u22, x23, .val (T ds), u25, x26, x27, x28, x29]) (List.range 9) 0 [.val .box, .val (T ns), x2, x3, x4, x5, x6, x7, x8, x9, .val (T os), x11, x12, x13, x14, x15, x16, x17, x18, x19, x20, x21, x22, x23, .val (T ds), x25, x26, x27, x28, x29] ⟨_, _, rfl⟩ fun i x δ hx hp => by
      obtain ⟨u22, u25, rfl⟩ := hp
      have a25 := ev_lk (A := eVar 24) (X := eVar 22) (Z := eCst (.int 0)) (δ := [.val .box, .val (T ns), x2, x3, x4, x5, x6, x7, x8, x9, .val (T os), x11, x12, x13, x14, x15, x16, x17, x18, x19, x20, x21, .val (.int (-6 + (x : Nat))), x23, .val (T ds), u25, x26, x27, x28, x29]) (b := b2) (ds := ds) (x := -6 + (x : Nat)) rfl rfl rfl
      exact ⟨_, [.val .box, .val (T ns), x2, x3, x4, x5, x6, x7, x8, x9, .val (T os), x11, x12, x13, x14, x15, x16, x17, x18, x19, x20, x21, .val (.int (-6 + (x : Nat))), x23, .val (T ds), .val (.bl (lkP ds (-6 + (x : Nat)))), x26, x27, x28, x29], rfl, st_seq (st_asg a25 rfl) (st_check (same_ok (call2 (k := .sh) rfl (by decide) (k2 := .sh) rfl (by decide) (ev_is_lacking ds (-6 + (x : Nat)) (by omega) db' b2) (by decide)) (by decide) (k2 := .sh) rfl (by decide) rfl)), _, _, rfl⟩
  refine Good.seq (st_for (it_rng2 (n := -6) (m := 3) (k := .sh) (k2 := .sh) rfl rfl (by omega) (by omega) (by omega) (by omega)) el) ?_
  refine Good.seq (st_check (δ := [.val .box, .val (T ns), x2, x3, x4, x5, x6, x7, x8, x9, .val (T os), x11, x12, x13, x14, x15, x16, x17, x18, x19, x20, x21, u22, x23, .val (T ds), u25, x26, x27, x28, x29]) (same_ok (d := .lst [.bl false, .bl false, .bl false]) (eLst3 (call2 (x := T [-1]) (k := .sh) (ev_tup (ev_lc (k := .sh) rfl (by decide) rfl) (by show 1 ≤ 1000; omega)) (by decide) (k2 := .sh) rfl (by decide) (okDB_run j_f_is_lacking tb_l1 b2) (by decide)) (by decide) (call2 (x := T [-1]) (k := .sh) (ev_tup (ev_lc (k := .sh) rfl (by decide) rfl) (by show 1 ≤ 1000; omega)) (by decide) (k2 := .sh) rfl (by decide) (okDB_run j_f_is_lacking tb_l2 b2) (by decide)) (by decide) (call2 (x := T []) (k := .sh) (ev_tup ev_l0 (Nat.zero_le _)) (by decide) (k2 := .sh) rfl (by decide) (okDB_run j_f_is_lacking tb_l3 b2) (by decide)) (by decide)) (by decide) (eLst3 (k1 := .sh) rfl (by decide) (k2 := .sh) rfl (by decide) (k3 := .sh) rfl (by decide)) (by decide) rfl)) ?_
  exact toZ (t b2 (hb2.mono (by omega))) ..
/-! ### cells of the one that are none of the other -/
def nrP (ns : List Int) (q : Int × Int) : Bool := decide (q.1 ≤ ((ns.length : Nat) : Int)) && decide (q.2 ≤ ns.getD (q.1 - 1).toNat 0)
theorem nrP_mem {ns : List Int} {q : Int × Int} (h1 : 1 ≤ q.1) (h2 : 1 ≤ q.2) : decide (q ∈ cellsPr ns ns.length) = nrP ns q := by
  unfold nrP
  rw [Bool.eq_iff_iff, decide_eq_true_eq, Bool.and_eq_true, decide_eq_true_eq, decide_eq_true_eq, mem_cellsPr]
  constructor
  · rintro ⟨k, hk, e, _, h⟩
    rw [show (q.1 - 1).toNat = k by omega]
    exact ⟨by omega, h⟩
  · rintro ⟨h3, h4⟩
    exact ⟨(q.1 - 1).toNat, by omega, by omega, h2, h4⟩
theorem ev_near {A Q : EM} {δ : Slots} {b : Bx} {ns : List Int} {q : Int × Int} (hA : A δ b = .ok (T ns) .sh b) (hQ : Q δ b = .ok (pD q) .sh b) (h1 : 1 ≤ q.1) : eAnd (e2 (fB cLe) (eIdxN Q (eCst (.int 0))) (eB fLen (rCons A lNil))) (e2 (fB cLe) (eIdxN Q (eCst (.int 1))) (eIdxN A (e2 fSub (eIdxN Q (eCst (.int 0))) (eCst (.int 1))))) δ b = .ok (.bl (nrP ns q)) .sh b := by
  have i0 : eIdxN Q (eCst (.int 0)) δ b = .ok (.int q.1) .sh b := ev_idxN (i := 0) hQ (k2 := .sh) rfl rfl
  have i1 : eIdxN Q (eCst (.int 1)) δ b = .ok (.int q.2) .sh b := ev_idxN (i := 1) hQ (k2 := .sh) rfl rfl
  unfold nrP
  refine ev_and (ev_2 (f := fB cLe) i0 (ev_b1 hA (len_T ns)) rfl) (fun hq => ?_) (fun _ => rfl)
  have hq := of_decide_eq_true hq
  exact ev_2 (f := fB cLe) i1 (ev_idxN (i := (((q.1 - 1).toNat : Nat) : Int)) (x := .int (ns.getD (q.1 - 1).toNat 0)) hA (ev_2 (f := fSub) i0 (k2 := .sh) (y := .int 1) rfl (by show some (D.int (q.1 - 1), Kd.sh) = _; rw [show (((q.1 - 1).toNat : Nat) : Int) = q.1 - 1 by omega])) (atI_D (by omega))) rfl
theorem ev_outside {ns os : List Int} {q : Int × Int} (hn : Dr ns) (ho : Dr os) (h1 : 1 ≤ q.1) (h2 : 1 ≤ q.2) (b : Bx) : f_is_outside [T ns, T os, pD q] b = .ok (.bl (nrP ns q && !nrP os q)) .sh b := by
  have mc : ∀ zs, Dr zs → f_made_cells [T zs] b = .ok (.lst ((cellsPr zs zs.length).map pD)) .fr b := fun zs hz => by
    have := ev_made_cells zs (by have := hz.len; omega) (isBd_pos hz.bd) (fun n hn => by have := hz.le n hn; omega) b
    rwa [cellsD_eq] at this
  have e1 := ev_is_tuple_of [q.1, q.2] 2 b
  have c := eComp_map (vs := [5]) (g := gNm 5) (t := tTrue) (m := eCall f_is_from (lCons (eVar 5) (lCons (eCst (.int 1)) lNil))) (δ := [Sl.val (T ns), .val (T os), .val (pD q), .val (T ns), .val (T os), .none]) (b := b) D.int (fun x : Int => D.bl (decide (1 ≤ x))) (it_seq (k := .sh) (d := T [q.1, q.2]) (E := eVar 2) (b1 := b) rfl (by decide) rfl) (by show 2 ≤ 1000000; omega) fun x _ => ⟨_, .sh, rfl, rfl, call2 (k := .sh) rfl (by decide) (k2 := .sh) rfl (by decide) (ev_is_from x 1 b) (by decide), by decide⟩
  have a := all_of c
  rw [show ([q.1, q.2].all fun x => decide (1 ≤ x)) = true by simp; omega] at a
  have i1 := inB_pairs q (cellsPr ns ns.length)
  have i2 := ninB_pairs q (cellsPr os os.length)
  rw [nrP_mem h1 h2] at i1 i2
  exact fb_ret (st_seq (st_par2 (k := .sh) (k' := .sh) (call1 (k := .sh) rfl (by decide) (ev_sure_board ns hn.bd b) (by decide)) (call1 (k := .sh) rfl (by decide) (ev_sure_board os ho.bd b) (by decide)) rfl rfl) (st_seq (st_ifF (ev_tor (ev_tnot (ev_tval (call2 (k := .sh) rfl (by decide) (k2 := .sh) rfl (by decide) e1 (by decide)))) (fun _ => ev_tnot a) (fun _ => rfl)) rfl) (st_frz (st_ret (ev_and3 (ev_2 (k := .sh) (x := pD q) rfl (call1 (k := .sh) rfl (by decide) (mc ns hn) (by decide)) i1) (ev_2 (k := .sh) (x := pD q) rfl (call1 (k := .sh) rfl (by decide) (mc os ho) (by decide)) i2)) (by decide)))))
theorem ev_outsideL {ns os l : List Int} (hn : Dr ns) (ho : Dr os) (b : Bx) : f_is_outside [T ns, T os, Ls l] b = .ok (.bl false) .sh b := by
  have e1 : f_is_tuple_of [Ls l, .int 2] b = .ok (.bl false) .sh b := by
    refine fb_ret (st_ret (k := .sh) ?_ (by decide))
    exact ev_and (t := false) (u := true) (k := .sh) rfl (fun h => nomatch h) (fun _ => rfl)
  have t0 := ev_tor (m := tNot_ (tVal (eCall f_is_tuple_of (lCons (eVar 2) (lCons (eCst (.int 2)) lNil))))) (r := tNot_ (tVal (eB (f1 gAll) (rCons (eComp [5] (itSeq (eVar 2)) (gNm 5) tTrue (eCall f_is_from (lCons (eVar 5) (lCons (eCst (.int 1)) lNil)))) lNil)))) (δ := [Sl.val (T ns), .val (T os), .val (Ls l), .val (T ns), .val (T os), .none]) (b := b) (b2 := b) (u := true) (ev_tnot (ev_tval (call2 (k := .sh) rfl (by decide) (k2 := .sh) rfl (by decide) e1 (by decide)))) (fun h => nomatch h) (fun _ => rfl)
  exact fb_ret (st_seq (st_par2 (k := .sh) (k' := .sh) (call1 (k := .sh) rfl (by decide) (ev_sure_board ns hn.bd b) (by decide)) (call1 (k := .sh) rfl (by decide) (ev_sure_board os ho.bd b) (by decide)) rfl rfl) (st_seqR (st_ifT t0 rfl)))
theorem sec_h {ns os : List Int} (hn : Dr ns) (ho : Dr os) {m M : Int} {b : Bx} (hb : Bok m b) (hm : m ≤ 1000) (hM : m + 2 ≤ M) :
    GoodA SZ (mZ (.val .box) (.val (T ns)) (.val (T os))) (sSeq q34 (sSeq q35 (sSeq q36 q37))) b M := by
  refine ofZ fun x2 x3 x4 x5 x6 x7 x8 x9 x11 x12 x13 x14 x15 x16 x17 x18 x19 x20 x21 x22 x23 x24 x25 x26 x27 x28 x29 => ?_
  obtain ⟨v, b1, ev, v0, v5, hb1⟩ := ev_take m 5 b hb (by omega) (by omega) (by omega)
  obtain ⟨w, b2, ew, w0, w5, hb2⟩ := ev_take (m + 1) 5 b1 hb1 (by omega) (by omega) (by omega)
  have p26 : eTup (lCons (e2 fAdd (eCst (.int 1)) (eCall f__law_take (lCons (eVar 0) (lCons (eCst (.int 5)) lNil)))) (lCons (e2 fAdd (eCst (.int 1)) (eCall f__law_take (lCons (eVar 0) (lCons (eCst (.int 5)) lNil)))) lNil)) [.val .box, .val (T ns), x2, x3, x4, x5, x6, x7, x8, x9, .val (T os), x11, x12, x13, x14, x15, x16, x17, x18, x19, x20, x21, x22, x23, x24, x25, x26, x27, x28, x29] b = .ok (pD (1 + v, 1 + w)) .sh b2 :=
    ev_tup (ev_lc (ev_2 (f := fAdd) (A := eCst (.int 1)) (k := .sh) (x := .int 1) rfl (call2 (k := .sh) rfl (by decide) (k2 := .sh) rfl (by decide) ev (by decide)) (d := .int (1 + v)) rfl) (by decide) (ev_lc (ev_2 (f := fAdd) (A := eCst (.int 1)) (k := .sh) (x := .int 1) rfl (call2 (k := .sh) rfl (by decide) (k2 := .sh) rfl (by decide) ew (by decide)) (d := .int (1 + w)) rfl) (by decide) rfl)) (by show 2 ≤ 1000; omega)
  have h1 : 1 ≤ (1 + v, 1 + w).1 := by dsimp only; omega
  have h2 : 1 ≤ (1 + v, 1 + w).2 := by dsimp only; omega
  refine Good.seq (δ1 := [.val .box, .val (T ns), x2, x3, x4, x5, x6, x7, x8, x9, .val (T os), x11, x12, x13, x14, x15, x16, x17, x18, x19, x20, x21, x22, x23, x24, x25, .val (pD (1 + v, 1 + w)), x27, x28, x29]) (b1 := b2) (st_asg p26 rfl) ?_
  refine Good.seq (δ1 := [.val .box, .val (T ns), x2, x3, x4, x5, x6, x7, x8, x9, .val (T os), x11, x12, x13, x14, x15, x16, x17, x18, x19, x20, x21, x22, x23, x24, x25, .val (pD (1 + v, 1 + w)), .val (.bl (nrP ns (1 + v, 1 + w))), x28, x29]) (b1 := b2) (st_asg (k := .sh) (ev_near (A := eVar 1) (Q := eVar 26) rfl rfl h1) rfl) ?_
  refine Good.seq (δ1 := [.val .box, .val (T ns), x2, x3, x4, x5, x6, x7, x8, x9, .val (T os), x11, x12, x13, x14, x15, x16, x17, x18, x19, x20, .val (.bl (nrP os (1 + v, 1 + w))), x22, x23, x24, x25, .val (pD (1 + v, 1 + w)), .val (.bl (nrP ns (1 + v, 1 + w))), x28, x29]) (b1 := b2) (st_asg (k := .sh) (ev_near (A := eVar 10) (Q := eVar 26) rfl rfl h1) rfl) ?_
  have g1 := ev_outside hn ho h1 h2 b2
  have g2 := ev_outsideL (l := [1 + v, 1 + w]) hn ho b2
  have nt : eNot (eVar 21) [.val .box, .val (T ns), x2, x3, x4, x5, x6, x7, x8, x9, .val (T os), x11, x12, x13, x14, x15, x16, x17, x18, x19, x20, .val (.bl (nrP os (1 + v, 1 + w))), x22, x23, x24, x25, .val (pD (1 + v, 1 + w)), .val (.bl (nrP ns (1 + v, 1 + w))), x28, x29] b2 = .ok (.bl (!nrP os (1 + v, 1 + w))) .sh b2 := rfl
  exact ⟨b2, st_frz (st_ret (same_ok (d := .lst [.bl (nrP ns (1 + v, 1 + w) && !nrP os (1 + v, 1 + w)), .bl false]) (eLst2 (call3 (k := .sh) rfl (by decide) (k2 := .sh) rfl (by decide) (k3 := .sh) rfl (by decide) g1 (by decide)) (by decide) (call3 (k := .sh) rfl (by decide) (k2 := .sh) rfl (by decide) (ev_b1 (k := .sh) (k3 := .fr) (x := T [1 + v, 1 + w]) rfl (y_lstT _)) (by decide) g2 (by decide)) (by decide)) (by decide) (eLst2 (ev_and3 (A := eVar 27) (k := .sh) rfl nt) (by decide) (k2 := .sh) rfl (by decide)) (by decide) rfl) (by decide)), hb2.mono (by omega)⟩
end Rk

namespace Rk
open PySem PySem.Spec L2

theorem right_ok (m : Int) (b : Bx) (hb : Bok m b) (hm : m ≤ 310) : Good c__law_right (Sl.val .box :: List.replicate 29 Sl.none) b (m + 300) := by
  rw [right_eq]
  obtain ⟨ns, b1, e1', hn, hb1⟩ := ev_drawn m b hb (by omega) (δ := Sl.val .box :: List.replicate 29 Sl.none) fun b => rfl
  have hR := hn.isR
  refine Good.seq (δ1 := .val .box :: .val (T ns) :: List.replicate 28 Sl.none) (b1 := b1) (st_asg (k := .sh) e1' rfl) ?_
  refine Good.seq (δ1 := slA ns ns [] .none .none .none .none .none .none) (b1 := b1) (st_frz (st_par2 (k := .sh) (k' := .sh) (d := T ns) (d' := .tup []) rfl rfl rfl rfl)) ?_
  obtain ⟨v, b2, ev, v0, v4, hb2⟩ := ev_take (m + 7) 4 b1 hb1 (by omega) (by omega) (by omega)
  obtain ⟨K, rfl⟩ := Int.eq_ofNat_of_zero_le v0
  obtain ⟨h, ts, u4, u5, u6, b3, el, hr, hw, hs, hz, hb3⟩ := turns_go ns ((List.range K).map fun i : Nat => .int (0 + (i : Nat))) ns [] (m + 7 + 1) b2 .none .none .none hR hR rfl (fun t ht => (nomatch ht)) (by rw [List.length_map, List.length_range]; simp; omega) hb2 (by rw [List.length_map, List.length_range]; omega)
  rw [List.length_map, List.length_range] at hb3
  refine Good.seq (st_for (it_rng1 (n := (K : Nat)) (call2 (k := .sh) rfl (by decide) (k2 := .sh) rfl (by decide) ev (by decide)) (by omega) (by omega)) (by rw [Int.toNat_natCast]; exact el)) ?_
  refine sec_a hR hr hw hs hz u4 u5 u6 hb3 ?_
  refine GoodA.wkA (S' := SP) (δm' := mP (.val .box) (.val (T ns))) (by decide) (Agr.refl _ _) ?_
  refine sec_b hn hb3 (by omega) fun os b4 ho hb4 => ?_
  refine sec_c hn hb4 (by omega) fun b5 hb5 => ?_
  refine sec_d hn hb5 (by omega) fun b6 hb6 => ?_
  refine sec_e hb6 (by omega) fun b7 hb7 => ?_
  refine sec_f hn hb7 (by omega) fun b8 hb8 => ?_
  refine sec_g hb8 (by omega) fun b9 hb9 => ?_
  exact sec_h hn ho hb9 (by omega) (by omega)
end Rk

namespace Rk
open PySem PySem.Spec L2
def m_box : EM := (eCall f__law_box (lCons (eCall f__law_cells (lCons (eVar 0) (lCons (eCst (.int 1)) lNil))) (lCons (eCst (.int 0)) lNil)))
theorem law_fact : ∀ ns : List Int, ns.length ≤ 63 → ∃ b b1 : Bx, (m_box [Sl.val (.scr ns), Sl.none] ⟨0, 0, 0⟩ = .ok (.lst [.int b.x, .int b.y, .int b.z]) .fr b1) ∧ ∃ b2, f__law_right [.box] b = .ok (.bl true) .sh b2 ∧ ∃ b3, f__law_right [.box] b2 = .ok (.bl true) .sh b3 := fun ns hl => by
  obtain ⟨b', e, hb⟩ := ev_mbox ns hl [Sl.val (.scr ns), Sl.none] rfl ⟨0, 0, 0⟩
  obtain ⟨b2, g2, hb2⟩ := right_ok 0 b' hb (by omega)
  obtain ⟨b3, g3, _⟩ := right_ok (0 + 300) b2 hb2 (by omega)
  exact ⟨b', _, e, b2, fb_ret g2, b3, fb_ret g3⟩

theorem all_mk {l : PySem.W.OpenLaw} {w : World} {K : PySem.W.Frag} {h : Heap} {mg : Str → Option Value} {fa : Addr} (X : K.In h) (G : h.Ns mainGlobals mg) (hfa : mg "law" = some (.ref fa))
    {f0 : Addr} {od0 an0 : Option Addr} {sl0 : Array (Option Value)} {oc0 kV0 dc0 pm0 cd0 ct0 : Value}
    {f1 : Addr} {od1 an1 : Option Addr} {sl1 : Array (Option Value)} {oc1 kV1 dc1 pm1 cd1 ct1 : Value}
    {f2 : Addr} {od2 an2 : Option Addr} {sl2 : Array (Option Value)} {oc2 kV2 dc2 pm2 cd2 ct2 : Value}
    {f3 : Addr} {od3 an3 : Option Addr} {sl3 : Array (Option Value)} {oc3 kV3 dc3 pm3 cd3 ct3 : Value}
    {f4 : Addr} {od4 an4 : Option Addr} {sl4 : Array (Option Value)} {oc4 kV4 dc4 pm4 cd4 ct4 : Value}
    {f5 : Addr} {od5 an5 : Option Addr} {sl5 : Array (Option Value)} {oc5 kV5 dc5 pm5 cd5 ct5 : Value}
    {f6 : Addr} {od6 an6 : Option Addr} {sl6 : Array (Option Value)} {oc6 kV6 dc6 pm6 cd6 ct6 : Value}
    {f7 : Addr} {od7 an7 : Option Addr} {sl7 : Array (Option Value)} {oc7 kV7 dc7 pm7 cd7 ct7 : Value}
    {f8 : Addr} {od8 an8 : Option Addr} {sl8 : Array (Option Value)} {oc8 kV8 dc8 pm8 cd8 ct8 : Value}
    {f9 : Addr} {od9 an9 : Option Addr} {sl9 : Array (Option Value)} {oc9 kV9 dc9 pm9 cd9 ct9 : Value}
    {f10 : Addr} {od10 an10 : Option Addr} {sl10 : Array (Option Value)} {oc10 kV10 dc10 pm10 cd10 ct10 : Value}
    {f11 : Addr} {od11 an11 : Option Addr} {sl11 : Array (Option Value)} {oc11 kV11 dc11 pm11 cd11 ct11 : Value}
    {f12 : Addr} {od12 an12 : Option Addr} {sl12 : Array (Option Value)} {oc12 kV12 dc12 pm12 cd12 ct12 : Value}
    {f13 : Addr} {od13 an13 : Option Addr} {sl13 : Array (Option Value)} {oc13 kV13 dc13 pm13 cd13 ct13 : Value}
    {f14 : Addr} {od14 an14 : Option Addr} {sl14 : Array (Option Value)} {oc14 kV14 dc14 pm14 cd14 ct14 : Value}
    {f15 : Addr} {od15 an15 : Option Addr} {sl15 : Array (Option Value)} {oc15 kV15 dc15 pm15 cd15 ct15 : Value}
    {f16 : Addr} {od16 an16 : Option Addr} {sl16 : Array (Option Value)} {oc16 kV16 dc16 pm16 cd16 ct16 : Value}
    {f17 : Addr} {od17 an17 : Option Addr} {sl17 : Array (Option Value)} {oc17 kV17 dc17 pm17 cd17 ct17 : Value}
    {f18 : Addr} {od18 an18 : Option Addr} {sl18 : Array (Option Value)} {oc18 kV18 dc18 pm18 cd18 ct18 : Value}
    {f19 : Addr} {od19 an19 : Option Addr} {sl19 : Array (Option Value)} {oc19 kV19 dc19 pm19 cd19 ct19 : Value}
    {f20 : Addr} {od20 an20 : Option Addr} {sl20 : Array (Option Value)} {oc20 kV20 dc20 pm20 cd20 ct20 : Value}
    {f21 : Addr} {od21 an21 : Option Addr} {sl21 : Array (Option Value)} {oc21 kV21 dc21 pm21 cd21 ct21 : Value}
    {f22 : Addr} {od22 an22 : Option Addr} {sl22 : Array (Option Value)} {oc22 kV22 dc22 pm22 cd22 ct22 : Value}
    {f23 : Addr} {od23 an23 : Option Addr} {sl23 : Array (Option Value)} {oc23 kV23 dc23 pm23 cd23 ct23 : Value}
    {f24 : Addr} {od24 an24 : Option Addr} {sl24 : Array (Option Value)} {oc24 kV24 dc24 pm24 cd24 ct24 : Value}
    {f25 : Addr} {od25 an25 : Option Addr} {sl25 : Array (Option Value)} {oc25 kV25 dc25 pm25 cd25 ct25 : Value}
    {f26 : Addr} {od26 an26 : Option Addr} {sl26 : Array (Option Value)} {oc26 kV26 dc26 pm26 cd26 ct26 : Value}
    {f27 : Addr} {od27 an27 : Option Addr} {sl27 : Array (Option Value)} {oc27 kV27 dc27 pm27 cd27 ct27 : Value}
    {f28 : Addr} {od28 an28 : Option Addr} {sl28 : Array (Option Value)} {oc28 kV28 dc28 pm28 cd28 ct28 : Value}
    {f29 : Addr} {od29 an29 : Option Addr} {sl29 : Array (Option Value)} {oc29 kV29 dc29 pm29 cd29 ct29 : Value}
    {f30 : Addr} {od30 an30 : Option Addr} {sl30 : Array (Option Value)} {oc30 kV30 dc30 pm30 cd30 ct30 : Value}
    {f31 : Addr} {od31 an31 : Option Addr} {sl31 : Array (Option Value)} {oc31 kV31 dc31 pm31 cd31 ct31 : Value}
    {f32 : Addr} {od32 an32 : Option Addr} {sl32 : Array (Option Value)} {oc32 kV32 dc32 pm32 cd32 ct32 : Value}
    {f33 : Addr} {od33 an33 : Option Addr} {sl33 : Array (Option Value)} {oc33 kV33 dc33 pm33 cd33 ct33 : Value}
    {f34 : Addr} {od34 an34 : Option Addr} {sl34 : Array (Option Value)} {oc34 kV34 dc34 pm34 cd34 ct34 : Value}
    {f35 : Addr} {od35 an35 : Option Addr} {sl35 : Array (Option Value)} {oc35 kV35 dc35 pm35 cd35 ct35 : Value}
    {f36 : Addr} {od36 an36 : Option Addr} {sl36 : Array (Option Value)} {oc36 kV36 dc36 pm36 cd36 ct36 : Value}
    {f37 : Addr} {od37 an37 : Option Addr} {sl37 : Array (Option Value)} {oc37 kV37 dc37 pm37 cd37 ct37 : Value}
    {f38 : Addr} {od38 an38 : Option Addr} {sl38 : Array (Option Value)} {oc38 kV38 dc38 pm38 cd38 ct38 : Value}
    {f39 : Addr} {od39 an39 : Option Addr} {sl39 : Array (Option Value)} {oc39 kV39 dc39 pm39 cd39 ct39 : Value}
    {f40 : Addr} {od40 an40 : Option Addr} {sl40 : Array (Option Value)} {oc40 kV40 dc40 pm40 cd40 ct40 : Value}
    {f41 : Addr} {od41 an41 : Option Addr} {sl41 : Array (Option Value)} {oc41 kV41 dc41 pm41 cd41 ct41 : Value}
    {f42 : Addr} {od42 an42 : Option Addr} {sl42 : Array (Option Value)} {oc42 kV42 dc42 pm42 cd42 ct42 : Value}
    {f43 : Addr} {od43 an43 : Option Addr} {sl43 : Array (Option Value)} {oc43 kV43 dc43 pm43 cd43 ct43 : Value}
    {f44 : Addr} {od44 an44 : Option Addr} {sl44 : Array (Option Value)} {oc44 kV44 dc44 pm44 cd44 ct44 : Value}
    {f45 : Addr} {od45 an45 : Option Addr} {sl45 : Array (Option Value)} {oc45 kV45 dc45 pm45 cd45 ct45 : Value}
    {f46 : Addr} {od46 an46 : Option Addr} {sl46 : Array (Option Value)} {oc46 kV46 dc46 pm46 cd46 ct46 : Value}
    {f47 : Addr} {od47 an47 : Option Addr} {sl47 : Array (Option Value)} {oc47 kV47 dc47 pm47 cd47 ct47 : Value}
    {f48 : Addr} {od48 an48 : Option Addr} {sl48 : Array (Option Value)} {oc48 kV48 dc48 pm48 cd48 ct48 : Value}
    {f49 : Addr} {od49 an49 : Option Addr} {sl49 : Array (Option Value)} {oc49 kV49 dc49 pm49 cd49 ct49 : Value}
    {f50 : Addr} {od50 an50 : Option Addr} {sl50 : Array (Option Value)} {oc50 kV50 dc50 pm50 cd50 ct50 : Value}
    {f51 : Addr} {od51 an51 : Option Addr} {sl51 : Array (Option Value)} {oc51 kV51 dc51 pm51 cd51 ct51 : Value}
    {f52 : Addr} {od52 an52 : Option Addr} {sl52 : Array (Option Value)} {oc52 kV52 dc52 pm52 cd52 ct52 : Value}
    {f53 : Addr} {od53 an53 : Option Addr} {sl53 : Array (Option Value)} {oc53 kV53 dc53 pm53 cd53 ct53 : Value}
    {t_MOST_ROWS : Tok}
    {t_LEAST_SIZE : Tok}
    {t_MOST_NUMBERS : Tok}
    {t_GREATEST : Tok}
    {t_MOST_PART : Tok}
    {C_CanNot fI_CanNot N_CanNot : Addr} {nm_CanNot q_CanNot : Str} {bs_CanNot : List Value} {sn_CanNot : List Str} {sub_CanNot : List Value} {ab_CanNot : Bool} {col_CanNot : Option Bool} {dd_CanNot odI_CanNot anI_CanNot : Option Addr} {m0_CanNot m1_CanNot m2_CanNot m3_CanNot m5_CanNot : Option Value} {slI_CanNot : Array (Option Value)} {ocI_CanNot kVI_CanNot dcI_CanNot pmI_CanNot cdI_CanNot ctI_CanNot : Value}
    {C_Unfit fI_Unfit N_Unfit : Addr} {nm_Unfit q_Unfit : Str} {bs_Unfit : List Value} {sn_Unfit : List Str} {sub_Unfit : List Value} {ab_Unfit : Bool} {col_Unfit : Option Bool} {dd_Unfit odI_Unfit anI_Unfit : Option Addr} {m0_Unfit m1_Unfit m2_Unfit m3_Unfit m5_Unfit : Option Value} {slI_Unfit : Array (Option Value)} {ocI_Unfit kVI_Unfit dcI_Unfit pmI_Unfit cdI_Unfit ctI_Unfit : Value}
    (a0 : PySem.W.nsIn K mainGlobals "_law_box" = some (some (.ref f0))) (l0 : K.lookup f0 = some ⟨oc0, od0, .func (PySem.W.fnOf "_law_box" "_law_box" (defArgs (topS 57)) (defBody (topS 57)) (defScope (topS 57)) .none kV0 dc0 pm0 an0 cd0 ct0), sl0⟩) (c0 : PySem.W.codeIn K cd0 "_law_box" = true) (k0 : PySem.W.keepIn K (.ref f0) = true)
    (a1 : PySem.W.nsIn K mainGlobals "_law_cells" = some (some (.ref f1))) (l1 : K.lookup f1 = some ⟨oc1, od1, .func (PySem.W.fnOf "_law_cells" "_law_cells" (defArgs (topS 59)) (defBody (topS 59)) (defScope (topS 59)) .none kV1 dc1 pm1 an1 cd1 ct1), sl1⟩) (c1 : PySem.W.codeIn K cd1 "_law_cells" = true) (k1 : PySem.W.keepIn K (.ref f1) = true)
    (a2 : PySem.W.nsIn K mainGlobals "_law_take" = some (some (.ref f2))) (l2 : K.lookup f2 = some ⟨oc2, od2, .func (PySem.W.fnOf "_law_take" "_law_take" (defArgs (topS 58)) (defBody (topS 58)) (defScope (topS 58)) .none kV2 dc2 pm2 an2 cd2 ct2), sl2⟩) (c2 : PySem.W.codeIn K cd2 "_law_take" = true) (k2 : PySem.W.keepIn K (.ref f2) = true)
    (a3 : PySem.W.nsIn K mainGlobals "_law_below" = some (some (.ref f3))) (l3 : K.lookup f3 = some ⟨oc3, od3, .func (PySem.W.fnOf "_law_below" "_law_below" (defArgs (topS 65)) (defBody (topS 65)) (defScope (topS 65)) .none kV3 dc3 pm3 an3 cd3 ct3), sl3⟩) (c3 : PySem.W.codeIn K cd3 "_law_below" = true) (k3 : PySem.W.keepIn K (.ref f3) = true)
    (a4 : PySem.W.nsIn K mainGlobals "_law_board" = some (some (.ref f4))) (l4 : K.lookup f4 = some ⟨oc4, od4, .func (PySem.W.fnOf "_law_board" "_law_board" (defArgs (topS 63)) (defBody (topS 63)) (defScope (topS 63)) .none kV4 dc4 pm4 an4 cd4 ct4), sl4⟩) (c4 : PySem.W.codeIn K cd4 "_law_board" = true) (k4 : PySem.W.keepIn K (.ref f4) = true)
    (a5 : PySem.W.nsIn K mainGlobals "is_number" = some (some (.ref f5))) (l5 : K.lookup f5 = some ⟨oc5, od5, .func (PySem.W.fnOf "is_number" "is_number" (defArgs (topS 4)) (defBody (topS 4)) (defScope (topS 4)) .none kV5 dc5 pm5 an5 cd5 ct5), sl5⟩) (c5 : PySem.W.codeIn K cd5 "is_number" = true) (k5 : PySem.W.keepIn K (.ref f5) = true)
    (a6 : PySem.W.nsIn K mainGlobals "is_from" = some (some (.ref f6))) (l6 : K.lookup f6 = some ⟨oc6, od6, .func (PySem.W.fnOf "is_from" "is_from" (defArgs (topS 6)) (defBody (topS 6)) (defScope (topS 6)) .none kV6 dc6 pm6 an6 cd6 ct6), sl6⟩) (c6 : PySem.W.codeIn K cd6 "is_from" = true) (k6 : PySem.W.keepIn K (.ref f6) = true)
    (a7 : PySem.W.nsIn K mainGlobals "is_set" = some (some (.ref f7))) (l7 : K.lookup f7 = some ⟨oc7, od7, .func (PySem.W.fnOf "is_set" "is_set" (defArgs (topS 10)) (defBody (topS 10)) (defScope (topS 10)) .none kV7 dc7 pm7 an7 cd7 ct7), sl7⟩) (c7 : PySem.W.codeIn K cd7 "is_set" = true) (k7 : PySem.W.keepIn K (.ref f7) = true)
    (a8 : PySem.W.nsIn K mainGlobals "lies_below" = some (some (.ref f8))) (l8 : K.lookup f8 = some ⟨oc8, od8, .func (PySem.W.fnOf "lies_below" "lies_below" (defArgs (topS 43)) (defBody (topS 43)) (defScope (topS 43)) .none kV8 dc8 pm8 an8 cd8 ct8), sl8⟩) (c8 : PySem.W.codeIn K cd8 "lies_below" = true) (k8 : PySem.W.keepIn K (.ref f8) = true)
    (a9 : PySem.W.nsIn K mainGlobals "look_below" = some (some (.ref f9))) (l9 : K.lookup f9 = some ⟨oc9, od9, .func (PySem.W.fnOf "look_below" "look_below" (defArgs (topS 44)) (defBody (topS 44)) (defScope (topS 44)) .none kV9 dc9 pm9 an9 cd9 ct9), sl9⟩) (c9 : PySem.W.codeIn K cd9 "look_below" = true) (k9 : PySem.W.keepIn K (.ref f9) = true)
    (a10 : PySem.W.nsIn K mainGlobals "sure" = some (some (.ref f10))) (l10 : K.lookup f10 = some ⟨oc10, od10, .func (PySem.W.fnOf "sure" "sure" (defArgs (topS 9)) (defBody (topS 9)) (defScope (topS 9)) .none kV10 dc10 pm10 an10 cd10 ct10), sl10⟩) (c10 : PySem.W.codeIn K cd10 "sure" = true) (k10 : PySem.W.keepIn K (.ref f10) = true)
    (a11 : PySem.W.nsIn K mainGlobals "is_board" = some (some (.ref f11))) (l11 : K.lookup f11 = some ⟨oc11, od11, .func (PySem.W.fnOf "is_board" "is_board" (defArgs (topS 13)) (defBody (topS 13)) (defScope (topS 13)) .none kV11 dc11 pm11 an11 cd11 ct11), sl11⟩) (c11 : PySem.W.codeIn K cd11 "is_board" = true) (k11 : PySem.W.keepIn K (.ref f11) = true)
    (a12 : PySem.W.nsIn K mainGlobals "tuple_of" = some (some (.ref f12))) (l12 : K.lookup f12 = some ⟨oc12, od12, .func (PySem.W.fnOf "tuple_of" "tuple_of" (defArgs (topS 7)) (defBody (topS 7)) (defScope (topS 7)) .none kV12 dc12 pm12 an12 cd12 ct12), sl12⟩) (c12 : PySem.W.codeIn K cd12 "tuple_of" = true) (k12 : PySem.W.keepIn K (.ref f12) = true)
    (a13 : PySem.W.nsIn K mainGlobals "sure_board" = some (some (.ref f13))) (l13 : K.lookup f13 = some ⟨oc13, od13, .func (PySem.W.fnOf "sure_board" "sure_board" (defArgs (topS 14)) (defBody (topS 14)) (defScope (topS 14)) .none kV13 dc13 pm13 an13 cd13 ct13), sl13⟩) (c13 : PySem.W.codeIn K cd13 "sure_board" = true) (k13 : PySem.W.keepIn K (.ref f13) = true)
    (a14 : PySem.W.nsIn K mainGlobals "are_tied" = some (some (.ref f14))) (l14 : K.lookup f14 = some ⟨oc14, od14, .func (PySem.W.fnOf "are_tied" "are_tied" (defArgs (topS 45)) (defBody (topS 45)) (defScope (topS 45)) .none kV14 dc14 pm14 an14 cd14 ct14), sl14⟩) (c14 : PySem.W.codeIn K cd14 "are_tied" = true) (k14 : PySem.W.keepIn K (.ref f14) = true)
    (a15 : PySem.W.nsIn K mainGlobals "tied_all" = some (some (.ref f15))) (l15 : K.lookup f15 = some ⟨oc15, od15, .func (PySem.W.fnOf "tied_all" "tied_all" (defArgs (topS 46)) (defBody (topS 46)) (defScope (topS 46)) .none kV15 dc15 pm15 an15 cd15 ct15), sl15⟩) (c15 : PySem.W.codeIn K cd15 "tied_all" = true) (k15 : PySem.W.keepIn K (.ref f15) = true)
    (a16 : PySem.W.nsIn K mainGlobals "is_tied" = some (some (.ref f16))) (l16 : K.lookup f16 = some ⟨oc16, od16, .func (PySem.W.fnOf "is_tied" "is_tied" (defArgs (topS 52)) (defBody (topS 52)) (defScope (topS 52)) .none kV16 dc16 pm16 an16 cd16 ct16), sl16⟩) (c16 : PySem.W.codeIn K cd16 "is_tied" = true) (k16 : PySem.W.keepIn K (.ref f16) = true)
    (a17 : PySem.W.nsIn K mainGlobals "_law_heard" = some (some (.ref f17))) (l17 : K.lookup f17 = some ⟨oc17, od17, .func (PySem.W.fnOf "_law_heard" "_law_heard" (defArgs (topS 68)) (defBody (topS 68)) (defScope (topS 68)) .none kV17 dc17 pm17 an17 cd17 ct17), sl17⟩) (c17 : PySem.W.codeIn K cd17 "_law_heard" = true) (k17 : PySem.W.keepIn K (.ref f17) = true)
    (a18 : PySem.W.nsIn K mainGlobals "_law_of" = some (some (.ref f18))) (l18 : K.lookup f18 = some ⟨oc18, od18, .func (PySem.W.fnOf "_law_of" "_law_of" (defArgs (topS 61)) (defBody (topS 61)) (defScope (topS 61)) .none kV18 dc18 pm18 an18 cd18 ct18), sl18⟩) (c18 : PySem.W.codeIn K cd18 "_law_of" = true) (k18 : PySem.W.keepIn K (.ref f18) = true)
    (a19 : PySem.W.nsIn K mainGlobals "_law_laying" = some (some (.ref f19))) (l19 : K.lookup f19 = some ⟨oc19, od19, .func (PySem.W.fnOf "_law_laying" "_law_laying" (defArgs (topS 64)) (defBody (topS 64)) (defScope (topS 64)) .none kV19 dc19 pm19 an19 cd19 ct19), sl19⟩) (c19 : PySem.W.codeIn K cd19 "_law_laying" = true) (k19 : PySem.W.keepIn K (.ref f19) = true)
    (a20 : PySem.W.nsIn K mainGlobals "_law_pick" = some (some (.ref f20))) (l20 : K.lookup f20 = some ⟨oc20, od20, .func (PySem.W.fnOf "_law_pick" "_law_pick" (defArgs (topS 62)) (defBody (topS 62)) (defScope (topS 62)) .none kV20 dc20 pm20 an20 cd20 ct20), sl20⟩) (c20 : PySem.W.codeIn K cd20 "_law_pick" = true) (k20 : PySem.W.keepIn K (.ref f20) = true)
    (a21 : PySem.W.nsIn K mainGlobals "_law_same" = some (some (.ref f21))) (l21 : K.lookup f21 = some ⟨oc21, od21, .func (PySem.W.fnOf "_law_same" "_law_same" (defArgs (topS 60)) (defBody (topS 60)) (defScope (topS 60)) .none kV21 dc21 pm21 an21 cd21 ct21), sl21⟩) (c21 : PySem.W.codeIn K cd21 "_law_same" = true) (k21 : PySem.W.keepIn K (.ref f21) = true)
    (a22 : PySem.W.nsIn K mainGlobals "_law_sets" = some (some (.ref f22))) (l22 : K.lookup f22 = some ⟨oc22, od22, .func (PySem.W.fnOf "_law_sets" "_law_sets" (defArgs (topS 67)) (defBody (topS 67)) (defScope (topS 67)) .none kV22 dc22 pm22 an22 cd22 ct22), sl22⟩) (c22 : PySem.W.codeIn K cd22 "_law_sets" = true) (k22 : PySem.W.keepIn K (.ref f22) = true)
    (a23 : PySem.W.nsIn K mainGlobals "_law_told" = some (some (.ref f23))) (l23 : K.lookup f23 = some ⟨oc23, od23, .func (PySem.W.fnOf "_law_told" "_law_told" (defArgs (topS 66)) (defBody (topS 66)) (defScope (topS 66)) .none kV23 dc23 pm23 an23 cd23 ct23), sl23⟩) (c23 : PySem.W.codeIn K cd23 "_law_told" = true) (k23 : PySem.W.keepIn K (.ref f23) = true)
    (a24 : PySem.W.nsIn K mainGlobals "allowed" = some (some (.ref f24))) (l24 : K.lookup f24 = some ⟨oc24, od24, .func (PySem.W.fnOf "allowed" "allowed" (defArgs (topS 36)) (defBody (topS 36)) (defScope (topS 36)) .none kV24 dc24 pm24 an24 cd24 ct24), sl24⟩) (c24 : PySem.W.codeIn K cd24 "allowed" = true) (k24 : PySem.W.keepIn K (.ref f24) = true)
    (a25 : PySem.W.nsIn K mainGlobals "all_turns" = some (some (.ref f25))) (l25 : K.lookup f25 = some ⟨oc25, od25, .func (PySem.W.fnOf "all_turns" "all_turns" (defArgs (topS 39)) (defBody (topS 39)) (defScope (topS 39)) .none kV25 dc25 pm25 an25 cd25 ct25), sl25⟩) (c25 : PySem.W.codeIn K cd25 "all_turns" = true) (k25 : PySem.W.keepIn K (.ref f25) = true)
    (a26 : PySem.W.nsIn K mainGlobals "made_shifts" = some (some (.ref f26))) (l26 : K.lookup f26 = some ⟨oc26, od26, .func (PySem.W.fnOf "made_shifts" "made_shifts" (defArgs (topS 31)) (defBody (topS 31)) (defScope (topS 31)) .none kV26 dc26 pm26 an26 cd26 ct26), sl26⟩) (c26 : PySem.W.codeIn K cd26 "made_shifts" = true) (k26 : PySem.W.keepIn K (.ref f26) = true)
    (a27 : PySem.W.nsIn K mainGlobals "made_told" = some (some (.ref f27))) (l27 : K.lookup f27 = some ⟨oc27, od27, .func (PySem.W.fnOf "made_told" "made_told" (defArgs (topS 32)) (defBody (topS 32)) (defScope (topS 32)) .none kV27 dc27 pm27 an27 cd27 ct27), sl27⟩) (c27 : PySem.W.codeIn K cd27 "made_told" = true) (k27 : PySem.W.keepIn K (.ref f27) = true)
    (a28 : PySem.W.nsIn K mainGlobals "is_between" = some (some (.ref f28))) (l28 : K.lookup f28 = some ⟨oc28, od28, .func (PySem.W.fnOf "is_between" "is_between" (defArgs (topS 5)) (defBody (topS 5)) (defScope (topS 5)) .none kV28 dc28 pm28 an28 cd28 ct28), sl28⟩) (c28 : PySem.W.codeIn K cd28 "is_between" = true) (k28 : PySem.W.keepIn K (.ref f28) = true)
    (a29 : PySem.W.nsIn K mainGlobals "are_numbers" = some (some (.ref f29))) (l29 : K.lookup f29 = some ⟨oc29, od29, .func (PySem.W.fnOf "are_numbers" "are_numbers" (defArgs (topS 29)) (defBody (topS 29)) (defScope (topS 29)) .none kV29 dc29 pm29 an29 cd29 ct29), sl29⟩) (c29 : PySem.W.codeIn K cd29 "are_numbers" = true) (k29 : PySem.W.keepIn K (.ref f29) = true)
    (a30 : PySem.W.nsIn K mainGlobals "sure_numbers" = some (some (.ref f30))) (l30 : K.lookup f30 = some ⟨oc30, od30, .func (PySem.W.fnOf "sure_numbers" "sure_numbers" (defArgs (topS 30)) (defBody (topS 30)) (defScope (topS 30)) .none kV30 dc30 pm30 an30 cd30 ct30), sl30⟩) (c30 : PySem.W.codeIn K cd30 "sure_numbers" = true) (k30 : PySem.W.keepIn K (.ref f30) = true)
    (a31 : PySem.W.nsIn K mainGlobals "is_board_with" = some (some (.ref f31))) (l31 : K.lookup f31 = some ⟨oc31, od31, .func (PySem.W.fnOf "is_board_with" "is_board_with" (defArgs (topS 53)) (defBody (topS 53)) (defScope (topS 53)) .none kV31 dc31 pm31 an31 cd31 ct31), sl31⟩) (c31 : PySem.W.codeIn K cd31 "is_board_with" = true) (k31 : PySem.W.keepIn K (.ref f31) = true)
    (a32 : PySem.W.nsIn K mainGlobals "is_lacking" = some (some (.ref f32))) (l32 : K.lookup f32 = some ⟨oc32, od32, .func (PySem.W.fnOf "is_lacking" "is_lacking" (defArgs (topS 54)) (defBody (topS 54)) (defScope (topS 54)) .none kV32 dc32 pm32 an32 cd32 ct32), sl32⟩) (c32 : PySem.W.codeIn K cd32 "is_lacking" = true) (k32 : PySem.W.keepIn K (.ref f32) = true)
    (a33 : PySem.W.nsIn K mainGlobals "count_pieces" = some (some (.ref f33))) (l33 : K.lookup f33 = some ⟨oc33, od33, .func (PySem.W.fnOf "count_pieces" "count_pieces" (defArgs (topS 19)) (defBody (topS 19)) (defScope (topS 19)) .none kV33 dc33 pm33 an33 cd33 ct33), sl33⟩) (c33 : PySem.W.codeIn K cd33 "count_pieces" = true) (k33 : PySem.W.keepIn K (.ref f33) = true)
    (a34 : PySem.W.nsIn K mainGlobals "is_tuple_of" = some (some (.ref f34))) (l34 : K.lookup f34 = some ⟨oc34, od34, .func (PySem.W.fnOf "is_tuple_of" "is_tuple_of" (defArgs (topS 8)) (defBody (topS 8)) (defScope (topS 8)) .none kV34 dc34 pm34 an34 cd34 ct34), sl34⟩) (c34 : PySem.W.codeIn K cd34 "is_tuple_of" = true) (k34 : PySem.W.keepIn K (.ref f34) = true)
    (a35 : PySem.W.nsIn K mainGlobals "is_laid" = some (some (.ref f35))) (l35 : K.lookup f35 = some ⟨oc35, od35, .func (PySem.W.fnOf "is_laid" "is_laid" (defArgs (topS 18)) (defBody (topS 18)) (defScope (topS 18)) .none kV35 dc35 pm35 an35 cd35 ct35), sl35⟩) (c35 : PySem.W.codeIn K cd35 "is_laid" = true) (k35 : PySem.W.keepIn K (.ref f35) = true)
    (a36 : PySem.W.nsIn K mainGlobals "is_laying_with" = some (some (.ref f36))) (l36 : K.lookup f36 = some ⟨oc36, od36, .func (PySem.W.fnOf "is_laying_with" "is_laying_with" (defArgs (topS 50)) (defBody (topS 50)) (defScope (topS 50)) .none kV36 dc36 pm36 an36 cd36 ct36), sl36⟩) (c36 : PySem.W.codeIn K cd36 "is_laying_with" = true) (k36 : PySem.W.keepIn K (.ref f36) = true)
    (a37 : PySem.W.nsIn K mainGlobals "made_cells" = some (some (.ref f37))) (l37 : K.lookup f37 = some ⟨oc37, od37, .func (PySem.W.fnOf "made_cells" "made_cells" (defArgs (topS 15)) (defBody (topS 15)) (defScope (topS 15)) .none kV37 dc37 pm37 an37 cd37 ct37), sl37⟩) (c37 : PySem.W.codeIn K cd37 "made_cells" = true) (k37 : PySem.W.keepIn K (.ref f37) = true)
    (a38 : PySem.W.nsIn K mainGlobals "is_outside" = some (some (.ref f38))) (l38 : K.lookup f38 = some ⟨oc38, od38, .func (PySem.W.fnOf "is_outside" "is_outside" (defArgs (topS 55)) (defBody (topS 55)) (defScope (topS 55)) .none kV38 dc38 pm38 an38 cd38 ct38), sl38⟩) (c38 : PySem.W.codeIn K cd38 "is_outside" = true) (k38 : PySem.W.keepIn K (.ref f38) = true)
    (a39 : PySem.W.nsIn K mainGlobals "covers" = some (some (.ref f39))) (l39 : K.lookup f39 = some ⟨oc39, od39, .func (PySem.W.fnOf "covers" "covers" (defArgs (topS 24)) (defBody (topS 24)) (defScope (topS 24)) .none kV39 dc39 pm39 an39 cd39 ct39), sl39⟩) (c39 : PySem.W.codeIn K cd39 "covers" = true) (k39 : PySem.W.keepIn K (.ref f39) = true)
    (a40 : PySem.W.nsIn K mainGlobals "lines_of" = some (some (.ref f40))) (l40 : K.lookup f40 = some ⟨oc40, od40, .func (PySem.W.fnOf "lines_of" "lines_of" (defArgs (topS 25)) (defBody (topS 25)) (defScope (topS 25)) .none kV40 dc40 pm40 an40 cd40 ct40), sl40⟩) (c40 : PySem.W.codeIn K cd40 "lines_of" = true) (k40 : PySem.W.keepIn K (.ref f40) = true)
    (a41 : PySem.W.nsIn K mainGlobals "is_short_cover" = some (some (.ref f41))) (l41 : K.lookup f41 = some ⟨oc41, od41, .func (PySem.W.fnOf "is_short_cover" "is_short_cover" (defArgs (topS 51)) (defBody (topS 51)) (defScope (topS 51)) .none kV41 dc41 pm41 an41 cd41 ct41), sl41⟩) (c41 : PySem.W.codeIn K cd41 "is_short_cover" = true) (k41 : PySem.W.keepIn K (.ref f41) = true)
    (a42 : PySem.W.nsIn K mainGlobals "made_row" = some (some (.ref f42))) (l42 : K.lookup f42 = some ⟨oc42, od42, .func (PySem.W.fnOf "made_row" "made_row" (defArgs (topS 20)) (defBody (topS 20)) (defScope (topS 20)) .none kV42 dc42 pm42 an42 cd42 ct42), sl42⟩) (c42 : PySem.W.codeIn K cd42 "made_row" = true) (k42 : PySem.W.keepIn K (.ref f42) = true)
    (a43 : PySem.W.nsIn K mainGlobals "laid_so_many" = some (some (.ref f43))) (l43 : K.lookup f43 = some ⟨oc43, od43, .func (PySem.W.fnOf "laid_so_many" "laid_so_many" (defArgs (topS 21)) (defBody (topS 21)) (defScope (topS 21)) .none kV43 dc43 pm43 an43 cd43 ct43), sl43⟩) (c43 : PySem.W.codeIn K cd43 "laid_so_many" = true) (k43 : PySem.W.keepIn K (.ref f43) = true)
    (a44 : PySem.W.nsIn K mainGlobals "is_unlike" = some (some (.ref f44))) (l44 : K.lookup f44 = some ⟨oc44, od44, .func (PySem.W.fnOf "is_unlike" "is_unlike" (defArgs (topS 49)) (defBody (topS 49)) (defScope (topS 49)) .none kV44 dc44 pm44 an44 cd44 ct44), sl44⟩) (c44 : PySem.W.codeIn K cd44 "is_unlike" = true) (k44 : PySem.W.keepIn K (.ref f44) = true)
    (a45 : PySem.W.nsIn K mainGlobals "is_triple" = some (some (.ref f45))) (l45 : K.lookup f45 = some ⟨oc45, od45, .func (PySem.W.fnOf "is_triple" "is_triple" (defArgs (topS 37)) (defBody (topS 37)) (defScope (topS 37)) .none kV45 dc45 pm45 an45 cd45 ct45), sl45⟩) (c45 : PySem.W.codeIn K cd45 "is_triple" = true) (k45 : PySem.W.keepIn K (.ref f45) = true)
    (a46 : PySem.W.nsIn K mainGlobals "about" = some (some (.ref f46))) (l46 : K.lookup f46 = some ⟨oc46, od46, .func (PySem.W.fnOf "about" "about" (defArgs (topS 16)) (defBody (topS 16)) (defScope (topS 16)) .none kV46 dc46 pm46 an46 cd46 ct46), sl46⟩) (c46 : PySem.W.codeIn K cd46 "about" = true) (k46 : PySem.W.keepIn K (.ref f46) = true)
    (a47 : PySem.W.nsIn K mainGlobals "made_turned" = some (some (.ref f47))) (l47 : K.lookup f47 = some ⟨oc47, od47, .func (PySem.W.fnOf "made_turned" "made_turned" (defArgs (topS 40)) (defBody (topS 40)) (defScope (topS 40)) .none kV47 dc47 pm47 an47 cd47 ct47), sl47⟩) (c47 : PySem.W.codeIn K cd47 "made_turned" = true) (k47 : PySem.W.keepIn K (.ref f47) = true)
    (a48 : PySem.W.nsIn K mainGlobals "is_way" = some (some (.ref f48))) (l48 : K.lookup f48 = some ⟨oc48, od48, .func (PySem.W.fnOf "is_way" "is_way" (defArgs (topS 48)) (defBody (topS 48)) (defScope (topS 48)) .none kV48 dc48 pm48 an48 cd48 ct48), sl48⟩) (c48 : PySem.W.codeIn K cd48 "is_way" = true) (k48 : PySem.W.keepIn K (.ref f48) = true)
    (a49 : PySem.W.nsIn K mainGlobals "laid" = some (some (.ref f49))) (l49 : K.lookup f49 = some ⟨oc49, od49, .func (PySem.W.fnOf "laid" "laid" (defArgs (topS 22)) (defBody (topS 22)) (defScope (topS 22)) .none kV49 dc49 pm49 an49 cd49 ct49), sl49⟩) (c49 : PySem.W.codeIn K cd49 "laid" = true) (k49 : PySem.W.keepIn K (.ref f49) = true)
    (a50 : PySem.W.nsIn K mainGlobals "sure_turn" = some (some (.ref f50))) (l50 : K.lookup f50 = some ⟨oc50, od50, .func (PySem.W.fnOf "sure_turn" "sure_turn" (defArgs (topS 38)) (defBody (topS 38)) (defScope (topS 38)) .none kV50 dc50 pm50 an50 cd50 ct50), sl50⟩) (c50 : PySem.W.codeIn K cd50 "sure_turn" = true) (k50 : PySem.W.keepIn K (.ref f50) = true)
    (a51 : PySem.W.nsIn K mainGlobals "turned" = some (some (.ref f51))) (l51 : K.lookup f51 = some ⟨oc51, od51, .func (PySem.W.fnOf "turned" "turned" (defArgs (topS 41)) (defBody (topS 41)) (defScope (topS 41)) .none kV51 dc51 pm51 an51 cd51 ct51), sl51⟩) (c51 : PySem.W.codeIn K cd51 "turned" = true) (k51 : PySem.W.keepIn K (.ref f51) = true)
    (a52 : PySem.W.nsIn K mainGlobals "_law_right" = some (some (.ref f52))) (l52 : K.lookup f52 = some ⟨oc52, od52, .func (PySem.W.fnOf "_law_right" "_law_right" (defArgs (topS 69)) (defBody (topS 69)) (defScope (topS 69)) .none kV52 dc52 pm52 an52 cd52 ct52), sl52⟩) (c52 : PySem.W.codeIn K cd52 "_law_right" = true) (k52 : PySem.W.keepIn K (.ref f52) = true)
    (a53 : PySem.W.nsIn K mainGlobals "law" = some (some (.ref f53))) (l53 : K.lookup f53 = some ⟨oc53, od53, .func (PySem.W.fnOf "law" "law" (defArgs (topS 70)) (defBody (topS 70)) (defScope (topS 70)) .none kV53 dc53 pm53 an53 cd53 ct53), sl53⟩) (c53 : PySem.W.codeIn K cd53 "law" = true) (k53 : PySem.W.keepIn K (.ref f53) = true)
    (z_len : PySem.W.nsIn K mainGlobals "len" = some none)
    (z_int : PySem.W.nsIn K mainGlobals "int" = some none)
    (z_abs : PySem.W.nsIn K mainGlobals "abs" = some none)
    (z_list : PySem.W.nsIn K mainGlobals "list" = some none)
    (z_enumerate : PySem.W.nsIn K mainGlobals "enumerate" = some none)
    (z_range : PySem.W.nsIn K mainGlobals "range" = some none)
    (z_tuple : PySem.W.nsIn K mainGlobals "tuple" = some none)
    (z_sorted : PySem.W.nsIn K mainGlobals "sorted" = some none)
    (z_isinstance : PySem.W.nsIn K mainGlobals "isinstance" = some none)
    (z_bool : PySem.W.nsIn K mainGlobals "bool" = some none)
    (z_all : PySem.W.nsIn K mainGlobals "all" = some none)
    (z_min : PySem.W.nsIn K mainGlobals "min" = some none)
    (z_zip : PySem.W.nsIn K mainGlobals "zip" = some none)
    (z_str : PySem.W.nsIn K mainGlobals "str" = some none)
    (z_set : PySem.W.nsIn K mainGlobals "set" = some none)
    (z_max : PySem.W.nsIn K mainGlobals "max" = some none)
    (z_ValueError : PySem.W.nsIn K mainGlobals "ValueError" = some none)
    (g_MOST_ROWS : PySem.W.nsIn K mainGlobals "MOST_ROWS" = some (some (.int 6 t_MOST_ROWS)))
    (g_LEAST_SIZE : PySem.W.nsIn K mainGlobals "LEAST_SIZE" = some (some (.int 2 t_LEAST_SIZE)))
    (g_MOST_NUMBERS : PySem.W.nsIn K mainGlobals "MOST_NUMBERS" = some (some (.int 6 t_MOST_NUMBERS)))
    (g_GREATEST : PySem.W.nsIn K mainGlobals "GREATEST" = some (some (.int 26 t_GREATEST)))
    (g_MOST_PART : PySem.W.nsIn K mainGlobals "MOST_PART" = some (some (.int 40 t_MOST_PART)))
    (xa_CanNot : PySem.W.nsIn K mainGlobals "CanNot" = some (some (.ref C_CanNot))) (xl_CanNot : K.lookup C_CanNot = some (excClassObj nm_CanNot q_CanNot C_CanNot N_CanNot bs_CanNot [.type "ValueError", .type "Exception", .type "BaseException", .type "object"] true sn_CanNot sub_CanNot ab_CanNot col_CanNot dd_CanNot m0_CanNot m1_CanNot m2_CanNot m3_CanNot m5_CanNot "ValueError.__new__")) (xe_CanNot : PySem.W.subIn K (.ref C_CanNot) (.type "BaseException") = some true) (xt_CanNot : PySem.W.typeIn K (.ref C_CanNot) = some (.type "type")) (xk_CanNot : PySem.W.keepIn K (.ref C_CanNot) = true) (xc_CanNot : PySem.W.isClsIn K C_CanNot = true) (xi_CanNot : PySem.W.findIn K (.ref C_CanNot) "__init__" = some (some (.ref fI_CanNot))) (xf_CanNot : PySem.W.typeIn K (.ref fI_CanNot) = some (.type "function")) (xd_CanNot : K.lookup fI_CanNot = some ⟨ocI_CanNot, odI_CanNot, .func (PySem.W.fnOf "__init__" "CanNot.__init__" (defArgs (clsDef (topS 2))) (defBody (clsDef (topS 2))) (defScope (clsDef (topS 2))) .none kVI_CanNot dcI_CanNot pmI_CanNot anI_CanNot cdI_CanNot ctI_CanNot), slI_CanNot⟩) (xo_CanNot : PySem.W.codeIn K cdI_CanNot "CanNot.__init__" = true) (xp_CanNot : PySem.W.keepIn K (.ref fI_CanNot) = true)
    (xa_Unfit : PySem.W.nsIn K mainGlobals "Unfit" = some (some (.ref C_Unfit))) (xl_Unfit : K.lookup C_Unfit = some (excClassObj nm_Unfit q_Unfit C_Unfit N_Unfit bs_Unfit [.type "ValueError", .type "Exception", .type "BaseException", .type "object"] true sn_Unfit sub_Unfit ab_Unfit col_Unfit dd_Unfit m0_Unfit m1_Unfit m2_Unfit m3_Unfit m5_Unfit "ValueError.__new__")) (xe_Unfit : PySem.W.subIn K (.ref C_Unfit) (.type "BaseException") = some true) (xt_Unfit : PySem.W.typeIn K (.ref C_Unfit) = some (.type "type")) (xk_Unfit : PySem.W.keepIn K (.ref C_Unfit) = true) (xc_Unfit : PySem.W.isClsIn K C_Unfit = true) (xi_Unfit : PySem.W.findIn K (.ref C_Unfit) "__init__" = some (some (.ref fI_Unfit))) (xf_Unfit : PySem.W.typeIn K (.ref fI_Unfit) = some (.type "function")) (xd_Unfit : K.lookup fI_Unfit = some ⟨ocI_Unfit, odI_Unfit, .func (PySem.W.fnOf "__init__" "Unfit.__init__" (defArgs (clsDef (topS 1))) (defBody (clsDef (topS 1))) (defScope (clsDef (topS 1))) .none kVI_Unfit dcI_Unfit pmI_Unfit anI_Unfit cdI_Unfit ctI_Unfit), slI_Unfit⟩) (xo_Unfit : PySem.W.codeIn K cdI_Unfit "Unfit.__init__" = true) (xp_Unfit : PySem.W.keepIn K (.ref fI_Unfit) = true)
    (s_CanNot_CanNot : PySem.W.subIn K (.ref C_CanNot) (.ref C_CanNot) = some true)
    (s_CanNot_Unfit : PySem.W.subIn K (.ref C_CanNot) (.ref C_Unfit) = some false)
    (s_Unfit_CanNot : PySem.W.subIn K (.ref C_Unfit) (.ref C_CanNot) = some false)
    (s_Unfit_Unfit : PySem.W.subIn K (.ref C_Unfit) (.ref C_Unfit) = some true) :
    ∃ fd : FuncData, (∀ (s : Shared) (v : Value), BindsTo s fd ⟨[v], []⟩ [("script", v)]) ∧ ∀ base : Heap, K.In base → base.Ns mainGlobals mg → FnOk l.prog w K mg base (L2.CX l.prog w) 16 fa fd ["script"] (spL K) := by
  have e := hfa.symm.trans (PySem.W.mg_of X G a53)
  cases e
  have g : ∀ base : Heap, Hy ⟨l.prog, w, K, mg, base⟩ := fun base => {
    d__law_box := .mk' (PySem.W.mg_of X G a0) l0 c0 k0 fun _ _ _ _ _ _ us hl => match us, hl with | [_, _], _ => rfl,
    d__law_cells := .mk' (PySem.W.mg_of X G a1) l1 c1 k1 fun _ _ _ _ _ _ us hl => match us, hl with | [_, _], _ => rfl,
    d__law_take := .mk' (PySem.W.mg_of X G a2) l2 c2 k2 fun _ _ _ _ _ _ us hl => match us, hl with | [_, _], _ => rfl,
    d__law_below := .mk' (PySem.W.mg_of X G a3) l3 c3 k3 fun _ _ _ _ _ _ us hl => match us, hl with | [_, _], _ => rfl,
    d__law_board := .mk' (PySem.W.mg_of X G a4) l4 c4 k4 fun _ _ _ _ _ _ us hl => match us, hl with | [_, _, _], _ => rfl,
    d_is_number := .mk' (PySem.W.mg_of X G a5) l5 c5 k5 fun _ _ _ _ _ _ us hl => match us, hl with | [_], _ => rfl,
    d_is_from := .mk' (PySem.W.mg_of X G a6) l6 c6 k6 fun _ _ _ _ _ _ us hl => match us, hl with | [_, _], _ => rfl,
    d_is_set := .mk' (PySem.W.mg_of X G a7) l7 c7 k7 fun _ _ _ _ _ _ us hl => match us, hl with | [_, _], _ => rfl,
    d_lies_below := .mk' (PySem.W.mg_of X G a8) l8 c8 k8 fun _ _ _ _ _ _ us hl => match us, hl with | [_], _ => rfl,
    d_look_below := .mk' (PySem.W.mg_of X G a9) l9 c9 k9 fun _ _ _ _ _ _ us hl => match us, hl with | [_], _ => rfl,
    d_sure := .mk' (PySem.W.mg_of X G a10) l10 c10 k10 fun _ _ _ _ _ _ us hl => match us, hl with | [_], _ => rfl,
    d_is_board := .mk' (PySem.W.mg_of X G a11) l11 c11 k11 fun _ _ _ _ _ _ us hl => match us, hl with | [_], _ => rfl,
    d_tuple_of := .mk' (PySem.W.mg_of X G a12) l12 c12 k12 fun _ _ _ _ _ _ us hl => match us, hl with | [_], _ => rfl,
    d_sure_board := .mk' (PySem.W.mg_of X G a13) l13 c13 k13 fun _ _ _ _ _ _ us hl => match us, hl with | [_], _ => rfl,
    d_are_tied := .mk' (PySem.W.mg_of X G a14) l14 c14 k14 fun _ _ _ _ _ _ us hl => match us, hl with | [_, _, _], _ => rfl,
    d_tied_all := .mk' (PySem.W.mg_of X G a15) l15 c15 k15 fun _ _ _ _ _ _ us hl => match us, hl with | [_, _], _ => rfl,
    d_is_tied := .mk' (PySem.W.mg_of X G a16) l16 c16 k16 fun _ _ _ _ _ _ us hl => match us, hl with | [_, _, _], _ => rfl,
    d__law_heard := .mk' (PySem.W.mg_of X G a17) l17 c17 k17 fun _ _ _ _ _ _ us hl => match us, hl with | [_, _, _], _ => rfl,
    d__law_of := .mk' (PySem.W.mg_of X G a18) l18 c18 k18 fun _ _ _ _ _ _ us hl => match us, hl with | [_, _], _ => rfl,
    d__law_laying := .mk' (PySem.W.mg_of X G a19) l19 c19 k19 fun _ _ _ _ _ _ us hl => match us, hl with | [_, _], _ => rfl,
    d__law_pick := .mk' (PySem.W.mg_of X G a20) l20 c20 k20 fun _ _ _ _ _ _ us hl => match us, hl with | [_, _, _], _ => rfl,
    d__law_same := .mk' (PySem.W.mg_of X G a21) l21 c21 k21 fun _ _ _ _ _ _ us hl => match us, hl with | [_, _], _ => rfl,
    d__law_sets := .mk' (PySem.W.mg_of X G a22) l22 c22 k22 fun _ _ _ _ _ _ us hl => match us, hl with | [_], _ => rfl,
    d__law_told := .mk' (PySem.W.mg_of X G a23) l23 c23 k23 fun _ _ _ _ _ _ us hl => match us, hl with | [_], _ => rfl,
    d_allowed := .mk' (PySem.W.mg_of X G a24) l24 c24 k24 fun _ _ _ _ _ _ us hl => match us, hl with | [_, _], _ => rfl,
    d_all_turns := .mk' (PySem.W.mg_of X G a25) l25 c25 k25 fun _ _ _ _ _ _ us hl => match us, hl with | [_], _ => rfl,
    d_made_shifts := .mk' (PySem.W.mg_of X G a26) l26 c26 k26 fun _ _ _ _ _ _ us hl => match us, hl with | [_], _ => rfl,
    d_made_told := .mk' (PySem.W.mg_of X G a27) l27 c27 k27 fun _ _ _ _ _ _ us hl => match us, hl with | [_], _ => rfl,
    d_is_between := .mk' (PySem.W.mg_of X G a28) l28 c28 k28 fun _ _ _ _ _ _ us hl => match us, hl with | [_, _, _], _ => rfl,
    d_are_numbers := .mk' (PySem.W.mg_of X G a29) l29 c29 k29 fun _ _ _ _ _ _ us hl => match us, hl with | [_], _ => rfl,
    d_sure_numbers := .mk' (PySem.W.mg_of X G a30) l30 c30 k30 fun _ _ _ _ _ _ us hl => match us, hl with | [_], _ => rfl,
    d_is_board_with := .mk' (PySem.W.mg_of X G a31) l31 c31 k31 fun _ _ _ _ _ _ us hl => match us, hl with | [_, _], _ => rfl,
    d_is_lacking := .mk' (PySem.W.mg_of X G a32) l32 c32 k32 fun _ _ _ _ _ _ us hl => match us, hl with | [_, _], _ => rfl,
    d_count_pieces := .mk' (PySem.W.mg_of X G a33) l33 c33 k33 fun _ _ _ _ _ _ us hl => match us, hl with | [_], _ => rfl,
    d_is_tuple_of := .mk' (PySem.W.mg_of X G a34) l34 c34 k34 fun _ _ _ _ _ _ us hl => match us, hl with | [_, _], _ => rfl,
    d_is_laid := .mk' (PySem.W.mg_of X G a35) l35 c35 k35 fun _ _ _ _ _ _ us hl => match us, hl with | [_, _], _ => rfl,
    d_is_laying_with := .mk' (PySem.W.mg_of X G a36) l36 c36 k36 fun _ _ _ _ _ _ us hl => match us, hl with | [_, _, _], _ => rfl,
    d_made_cells := .mk' (PySem.W.mg_of X G a37) l37 c37 k37 fun _ _ _ _ _ _ us hl => match us, hl with | [_], _ => rfl,
    d_is_outside := .mk' (PySem.W.mg_of X G a38) l38 c38 k38 fun _ _ _ _ _ _ us hl => match us, hl with | [_, _, _], _ => rfl,
    d_covers := .mk' (PySem.W.mg_of X G a39) l39 c39 k39 fun _ _ _ _ _ _ us hl => match us, hl with | [_, _], _ => rfl,
    d_lines_of := .mk' (PySem.W.mg_of X G a40) l40 c40 k40 fun _ _ _ _ _ _ us hl => match us, hl with | [_], _ => rfl,
    d_is_short_cover := .mk' (PySem.W.mg_of X G a41) l41 c41 k41 fun _ _ _ _ _ _ us hl => match us, hl with | [_, _, _], _ => rfl,
    d_made_row := .mk' (PySem.W.mg_of X G a42) l42 c42 k42 fun _ _ _ _ _ _ us hl => match us, hl with | [_], _ => rfl,
    d_laid_so_many := .mk' (PySem.W.mg_of X G a43) l43 c43 k43 fun _ _ _ _ _ _ us hl => match us, hl with | [_, _], _ => rfl,
    d_is_unlike := .mk' (PySem.W.mg_of X G a44) l44 c44 k44 fun _ _ _ _ _ _ us hl => match us, hl with | [_, _, _], _ => rfl,
    d_is_triple := .mk' (PySem.W.mg_of X G a45) l45 c45 k45 fun _ _ _ _ _ _ us hl => match us, hl with | [_], _ => rfl,
    d_about := .mk' (PySem.W.mg_of X G a46) l46 c46 k46 fun _ _ _ _ _ _ us hl => match us, hl with | [_, _], _ => rfl,
    d_made_turned := .mk' (PySem.W.mg_of X G a47) l47 c47 k47 fun _ _ _ _ _ _ us hl => match us, hl with | [_, _], _ => rfl,
    d_is_way := .mk' (PySem.W.mg_of X G a48) l48 c48 k48 fun _ _ _ _ _ _ us hl => match us, hl with | [_, _, _], _ => rfl,
    d_laid := .mk' (PySem.W.mg_of X G a49) l49 c49 k49 fun _ _ _ _ _ _ us hl => match us, hl with | [_, _], _ => rfl,
    d_sure_turn := .mk' (PySem.W.mg_of X G a50) l50 c50 k50 fun _ _ _ _ _ _ us hl => match us, hl with | [_], _ => rfl,
    d_turned := .mk' (PySem.W.mg_of X G a51) l51 c51 k51 fun _ _ _ _ _ _ us hl => match us, hl with | [_, _], _ => rfl,
    d__law_right := .mk' (PySem.W.mg_of X G a52) l52 c52 k52 fun _ _ _ _ _ _ us hl => match us, hl with | [_], _ => rfl,
    d_law := .mk' (PySem.W.mg_of X G a53) l53 c53 k53 fun _ _ _ _ _ _ us hl => match us, hl with | [_], _ => rfl,
    b_len := PySem.W.mg_none_of X G z_len,
    b_int := PySem.W.mg_none_of X G z_int,
    b_abs := PySem.W.mg_none_of X G z_abs,
    b_list := PySem.W.mg_none_of X G z_list,
    b_enumerate := PySem.W.mg_none_of X G z_enumerate,
    b_range := PySem.W.mg_none_of X G z_range,
    b_tuple := PySem.W.mg_none_of X G z_tuple,
    b_sorted := PySem.W.mg_none_of X G z_sorted,
    b_isinstance := PySem.W.mg_none_of X G z_isinstance,
    b_bool := PySem.W.mg_none_of X G z_bool,
    b_all := PySem.W.mg_none_of X G z_all,
    b_min := PySem.W.mg_none_of X G z_min,
    b_zip := PySem.W.mg_none_of X G z_zip,
    b_str := PySem.W.mg_none_of X G z_str,
    b_set := PySem.W.mg_none_of X G z_set,
    b_max := PySem.W.mg_none_of X G z_max,
    g_MOST_ROWS := .int (PySem.W.mg_of X G g_MOST_ROWS),
    g_LEAST_SIZE := .int (PySem.W.mg_of X G g_LEAST_SIZE),
    g_MOST_NUMBERS := .int (PySem.W.mg_of X G g_MOST_NUMBERS),
    g_GREATEST := .int (PySem.W.mg_of X G g_GREATEST),
    g_MOST_PART := .int (PySem.W.mg_of X G g_MOST_PART),
    x_CanNot := Xc.mk' (B := "ValueError") PySem.F.excBase_ValueError (PySem.W.mg_of X G xa_CanNot) ⟨_, _, _, _, _, _, _, _, _, _, _, _, _, _, xl_CanNot⟩ xe_CanNot xt_CanNot xk_CanNot xi_CanNot xf_CanNot (fun T => init0 T (fun_mk xd_CanNot xo_CanNot xp_CanNot) ⟨rfl, rfl, rfl, by decide +kernel, rfl, by decide +kernel, by decide +kernel⟩ rfl rfl rfl (PySem.W.mg_none_of X G z_ValueError) (by decide +kernel) (by decide) (by decide) (by kernel_rfl) (by decide +kernel) (by kernel_rfl) (by decide +kernel) (fun env => ⟨_, rfl⟩)) ((fun_mk xd_CanNot xo_CanNot xp_CanNot).binds fun _ _ _ _ _ _ us hl => match us, hl with | [_], _ => rfl),
    x_Unfit := Xc.mk' (B := "ValueError") PySem.F.excBase_ValueError (PySem.W.mg_of X G xa_Unfit) ⟨_, _, _, _, _, _, _, _, _, _, _, _, _, _, xl_Unfit⟩ xe_Unfit xt_Unfit xk_Unfit xi_Unfit xf_Unfit (fun T => init0 T (fun_mk xd_Unfit xo_Unfit xp_Unfit) ⟨rfl, rfl, rfl, by decide +kernel, rfl, by decide +kernel, by decide +kernel⟩ rfl rfl rfl (PySem.W.mg_none_of X G z_ValueError) (by decide +kernel) (by decide) (by decide) (by kernel_rfl) (by decide +kernel) (by kernel_rfl) (by decide +kernel) (fun env => ⟨_, rfl⟩)) ((fun_mk xd_Unfit xo_Unfit xp_Unfit).binds fun _ _ _ _ _ _ us hl => match us, hl with | [_], _ => rfl),
    xe := xeAll_of (xeAll_cons (xeRow (PySem.W.mg_of X G xa_CanNot) (PySem.W.mg_of X G xa_CanNot) xe_CanNot xc_CanNot xt_CanNot s_CanNot_CanNot (by decide) (xeRow (PySem.W.mg_of X G xa_CanNot) (PySem.W.mg_of X G xa_Unfit) xe_Unfit xc_Unfit xt_Unfit s_CanNot_Unfit (by decide) xeRow_nil)) (xeAll_cons (xeRow (PySem.W.mg_of X G xa_Unfit) (PySem.W.mg_of X G xa_CanNot) xe_CanNot xc_CanNot xt_CanNot s_Unfit_CanNot (by decide) (xeRow (PySem.W.mg_of X G xa_Unfit) (PySem.W.mg_of X G xa_Unfit) xe_Unfit xc_Unfit xt_Unfit s_Unfit_Unfit (by decide) xeRow_nil)) xeAll_nil)) }
  refine ⟨PySem.W.fnOf "law" "law" (defArgs (topS 70)) (defBody (topS 70)) (defScope (topS 70)) .none kV53 dc53 pm53 an53 cd53 ct53, fun s v => .of_eq rfl, fun base _ _ => ?_⟩
  exact law_A (c := ⟨l.prog, w, K, mg, base⟩) (k := 15) (j := 15) (mB := (eCall f__law_box (lCons (eCall f__law_cells (lCons (eVar 0) (lCons (eCst (.int 1)) lNil))) (lCons (eCst (.int 0)) lNil)))) (g base) (fun_mk l53 c53 k53) sc_law rfl (by decide) (fn__law_right (g base)) rfl rfl rfl rfl rfl rfl rfl rfl (fun _ => rfl) (fun X W h => (d_call h (fn__law_box h.hy) (by decide) rfl rfl (d_aL (d_call h (fn__law_cells h.hy) (by decide) rfl rfl (d_aL (d_var h 0 rfl rfl rfl rfl) (d_aL d_int d_a0)) (arL (arL ar0)) rfl) (d_aL d_int d_a0)) (arL (arL ar0)) rfl)) law_fact

end Rk

open PySem PySem.W PyProof.Rows
set_option maxHeartbeats 0 in
theorem PySem.Challenge.cw_rooksonstairs_k17_papers_looked_through_holds : PySem.Challenge.rw_rooksonstairs_k17_papers_looked_through.Holds := by
  w_on; o_law; k_head; (case hw => w_witness2)
  k_fill
  refine L2.walk_of (l := PySem.Challenge.rw_rooksonstairs_k17_papers_looked_through) (n := 63) (k := 16) (x := "script") (CX := fun w => L2.CX PySem.Challenge.rw_rooksonstairs_k17_papers_looked_through.prog w) (sp := fun w => Rk.spL _) rfl (by decide) rfl ⟨rfl, by decide, by decide⟩ (fun w h Y => PySem.W.kIn_of Y) ?F (fun _ _ a ns hl _ hS => ⟨a, ns, rfl, hS, hl, fun _ => rfl⟩) (fun _ _ _ _ _ h => Rk.cx_no h)
  case F =>
    intro w mg fa h KX G hmg
    refine' Rk.all_mk KX G hmg ?a0 ?l0 ?c0 ?k0 ?a1 ?l1 ?c1 ?k1 ?a2 ?l2 ?c2 ?k2 ?a3 ?l3 ?c3 ?k3 ?a4 ?l4 ?c4 ?k4 ?a5 ?l5 ?c5 ?k5 ?a6 ?l6 ?c6 ?k6 ?a7 ?l7 ?c7 ?k7 ?a8 ?l8 ?c8 ?k8 ?a9 ?l9 ?c9 ?k9 ?a10 ?l10 ?c10 ?k10 ?a11 ?l11 ?c11 ?k11 ?a12 ?l12 ?c12 ?k12 ?a13 ?l13 ?c13 ?k13 ?a14 ?l14 ?c14 ?k14 ?a15 ?l15 ?c15 ?k15 ?a16 ?l16 ?c16 ?k16 ?a17 ?l17 ?c17 ?k17 ?a18 ?l18 ?c18 ?k18 ?a19 ?l19 ?c19 ?k19 ?a20 ?l20 ?c20 ?k20 ?a21 ?l21 ?c21 ?k21 ?a22 ?l22 ?c22 ?k22 ?a23 ?l23 ?c23 ?k23 ?a24 ?l24 ?c24 ?k24 ?a25 ?l25 ?c25 ?k25 ?a26 ?l26 ?c26 ?k26 ?a27 ?l27 ?c27 ?k27 ?a28 ?l28 ?c28 ?k28 ?a29 ?l29 ?c29 ?k29 ?a30 ?l30 ?c30 ?k30 ?a31 ?l31 ?c31 ?k31 ?a32 ?l32 ?c32 ?k32 ?a33 ?l33 ?c33 ?k33 ?a34 ?l34 ?c34 ?k34 ?a35 ?l35 ?c35 ?k35 ?a36 ?l36 ?c36 ?k36 ?a37 ?l37 ?c37 ?k37 ?a38 ?l38 ?c38 ?k38 ?a39 ?l39 ?c39 ?k39 ?a40 ?l40 ?c40 ?k40 ?a41 ?l41 ?c41 ?k41 ?a42 ?l42 ?c42 ?k42 ?a43 ?l43 ?c43 ?k43 ?a44 ?l44 ?c44 ?k44 ?a45 ?l45 ?c45 ?k45 ?a46 ?l46 ?c46 ?k46 ?a47 ?l47 ?c47 ?k47 ?a48 ?l48 ?c48 ?k48 ?a49 ?l49 ?c49 ?k49 ?a50 ?l50 ?c50 ?k50 ?a51 ?l51 ?c51 ?k51 ?a52 ?l52 ?c52 ?k52 ?a53 ?l53 ?c53 ?k53 ?z_len ?z_int ?z_abs ?z_list ?z_enumerate ?z_range ?z_tuple ?z_sorted ?z_isinstance ?z_bool ?z_all ?z_min ?z_zip ?z_str ?z_set ?z_max ?z_ValueError ?g_MOST_ROWS ?g_LEAST_SIZE ?g_MOST_NUMBERS ?g_GREATEST ?g_MOST_PART ?xa_CanNot ?xl_CanNot ?xe_CanNot ?xt_CanNot ?xk_CanNot ?xc_CanNot ?xi_CanNot ?xf_CanNot ?xd_CanNot ?xo_CanNot ?xp_CanNot ?xa_Unfit ?xl_Unfit ?xe_Unfit ?xt_Unfit ?xk_Unfit ?xc_Unfit ?xi_Unfit ?xf_Unfit ?xd_Unfit ?xo_Unfit ?xp_Unfit ?s_CanNot_CanNot ?s_CanNot_Unfit ?s_Unfit_CanNot ?s_Unfit_Unfit
    (case a0 => k_is); (case l0 => k_is); (case c0 => k_is); (case k0 => k_is); (case a1 => k_is); (case l1 => k_is); (case c1 => k_is); (case k1 => k_is)
    (case a2 => k_is); (case l2 => k_is); (case c2 => k_is); (case k2 => k_is); (case a3 => k_is); (case l3 => k_is); (case c3 => k_is); (case k3 => k_is)
    (case a4 => k_is); (case l4 => k_is); (case c4 => k_is); (case k4 => k_is); (case a5 => k_is); (case l5 => k_is); (case c5 => k_is); (case k5 => k_is)
    (case a6 => k_is); (case l6 => k_is); (case c6 => k_is); (case k6 => k_is); (case a7 => k_is); (case l7 => k_is); (case c7 => k_is); (case k7 => k_is)
    (case a8 => k_is); (case l8 => k_is); (case c8 => k_is); (case k8 => k_is); (case a9 => k_is); (case l9 => k_is); (case c9 => k_is); (case k9 => k_is)
    (case a10 => k_is); (case l10 => k_is); (case c10 => k_is); (case k10 => k_is); (case a11 => k_is); (case l11 => k_is); (case c11 => k_is); (case k11 => k_is)
    (case a12 => k_is); (case l12 => k_is); (case c12 => k_is); (case k12 => k_is); (case a13 => k_is); (case l13 => k_is); (case c13 => k_is); (case k13 => k_is)
    (case a14 => k_is); (case l14 => k_is); (case c14 => k_is); (case k14 => k_is); (case a15 => k_is); (case l15 => k_is); (case c15 => k_is); (case k15 => k_is)
    (case a16 => k_is); (case l16 => k_is); (case c16 => k_is); (case k16 => k_is); (case a17 => k_is); (case l17 => k_is); (case c17 => k_is); (case k17 => k_is)
    (case a18 => k_is); (case l18 => k_is); (case c18 => k_is); (case k18 => k_is); (case a19 => k_is); (case l19 => k_is); (case c19 => k_is); (case k19 => k_is)
    (case a20 => k_is); (case l20 => k_is); (case c20 => k_is); (case k20 => k_is); (case a21 => k_is); (case l21 => k_is); (case c21 => k_is); (case k21 => k_is)
    (case a22 => k_is); (case l22 => k_is); (case c22 => k_is); (case k22 => k_is); (case a23 => k_is); (case l23 => k_is); (case c23 => k_is); (case k23 => k_is)
    (case a24 => k_is); (case l24 => k_is); (case c24 => k_is); (case k24 => k_is); (case a25 => k_is); (case l25 => k_is); (case c25 => k_is); (case k25 => k_is)
    (case a26 => k_is); (case l26 => k_is); (case c26 => k_is); (case k26 => k_is); (case a27 => k_is); (case l27 => k_is); (case c27 => k_is); (case k27 => k_is)
    (case a28 => k_is); (case l28 => k_is); (case c28 => k_is); (case k28 => k_is); (case a29 => k_is); (case l29 => k_is); (case c29 => k_is); (case k29 => k_is)
    (case a30 => k_is); (case l30 => k_is); (case c30 => k_is); (case k30 => k_is); (case a31 => k_is); (case l31 => k_is); (case c31 => k_is); (case k31 => k_is)
    (case a32 => k_is); (case l32 => k_is); (case c32 => k_is); (case k32 => k_is); (case a33 => k_is); (case l33 => k_is); (case c33 => k_is); (case k33 => k_is)
    (case a34 => k_is); (case l34 => k_is); (case c34 => k_is); (case k34 => k_is); (case a35 => k_is); (case l35 => k_is); (case c35 => k_is); (case k35 => k_is)
    (case a36 => k_is); (case l36 => k_is); (case c36 => k_is); (case k36 => k_is); (case a37 => k_is); (case l37 => k_is); (case c37 => k_is); (case k37 => k_is)
    (case a38 => k_is); (case l38 => k_is); (case c38 => k_is); (case k38 => k_is); (case a39 => k_is); (case l39 => k_is); (case c39 => k_is); (case k39 => k_is)
    (case a40 => k_is); (case l40 => k_is); (case c40 => k_is); (case k40 => k_is); (case a41 => k_is); (case l41 => k_is); (case c41 => k_is); (case k41 => k_is)
    (case a42 => k_is); (case l42 => k_is); (case c42 => k_is); (case k42 => k_is); (case a43 => k_is); (case l43 => k_is); (case c43 => k_is); (case k43 => k_is)
    (case a44 => k_is); (case l44 => k_is); (case c44 => k_is); (case k44 => k_is); (case a45 => k_is); (case l45 => k_is); (case c45 => k_is); (case k45 => k_is)
    (case a46 => k_is); (case l46 => k_is); (case c46 => k_is); (case k46 => k_is); (case a47 => k_is); (case l47 => k_is); (case c47 => k_is); (case k47 => k_is)
    (case a48 => k_is); (case l48 => k_is); (case c48 => k_is); (case k48 => k_is); (case a49 => k_is); (case l49 => k_is); (case c49 => k_is); (case k49 => k_is)
    (case a50 => k_is); (case l50 => k_is); (case c50 => k_is); (case k50 => k_is); (case a51 => k_is); (case l51 => k_is); (case c51 => k_is); (case k51 => k_is)
    (case a52 => k_is); (case l52 => k_is); (case c52 => k_is); (case k52 => k_is); (case a53 => k_is); (case l53 => k_is); (case c53 => k_is); (case k53 => k_is)
    (case z_len => k_is); (case z_int => k_is); (case z_abs => k_is); (case z_list => k_is); (case z_enumerate => k_is); (case z_range => k_is); (case z_tuple => k_is); (case z_sorted => k_is)
    (case z_isinstance => k_is); (case z_bool => k_is); (case z_all => k_is); (case z_min => k_is); (case z_zip => k_is); (case z_str => k_is); (case z_set => k_is); (case z_max => k_is)
    (case z_ValueError => k_is); (case g_MOST_ROWS => k_is); (case g_LEAST_SIZE => k_is); (case g_MOST_NUMBERS => k_is); (case g_GREATEST => k_is); (case g_MOST_PART => k_is); (case xa_CanNot => k_is); (case xl_CanNot => k_is)
    (case xe_CanNot => k_is); (case xt_CanNot => k_is); (case xk_CanNot => k_is); (case xc_CanNot => k_is); (case xi_CanNot => k_is); (case xf_CanNot => k_is); (case xd_CanNot => k_is); (case xo_CanNot => k_is)
    (case xp_CanNot => k_is); (case xa_Unfit => k_is); (case xl_Unfit => k_is); (case xe_Unfit => k_is); (case xt_Unfit => k_is); (case xk_Unfit => k_is); (case xc_Unfit => k_is); (case xi_Unfit => k_is)
    (case xf_Unfit => k_is); (case xd_Unfit => k_is); (case xo_Unfit => k_is); (case xp_Unfit => k_is); (case s_CanNot_CanNot => k_is); (case s_CanNot_Unfit => k_is); (case s_Unfit_CanNot => k_is); (case s_Unfit_Unfit => k_is)
