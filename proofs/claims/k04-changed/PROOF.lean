import PyProof.Rows.All
import Wide.All
import OpenK.AllK
import Wide.FinOn
import HandS.Base
import HandS.Call
import HandS.List
import HandS.Comp
import HandS.Ends
import HandS.Dict
import HandS.Iter
import HandS.Text
import HandS.TupAny
import HandS.IsInst
import HandS.Flow
import HandS.RaiseMore
import HandS.Wide
import HandS.Deep
import PyProof.Rows.InDataRows
import PyProof.ReprRoads
import HandS.Defaults
import HandS.Star
import HandS.More
import HandS.Words
import HandS.WordsExc
import HandS.Head0
import HandS.Head1
import HandS.Head2
import HandS.HeadEnd
import HandS.HeadHook1
import HandS.HeadHook2
import KE.KRevSl
import Lean
import PyProof.WalksMore
import PyProof.CollectIter
import HandS.Zip
import HandS.Style
import HandS.SortInts
import KE.KDictPairs
import HandS.SetKeys
import HandS.Set
import HandS.SetFor
import HandS.SetBool
import PyProof.AutoSeq1
import HandS.Conv
import PyProof.SeqRoads2
import HandS.HeadHook3
import KE.GoesZip
import HandS.Zip0
import KE.KUnpackStar
import HandS.Exc
import HandS.ExcOwn
import HandS.ExcInit
import HandS.ExcField
import HandS.ExcIs
import HandS.TryOnly
import KE.KExcIs
import HandS.TupMul
import PySem.Challenge.RW_forkjoins_k04_changed
set_option Elab.async false
set_option linter.all false
set_option maxRecDepth 100000
set_option maxHeartbeats 4000000
namespace DL
open PySem PySem.Spec PyProof.Rows L2

/-! ### data -/
/-- tup, lst: never changed; scr: a list that is read alone; ref a: what stands in the store at a; val: any value of the machine's -/
inductive D where
  | non | bl (b : Bool) | int (i : Int) | str (x : Str) | tup (xs : List D) | lst (xs : List D) | scr (xs : List D) | ref (a : Addr) | val (v : V)

/-- a tuple of which it is known that it has no names of its own -/
structure TpA (K : PySem.W.Frag) (I : Hp) (a : Addr) (vs : List V) : Prop where
  sq : SqT K I a vs
  nd : (∃ o u, I a = some (.frz o u) ∧ o.dict = none) ∨ ∃ o, K.lookup a = some o ∧ o.dict = none
mutual
inductive RD (K : PySem.W.Frag) (I : Hp) : D → V → Prop
  | non : RD K I .non .non
  | bl (b : Bool) : RD K I (.bl b) (.bl b)
  | int (i : Int) : RD K I (.int i) (.int i)
  | str (x : Str) : RD K I (.str x) (.str x)
  | tup {a : Addr} {xs : List D} {vs : List V} : TpA K I a vs → RDs K I xs vs → RD K I (.tup xs) (.ref a)
  | lst {a : Addr} {xs : List D} {vs : List V} : I a = some (.lst vs) → RDs K I xs vs → RD K I (.lst xs) (.ref a)
  | scr {a : Addr} {xs : List D} {vs : List V} : SqL K I a vs → RDs K I xs vs → RD K I (.scr xs) (.ref a)
  | ref (a : Addr) : RD K I (.ref a) (.ref a)
  | val (v : V) : RD K I (.val v) v
inductive RDs (K : PySem.W.Frag) (I : Hp) : List D → List V → Prop
  | nil : RDs K I [] []
  | cons {x : D} {xs : List D} {v : V} {vs : List V} : RD K I x v → RDs K I xs vs → RDs K I (x :: xs) (v :: vs)
end

def Le (I I' : Hp) : Prop := ∀ a o, I a = some o → I' a = some o
theorem Le.refl {I : Hp} : Le I I := fun _ _ h => h
theorem Le.trans {I J L : Hp} (h : Le I J) (k : Le J L) : Le I L := fun a o e => k a o (h a o e)
theorem Rd.le {I I' : Hp} (l : Le I I') {a : Addr} {u : HO} (h : Rd I a u) : Rd I' a u := by
  rcases h with h | ⟨o, h⟩
  · exact .inl (l _ _ h)
  · exact .inr ⟨o, l _ _ h⟩
theorem SqL.le {K : PySem.W.Frag} {I I' : Hp} (l : Le I I') {a : Addr} {vs : List V} (h : SqL K I a vs) : SqL K I' a vs := h.imp (Rd.le l) id
theorem SqT.le {K : PySem.W.Frag} {I I' : Hp} (l : Le I I') {a : Addr} {vs : List V} (h : SqT K I a vs) : SqT K I' a vs := h.imp (Rd.le l) id
theorem TpA.le {K : PySem.W.Frag} {I I' : Hp} (l : Le I I') {a : Addr} {vs : List V} (h : TpA K I a vs) : TpA K I' a vs :=
  ⟨SqT.le l h.sq, h.nd.imp (fun ⟨o, u, e, d⟩ => ⟨o, u, l _ _ e, d⟩) id⟩
theorem TpA.new {K : PySem.W.Frag} {I : Hp} {p : Addr} {ob : Obj} {vs : List V} (hd : ob.dict = none) : TpA K (upd I p (.frz ob (.tup vs))) p vs :=
  ⟨.inl (.inr ⟨ob, upd_same⟩), .inl ⟨ob, _, upd_same, hd⟩⟩
mutual
theorem RD.le {K : PySem.W.Frag} {I I' : Hp} (l : Le I I') : ∀ {x : D} {v : V}, RD K I x v → RD K I' x v
  | _, _, .non => .non
  | _, _, .bl b => .bl b
  | _, _, .int i => .int i
  | _, _, .str x => .str x
  | _, _, .tup h r => .tup (TpA.le l h) (RDs.le l r)
  | _, _, .lst h r => .lst (l _ _ h) (RDs.le l r)
  | _, _, .scr h r => .scr (SqL.le l h) (RDs.le l r)
  | _, _, .ref a => .ref a
  | _, _, .val v => .val v
theorem RDs.le {K : PySem.W.Frag} {I I' : Hp} (l : Le I I') : ∀ {xs : List D} {vs : List V}, RDs K I xs vs → RDs K I' xs vs
  | _, _, .nil => .nil
  | _, _, .cons r t => .cons (RD.le l r) (RDs.le l t)
end
section
variable {K : PySem.W.Frag} {I : Hp}
theorem RDs.length : ∀ {xs : List D} {vs : List V}, RDs K I xs vs → xs.length = vs.length
  | _, _, .nil => rfl
  | _, _, .cons _ t => congrArg (· + 1) (RDs.length t)
theorem RDs.get : ∀ {xs : List D} {vs : List V} {i : Nat} {x : D}, RDs K I xs vs → xs[i]? = some x → ∃ v, vs[i]? = some v ∧ RD K I x v
  | _, _, _, _, .nil, e => by simp at e
  | _, _, 0, _, .cons r _, e => by simp at e; subst e; exact ⟨_, rfl, r⟩
  | _, _, i + 1, x, .cons _ t, e => by
    obtain ⟨v, h1, h2⟩ := RDs.get (i := i) (x := x) t (by simpa using e)
    exact ⟨v, by simpa using h1, h2⟩
theorem RDs.get' : ∀ {xs : List D} {vs : List V} {i : Nat} {v : V}, RDs K I xs vs → vs[i]? = some v → ∃ x, xs[i]? = some x ∧ RD K I x v
  | _, _, _, _, .nil, e => by simp at e
  | _, _, 0, _, .cons r _, e => by simp at e; subst e; exact ⟨_, rfl, r⟩
  | _, _, i + 1, x, .cons _ t, e => by
    obtain ⟨v, h1, h2⟩ := RDs.get' (i := i) t (by simpa using e)
    exact ⟨v, by simpa using h1, h2⟩
theorem RDs.append : ∀ {xs ys : List D} {vs ws : List V}, RDs K I xs vs → RDs K I ys ws → RDs K I (xs ++ ys) (vs ++ ws)
  | _, _, _, _, .nil, s => s
  | _, _, _, _, .cons r t, s => .cons r (RDs.append t s)
theorem RDs.take : ∀ {xs : List D} {vs : List V} (n : Nat), RDs K I xs vs → RDs K I (xs.take n) (vs.take n)
  | _, _, 0, _ => .nil
  | _, _, _ + 1, .nil => .nil
  | _, _, n + 1, .cons r t => .cons r (RDs.take n t)
theorem RDs.drop : ∀ {xs : List D} {vs : List V} (n : Nat), RDs K I xs vs → RDs K I (xs.drop n) (vs.drop n)
  | _, _, 0, r => r
  | _, _, _ + 1, .nil => .nil
  | _, _, n + 1, .cons _ t => RDs.drop n t
theorem RDs.reverse {xs : List D} {vs : List V} (h : RDs K I xs vs) : RDs K I xs.reverse vs.reverse := by
  induction h using RDs.rec (motive_1 := fun _ _ _ => True) with
  | nil => exact .nil
  | cons r t _ ih => rw [List.reverse_cons, List.reverse_cons]; exact ih.append (.cons r .nil)
  | _ => trivial
theorem RDs.set {x : D} {v : V} (r : RD K I x v) : ∀ {xs : List D} {vs : List V} (i : Nat), RDs K I xs vs → RDs K I (xs.set i x) (vs.set i v)
  | _, _, _, .nil => .nil
  | _, _, 0, .cons _ t => .cons r t
  | _, _, i + 1, .cons q t => .cons q (RDs.set r i t)
theorem RDs.dropLast {xs : List D} {vs : List V} (h : RDs K I xs vs) : RDs K I xs.dropLast vs.dropLast := by
  rw [List.dropLast_eq_take, List.dropLast_eq_take, h.length]; exact h.take _
end

/-! ### the store of what is changed -/
inductive O where
  | lst (xs : List D)
  | dK (kvs : List (Key × D))
  | dT (kvs : List (List Key × D))
  | ins (C dx : Addr) (fs : List (Str × D))
  | own (x : Addr)
  | xd (fs : List (Str × D))
  /-- a dict while a loop walks it -/
  | lkK (od : Obj) (u : HO) (kvs : List (Key × D))
abbrev Sto := Addr → Option O
def su (S : Sto) (a : Addr) (o : O) : Sto := fun b => if b = a then some o else S b
theorem su_same {S : Sto} {a : Addr} {o : O} : su S a o a = some o := by unfold su; rw [if_pos rfl]
theorem su_ne {S : Sto} {a b : Addr} {o : O} (h : b ≠ a) : su S a o b = S b := by unfold su; rw [if_neg h]
theorem su_su {S : Sto} {a : Addr} {o u : O} : su (su S a o) a u = su S a u := by
  funext b; unfold su; split <;> rfl
theorem su_self {S : Sto} {a : Addr} {o : O} (h : S a = some o) : su S a o = S := by
  funext b; unfold su; split
  · rename_i e; rw [e, h]
  · rfl
theorem su_comm {S : Sto} {a b : Addr} {o u : O} (h : a ≠ b) : su (su S a o) b u = su (su S b u) a o := by
  funext c; unfold su
  by_cases e : c = b
  · subst e; rw [if_pos rfl, if_neg (Ne.symm h), if_pos rfl]
  · by_cases e2 : c = a
    · subst e2; rw [if_neg e, if_pos rfl, if_pos rfl]
    · rw [if_neg e, if_neg e2, if_neg e2, if_neg e]
/-- S0 is S with some of it forgotten -/
def Sub (S0 S : Sto) : Prop := ∀ a o, S0 a = some o → S a = some o
theorem Sub.refl {S : Sto} : Sub S S := fun _ _ h => h
theorem Sub.trans {S T U : Sto} (h : Sub S T) (k : Sub T U) : Sub S U := fun a o e => k a o (h a o e)
theorem Sub.new {S : Sto} {a : Addr} {o : O} (h : S a = none) : Sub S (su S a o) := fun b u e => by
  rw [su_ne (by rintro rfl; rw [h] at e; cases e)]; exact e
theorem Sub.su {S0 S : Sto} {a : Addr} {o : O} (h : Sub S0 S) : Sub (su S0 a o) (su S a o) := fun b u e => by
  by_cases hb : b = a
  · subst hb; rw [su_same] at e ⊢; exact e
  · rw [su_ne hb] at e ⊢; exact h b u e

def RKV {κ : Type} (K : PySem.W.Frag) (I : Hp) : List (κ × D) → List (κ × V) → Prop := Paired fun (p : κ × D) (q : κ × V) => p.1 = q.1 ∧ RD K I p.2 q.2
theorem RKV.le {κ : Type} {K : PySem.W.Frag} {I I' : Hp} (l : Le I I') {xs : List (κ × D)} {ys : List (κ × V)} (h : RKV K I xs ys) : RKV K I' xs ys := Paired.mapP h fun _ _ z => ⟨z.1, z.2.le l⟩
def RO (K : PySem.W.Frag) (I : Hp) : O → HO → Prop
  | .lst xs, .lst vs => RDs K I xs vs
  | .dK kvs, .dK us => RKV K I kvs us
  | .dT kvs, .dT us => RKV K I kvs us
  | .ins C dx fs, .ins C' dx' gs => C = C' ∧ dx = dx' ∧ RKV K I fs gs
  | .own x, .own y => x = y
  | .xd fs, .xd gs => RKV K I fs gs
  | .lkK od u kvs, h => h = .frz od u ∧ ∃ us, u = .dK us ∧ RKV K I kvs us
  | _, _ => False
theorem RO.le {K : PySem.W.Frag} {I I' : Hp} (l : Le I I') {o : O} {u : HO} (h : RO K I o u) : RO K I' o u := by
  cases o <;> cases u <;> first | exact h.elim | exact RDs.le l h | exact RKV.le l h | exact ⟨h.1, h.2.1, h.2.2.le l⟩ | (obtain ⟨h1, us, h2, h3⟩ := h; exact ⟨h1, us, h2, h3.le l⟩) | exact h

/-- what has stayed from one state to a later one -/
structure Ext (I : Hp) (S : Sto) (H : Hp) (I' : Hp) (S' : Sto) (H' : Hp) : Prop where
  le : Le I I'
  fr : ∀ a o, H a = some o → S a = none → H' a = some o ∧ S' a = none ∧ I' a = I a
theorem Ext.refl {I H : Hp} {S : Sto} : Ext I S H I S H := ⟨.refl, fun _ _ h k => ⟨h, k, rfl⟩⟩
theorem Ext.trans {I H I1 H1 I2 H2 : Hp} {S S1 S2 : Sto} (a : Ext I S H I1 S1 H1) (b : Ext I1 S1 H1 I2 S2 H2) : Ext I S H I2 S2 H2 :=
  ⟨a.le.trans b.le, fun c o h k => let ⟨h1, k1, i1⟩ := a.fr c o h k; let ⟨h2, k2, i2⟩ := b.fr c o h1 k1; ⟨h2, k2, i2.trans i1⟩⟩
/-- what is wanted of an exception: its class, its fields, the store -/
abbrev XD := Addr → List (Str × D) → Sto → Prop
/-- the same of the heap beside it -/
structure Wi where
  E : XD
  E' : XK
  /-- exceptions that are held: their dicts, their fields -/
  F : List (Addr × List (Str × D))
abbrev wi2 (E : XD) (E' : XK) : Wi := ⟨E, E', []⟩
/-- the data stands in the heap -/
structure Sim0 (K : PySem.W.Frag) (I : Hp) (S : Sto) (H : Hp) : Prop where
  im : Le I H
  st : ∀ a o, S a = some o → I a = none ∧ ∃ u, RO K I o u ∧ H a = some u
def KXe (K : PySem.W.Frag) (I : Hp) (S : Sto) (H : Hp) (E : XD) (E' : XK) : Prop := ∀ I' S' H' C d fs gs, Ext I S H I' S' H' → Sim0 K I' S' H' → RKV K I' fs gs → H' d = some (.xd gs) → S' d = none → I' d = none → E C fs S' → E' (.ref C) (some d) H'
theorem KXe.ext {K : PySem.W.Frag} {I H I1 H1 : Hp} {S S1 : Sto} {E : XD} {E' : XK} (e : Ext I S H I1 S1 H1) (k : KXe K I S H E E') : KXe K I1 S1 H1 E E' := fun I' S' H' C d fs gs x => k I' S' H' C d fs gs (e.trans x)
structure KX (K : PySem.W.Frag) (I : Hp) (S : Sto) (H : Hp) (wi : Wi) : Prop where
  e : KXe K I S H wi.E wi.E'
  f : ∀ p ∈ wi.F, ∃ gs, H p.1 = some (.xd gs) ∧ S p.1 = none ∧ I p.1 = none ∧ RKV K I p.2 gs
theorem KX.ext {K : PySem.W.Frag} {I H I1 H1 : Hp} {S S1 : Sto} {wi : Wi} (e : Ext I S H I1 S1 H1) (k : KX K I S H wi) : KX K I1 S1 H1 wi := ⟨k.e.ext e, fun p hp => by
  obtain ⟨gs, h1, h2, h3, h4⟩ := k.f p hp
  obtain ⟨z1, z2, z3⟩ := e.fr _ _ h1 h2
  exact ⟨gs, z1, z2, z3.trans h3, h4.le e.le⟩⟩
/-- .. and an exception's wishes are one -/
structure Sim (K : PySem.W.Frag) (wi : Wi) (I : Hp) (S : Sto) (H : Hp) : Prop extends Sim0 K I S H where
  kx : KX K I S H wi

theorem Sub.none {S0 S : Sto} (h : Sub S0 S) {a : Addr} (k : S a = none) : S0 a = none := by
  cases q : S0 a with
  | none => rfl
  | some u => rw [h a u q] at k; cases k
theorem Ext.sub {I H I' H' : Hp} {S S' S0 : Sto} (s : Ext I S H I' S' H') (h : Sub S0 S') : Ext I S H I' S0 H' :=
  ⟨s.le, fun a o e k => let ⟨h1, k1, i1⟩ := s.fr a o e k; ⟨h1, h.none k1, i1⟩⟩
theorem Sim.sub {K : PySem.W.Frag} {I H : Hp} {S S0 : Sto} (s : Sim K wi I S H) (h : Sub S0 S) : Sim K wi I S0 H := ⟨⟨s.im, fun a o e => s.st a o (h a o e)⟩, s.kx.ext (Ext.sub .refl h)⟩
/-- a new object that is never changed -/
theorem Sim.newI {K : PySem.W.Frag} {I H : Hp} {S : Sto} {p : Addr} {u : HO} (s : Sim K wi I S H) (hp : H p = none) : Sim K wi (upd I p u) S (upd H p u) ∧ Ext I S H (upd I p u) S (upd H p u) := by
  have hI : ∀ a o, I a = some o → a ≠ p := fun a o e z => by subst z; rw [s.im a o e] at hp; cases hp
  have hS : ∀ a o, S a = some o → a ≠ p := fun a o e z => by
    subst z
    obtain ⟨_, u, _, e2⟩ := s.st a o e
    rw [e2] at hp; cases hp
  have le : Le I (upd I p u) := fun a o e => by rw [upd_ne (hI a o e)]; exact e
  have ex : Ext I S H (upd I p u) S (upd H p u) := ⟨le, fun a o e k => ⟨by rw [upd_ne (ne_of_none e hp)]; exact e, k, by rw [upd_ne (ne_of_none e hp)]⟩⟩
  refine ⟨⟨⟨fun a o e => ?_, fun a o e => ?_⟩, s.kx.ext ex⟩, ex⟩
  · by_cases h : a = p
    · subst h; rw [upd_same] at e ⊢; exact e
    · rw [upd_ne h] at e ⊢; exact s.im a o e
  · obtain ⟨h1, v, h2, h3⟩ := s.st a o e
    have h := hS a o e
    exact ⟨by rw [upd_ne h]; exact h1, v, h2.le le, by rw [upd_ne h]; exact h3⟩
/-- a new object that may be changed -/
theorem Sim.newS {K : PySem.W.Frag} {I H : Hp} {S : Sto} {p : Addr} {o : O} {u : HO} (s : Sim K wi I S H) (hp : H p = none) (r : RO K I o u) : S p = none ∧ Sim K wi I (su S p o) (upd H p u) ∧ Ext I S H I (su S p o) (upd H p u) := by
  have hI : ∀ a o, I a = some o → a ≠ p := fun a o e z => by subst z; rw [s.im a o e] at hp; cases hp
  have hS : ∀ a o, S a = some o → a ≠ p := fun a o e z => by
    subst z
    obtain ⟨_, u, _, e2⟩ := s.st a o e
    rw [e2] at hp; cases hp
  have ex : Ext I S H I (su S p o) (upd H p u) := ⟨.refl, fun a o e k => ⟨by rw [upd_ne (ne_of_none e hp)]; exact e, by rw [su_ne (ne_of_none e hp)]; exact k, rfl⟩⟩
  refine ⟨?_, ⟨⟨fun a o e => by rw [upd_ne (hI a o e)]; exact s.im a o e, fun a o e => ?_⟩, s.kx.ext ex⟩, ex⟩
  · cases q : S p with
    | none => rfl
    | some o => exact absurd rfl (hS p o q)
  · by_cases h : a = p
    · subst h
      rw [su_same] at e; cases e
      refine ⟨?_, u, r, upd_same⟩
      cases q : I a with
      | none => rfl
      | some v => exact absurd rfl (hI a v q)
    · rw [su_ne h] at e
      obtain ⟨h1, v, h2, h3⟩ := s.st a o e
      exact ⟨h1, v, h2, by rw [upd_ne h]; exact h3⟩
/-- an object is changed -/
theorem Sim.wr {K : PySem.W.Frag} {I H : Hp} {S : Sto} {p : Addr} {o0 o : O} {u : HO} (s : Sim K wi I S H) (hp : S p = some o0) (r : RO K I o u) : Sim K wi I (su S p o) (upd H p u) ∧ Ext I S H I (su S p o) (upd H p u) := by
  obtain ⟨hI0, _⟩ := s.st p o0 hp
  have hI : ∀ a o, I a = some o → a ≠ p := fun a o e z => by subst z; rw [hI0] at e; cases e
  have ex : Ext I S H I (su S p o) (upd H p u) := ⟨.refl, fun a o e k => by
    have h : a ≠ p := by rintro rfl; rw [hp] at k; cases k
    exact ⟨by rw [upd_ne h]; exact e, by rw [su_ne h]; exact k, rfl⟩⟩
  refine ⟨⟨⟨fun a o e => by rw [upd_ne (hI a o e)]; exact s.im a o e, fun a o e => ?_⟩, s.kx.ext ex⟩, ex⟩
  by_cases h : a = p
  · subst h
    rw [su_same] at e; cases e
    exact ⟨hI0, u, r, upd_same⟩
  · rw [su_ne h] at e
    obtain ⟨h1, v, h2, h3⟩ := s.st a o e
    exact ⟨h1, v, h2, by rw [upd_ne h]; exact h3⟩
def sdel (S : Sto) (a : Addr) : Sto := fun b => if b = a then none else S b
theorem Sub.sdel {S : Sto} {a : Addr} : Sub (sdel S a) S := fun b o e => by
  unfold DL.sdel at e
  split at e
  · cases e
  · exact e
/-- a list of the store is for ever as it is now -/
theorem Sim.frz {K : PySem.W.Frag} {I H : Hp} {S : Sto} {a : Addr} {xs : List D} {vs : List V} (s : Sim K wi I S H) (e : S a = some (.lst xs)) (r : RDs K I xs vs) (hv : H a = some (.lst vs)) :
    Sim K wi (upd I a (.lst vs)) (sdel S a) H ∧ Ext I S H (upd I a (.lst vs)) (sdel S a) H ∧ RD K (upd I a (.lst vs)) (.lst xs) (.ref a) := by
  have hn : I a = none := (s.st a _ e).1
  have le : Le I (upd I a (.lst vs)) := fun b o q => by rw [upd_ne (ne_of_none q hn)]; exact q
  have ex : Ext I S H (upd I a (.lst vs)) (sdel S a) H := ⟨le, fun b o q k => by
    have hb : b ≠ a := by rintro rfl; rw [e] at k; cases k
    exact ⟨q, by unfold DL.sdel; rw [if_neg hb]; exact k, by rw [upd_ne hb]⟩⟩
  refine ⟨⟨⟨fun b o q => ?_, fun b o q => ?_⟩, s.kx.ext ex⟩, ex, .lst upd_same (r.le le)⟩
  · by_cases h : b = a
    · subst h; rw [upd_same] at q; cases q; exact hv
    · rw [upd_ne h] at q; exact s.im b o q
  · have hb : b ≠ a := by rintro rfl; unfold DL.sdel at q; rw [if_pos rfl] at q; cases q
    have q' : S b = some o := Sub.sdel b o q
    obtain ⟨h1, u, h2, h3⟩ := s.st b o q'
    exact ⟨by rw [upd_ne hb]; exact h1, u, h2.le le, h3⟩

/-! ### the names' values -/
abbrev Env' := List (Option D)
structure ER (K : PySem.W.Frag) (I : Hp) (env : Env') (σ : L2.St) : Prop where
  len : env.length = σ.length
  at' : ∀ (i : Nat) w, env[i]? = some (some w) → ∃ v, σ[i]? = some (some v) ∧ RD K I w v
theorem ER.le {K : PySem.W.Frag} {I I' : Hp} (l : Le I I') {env : Env'} {σ : L2.St} (h : ER K I env σ) : ER K I' env σ :=
  ⟨h.len, fun i w e => let ⟨v, h1, h2⟩ := h.at' i w e; ⟨v, h1, h2.le l⟩⟩
theorem ER.set {K : PySem.W.Frag} {I : Hp} {env : Env'} {σ : L2.St} (h : ER K I env σ) (i : Nat) {w : D} {v : V} (r : RD K I w v) : ER K I (env.set i (some w)) (σ.set i (some v)) := by
  refine ⟨by rw [List.length_set, List.length_set]; exact h.len, fun j x e => ?_⟩
  by_cases hj : i = j
  · subst hj
    by_cases hl : i < env.length
    · rw [List.getElem?_set_self hl] at e
      cases e
      exact ⟨v, by rw [List.getElem?_set_self (by rw [← h.len]; exact hl)], r⟩
    · rw [List.getElem?_eq_none (by simpa using hl)] at e; cases e
  · rw [List.getElem?_set_ne hj] at e
    rw [List.getElem?_set_ne hj]
    exact h.at' j x e

/-! ### judgements -/
abbrev DK := D → Sto → Prop
abbrev DE := Env' → Sto → DK → Prop
abbrev DT := Env' → Sto → (Bool → Sto → Prop) → Prop
abbrev DA := Env' → Sto → (List D → Sto → Prop) → Prop
structure DEnds where
  nx : Env' → Sto → Prop
  rt : DK
  bk : Env' → Sto → Prop := fun _ _ => False
  ct : Env' → Sto → Prop := fun _ _ => False
abbrev DS := DEnds → Env' → Sto → Prop

/-- what an end of data asks of an end in the heap, from a state on -/
def KQ (K : PySem.W.Frag) (wi : Wi) (I : Hp) (S : Sto) (H : Hp) (Q : DK) (Q' : VK) : Prop := ∀ I' w v S' H', Ext I S H I' S' H' → Sim K wi I' S' H' → RD K I' w v → Q w S' → Q' v H'
def KB (K : PySem.W.Frag) (wi : Wi) (I : Hp) (S : Sto) (H : Hp) (Q : Bool → Sto → Prop) (Q' : Bool → Hp → Prop) : Prop := ∀ I' b S' H', Ext I S H I' S' H' → Sim K wi I' S' H' → Q b S' → Q' b H'
def KA (K : PySem.W.Frag) (wi : Wi) (I : Hp) (S : Sto) (H : Hp) (Q : List D → Sto → Prop) (Q' : List V → Hp → Prop) : Prop := ∀ I' ws vs S' H', Ext I S H I' S' H' → Sim K wi I' S' H' → RDs K I' ws vs → Q ws S' → Q' vs H'
def KN (K : PySem.W.Frag) (wi : Wi) (I : Hp) (S : Sto) (H : Hp) (Q : Env' → Sto → Prop) (Q' : L2.St → Hp → Prop) : Prop := ∀ I' env σ S' H', Ext I S H I' S' H' → Sim K wi I' S' H' → ER K I' env σ → Q env S' → Q' σ H'
def lift (K : PySem.W.Frag) (wi : Wi) (t : DE) : TE := fun σ H Q' => ∃ I env S Q, Sim K wi I S H ∧ ER K I env σ ∧ t env S Q ∧ KQ K wi I S H Q Q'
def liftT (K : PySem.W.Frag) (wi : Wi) (t : DT) : TT := fun σ H Q' => ∃ I env S Q, Sim K wi I S H ∧ ER K I env σ ∧ t env S Q ∧ KB K wi I S H Q Q'
def liftA (K : PySem.W.Frag) (wi : Wi) (t : DA) : TA := fun σ H Q' => ∃ I env S Q, Sim K wi I S H ∧ ER K I env σ ∧ t env S Q ∧ KA K wi I S H Q Q'
structure KD (K : PySem.W.Frag) (wi : Wi) (I : Hp) (S : Sto) (H : Hp) (d : DEnds) (D' : Ends) : Prop where
  nx : KN K wi I S H d.nx D'.nx
  rt : KQ K wi I S H d.rt D'.rt
  bk : KN K wi I S H d.bk D'.bk
  ct : KN K wi I S H d.ct D'.ct
def liftS (K : PySem.W.Frag) (wi : Wi) (t : DS) : TS := fun D' σ H => ∃ I env S d, Sim K wi I S H ∧ ER K I env σ ∧ t d env S ∧ KD K wi I S H d D'
theorem KQ.ext {K : PySem.W.Frag} {I H I1 H1 : Hp} {S S1 : Sto} {Q : DK} {Q' : VK} (e : Ext I S H I1 S1 H1) (k : KQ K wi I S H Q Q') : KQ K wi I1 S1 H1 Q Q' := fun I' w v S' H' x => k I' w v S' H' (e.trans x)
theorem KB.ext {K : PySem.W.Frag} {I H I1 H1 : Hp} {S S1 : Sto} {Q : Bool → Sto → Prop} {Q' : Bool → Hp → Prop} (e : Ext I S H I1 S1 H1) (k : KB K wi I S H Q Q') : KB K wi I1 S1 H1 Q Q' := fun I' w S' H' x => k I' w S' H' (e.trans x)
theorem KA.ext {K : PySem.W.Frag} {I H I1 H1 : Hp} {S S1 : Sto} {Q : List D → Sto → Prop} {Q' : List V → Hp → Prop} (e : Ext I S H I1 S1 H1) (k : KA K wi I S H Q Q') : KA K wi I1 S1 H1 Q Q' := fun I' w v S' H' x => k I' w v S' H' (e.trans x)
theorem KN.ext {K : PySem.W.Frag} {I H I1 H1 : Hp} {S S1 : Sto} {Q : Env' → Sto → Prop} {Q' : L2.St → Hp → Prop} (e : Ext I S H I1 S1 H1) (k : KN K wi I S H Q Q') : KN K wi I1 S1 H1 Q Q' := fun I' w v S' H' x => k I' w v S' H' (e.trans x)
theorem KD.ext {K : PySem.W.Frag} {I H I1 H1 : Hp} {S S1 : Sto} {d : DEnds} {D' : Ends} (e : Ext I S H I1 S1 H1) (k : KD K wi I S H d D') : KD K wi I1 S1 H1 d D' := ⟨k.nx.ext e, k.rt.ext e, k.bk.ext e, k.ct.ext e⟩

abbrev ME (X : Cx) (wi : Wi) (e : Expr) (t : DE) : Prop := PE X e (lift X.K wi t)
abbrev MT (X : Cx) (wi : Wi) (e : Expr) (t : DT) : Prop := PT X e (liftT X.K wi t)
abbrev MW (X : Cx) (wi : Wi) (e : Expr) (t : DT) : Prop := PW X e (liftT X.K wi t)
abbrev MA (X : Cx) (wi : Wi) (es : List Expr) (t : DA) : Prop := PA X es (liftA X.K wi t)
abbrev MS (X : Cx) (wi : Wi) (st : Stmt) (t : DS) : Prop := PS X st (liftS X.K wi t)
abbrev MSs (X : Cx) (wi : Wi) (st : List Stmt) (t : DS) : Prop := PSs X st (liftS X.K wi t)

section
variable {X : Cx} {e : Expr}
theorem PE.of {t t' : TE} (h : PE X e t) (i : ∀ σ H Q, t' σ H Q → t σ H Q) : PE X e t' := ⟨fun pins s σ H Q I hw => h.run pins s σ H Q I (i σ H Q hw)⟩
theorem PT.of {t t' : TT} (h : PT X e t) (i : ∀ σ H Q, t' σ H Q → t σ H Q) : PT X e t' := ⟨fun pins s σ H Q I hw => h.run pins s σ H Q I (i σ H Q hw)⟩
theorem PW.of {t t' : TT} (h : PW X e t) (i : ∀ σ H Q, t' σ H Q → t σ H Q) : PW X e t' := ⟨fun wh pins s σ H Q I hw => h.run wh pins s σ H Q I (i σ H Q hw)⟩
theorem PA.of {es : List Expr} {t t' : TA} (h : PA X es t) (i : ∀ σ H Q, t' σ H Q → t σ H Q) : PA X es t' := ⟨fun pos pins s σ H Q I hw => h.run pos pins s σ H Q I (i σ H Q hw)⟩
theorem PS.of {st : Stmt} {t t' : TS} (h : PS X st t) (i : ∀ D σ H, t' D σ H → t D σ H) : PS X st t' := ⟨fun pins s σ H D I hw => h.run pins s σ H D I (i D σ H hw)⟩
theorem PSs.of {st : List Stmt} {t t' : TS} (h : PSs X st t) (i : ∀ D σ H, t' D σ H → t D σ H) : PSs X st t' := ⟨fun pins s σ H D I hw => h.run pins s σ H D I (i D σ H hw)⟩
end
end DL


set_option Elab.async false
set_option linter.all false
set_option maxRecDepth 100000
set_option maxHeartbeats 4000000
namespace DL
open PySem PySem.Spec PyProof.Rows L2
/-! ### tuples that are made, with all that is known of them: a plain object -/
section
variable {X : Cx} {t : TA} {es : List Expr} {pos : Pos} {pins : List (Addr × Obj)} {σ : L2.St} {H : Hp} {s : Shared}
/-- the object of a tuple -/
def tob (us : List Value) : Obj := { cls := .type "tuple", data := .seq us.toArray }
theorem tob_nd {us : List Value} : (tob us).dict = none := rfl
theorem laid_tup {h' : Heap} {tk : Nat} {xs : List V} {us : List Value} (I : Inv X pins σ H { s with heap := h', toks := tk }) (r : Vals xs us) (hz : xs.length ≤ sizeLine) :
    Inv X pins σ (upd H h'.objs.size (.frz (tob us) (.tup xs))) { s with heap := h'.push (tob us), toks := tk } ∧ H h'.objs.size = none :=
  ⟨I.laid (t' := tk) (o := .frz (tob us) (.tup xs)) (fun _ _ q => Heap.get?_push_of_some _ q) (Nat.le_refl _) ⟨Heap.get?_push_size _ rfl, hz, us, r, ⟨_, Heap.get?_push_size _ rfl, rfl, 0, rfl⟩⟩, I.hok.fresh (Nat.le_refl _)⟩
/-- the answer, a new tuple -/
def QT (Q : VK) (H : Hp) (xs : List V) : Prop := ∀ p ob, ob.dict = none → H p = none → Q (.ref p) (upd H p (.frz ob (.tup xs)))
theorem pe_tupF {x1} (h : PA X es t) : PE X (.Tuple es x1 pos) (fun σ H Q => t σ H fun xs H1 => xs.length ≤ sizeLine ∧ QT Q H1 xs) := by
  refine ⟨fun pins s σ H Q I hq => wpAny_Tuple_spliced (thn (h.run pos pins s σ H _ I hq) fun us s1 ⟨xs, H1, I1, r, z, q⟩ => ⟨by rw [← r.length]; exact z, ?_⟩)⟩
  obtain ⟨J, hn⟩ := laid_tup (s := s1) (h' := s1.heap) (tk := s1.toks) I1 r z
  exact ⟨.ref s1.heap.objs.size, _, J, rfl, q _ _ tob_nd hn⟩
def rCatF (K : PySem.W.Frag) : R2 := fun x y H Q => ∃ a b xs ys, x = .ref a ∧ y = .ref b ∧ SqT K H a xs ∧ SqT K H b ys ∧ xs.length + ys.length ≤ sizeLine ∧
  (xs = [] → Q (.ref b) H) ∧ (xs ≠ [] → ys = [] → Q (.ref a) H) ∧ QT Q H (xs ++ ys)
theorem op_catF : OpR X (binaryOp .Add) (rCatF X.K) := by
  rintro pins s σ H x y v u Q I rx ry ⟨a, b, xs, ys, rfl, rfl, ha, hb, hz, q0, q1, q2⟩
  cases rx; cases ry
  obtain ⟨its, r1, p1, _⟩ := I.tuple ha
  obtain ⟨jts, r2, p2, _⟩ := I.tuple hb
  by_cases hx : xs = []
  · subst hx
    cases r1
    exact cat_tup0 p1 p2 ⟨.ref b, H, I, rfl, q0 rfl⟩
  · refine HT.cat_tup p1 p2 (fun z => hx (r1.nil_iff.mp z)) (fun z => ⟨.ref a, H, I, rfl, q1 hx (r2.nil_iff.mp z)⟩) (fun z => ?_) (by rw [← r1.length, ← r2.length]; exact hz)
    obtain ⟨J, hn⟩ := laid_tup (s := s) (h' := s.heap) (tk := s.toks) I (r1.append r2) (by rw [List.length_append]; exact hz)
    exact ⟨.ref s.heap.objs.size, _, J, rfl, q2 _ _ tob_nd hn⟩
def rSlF (K : PySem.W.Frag) : V → Option Int → Option Int → Hp → VK → Prop := fun x lo hi H Q => ∃ a xs, x = .ref a ∧ SqT K H a xs ∧
  (HT.sIx xs.length 0 lo = 0 ∧ HT.sIx xs.length xs.length hi = xs.length → Q (.ref a) H) ∧ QT Q H (cutV xs lo hi)
theorem sl_tupF : SlR X (rSlF X.K) := by
  rintro pins s σ H x v vl vu lo hi sl Q I rx hs pl pu ⟨a, xs, rfl, hx, q1, q2⟩
  cases rx
  obtain ⟨its, r, ht, hz⟩ := I.tuple hx
  have hl : its.toArray.size = xs.length := by rw [List.size_toArray]; exact r.length.symm
  refine ⟨"tuple", _, PyProof.Rows.slot_tuple_getitem.lookup, ht.typeIs, ?_⟩
  by_cases hw : HT.sIx xs.length 0 lo = 0 ∧ HT.sIx xs.length xs.length hi = xs.length
  · exact getItem_tuple_whole ht hs pl pu (by rw [hl]; exact hw) ⟨.ref a, H, I, rfl, q1 hw⟩
  · refine HT.getItem_tuple_cut ht hs pl pu (by rw [hl]; exact hw) ?_ (by rw [hl]; exact hz)
    rw [hl]
    obtain ⟨J, hn⟩ := laid_tup (s := s) (h' := s.heap) (tk := s.toks) I ((r.drop (HT.sIx xs.length 0 lo)).take (HT.sIx xs.length xs.length hi - HT.sIx xs.length 0 lo)) (Nat.le_trans (cutV_length xs lo hi) hz)
    exact ⟨.ref s.heap.objs.size, _, J, rfl, q2 _ _ tob_nd hn⟩
theorem call_tupF : CallR X (.type "tuple") (fun xs H Q => ∃ p ys, xs = [.ref p] ∧ ((SqL X.K H p ys ∧ QT Q H ys) ∨ (SqT X.K H p ys ∧ Q (.ref p) H))) := by
  rintro pins s σ H xs us Q I r ⟨p, ys, rfl, h⟩
  obtain ⟨u, rfl, rx⟩ := vals1 r
  cases rx
  rcases h with ⟨hq, q⟩ | ⟨hq, q⟩
  · obtain ⟨its, r', pl, hz⟩ := I.list hq
    have hl := r'.length
    refine call_tuple_list pl.isList (fun h' kp => ?_) (by simp only [List.size_toArray]; omega)
    have I1 : Inv X pins σ H { s with heap := h' } := I.kept (t' := s.toks) kp
    obtain ⟨J, hn⟩ := laid_tup (s := s) (h' := h') (tk := s.toks) I1 r' hz
    exact ⟨.ref h'.objs.size, _, J, rfl, q _ _ tob_nd hn⟩
  · obtain ⟨its, r', pl, hz⟩ := I.tuple hq
    exact call_tuple_same pl ⟨.ref p, H, I, rfl, q⟩
end
end DL


set_option Elab.async false
set_option linter.all false
set_option maxRecDepth 100000
set_option maxHeartbeats 4000000
namespace DL
open PySem PySem.Spec PyProof.Rows L2

/-! ### readings -/
def dVar (i : Nat) : DE := fun env S Q => match env[i]? with
  | some (some w) => Q w S
  | _ => False
def dC (w : D) : DE := fun _ S Q => Q w S
def dUn (f : D → Sto → DK → Prop) (ta : DE) : DE := fun env S Q => ta env S fun x S1 => f x S1 Q
def dOp (f : D → D → Sto → DK → Prop) (ta tb : DE) : DE := fun env S Q => ta env S fun x S1 => tb env S1 fun y S2 => f x y S2 Q
def dNil : DA := fun _ S Q => Q [] S
def dCons (ta : DE) (tr : DA) : DA := fun env S Q => ta env S fun x S1 => tr env S1 fun xs S2 => Q (x :: xs) S2
def dFn (f : List D → Sto → DK → Prop) (t : DA) : DE := fun env S Q => t env S fun xs S1 => f xs S1 Q
/-- a value as a test: a bool -/
def dTst (t : DE) : DT := fun env S Q => t env S fun w S1 => match w with
  | .bl b => Q b S1
  | _ => False
def dNot (t : DT) : DT := fun env S Q => t env S fun b S1 => Q (!b) S1
def dAnd (t u : DT) : DT := fun env S Q => t env S fun b S1 => if b = true then u env S1 Q else Q false S1
def dOr (t u : DT) : DT := fun env S Q => t env S fun b S1 => if b = true then Q true S1 else u env S1 Q
def dIf (t : DT) (ta tb : DE) : DE := fun env S Q => t env S fun b S1 => if b = true then ta env S1 Q else tb env S1 Q
/-- and, or of values, the first a bool -/
def dAndV (ta tb : DE) : DE := fun env S Q => ta env S fun w S1 => match w with
  | .bl b => if b = true then tb env S1 Q else Q (.bl false) S1
  | _ => False
def dOrV (ta tb : DE) : DE := fun env S Q => ta env S fun w S1 => match w with
  | .bl b => if b = true then Q (.bl true) S1 else tb env S1 Q
  | _ => False
def dNotV (ta : DE) : DE := fun env S Q => ta env S fun w S1 => match w with
  | .bl b => Q (.bl (!b)) S1
  | _ => False

/-! ### rules by values -/
def rOf (K : PySem.W.Frag) (wi : Wi) (g : D → D → Sto → DK → Prop) : R2 := fun v u H Q' => ∃ I S x y Q, Sim K wi I S H ∧ RD K I x v ∧ RD K I y u ∧ g x y S Q ∧ KQ K wi I S H Q Q'
def r1Of (K : PySem.W.Frag) (wi : Wi) (g : D → Sto → DK → Prop) : V → Hp → VK → Prop := fun v H Q' => ∃ I S x Q, Sim K wi I S H ∧ RD K I x v ∧ g x S Q ∧ KQ K wi I S H Q Q'
def rcOf (K : PySem.W.Frag) (wi : Wi) (g : List D → Sto → DK → Prop) : List V → Hp → VK → Prop := fun vs H Q' => ∃ I S xs Q, Sim K wi I S H ∧ RDs K I xs vs ∧ g xs S Q ∧ KQ K wi I S H Q Q'
abbrev OpM (X : Cx) (wi : Wi) (f : Value → Value → Sem Value) (g : D → D → Sto → DK → Prop) : Prop := OpR X f (rOf X.K wi g)
abbrev UnM (X : Cx) (wi : Wi) (f : Value → Sem Value) (g : D → Sto → DK → Prop) : Prop := UnR X f (r1Of X.K wi g)
abbrev CallM (X : Cx) (wi : Wi) (f : Value) (g : List D → Sto → DK → Prop) : Prop := CallR X f (rcOf X.K wi g)

section
variable {X : Cx} {a b c e : Expr} {es : List Expr} {ta tb : DE} {tA uB : DT} {t : DA} {pos : Pos}

/-! ### names, constants -/
theorem lift_var {K : PySem.W.Frag} {i : Nat} {σ : L2.St} {H : Hp} {Q : VK} (h : lift K wi (dVar i) σ H Q) : tVar i σ H Q := by
  obtain ⟨I, env, S, Qd, sim, er, h, k⟩ := h
  unfold dVar at h
  split at h
  · rename_i w hw
    obtain ⟨v, hv, r⟩ := er.at' i w hw
    exact ⟨v, hv, k I w v S H .refl sim r h⟩
  · exact h.elim
theorem mv (i : Nat) {x : Str} {pos : Pos} (hN : X.N[i]? = some x := by rfl) (hv : Vis X.env.scope x := by first | exact Or.inl rfl | exact Or.inr (Or.inl rfl) | exact Or.inr (Or.inr rfl)) (hd : (x == ("__debug__" : Str)) = false := by decide)
    (hcd : (x == ("__classdict__" : Str)) = false := by decide) : ME X wi (.Name x pos) (dVar i) := PE.of (pe_var hN hv hd hcd) fun _ _ _ => lift_var
theorem lift_c {K : PySem.W.Frag} {w : D} {v : V} (r : ∀ I, RD K I w v) {σ : L2.St} {H : Hp} {Q : VK} (h : lift K wi (dC w) σ H Q) : tC v σ H Q := by
  obtain ⟨I, env, S, Qd, sim, er, h, k⟩ := h
  exact k I w v S H .refl sim (r I) h
theorem mInt {i j pos} : ME X wi (.Constant (.int i) j pos) (dC (.int i)) := PE.of pe_int fun _ _ _ => lift_c fun _ => .int i
theorem mBl {i j pos} : ME X wi (.Constant (.bool i) j pos) (dC (.bl i)) := PE.of pe_bl fun _ _ _ => lift_c fun _ => .bl i
theorem mNon {j pos} : ME X wi (.Constant .none j pos) (dC .non) := PE.of pe_non fun _ _ _ => lift_c fun _ => .non
theorem mStr {x j pos} : ME X wi (.Constant (.str x) j pos) (dC (.str x)) := PE.of pe_str fun _ _ _ => lift_c fun _ => .str x
/-- a constant of the module -/
structure GC (K : PySem.W.Frag) (mg : Str → Option Value) (x : Str) (w : D) : Prop where
  ex : ∃ v u, mg x = some u ∧ RelV v u ∧ ∀ I, RD K I w v
theorem mGlob {x : Str} {w : D} {pos : Pos} (hg : Gl X x) (h : GC X.K X.mg x w) (hd : (x == ("__debug__" : Str)) = false := by decide) : ME X wi (.Name x pos) (dC w) := by
  obtain ⟨v, u, hm, r, q⟩ := h.ex
  exact PE.of (pe_glob hg hm r hd) fun _ _ _ => lift_c q

/-! ### operators -/
theorem lift_op {K : PySem.W.Frag} {g : D → D → Sto → DK → Prop} {σ : L2.St} {H : Hp} {Q : VK} (h : lift K wi (dOp g ta tb) σ H Q) : tOp (rOf K wi g) (lift K wi ta) (lift K wi tb) σ H Q := by
  obtain ⟨I, env, S, Qd, sim, er, h, k⟩ := h
  refine ⟨I, env, S, _, sim, er, h, fun I1 w1 v1 S1 H1 e1 s1 r1 h1 => ?_⟩
  refine ⟨I1, env, S1, _, s1, er.le e1.le, h1, fun I2 w2 v2 S2 H2 e2 s2 r2 h2 => ?_⟩
  exact ⟨I2, S2, w1, w2, Qd, s2, r1.le e2.le, r2, h2, k.ext (e1.trans e2)⟩
theorem mOp {op : Operator} {g : D → D → Sto → DK → Prop} (ho : OpM X wi (binaryOp op) g) (ha : ME X wi a ta) (hb : ME X wi b tb) : ME X wi (.BinOp a op b pos) (dOp g ta tb) :=
  PE.of (pe_op ho ha hb) fun _ _ _ => lift_op
theorem lift_un {K : PySem.W.Frag} {g : D → Sto → DK → Prop} {σ : L2.St} {H : Hp} {Q : VK} (h : lift K wi (dUn g ta) σ H Q) : tUn (r1Of K wi g) (lift K wi ta) σ H Q := by
  obtain ⟨I, env, S, Qd, sim, er, h, k⟩ := h
  refine ⟨I, env, S, _, sim, er, h, fun I1 w1 v1 S1 H1 e1 s1 r1 h1 => ?_⟩
  exact ⟨I1, S1, w1, Qd, s1, r1, h1, k.ext e1⟩
theorem mUn {op : UnaryOp} {g : D → Sto → DK → Prop} (ho : UnM X wi (unaryOp op) g) (ha : ME X wi a ta) : ME X wi (.UnaryOp op a pos) (dUn g ta) :=
  PE.of (pe_un ho ha) fun _ _ _ => lift_un
theorem mCmp {op : CmpOp} {g : D → D → Sto → DK → Prop} (ho : OpM X wi (compareOp op) g) (ha : ME X wi a ta) (hb : ME X wi b tb) (hm : behindInMarks op b = false := by first | exact nomark _ | rfl) : ME X wi (.Compare a [op] [b] pos) (dOp g ta tb) :=
  PE.of (pe_cmpR ho ha hb hm) fun _ _ _ => lift_op
theorem lift_tst {K : PySem.W.Frag} {t : DE} {σ : L2.St} {H : Hp} {Q : Bool → Hp → Prop} (h : liftT K wi (dTst t) σ H Q) : tB (lift K wi t) σ H Q := by
  obtain ⟨I, env, S, Qd, sim, er, h, k⟩ := h
  refine ⟨I, env, S, _, sim, er, h, fun I1 w1 v1 S1 H1 e1 s1 r1 h1 => ?_⟩
  cases w1 <;> try exact h1.elim
  cases r1
  exact ⟨_, rfl, k I1 _ S1 H1 e1 s1 h1⟩
theorem mCmpT {op : CmpOp} {g : D → D → Sto → DK → Prop} (ho : OpM X wi (compareOp op) g) (ha : ME X wi a ta) (hb : ME X wi b tb) (hm : behindInMarks op b = false := by first | exact nomark _ | rfl) : MT X wi (.Compare a [op] [b] pos) (dTst (dOp g ta tb)) := by
  refine PT.of (pt_cmpR ho ha hb hm) fun σ H Q h => ?_
  obtain ⟨I, env, S, Qd, sim, er, h, k⟩ := lift_tst h
  exact lift_op ⟨I, env, S, Qd, sim, er, h, k⟩
/-- an expression whose value is a bool -/
theorem mVal {t : DE} (h : ME X wi e t) (he : ∀ whole, isTrue e X.env whole = (do let v ← whole; standAt e.pos; holding [v] (truthy v)) := by intro _; rfl) : MT X wi e (dTst t) := PT.of (pt_val h he) fun _ _ _ => lift_tst
theorem mNotT (ha : MT X wi a tA) : MT X wi (.UnaryOp .Not a pos) (dNot tA) := by
  refine PT.of (pt_not ha) fun σ H Q h => ?_
  obtain ⟨I, env, S, Qd, sim, er, h, k⟩ := h
  exact ⟨I, env, S, _, sim, er, h, fun I1 b S1 H1 e1 s1 h1 => k I1 _ S1 H1 e1 s1 h1⟩
theorem mAnd1 (ha : MT X wi a tA) : MW X wi (.BoolOp .And [a] pos) tA := pw_and1 ha
theorem mOr1 (ha : MT X wi a tA) : MW X wi (.BoolOp .Or [a] pos) tA := pw_or1 ha
theorem mAnd {rest : List Expr} (ha : MT X wi a tA) (hb : MW X wi (.BoolOp .And (b :: rest) pos) uB) : MW X wi (.BoolOp .And (a :: b :: rest) pos) (dAnd tA uB) := by
  refine PW.of (pw_and ha hb) fun σ H Q h => ?_
  obtain ⟨I, env, S, Qd, sim, er, h, k⟩ := h
  refine ⟨I, env, S, _, sim, er, h, fun I1 c S1 H1 e1 s1 h1 => ?_⟩
  cases c
  · exact k I1 _ S1 H1 e1 s1 h1
  · exact ⟨I1, env, S1, Qd, s1, er.le e1.le, h1, k.ext e1⟩
theorem mOr {rest : List Expr} (ha : MT X wi a tA) (hb : MW X wi (.BoolOp .Or (b :: rest) pos) uB) : MW X wi (.BoolOp .Or (a :: b :: rest) pos) (dOr tA uB) := by
  refine PW.of (pw_or ha hb) fun σ H Q h => ?_
  obtain ⟨I, env, S, Qd, sim, er, h, k⟩ := h
  refine ⟨I, env, S, _, sim, er, h, fun I1 c S1 H1 e1 s1 h1 => ?_⟩
  cases c
  · exact ⟨I1, env, S1, Qd, s1, er.le e1.le, h1, k.ext e1⟩
  · exact k I1 _ S1 H1 e1 s1 h1
theorem mW (h : MW X wi e tA) : MT X wi e tA := h.pt
theorem mOne {op} (h : ME X wi a ta) : ME X wi (.BoolOp op [a] pos) ta := pe_one h
theorem mAndV {rest : List Expr} (ha : ME X wi a ta) (hb : ME X wi (.BoolOp .And (b :: rest) pos) tb) : ME X wi (.BoolOp .And (a :: b :: rest) pos) (dAndV ta tb) := by
  refine PE.of (pe_and ha hb) fun σ H Q h => ?_
  obtain ⟨I, env, S, Qd, sim, er, h, k⟩ := h
  refine ⟨I, env, S, _, sim, er, h, fun I1 w1 v1 S1 H1 e1 s1 r1 h1 => ?_⟩
  cases w1 <;> try exact h1.elim
  rename_i c
  cases r1
  refine ⟨c, rfl, ?_⟩
  cases c
  · exact k I1 _ _ S1 H1 e1 s1 (.bl false) h1
  · exact ⟨I1, env, S1, Qd, s1, er.le e1.le, h1, k.ext e1⟩
theorem mOrV {rest : List Expr} (ha : ME X wi a ta) (hb : ME X wi (.BoolOp .Or (b :: rest) pos) tb) : ME X wi (.BoolOp .Or (a :: b :: rest) pos) (dOrV ta tb) := by
  refine PE.of (pe_or ha hb) fun σ H Q h => ?_
  obtain ⟨I, env, S, Qd, sim, er, h, k⟩ := h
  refine ⟨I, env, S, _, sim, er, h, fun I1 w1 v1 S1 H1 e1 s1 r1 h1 => ?_⟩
  cases w1 <;> try exact h1.elim
  rename_i c
  cases r1
  refine ⟨c, rfl, ?_⟩
  cases c
  · exact ⟨I1, env, S1, Qd, s1, er.le e1.le, h1, k.ext e1⟩
  · exact k I1 _ _ S1 H1 e1 s1 (.bl true) h1
theorem mNotV (ha : ME X wi a ta) : ME X wi (.UnaryOp .Not a pos) (dNotV ta) := by
  refine PE.of (pe_not ha) fun σ H Q h => ?_
  obtain ⟨I, env, S, Qd, sim, er, h, k⟩ := h
  refine ⟨I, env, S, _, sim, er, h, fun I1 w1 v1 S1 H1 e1 s1 r1 h1 => ?_⟩
  cases w1 <;> try exact h1.elim
  cases r1
  exact ⟨_, rfl, k I1 _ _ S1 H1 e1 s1 (.bl _) h1⟩
theorem mIfE (hc : MT X wi c tA) (ha : ME X wi a ta) (hb : ME X wi b tb) : ME X wi (.IfExp c a b pos) (dIf tA ta tb) := by
  refine PE.of (pe_ifExp hc ha hb) fun σ H Q h => ?_
  obtain ⟨I, env, S, Qd, sim, er, h, k⟩ := h
  refine ⟨I, env, S, _, sim, er, h, fun I1 d S1 H1 e1 s1 h1 => ?_⟩
  cases d
  · exact ⟨I1, env, S1, Qd, s1, er.le e1.le, h1, k.ext e1⟩
  · exact ⟨I1, env, S1, Qd, s1, er.le e1.le, h1, k.ext e1⟩

/-! ### arguments, displays -/
theorem mNil : MA X wi [] dNil := PA.of pa_nil fun σ H Q h => by
  obtain ⟨I, env, S, Qd, sim, er, h, k⟩ := h
  exact k I [] [] S H .refl sim .nil h
theorem mCons (ha : ME X wi e ta) (hr : MA X wi es t) (hs : starEach (e :: es) X.env = (false, eval e X.env) :: starEach es X.env := by rfl) : MA X wi (e :: es) (dCons ta t) := by
  refine PA.of (pa_cons ha hr hs) fun σ H Q h => ?_
  obtain ⟨I, env, S, Qd, sim, er, h, k⟩ := h
  refine ⟨I, env, S, _, sim, er, h, fun I1 w1 v1 S1 H1 e1 s1 r1 h1 => ?_⟩
  refine ⟨I1, env, S1, _, s1, er.le e1.le, h1, fun I2 ws vs S2 H2 e2 s2 r2 h2 => ?_⟩
  exact k I2 _ _ S2 H2 (e1.trans e2) s2 (.cons (r1.le e2.le) r2) h2
def dTup (t : DA) : DE := fun env S Q => t env S fun xs S1 => xs.length ≤ sizeLine ∧ Q (.tup xs) S1
def dLst (t : DA) : DE := fun env S Q => t env S fun xs S1 => xs.length ≤ sizeLine ∧ Q (.lst xs) S1
/-- a list that will be changed -/
def dLstR (t : DA) : DE := fun env S Q => t env S fun xs S1 => xs.length ≤ sizeLine ∧ ∀ p, S1 p = none → Q (.ref p) (su S1 p (.lst xs))
theorem KQ.newI {K : PySem.W.Frag} {I H : Hp} {S : Sto} {Q : DK} {Q' : VK} {p : Addr} {u : HO} {w : D} (k : KQ K wi I S H Q Q') (sim : Sim K wi I S H) (hp : H p = none) (r : RD K (upd I p u) w (.ref p)) (q : Q w S) : Q' (.ref p) (upd H p u) := by
  obtain ⟨s2, e2⟩ := sim.newI (u := u) hp
  exact k _ w _ _ _ e2 s2 r q
theorem KQ.newS {K : PySem.W.Frag} {I H : Hp} {S : Sto} {Q : DK} {Q' : VK} {p : Addr} {u : HO} {o : O} (k : KQ K wi I S H Q Q') (sim : Sim K wi I S H) (hp : H p = none) (r : RO K I o u) (q : ∀ p, S p = none → Q (.ref p) (su S p o)) : Q' (.ref p) (upd H p u) := by
  obtain ⟨h0, s2, e2⟩ := sim.newS hp r
  exact k _ (.ref p) _ _ _ e2 s2 (.ref p) (q p h0)
theorem RDs.newI {K : PySem.W.Frag} {I : Hp} {p : Addr} {u : HO} {xs : List D} {vs : List V} (r : RDs K I xs vs) (hp : I p = none) : RDs K (upd I p u) xs vs := r.le fun a o e => by rw [upd_ne (ne_of_none e hp)]; exact e
theorem Sim.free {K : PySem.W.Frag} {I H : Hp} {S : Sto} {p : Addr} (sim : Sim K wi I S H) (hp : H p = none) : I p = none := by
  cases q : I p with
  | none => rfl
  | some u => rw [sim.im p u q] at hp; cases hp
theorem KQ.newT {K : PySem.W.Frag} {I H : Hp} {S : Sto} {Q : DK} {Q' : VK} {xs : List D} {vs : List V} (k : KQ K wi I S H Q Q') (sim : Sim K wi I S H) (r : RDs K I xs vs) (q : Q (.tup xs) S) : QT Q' H vs :=
  fun p ob hd hp => k.newI (u := .frz ob (.tup vs)) sim hp (.tup (TpA.new hd) (r.newI (sim.free hp))) q
theorem mTup {x1} (h : MA X wi es t) : ME X wi (.Tuple es x1 pos) (dTup t) := by
  refine PE.of (pe_tupF h) fun σ H Q h => ?_
  obtain ⟨I, env, S, Qd, sim, er, h, k⟩ := h
  exact ⟨I, env, S, _, sim, er, h, fun I1 ws vs S1 H1 e1 s1 r1 h1 => ⟨by rw [← r1.length]; exact h1.1, (k.ext e1).newT s1 r1 h1.2⟩⟩
theorem mLst (h : MA X wi es t) : ME X wi (.List es pos) (dLst t) := by
  refine PE.of (pe_lst h) fun σ H Q h => ?_
  obtain ⟨I, env, S, Qd, sim, er, h, k⟩ := h
  refine ⟨I, env, S, _, sim, er, h, fun I1 ws vs S1 H1 e1 s1 r1 h1 => ⟨by rw [← r1.length]; exact h1.1, fun p hp => ?_⟩⟩
  exact (k.ext e1).newI s1 hp (.lst upd_same (r1.newI (s1.free hp))) h1.2
theorem mLstR (h : MA X wi es t) : ME X wi (.List es pos) (dLstR t) := by
  refine PE.of (pe_lst h) fun σ H Q h => ?_
  obtain ⟨I, env, S, Qd, sim, er, h, k⟩ := h
  refine ⟨I, env, S, _, sim, er, h, fun I1 ws vs S1 H1 e1 s1 r1 h1 => ⟨by rw [← r1.length]; exact h1.1, fun p hp => ?_⟩⟩
  exact (k.ext e1).newS s1 hp (show RO X.K I1 (.lst ws) (.lst vs) from r1) h1.2
/-- a list of the store, for ever as it is now -/
def dFrz (t : DE) : DE := fun env S Q => t env S fun w S1 => match w with
  | .ref a => (match S1 a with
    | some (.lst xs) => Q (.lst xs) (sdel S1 a)
    | _ => False)
  | _ => False
theorem mFrz {e : Expr} {t : DE} (h : ME X wi e t) : ME X wi e (dFrz t) := by
  refine PE.of h fun σ H Q h => ?_
  obtain ⟨I, env, S, Qd, sim, er, h, k⟩ := h
  refine ⟨I, env, S, _, sim, er, h, fun I1 w1 v1 S1 H1 e1 s1 r1 h1 => ?_⟩
  cases w1 <;> try exact h1.elim
  cases r1
  rename_i a
  have h1' : (match S1 a with | some (.lst xs) => Qd (.lst xs) (sdel S1 a) | _ => False) := h1
  split at h1'
  · rename_i xs e0
    obtain ⟨_, u, r, hu⟩ := s1.st a _ e0
    cases u <;> try exact r.elim
    obtain ⟨s2, e2, r2⟩ := s1.frz e0 r hu
    exact k _ _ _ _ _ (e1.trans e2) s2 r2 h1'
  · exact h1'.elim
end
end DL


set_option Elab.async false
set_option linter.all false
set_option maxRecDepth 100000
set_option maxHeartbeats 4000000
namespace DL
open PySem PySem.Spec PyProof.Rows L2

/-! ### data as the library's data -/
mutual
def toPy : D → PyData
  | .non => .none
  | .bl b => .bool b
  | .int i => .int i
  | .str x => .str x
  | .tup xs => .tuple (toPys xs)
  | .lst xs => .list (toPys xs)
  | .scr xs => .list (toPys xs)
  | .ref _ => .none
  | .val _ => .none
def toPys : List D → List PyData
  | [] => []
  | x :: xs => toPy x :: toPys xs
end
mutual
/-- nothing within that stands in the store, nothing but data -/
def pur : D → Bool
  | .non | .bl _ | .int _ => true
  | .str x => PyData.strOk x
  | .tup xs | .lst xs | .scr xs => purs xs
  | .ref _ | .val _ => false
def purs : List D → Bool
  | [] => true
  | x :: xs => pur x && purs xs
end
mutual
def dep : D → Nat
  | .tup xs | .lst xs | .scr xs => deps xs + 1
  | _ => 0
def deps : List D → Nat
  | [] => 0
  | x :: xs => max (dep x) (deps xs)
end
mutual
/-- lists of the store read where they stand -/
def rd (S : Sto) : D → D
  | .ref a => (match S a with
    | some (.lst xs) => .lst xs
    | _ => .ref a)
  | .tup xs => .tup (rds S xs)
  | x => x
def rds (S : Sto) : List D → List D
  | [] => []
  | x :: xs => rd S x :: rds S xs
end
mutual
theorem RD.dp {K : PySem.W.Frag} {I H : Hp} (l : Le I H) : ∀ {x : D} {v : V}, RD K I x v → pur x = true → Dp K H v (toPy x)
  | _, _, .non, _ => .non
  | _, _, .bl b, _ => .bl b
  | _, _, .int i, _ => .int i
  | _, _, .str x, _ => .str x
  | _, _, .tup h r, p => .tup (SqT.le l h.sq) (RDs.dp l r p)
  | _, _, .lst h r, p => .lst (SqL.of (l _ _ h)) (RDs.dp l r p)
  | _, _, .scr h r, p => .lst (SqL.le l h) (RDs.dp l r p)
theorem RDs.dp {K : PySem.W.Frag} {I H : Hp} (l : Le I H) : ∀ {xs : List D} {vs : List V}, RDs K I xs vs → purs xs = true → DpAll K H vs (toPys xs)
  | _, _, .nil, _ => .nil
  | _, _, .cons r t, p => by
    have p' := Bool.and_eq_true_iff.mp p
    exact .cons (RD.dp l r p'.1) (RDs.dp l t p'.2)
end
mutual
theorem RD.rdp {K : PySem.W.Frag} {I H : Hp} {S : Sto} (s : Sim K wi I S H) : ∀ {x : D} {v : V}, RD K I x v → pur (rd S x) = true → Dp K H v (toPy (rd S x))
  | _, _, .non, p => RD.dp s.im .non p
  | _, _, .bl b, p => RD.dp s.im (.bl b) p
  | _, _, .int i, p => RD.dp s.im (.int i) p
  | _, _, .str x, p => RD.dp s.im (.str x) p
  | _, _, .lst h r, p => RD.dp s.im (.lst h r) p
  | _, _, .scr h r, p => RD.dp s.im (.scr h r) p
  | _, _, .tup h r, p => .tup (SqT.le s.im h.sq) (RDs.rdp s r p)
  | _, _, .ref a, p => by
    unfold rd at p ⊢
    split at p
    · rename_i xs e
      obtain ⟨_, u, r, hu⟩ := s.st a _ e
      cases u <;> try exact r.elim
      exact .lst (SqL.of hu) (RDs.dp s.im r p)
    · cases p
theorem RDs.rdp {K : PySem.W.Frag} {I H : Hp} {S : Sto} (s : Sim K wi I S H) : ∀ {xs : List D} {vs : List V}, RDs K I xs vs → purs (rds S xs) = true → DpAll K H vs (toPys (rds S xs))
  | _, _, .nil, _ => .nil
  | _, _, .cons r t, p => by
    have p' := Bool.and_eq_true_iff.mp p
    exact .cons (RD.rdp s r p'.1) (RDs.rdp s t p'.2)
end
mutual
theorem canLay_toPy : ∀ x : D, pur x = true → (toPy x).canLay0 = true
  | .non, _ => rfl
  | .bl b, _ => rfl
  | .int i, _ => rfl
  | .str x, h => h
  | .tup xs, h => canLay_toPys xs h
  | .lst xs, h => canLay_toPys xs h
  | .scr xs, h => canLay_toPys xs h
theorem canLay_toPys : ∀ xs : List D, purs xs = true → PyData.canLayAll0 (toPys xs) = true
  | [], _ => rfl
  | x :: xs, h => by
    have h' := Bool.and_eq_true_iff.mp h
    show ((toPy x).canLay0 && PyData.canLayAll0 (toPys xs)) = true
    rw [canLay_toPy x h'.1, canLay_toPys xs h'.2]; rfl
end
mutual
theorem depth_toPy : ∀ x : D, (toPy x).depth = dep x
  | .non => rfl
  | .bl b => rfl
  | .int i => rfl
  | .str x => rfl
  | .tup xs => by show PyData.depth (.tuple (toPys xs)) = deps xs + 1; rw [PyData.depth, depth_toPys xs]
  | .lst xs => by show PyData.depth (.list (toPys xs)) = deps xs + 1; rw [PyData.depth, depth_toPys xs]
  | .scr xs => by show PyData.depth (.list (toPys xs)) = deps xs + 1; rw [PyData.depth, depth_toPys xs]
  | .ref _ => rfl
  | .val _ => rfl
theorem depth_toPys : ∀ xs : List D, PyData.depthAll (toPys xs) = deps xs
  | [] => rfl
  | x :: xs => by
    show PyData.depthAll (toPy x :: toPys xs) = max (dep x) (deps xs)
    rw [PyData.depthAll, depth_toPy x, depth_toPys xs]
end
theorem shaped_toPy {x : D} (p : pur x = true) (h : dep x ≤ 64) : SeqAt.shaped (toPy x) = true := by
  unfold SeqAt.shaped
  rw [canLay_toPy x p, Bool.true_and, decide_eq_true_eq, depth_toPy]
  exact h
/-- Python's == of data -/
def deq (x y : D) : Bool := PyData.eqv (toPy x) (toPy y)
/-- what repr tells -/
def shown (x : D) : Str := PyData.shown (toPy x)
def shb (x : D) : Bool := (toPy x).showable

/-! ### operations -/
def b2 (b : Bool) : Int := if b = true then 1 else 0
def lsOf (S : Sto) : D → Option (List D)
  | .lst xs => some xs
  | .ref a => (match S a with
    | some (.lst xs) => some xs
    | _ => none)
  | _ => none
def fAdd (x y : D) (S : Sto) (Q : DK) : Prop :=
  match x, y with
  | .int i, .int j => Q (.int (i + j)) S
  | .int i, .bl k => Q (.int (i + b2 k)) S
  | .bl k, .int j => Q (.int (b2 k + j)) S
  | .str a, .str b => a.length + b.length ≤ sizeLine ∧ Q (.str (a ++ b)) S
  | .tup xs, .tup ys => xs.length + ys.length ≤ sizeLine ∧ Q (.tup (xs ++ ys)) S
  | x, y => match lsOf S x, lsOf S y with
    | some xs, some ys => xs.length + ys.length ≤ sizeLine ∧ Q (.lst (xs ++ ys)) S
    | _, _ => False
def fSub (x y : D) (S : Sto) (Q : DK) : Prop :=
  match x, y with
  | .int i, .int j => Q (.int (i - j)) S
  | .bl k, .int j => Q (.int (b2 k - j)) S
  | _, _ => False
def fMul (x y : D) (S : Sto) (Q : DK) : Prop :=
  match x, y with
  | .int i, .int j => CMul i j ∧ Q (.int (i * j)) S
  | x, .int k => (match lsOf S x with
    | some xs => (-(2 ^ 63) ≤ k ∧ k < 2 ^ 63 ∧ xs.length * k.toNat ≤ sizeLine) ∧ Q (.lst (List.replicate k.toNat xs).flatten) S
    | none => False)
  | _, _ => False
def fDiv (x y : D) (S : Sto) (Q : DK) : Prop :=
  match x, y with
  | .int i, .int j => (0 < j ∧ j < 1073741824) ∧ Q (.int (i / j)) S
  | _, _ => False
def fMod (x y : D) (S : Sto) (Q : DK) : Prop :=
  match x, y with
  | .int i, .int j => 0 < j ∧ Q (.int (i % j)) S
  | _, _ => False
def fPow (x y : D) (S : Sto) (Q : DK) : Prop :=
  match x, y with
  | .int i, .int j => CPow i j ∧ Q (.int (i ^ j.toNat)) S
  | _, _ => False
def fNeg (x : D) (S : Sto) (Q : DK) : Prop :=
  match x with
  | .int i => Q (.int (-i)) S
  | _ => False
def shp (x : D) : Bool := pur x && decide (dep x ≤ 64)
/-- two texts -/
def txts (x y : D) : Bool := match x, y with | .str _, .str _ => true | _, _ => false
def fEq (x y : D) (S : Sto) (Q : DK) : Prop := (txts x y = true ∨ (shp (rd S x) = true ∧ shp (rd S y) = true)) ∧ Q (.bl (deq (rd S x) (rd S y))) S
def fNe (x y : D) (S : Sto) (Q : DK) : Prop := (txts x y = true ∨ (shp (rd S x) = true ∧ shp (rd S y) = true)) ∧ Q (.bl (!deq (rd S x) (rd S y))) S
def fLt (x y : D) (S : Sto) (Q : DK) : Prop :=
  match x, y with
  | .int i, .int j => Q (.bl (decide (i < j))) S
  | .str a, .str b => Q (.bl (decide (a.cps.toList < b.cps.toList))) S
  | _, _ => False
def fLe (x y : D) (S : Sto) (Q : DK) : Prop :=
  match x, y with
  | .int i, .int j => Q (.bl (decide (i ≤ j))) S
  | _, _ => False
def fGt (x y : D) (S : Sto) (Q : DK) : Prop :=
  match x, y with
  | .int i, .int j => Q (.bl (decide (j < i))) S
  | _, _ => False
def fGe (x y : D) (S : Sto) (Q : DK) : Prop :=
  match x, y with
  | .int i, .int j => Q (.bl (decide (j ≤ i))) S
  | _, _ => False
def isNon : D → Bool
  | .non => true
  | _ => false
def fIs (x y : D) (S : Sto) (Q : DK) : Prop :=
  match x, y with
  | .val _, _ => False
  | x, .non => Q (.bl (isNon x)) S
  | _, _ => False
def fIsNot (x y : D) (S : Sto) (Q : DK) : Prop :=
  match x, y with
  | .val _, _ => False
  | x, .non => Q (.bl (!isNon x)) S
  | _, _ => False

section
variable {X : Cx}
theorem lsOf_at {K : PySem.W.Frag} {I H : Hp} {S : Sto} (s : Sim K wi I S H) {x : D} {v : V} {xs : List D} (r : RD K I x v) (h : lsOf S x = some xs) : ∃ a vs, v = .ref a ∧ H a = some (.lst vs) ∧ RDs K I xs vs := by
  cases r <;> try cases h
  · rename_i a vs h1 h2
    exact ⟨a, vs, rfl, s.im _ _ h1, h2⟩
  · rename_i a
    have h' : (match S a with | some (.lst ys) => some ys | _ => none) = some xs := h
    split at h'
    · rename_i ys e
      cases h'
      obtain ⟨_, u, r, hu⟩ := s.st a _ e
      cases u <;> try exact r.elim
      exact ⟨a, _, rfl, hu, r⟩
    · cases h'
theorem oAdd_l {pins : List (Addr × Obj)} {s : Shared} {σ : L2.St} {H : Hp} {Q' : VK} {v u : V} {vv uu : Value} {Ih : Hp} {S : Sto} {x y : D} {Q : DK} (I : Inv X pins σ H s) (rv : RelV v vv) (ru : RelV u uu) (sim : Sim X.K wi Ih S H) (rx : RD X.K Ih x v) (ry : RD X.K Ih y u)
    (h : match lsOf S x, lsOf S y with
      | some xs, some ys => xs.length + ys.length ≤ sizeLine ∧ Q (.lst (xs ++ ys)) S
      | _, _ => False) (k : KQ X.K wi Ih S H Q Q') : wpAny (model X.prog X.w) X.A (binaryOp .Add vv uu) (EP X pins σ Q') X.xe s := by
  split at h
  · rename_i xs ys e1 e2
    obtain ⟨a, vs, rfl, h1, r1⟩ := lsOf_at sim rx e1
    obtain ⟨b, us, rfl, h2, r2⟩ := lsOf_at sim ry e2
    refine op_cat pins s σ H _ _ _ _ Q' I rv ru ⟨a, b, vs, us, rfl, rfl, h1, h2, by rw [← r1.length, ← r2.length]; exact h.1, fun p hp => ?_⟩
    exact k.newI sim hp (.lst upd_same ((r1.append r2).newI (sim.free hp))) h.2
  · exact h.elim
theorem oAdd : OpM X wi (binaryOp .Add) fAdd := by
  intro pins s σ H v u vv uu Q' I rv ru ⟨Ih, S, x, y, Q, sim, rx, ry, h, k⟩
  unfold fAdd at h
  split at h
  · cases rx; cases ry
    exact op_add pins s σ H _ _ _ _ Q' I rv ru ⟨_, _, rfl, rfl, k _ _ _ _ _ .refl sim (.int _) h⟩
  · cases rx; cases ry
    exact op_add_ib pins s σ H _ _ _ _ Q' I rv ru ⟨_, _, rfl, rfl, k _ _ _ _ _ .refl sim (.int _) h⟩
  · cases rx; cases ry
    obtain ⟨t, rfl⟩ := ru
    cases rv
    exact PySem.IntBool.add_bool_int ⟨V.int _, H, I.tok _, ⟨_, rfl⟩, k _ _ _ _ _ .refl sim (.int _) h⟩
  · cases rx; cases ry
    exact op_add_str pins s σ H _ _ _ _ Q' I rv ru ⟨_, _, rfl, rfl, h.1, k _ _ _ _ _ .refl sim (.str _) h.2⟩
  · rename_i xs ys
    cases rx with
    | @tup a _ vs h1 r1 =>
      cases ry with
      | @tup b _ us h2 r2 =>
        refine op_catF pins s σ H _ _ _ _ Q' I rv ru ⟨a, b, vs, us, rfl, rfl, SqT.le sim.im h1.sq, SqT.le sim.im h2.sq, by rw [← r1.length, ← r2.length]; exact h.1, fun e => ?_, fun _ e => ?_, ?_⟩
        · subst e
          cases r1
          exact k _ _ _ _ _ .refl sim (.tup h2 r2) h.2
        · subst e
          cases r2
          have h' := h.2
          rw [List.append_nil] at h'
          exact k _ _ _ _ _ .refl sim (.tup h1 r1) h'
        · exact k.newT sim (r1.append r2) h.2
  · exact oAdd_l I rv ru sim rx ry h k
theorem oSub : OpM X wi (binaryOp .Sub) fSub := by
  intro pins s σ H v u vv uu Q' I rv ru ⟨Ih, S, x, y, Q, sim, rx, ry, h, k⟩
  unfold fSub at h
  split at h
  · cases rx; cases ry
    exact op_sub pins s σ H _ _ _ _ Q' I rv ru ⟨_, _, rfl, rfl, k _ _ _ _ _ .refl sim (.int _) h⟩
  · cases rx; cases ry
    obtain ⟨t, rfl⟩ := ru
    cases rv
    exact PySem.IntBool.sub_bool_int ⟨V.int _, H, I.tok _, ⟨_, rfl⟩, k _ _ _ _ _ .refl sim (.int _) h⟩
  · exact h.elim
theorem RDs.rep {K : PySem.W.Frag} {I : Hp} {xs : List D} {vs : List V} (r : RDs K I xs vs) : ∀ k : Nat, RDs K I (List.replicate k xs).flatten (List.replicate k vs).flatten
  | 0 => .nil
  | k + 1 => by rw [List.replicate_succ, List.replicate_succ, List.flatten_cons, List.flatten_cons]; exact r.append (RDs.rep r k)
theorem oMul : OpM X wi (binaryOp .Mult) fMul := by
  intro pins s σ H v u vv uu Q' I rv ru ⟨Ih, S, x, y, Q, sim, rx, ry, h, k⟩
  unfold fMul at h
  split at h
  · cases rx; cases ry
    exact op_mul pins s σ H _ _ _ _ Q' I rv ru ⟨_, _, rfl, rfl, h.1, k _ _ _ _ _ .refl sim (.int _) h.2⟩
  · split at h
    · rename_i xs e1
      obtain ⟨a, vs, rfl, h1, r1⟩ := lsOf_at sim rx e1
      cases ry
      refine op_rep pins s σ H _ _ _ _ Q' I rv ru ⟨a, _, vs, rfl, rfl, h1, h.1.1, h.1.2.1, by rw [← r1.length]; exact h.1.2.2, fun p hp => ?_⟩
      exact k.newI sim hp (.lst upd_same ((r1.rep _).newI (sim.free hp))) h.2
    · exact h.elim
  · exact h.elim
theorem oDiv : OpM X wi (binaryOp .FloorDiv) fDiv := by
  intro pins s σ H v u vv uu Q' I rv ru ⟨Ih, S, x, y, Q, sim, rx, ry, h, k⟩
  unfold fDiv at h
  split at h
  · cases rx; cases ry
    exact op_fdiv pins s σ H _ _ _ _ Q' I rv ru ⟨_, _, rfl, rfl, h.1, k _ _ _ _ _ .refl sim (.int _) h.2⟩
  · exact h.elim
theorem oMod : OpM X wi (binaryOp .Mod) fMod := by
  intro pins s σ H v u vv uu Q' I rv ru ⟨Ih, S, x, y, Q, sim, rx, ry, h, k⟩
  unfold fMod at h
  split at h
  · cases rx; cases ry
    exact op_mod pins s σ H _ _ _ _ Q' I rv ru ⟨_, _, rfl, rfl, h.1, k _ _ _ _ _ .refl sim (.int _) h.2⟩
  · exact h.elim
theorem oPow : OpM X wi (binaryOp .Pow) fPow := by
  intro pins s σ H v u vv uu Q' I rv ru ⟨Ih, S, x, y, Q, sim, rx, ry, h, k⟩
  unfold fPow at h
  split at h
  · cases rx; cases ry
    exact op_pow pins s σ H _ _ _ _ Q' I rv ru ⟨_, _, rfl, rfl, h.1, k _ _ _ _ _ .refl sim (.int _) h.2⟩
  · exact h.elim
theorem uNeg : UnM X wi (unaryOp .USub) fNeg := by
  intro pins s σ H v vv Q' I rv ⟨Ih, S, x, Q, sim, rx, h, k⟩
  unfold fNeg at h
  split at h
  · cases rx
    exact un_neg pins s σ H _ _ Q' I rv ⟨_, rfl, k _ _ _ _ _ .refl sim (.int _) h⟩
  · exact h.elim
theorem oEq (hu : X.A.units + 64 < cLine) : OpM X wi (compareOp .Eq) fEq := by
  intro pins s σ H v u vv uu Q' I rv ru ⟨Ih, S, x, y, Q, sim, rx, ry, ⟨hh, h⟩, k⟩
  rcases hh with ht | ⟨h1, h2⟩
  · unfold txts at ht
    split at ht
    · cases rx; cases ry
      rename_i a b
      refine op_eq pins s σ H _ _ _ _ Q' I rv ru ⟨rfl, k _ _ _ _ _ .refl sim (.bl _) ?_⟩
      have e : deq (rd S (.str a)) (rd S (.str b)) = decide (V.str a = V.str b) := by
        show PyData.eqv (.str a) (.str b) = _
        simp only [PyData.eqv]
        by_cases h : a = b <;> simp [h]
      rw [e] at h
      exact h
    · cases ht
  have p1 := Bool.and_eq_true_iff.mp h1
  have p2 := Bool.and_eq_true_iff.mp h2
  exact op_eqD hu pins s σ H _ _ _ _ Q' I rv ru ⟨_, _, rx.rdp sim p1.1, ry.rdp sim p2.1, shaped_toPy p1.1 (of_decide_eq_true p1.2), shaped_toPy p2.1 (of_decide_eq_true p2.2), k _ _ _ _ _ .refl sim (.bl _) h⟩
theorem oNe (hu : X.A.units + 64 < cLine) : OpM X wi (compareOp .NotEq) fNe := by
  intro pins s σ H v u vv uu Q' I rv ru ⟨Ih, S, x, y, Q, sim, rx, ry, ⟨hh, h⟩, k⟩
  rcases hh with ht | ⟨h1, h2⟩
  · unfold txts at ht
    split at ht
    · cases rx; cases ry
      rename_i a b
      refine op_ne pins s σ H _ _ _ _ Q' I rv ru ⟨rfl, k _ _ _ _ _ .refl sim (.bl _) ?_⟩
      have e : deq (rd S (.str a)) (rd S (.str b)) = decide (V.str a = V.str b) := by
        show PyData.eqv (.str a) (.str b) = _
        simp only [PyData.eqv]
        by_cases h : a = b <;> simp [h]
      rw [e] at h
      exact h
    · cases ht
  have p1 := Bool.and_eq_true_iff.mp h1
  have p2 := Bool.and_eq_true_iff.mp h2
  exact op_neD hu pins s σ H _ _ _ _ Q' I rv ru ⟨_, _, rx.rdp sim p1.1, ry.rdp sim p2.1, shaped_toPy p1.1 (of_decide_eq_true p1.2), shaped_toPy p2.1 (of_decide_eq_true p2.2), k _ _ _ _ _ .refl sim (.bl _) h⟩
theorem oLt : OpM X wi (compareOp .Lt) fLt := by
  intro pins s σ H v u vv uu Q' I rv ru ⟨Ih, S, x, y, Q, sim, rx, ry, h, k⟩
  unfold fLt at h
  split at h
  · cases rx; cases ry
    exact op_lt pins s σ H _ _ _ _ Q' I rv ru ⟨_, _, rfl, rfl, k _ _ _ _ _ .refl sim (.bl _) h⟩
  · cases rx; cases ry
    exact op_lt_str pins s σ H _ _ _ _ Q' I rv ru ⟨_, _, rfl, rfl, k _ _ _ _ _ .refl sim (.bl _) h⟩
  · exact h.elim
theorem oLe : OpM X wi (compareOp .LtE) fLe := by
  intro pins s σ H v u vv uu Q' I rv ru ⟨Ih, S, x, y, Q, sim, rx, ry, h, k⟩
  unfold fLe at h
  split at h
  · cases rx; cases ry
    exact op_le pins s σ H _ _ _ _ Q' I rv ru ⟨_, _, rfl, rfl, k _ _ _ _ _ .refl sim (.bl _) h⟩
  · exact h.elim
theorem oGt : OpM X wi (compareOp .Gt) fGt := by
  intro pins s σ H v u vv uu Q' I rv ru ⟨Ih, S, x, y, Q, sim, rx, ry, h, k⟩
  unfold fGt at h
  split at h
  · cases rx; cases ry
    exact op_gt pins s σ H _ _ _ _ Q' I rv ru ⟨_, _, rfl, rfl, k _ _ _ _ _ .refl sim (.bl _) h⟩
  · exact h.elim
theorem oGe : OpM X wi (compareOp .GtE) fGe := by
  intro pins s σ H v u vv uu Q' I rv ru ⟨Ih, S, x, y, Q, sim, rx, ry, h, k⟩
  unfold fGe at h
  split at h
  · cases rx; cases ry
    exact op_ge pins s σ H _ _ _ _ Q' I rv ru ⟨_, _, rfl, rfl, k _ _ _ _ _ .refl sim (.bl _) h⟩
  · exact h.elim
theorem isNon_of {K : PySem.W.Frag} {I : Hp} {x : D} {v : V} (r : RD K I x v) (h : ∀ w, x ≠ .val w) : decide (v = .non) = isNon x := by
  cases r <;> first | rfl | exact absurd rfl (h _)
theorem oIs : OpM X wi (compareOp .Is) fIs := by
  intro pins s σ H v u vv uu Q' I rv ru ⟨Ih, S, x, y, Q, sim, rx, ry, h, k⟩
  unfold fIs at h
  split at h
  · exact h.elim
  · rename_i hx
    cases ry
    refine op_isN pins s σ H _ _ _ _ Q' I rv ru ⟨rfl, ?_⟩
    rw [isNon_of rx hx]
    exact k _ _ _ _ _ .refl sim (.bl _) h
  · exact h.elim
theorem oIsNot : OpM X wi (compareOp .IsNot) fIsNot := by
  intro pins s σ H v u vv uu Q' I rv ru ⟨Ih, S, x, y, Q, sim, rx, ry, h, k⟩
  unfold fIsNot at h
  split at h
  · exact h.elim
  · rename_i hx
    cases ry
    refine op_notN pins s σ H _ _ _ _ Q' I rv ru ⟨rfl, ?_⟩
    rw [isNon_of rx hx]
    exact k _ _ _ _ _ .refl sim (.bl _) h
  · exact h.elim
end
end DL


set_option Elab.async false
set_option linter.all false
set_option maxRecDepth 100000
set_option maxHeartbeats 4000000
namespace DL
open PySem PySem.Spec PyProof.Rows L2

/-! ### subscripts -/
def keyOf : D → Option Key
  | .int i => some (.inl i)
  | .str x => some (.inr x)
  | _ => none
def dval {κ : Type} [DecidableEq κ] (kvs : List (κ × D)) (k : κ) : Option D := (kvs.find? fun kv => decide (kv.1 = k)).map (·.2)
def dput {κ : Type} [DecidableEq κ] (kvs : List (κ × D)) (k : κ) (v : D) : List (κ × D) :=
  if (kvs.any fun kv => decide (kv.1 = k)) = true then kvs.map fun kv => if kv.1 = k then (kv.1, v) else kv else kvs ++ [(k, v)]
def ddrop {κ : Type} [DecidableEq κ] (kvs : List (κ × D)) (k : κ) : List (κ × D) := kvs.filter fun kv => decide (kv.1 ≠ k)
def qOpt (o : Option D) (S : Sto) (Q : DK) : Prop := match o with
  | some v => Q v S
  | none => False
def fIx (x y : D) (S : Sto) (Q : DK) : Prop :=
  match x, y with
  | .tup xs, .int i => qOpt (atI xs i) S Q
  | .lst xs, .int i => qOpt (atI xs i) S Q
  | .str z, .int i => z.length ≤ sizeLine ∧ (match atI z.cps.toList i with
    | some c => Q (.str ⟨#[c]⟩) S
    | none => False)
  | .ref a, y => (match S a with
    | some (.lst xs) => (match y with
      | .int i => qOpt (atI xs i) S Q
      | _ => False)
    | some (.dK kvs) => (match keyOf y with
      | some k => qOpt (dval kvs k) S Q
      | none => False)
    | some (.lkK _ _ kvs) => (match keyOf y with
      | some k => qOpt (dval kvs k) S Q
      | none => False)
    | _ => False)
  | _, _ => False
def rixOf (K : PySem.W.Frag) (wi : Wi) (g : D → D → Sto → DK → Prop) : R2 := rOf K wi g
abbrev IxM (X : Cx) (wi : Wi) (g : D → D → Sto → DK → Prop) : Prop := IxR X (rOf X.K wi g)
section
variable {X : Cx}
theorem RDs.atI {K : PySem.W.Frag} {I : Hp} {xs : List D} {vs : List V} {i : Int} {x : D} (r : RDs K I xs vs) (h : L2.atI xs i = some x) : ∃ v, L2.atI vs i = some v ∧ RD K I x v := by
  unfold L2.atI at h ⊢
  rw [← r.length]
  cases e : ixN xs.length i with
  | none => rw [e] at h; cases h
  | some j =>
    rw [e] at h
    exact r.get h
theorem RKV.val {κ : Type} [DecidableEq κ] {K : PySem.W.Frag} {I : Hp} {k : κ} : ∀ {xs : List (κ × D)} {ys : List (κ × V)} {x : D}, RKV K I xs ys → dval xs k = some x → ∃ v, valV ys k = some v ∧ RD K I x v
  | _, _, _, .nil, h => by cases h
  | p :: xs, q :: ys, x, .cons ⟨e, r⟩ t, h => by
    by_cases hk : p.1 = k
    · have h' : some p.2 = some x := by rw [← h]; simp [dval, List.find?_cons, hk]
      cases h'
      exact ⟨q.2, by simp [valV, List.find?_cons, ← e, hk], r⟩
    · have h' : dval xs k = some x := by rw [← h]; simp [dval, List.find?_cons, hk]
      obtain ⟨v, h1, h2⟩ := RKV.val t h'
      refine ⟨v, ?_, h2⟩
      rw [← h1]
      simp [valV, List.find?_cons, ← e, hk]
theorem RKV.none {κ : Type} [DecidableEq κ] {K : PySem.W.Frag} {I : Hp} {k : κ} : ∀ {xs : List (κ × D)} {ys : List (κ × V)}, RKV K I xs ys → dval xs k = .none → valV ys k = .none
  | _, _, .nil, h => rfl
  | p :: xs, q :: ys, .cons ⟨e, r⟩ t, h => by
    by_cases hk : p.1 = k
    · have h' : some p.2 = (.none : Option D) := by rw [← h]; simp [dval, List.find?_cons, hk]
      cases h'
    · have h' : dval xs k = .none := by rw [← h]; simp [dval, List.find?_cons, hk]
      rw [← RKV.none t h']
      simp [valV, List.find?_cons, ← e, hk]
theorem RD.key {K : PySem.W.Frag} {I : Hp} {y : D} {u : V} {k : Key} (r : RD K I y u) (h : keyOf y = some k) : u = kV k := by
  cases r <;> cases h <;> rfl
theorem st_lst {K : PySem.W.Frag} {I H : Hp} {S : Sto} {a : Addr} {xs : List D} (sim : Sim K wi I S H) (e : S a = some (.lst xs)) : ∃ vs, H a = some (.lst vs) ∧ RDs K I xs vs := by
  obtain ⟨_, u, r, hu⟩ := sim.st a _ e
  cases u <;> try exact r.elim
  exact ⟨_, hu, r⟩
theorem st_dK {K : PySem.W.Frag} {I H : Hp} {S : Sto} {a : Addr} {kvs : List (Key × D)} (sim : Sim K wi I S H) (e : S a = some (.dK kvs)) : ∃ us, H a = some (.dK us) ∧ RKV K I kvs us := by
  obtain ⟨_, u, r, hu⟩ := sim.st a _ e
  cases u <;> try exact r.elim
  exact ⟨_, hu, r⟩
theorem st_lk {K : PySem.W.Frag} {I H : Hp} {S : Sto} {a : Addr} {od : Obj} {u : HO} {kvs : List (Key × D)} (sim : Sim K wi I S H) (e : S a = some (.lkK od u kvs)) : ∃ us, H a = some (.frz od (.dK us)) ∧ u = .dK us ∧ RKV K I kvs us := by
  obtain ⟨_, w, r, hu⟩ := sim.st a _ e
  obtain ⟨rfl, us, rfl, h⟩ := r
  exact ⟨_, hu, rfl, h⟩
theorem iIx (hu : X.A.units + 1 < cLine) : IxM X wi fIx := by
  intro value slice pins s σ H v u vv uu Q' I rv ru ⟨Ih, S, x, y, Q, sim, rx, ry, h, k⟩ hs
  have q1 : ∀ {xs : List D} {vs : List V} {i : Int}, RDs X.K Ih xs vs → qOpt (L2.atI xs i) S Q → ∃ w, L2.atI vs i = some w ∧ Q' w H := fun {xs vs i} r h => by
    unfold qOpt at h
    split at h
    · rename_i w e
      obtain ⟨w', h1, h2⟩ := r.atI e
      exact ⟨w', h1, k _ _ _ _ _ .refl sim h2 h⟩
    · exact h.elim
  unfold fIx at h
  split at h
  · cases ry
    cases rx with
    | tup h1 r1 =>
      obtain ⟨w, e, q⟩ := q1 r1 h
      exact ix_tup value slice pins s σ H _ _ _ _ Q' I rv ru ⟨_, _, _, w, rfl, rfl, SqT.le sim.im h1.sq, e, q⟩ hs
  · cases ry
    cases rx with
    | lst h1 r1 =>
      obtain ⟨w, e, q⟩ := q1 r1 h
      exact ix_list value slice pins s σ H _ _ _ _ Q' I rv ru ⟨_, _, _, w, rfl, rfl, SqL.of (sim.im _ _ h1), e, q⟩ hs
  · cases ry
    cases rx
    obtain ⟨hz, h⟩ := h
    split at h
    · rename_i c e
      exact ix_str value slice pins s σ H _ _ _ _ Q' I rv ru ⟨_, _, c, rfl, rfl, hz, e, k _ _ _ _ _ .refl sim (.str _) h⟩ hs
    · exact h.elim
  · cases rx
    rename_i a
    split at h
    · rename_i xs e0
      obtain ⟨vs, ha, r1⟩ := st_lst sim e0
      split at h
      · cases ry
        obtain ⟨w, e, q⟩ := q1 r1 h
        exact ix_list value slice pins s σ H _ _ _ _ Q' I rv ru ⟨_, _, _, w, rfl, rfl, SqL.of ha, e, q⟩ hs
      · exact h.elim
    · rename_i kvs e0
      obtain ⟨us, ha, r1⟩ := st_dK sim e0
      split at h
      · rename_i key ek
        have eu := ry.key ek
        subst eu
        unfold qOpt at h
        split at h
        · rename_i w ew
          obtain ⟨w', e1, e2⟩ := r1.val ew
          have g : DGet H a (kV key) (some w') := by rw [← e1]; exact DGet.k ha
          cases rv
          exact tail_any (dict_typeIs I g) PySem.F.slot_dict_getitem.lookup (d_getItem hu I g ru fun w2 s3 I3 rw' => ⟨w', H, I3, rw', k _ _ _ _ _ .refl sim e2 h⟩) hs
        · exact h.elim
      · exact h.elim
    · rename_i kvs e0
      obtain ⟨us, ha, _, r1⟩ := st_lk sim e0
      split at h
      · rename_i key ek
        have eu := ry.key ek
        subst eu
        unfold qOpt at h
        split at h
        · rename_i w ew
          obtain ⟨w', e1, e2⟩ := r1.val ew
          have g : DGet H a (kV key) (some w') := by rw [← e1]; exact .inl ⟨us, key, .inr ⟨_, ha⟩, rfl, rfl⟩
          cases rv
          exact tail_any (dict_typeIs I g) PySem.F.slot_dict_getitem.lookup (d_getItem hu I g ru fun w2 s3 I3 rw' => ⟨w', H, I3, rw', k _ _ _ _ _ .refl sim e2 h⟩) hs
        · exact h.elim
      · exact h.elim
    · exact h.elim
  · exact h.elim
theorem mIx {a b : Expr} {ta tb : DE} {pos : Pos} (hu : X.A.units + 1 < cLine) (ha : ME X wi a ta) (hb : ME X wi b tb) (hs : PlainIx b := by intro _ _; rfl) : ME X wi (.Subscript a b pos) (dOp fIx ta tb) :=
  PE.of (pe_ix (iIx hu) ha hb hs) fun _ _ _ => lift_op

/-! ### slices -/
def cut {α : Type} (xs : List α) (lo hi : Option Int) : List α := (xs.drop (HT.sIx xs.length 0 lo)).take (HT.sIx xs.length xs.length hi - HT.sIx xs.length 0 lo)
def fSl (x : D) (lo hi : Option Int) (S : Sto) (Q : DK) : Prop :=
  match x with
  | .tup xs => Q (.tup (cut xs lo hi)) S
  | .lst xs => Q (.lst (cut xs lo hi)) S
  | .scr xs => Q (.lst (cut xs lo hi)) S
  | .str z => z.length ≤ sizeLine ∧ Q (.str (cutS z lo hi)) S
  | .ref a => (match S a with
    | some (.lst xs) => Q (.lst (cut xs lo hi)) S
    | _ => False)
  | _ => False
theorem RDs.cut {K : PySem.W.Frag} {I : Hp} {xs : List D} {vs : List V} (r : RDs K I xs vs) (lo hi : Option Int) : RDs K I (DL.cut xs lo hi) (cutV vs lo hi) := by
  unfold DL.cut cutV
  rw [r.length]
  exact (r.drop _).take _
def rslOf (K : PySem.W.Frag) (wi : Wi) : V → Option Int → Option Int → Hp → VK → Prop := fun v lo hi H Q' => ∃ I S x Q, Sim K wi I S H ∧ RD K I x v ∧ fSl x lo hi S Q ∧ KQ K wi I S H Q Q'
theorem sSl : SlR X (rslOf X.K wi) := by
  intro pins s σ H v vv vl vu lo hi sl Q' I rv hs pl pu ⟨Ih, S, x, Q, sim, rx, h, k⟩
  have go : ∀ {a : Addr} {xs : List D} {vs : List V}, SqL X.K H a vs → RDs X.K Ih xs vs → Q (.lst (DL.cut xs lo hi)) S → v = .ref a → ∃ T id, typeLookup (.type T) "__getitem__" = pure (some (.builtin id)) ∧ s.TypeIs vv T ∧ wpAny (model X.prog X.w) X.A (getItem vv (.ref sl)) (EP X pins σ Q') X.xe s := fun {a xs vs} h1 r1 q e => by
    subst e
    refine sl_list pins s σ H _ _ vl vu lo hi sl Q' I rv hs pl pu ⟨a, vs, rfl, h1, fun p hp => ?_⟩
    exact k.newI sim hp (.lst upd_same ((r1.cut lo hi).newI (sim.free hp))) q
  unfold fSl at h
  split at h
  · rename_i xs
    cases rx with
    | @tup a _ vs h1 r1 =>
      refine sl_tupF pins s σ H _ _ vl vu lo hi sl Q' I rv hs pl pu ⟨a, vs, rfl, SqT.le sim.im h1.sq, fun e => ?_, ?_⟩
      · have e2 : DL.cut xs lo hi = xs := by
          unfold DL.cut
          rw [r1.length, e.1, e.2, ← r1.length]
          simp
        rw [e2] at h
        exact k _ _ _ _ _ .refl sim (.tup h1 r1) h
      · exact k.newT sim (r1.cut lo hi) h
  · cases rx with
    | lst h1 r1 => exact go (SqL.of (sim.im _ _ h1)) r1 h rfl
  · cases rx with
    | scr h1 r1 => exact go (SqL.le sim.im h1) r1 h rfl
  · cases rx
    exact sl_str pins s σ H _ _ vl vu lo hi sl Q' I rv hs pl pu ⟨_, rfl, h.1, k _ _ _ _ _ .refl sim (.str _) h.2⟩
  · cases rx
    rename_i a
    split at h
    · rename_i xs e0
      obtain ⟨vs, ha, r1⟩ := st_lst sim e0
      exact go (SqL.of ha) r1 h rfl
    · exact h.elim
  · exact h.elim
abbrev DO := Env' → Sto → (Option Int → Sto → Prop) → Prop
def KO (K : PySem.W.Frag) (wi : Wi) (I : Hp) (S : Sto) (H : Hp) (Q : Option Int → Sto → Prop) (Q' : Option Int → Hp → Prop) : Prop := ∀ I' b S' H', Ext I S H I' S' H' → Sim K wi I' S' H' → Q b S' → Q' b H'
theorem KO.ext {K : PySem.W.Frag} {I H I1 H1 : Hp} {S S1 : Sto} {Q : Option Int → Sto → Prop} {Q' : Option Int → Hp → Prop} (e : Ext I S H I1 S1 H1) (k : KO K wi I S H Q Q') : KO K wi I1 S1 H1 Q Q' := fun I' w S' H' x => k I' w S' H' (e.trans x)
def liftO (K : PySem.W.Frag) (wi : Wi) (t : DO) : TO := fun σ H Q' => ∃ I env S Q, Sim K wi I S H ∧ ER K I env σ ∧ t env S Q ∧ KO K wi I S H Q Q'
theorem PO.of {e : Option Expr} {t t' : TO} (h : PO X e t) (i : ∀ σ H Q, t' σ H Q → t σ H Q) : PO X e t' := ⟨fun pins s σ H Q I hw => h.run pins s σ H Q I (i σ H Q hw)⟩
def dNoPart : DO := fun _ S Q => Q none S
def dPart (t : DE) : DO := fun env S Q => t env S fun w S1 => match w with
  | .int i => Q (some i) S1
  | _ => False
theorem mNoPart : PO X none (liftO X.K wi dNoPart) := PO.of po_none fun σ H Q h => by
  obtain ⟨I, env, S, Qd, sim, er, h, k⟩ := h
  exact k I none S H .refl sim h
theorem mPart {e : Expr} {t : DE} (h : ME X wi e t) : PO X (some e) (liftO X.K wi (dPart t)) := PO.of (po_some h) fun σ H Q h => by
  obtain ⟨I, env, S, Qd, sim, er, h, k⟩ := h
  refine ⟨I, env, S, _, sim, er, h, fun I1 w1 v1 S1 H1 e1 s1 r1 h1 => ?_⟩
  cases w1 <;> try exact h1.elim
  cases r1
  exact ⟨_, rfl, k I1 _ S1 H1 e1 s1 h1⟩
def dSl (te : DE) (tl th : DO) : DE := fun env S Q => te env S fun x S1 => tl env S1 fun lo S2 => th env S2 fun hi S3 => fSl x lo hi S3 Q
theorem mSl {e : Expr} {lo hi : Option Expr} {te : DE} {tl th : DO} {p2 pos : Pos} (he : ME X wi e te) (hl : PO X lo (liftO X.K wi tl)) (hh : PO X hi (liftO X.K wi th)) : ME X wi (.Subscript e (.Slice lo hi none p2) pos) (dSl te tl th) := by
  refine PE.of (pe_slice (sSl (wi := wi)) he hl hh) fun σ H Q h => ?_
  obtain ⟨I, env, S, Qd, sim, er, h, k⟩ := h
  refine ⟨I, env, S, _, sim, er, h, fun I1 w1 v1 S1 H1 e1 s1 r1 h1 => ?_⟩
  refine ⟨I1, env, S1, _, s1, er.le e1.le, h1, fun I2 lo S2 H2 e2 s2 h2 => ?_⟩
  refine ⟨I2, env, S2, _, s2, (er.le e1.le).le e2.le, h2, fun I3 hi S3 H3 e3 s3 h3 => ?_⟩
  exact ⟨I3, S3, w1, Qd, s3, (r1.le e2.le).le e3.le, h3, k.ext ((e1.trans e2).trans e3)⟩

/-! ### methods of built-in values -/
def tyD (T : String) (x : D) (S : Sto) : Prop := match x with
  | .str _ => T = "str"
  | .lst _ => T = "list"
  | .ref a => (match S a with
    | some (.lst _) => T = "list"
    | some (.dK _) => T = "dict"
    | some (.dT _) => T = "dict"
    | _ => False)
  | _ => False
theorem tyD_tyV {K : PySem.W.Frag} {I H : Hp} {S : Sto} {T : String} {x : D} {v : V} (sim : Sim K wi I S H) (r : RD K I x v) (h : tyD T x S) : tyV K T v H := by
  unfold tyD at h
  split at h
  · cases r; exact h
  · cases r with
    | lst h1 r1 => exact .inl ⟨h, _, SqL.of (sim.im _ _ h1)⟩
  · cases r
    rename_i a
    split at h
    · rename_i xs e
      obtain ⟨vs, ha, _⟩ := st_lst sim e
      exact .inl ⟨h, _, SqL.of ha⟩
    · rename_i kvs e
      obtain ⟨us, ha, _⟩ := st_dK sim e
      exact .inr (.inr (.inl ⟨h, .inl ⟨_, ha⟩⟩))
    · rename_i kvs e
      obtain ⟨_, u, r, hu⟩ := sim.st a _ e
      cases u <;> try exact r.elim
      exact .inr (.inr (.inl ⟨h, .inr ⟨_, hu⟩⟩))
    · exact h.elim
  · exact h.elim
def rmOf (K : PySem.W.Frag) (wi : Wi) (g : D → List D → Sto → DK → Prop) : V → List V → Hp → VK → Prop := fun v vs H Q' => ∃ I S x xs Q, Sim K wi I S H ∧ RD K I x v ∧ RDs K I xs vs ∧ g x xs S Q ∧ KQ K wi I S H Q Q'
abbrev MtD (X : Cx) (wi : Wi) (id : String) (g : D → List D → Sto → DK → Prop) : Prop := MtR X id (rmOf X.K wi g)
def dMt0 (T : String) (g : D → List D → Sto → DK → Prop) (to : DE) : DE := fun env S Q => to env S fun x S1 => tyD T x S1 ∧ g x [] S1 Q
def dMt (T : String) (g : D → List D → Sto → DK → Prop) (to : DE) (t : DA) : DE := fun env S Q => to env S fun x S1 => tyD T x S1 ∧ t env S1 fun xs S2 => g x xs S2 Q
section
variable {o e : Expr} {es : List Expr} {to : DE} {t : DA} {name : Str} {apos cpos : Pos} {T id : String} {g : D → List D → Sto → DK → Prop}
theorem mMt0 (pa : PlainAttrs T) (slot : Slot T name id) (hty : typeOf (.builtin id) = pure (.type "method_descriptor")) (hm : MtD X wi id g) (ho : ME X wi o to)
    (hbase : attributeBase o name X.env (eval o X.env) = eval o X.env := by rfl) (hline : (apos.endLine == cpos.line) = true := by rfl) : ME X wi (.Call (.Attribute o name apos) [] [] cpos) (dMt0 T g to) := by
  refine PE.of (pe_bm0 pa slot hty hm ho hbase hline) fun σ H Q h => ?_
  obtain ⟨I, env, S, Qd, sim, er, h, k⟩ := h
  refine ⟨I, env, S, _, sim, er, h, fun I1 w1 v1 S1 H1 e1 s1 r1 h1 => ?_⟩
  exact ⟨tyD_tyV s1 r1 h1.1, I1, S1, w1, [], Qd, s1, r1, .nil, h1.2, k.ext e1⟩
theorem mMt (pa : PlainAttrs T) (slot : Slot T name id) (hty : typeOf (.builtin id) = pure (.type "method_descriptor")) (hm : MtD X wi id g) (ho : ME X wi o to) (ha : MA X wi (e :: es) t)
    (hbase : attributeBase o name X.env (eval o X.env) = eval o X.env := by rfl)
    (hfew : ((backTo cpos (starEach (e :: es) X.env)).all (fun x => !x.1) && (backToKw cpos (keywordEach [] X.env)).all (fun x => x.1.isSome)
      && decide ((e :: es).length + ([] : List Keyword).length + (if ([] : List Keyword).isEmpty then 0 else 1) < 30)) = true := by rfl)
    (hline : (apos.endLine == cpos.line) = true := by rfl) (hs : starEach (e :: es) X.env = (false, eval e X.env) :: starEach es X.env := by rfl) (hplain : (backTo cpos (starEach es X.env)).any (·.1) = false := by rfl) :
    ME X wi (.Call (.Attribute o name apos) (e :: es) [] cpos) (dMt T g to t) := by
  refine PE.of (pe_bm pa slot hty hm ho ha hbase hfew hline hs hplain) fun σ H Q h => ?_
  obtain ⟨I, env, S, Qd, sim, er, h, k⟩ := h
  refine ⟨I, env, S, _, sim, er, h, fun I1 w1 v1 S1 H1 e1 s1 r1 h1 => ⟨tyD_tyV s1 r1 h1.1, ?_⟩⟩
  refine ⟨I1, env, S1, _, s1, er.le e1.le, h1.2, fun I2 ws vs S2 H2 e2 s2 r2 h2 => ?_⟩
  exact ⟨I2, S2, w1, ws, Qd, s2, r1.le e2.le, r2, h2, k.ext (e1.trans e2)⟩
end
/-! list.append, extend, pop -/
def gAppend (x : D) (ys : List D) (S : Sto) (Q : DK) : Prop :=
  match x, ys with
  | .ref a, [y] => (match S a with
    | some (.lst xs) => xs.length < sizeLine ∧ Q .non (su S a (.lst (xs ++ [y])))
    | _ => False)
  | _, _ => False
theorem tAppend : MtD X wi "list.append" gAppend := by
  intro pins s σ H v vs vv us Q' I rv rvs ⟨Ih, S, x, ys, Q, sim, rx, rys, h, k⟩
  unfold gAppend at h
  split at h
  · rename_i a y
    cases rx
    cases rys with
    | cons ry rn =>
      cases rn
      split at h
      · rename_i xs e
        obtain ⟨ws, ha, r1⟩ := st_lst sim e
        refine mt_append pins s σ H _ _ _ _ Q' I rv rvs ⟨a, ws, _, rfl, rfl, ha, by rw [← r1.length]; exact h.1, ?_⟩
        obtain ⟨s2, e2⟩ := sim.wr (o := .lst (xs ++ [y])) (u := .lst (ws ++ [_])) e (show RDs X.K Ih _ _ from r1.append (.cons ry .nil))
        exact k _ _ _ _ _ e2 s2 .non h.2
      · exact h.elim
  · exact h.elim
def gExtend (x : D) (ys : List D) (S : Sto) (Q : DK) : Prop :=
  match x, ys with
  | .ref a, [y] => (match S a, lsOf S y with
    | some (.lst xs), some zs => xs.length + zs.length ≤ sizeLine ∧ Q .non (su S a (.lst (xs ++ zs)))
    | _, _ => False)
  | _, _ => False
theorem tExtend : MtD X wi "list.extend" gExtend := by
  intro pins s σ H v vs vv us Q' I rv rvs ⟨Ih, S, x, ys, Q, sim, rx, rys, h, k⟩
  unfold gExtend at h
  split at h
  · rename_i a y
    cases rx
    cases rys with
    | cons ry rn =>
      cases rn
      split at h
      · rename_i xs zs e e2
        obtain ⟨ws, ha, r1⟩ := st_lst sim e
        obtain ⟨b, us2, rfl, hb, r2⟩ := lsOf_at sim ry e2
        refine mt_extend pins s σ H _ _ _ _ Q' I rv rvs ⟨a, b, ws, us2, rfl, rfl, ha, hb, by rw [← r1.length, ← r2.length]; exact h.1, ?_⟩
        obtain ⟨s2, e2⟩ := sim.wr (o := .lst (xs ++ zs)) (u := .lst (ws ++ us2)) e (show RDs X.K Ih _ _ from r1.append r2)
        exact k _ _ _ _ _ e2 s2 .non h.2
      · exact h.elim
  · exact h.elim
def gPop (x : D) (ys : List D) (S : Sto) (Q : DK) : Prop :=
  match x, ys with
  | .ref a, [] => (match S a with
    | some (.lst xs) => (match xs[xs.length - 1]? with
      | some y => Q y (su S a (.lst xs.dropLast))
      | none => False)
    | _ => False)
  | _, _ => False
theorem tPop : MtD X wi "list.pop" gPop := by
  intro pins s σ H v vs vv us Q' I rv rvs ⟨Ih, S, x, ys, Q, sim, rx, rys, h, k⟩
  unfold gPop at h
  split at h
  · rename_i a
    cases rx
    cases rys
    split at h
    · rename_i xs e
      obtain ⟨ws, ha, r1⟩ := st_lst sim e
      split at h
      · rename_i y hy
        obtain ⟨w, hw, rw'⟩ := r1.get hy
        refine mt_pop pins s σ H _ _ _ _ Q' I rv rvs ⟨a, ws, w, rfl, rfl, ha, by rw [← r1.length]; exact hw, ?_⟩
        obtain ⟨s2, e2⟩ := sim.wr (o := .lst xs.dropLast) (u := .lst ws.dropLast) e (show RDs X.K Ih _ _ from r1.dropLast)
        exact k _ _ _ _ _ e2 s2 rw' h
      · exact h.elim
    · exact h.elim
  · exact h.elim
end
end DL


set_option Elab.async false
set_option linter.all false
set_option maxRecDepth 100000
set_option maxHeartbeats 4000000
namespace DL
open PySem PySem.Spec PyProof.Rows L2

section
variable {X : Cx}
/-! ### in -/
/-- the items of a tuple, a list -/
def itsOf (S : Sto) : D → Option (List D)
  | .tup xs => some xs
  | .lst xs => some xs
  | .scr xs => some xs
  | .ref a => (match S a with
    | some (.lst xs) => some xs
    | _ => none)
  | _ => none
def fInB (x y : D) (S : Sto) (Q : Bool → Prop) : Prop :=
  match y with
  | .str b => (match x with
    | .str a => (match a.cps.toList with
      | [c] => Q (decide (c ∈ b.cps.toList))
      | _ => Q (!(Builtin.Str.occurrences b a 0 b.length 1).isEmpty))
    | _ => False)
  | .tup ys => (shp (rd S x) = true ∧ shp (rd S (.tup ys)) = true) ∧ Q ((rds S ys).any fun z => deq z (rd S x))
  | .lst ys => (shp (rd S x) = true ∧ shp (.lst ys) = true) ∧ Q (ys.any fun z => deq z (rd S x))
  | .ref a => (match S a with
    | some (.lst ys) => (shp (rd S x) = true ∧ shp (.lst ys) = true) ∧ Q (ys.any fun z => deq z (rd S x))
    | some (.dK kvs) => (match keyOf x with
      | some k => Q (dval kvs k).isSome
      | none => False)
    | some (.lkK _ _ kvs) => (match keyOf x with
      | some k => Q (dval kvs k).isSome
      | none => False)
    | _ => False)
  | _ => False
def fIn (x y : D) (S : Sto) (Q : DK) : Prop := fInB x y S fun b => Q (.bl b) S
def fNotIn (x y : D) (S : Sto) (Q : DK) : Prop := fInB x y S fun b => Q (.bl (!b)) S
theorem toPys_map (xs : List D) : toPys xs = xs.map toPy := by
  induction xs with
  | nil => rfl
  | cons x xs ih => rw [toPys, ih]; rfl
theorem any_toPys (xs : List D) (d : D) : ((toPys xs).any fun z => PyData.eqv z (toPy d)) = xs.any fun z => deq z d := by
  rw [toPys_map, List.any_map]; rfl
theorem RKV.isSome {K : PySem.W.Frag} {I : Hp} {xs : List (Key × D)} {ys : List (Key × V)} (r : RKV K I xs ys) (k : Key) : (valV ys k).isSome = (dval xs k).isSome := by
  cases e : dval xs k with
  | none => rw [RKV.none r e]; rfl
  | some v =>
    obtain ⟨w, h, _⟩ := RKV.val r e
    rw [h]; rfl
theorem inB (neg : Bool) (hu : X.A.units + 65 < cLine) {pins : List (Addr × Obj)} {s : Shared} {σ : L2.St} {H : Hp} {Q' : VK} {v u : V} {vv uu : Value} {Ih : Hp} {S : Sto} {x y : D} {Q : DK} (I : Inv X pins σ H s) (rv : RelV v vv) (ru : RelV u uu) (sim : Sim X.K wi Ih S H) (rx : RD X.K Ih x v) (ry : RD X.K Ih y u)
    (h : fInB x y S fun b => Q (.bl (neg ^^ b)) S) (k : KQ X.K wi Ih S H Q Q') : wpAny (model X.prog X.w) X.A (compareOp (if neg = true then .NotIn else .In) vv uu) (EP X pins σ Q') X.xe s := by
  have fin : ∀ {b : Bool}, Q (.bl (neg ^^ b)) S → Q' (.bl (neg ^^ b)) H := fun {b} q => k _ _ _ _ _ .refl sim (.bl _) q
  have dat : ∀ {d : D} {ds : List D}, Dp X.K H v (toPy d) → shp d = true → ∀ {as : List Addr} {P : PyData}, Reads s.heap uu P as → (P = .list (toPys ds) ∨ P = .tuple (toPys ds)) → shp (.lst ds) = true → Q (.bl (neg ^^ (ds.any fun z => deq z d))) S →
      wpAny (model X.prog X.w) X.A (compareOp (if neg = true then .NotIn else .In) vv uu) (EP X pins σ Q') X.xe s := fun {d ds} hd sd {as P} r2 hP se q => by
    have p1 := Bool.and_eq_true_iff.mp sd
    have p2 := Bool.and_eq_true_iff.mp se
    have s1 := shaped_toPy p1.1 (of_decide_eq_true p1.2)
    have s2 : SeqAt.shaped (.list (toPys ds)) = true := shaped_toPy (x := .lst ds) p2.1 (of_decide_eq_true p2.2)
    obtain ⟨bs, r1⟩ := Dp.reads I (toPy d) v vv hd rv
    have e := any_toPys ds d
    rcases hP with rfl | rfl <;> cases neg
    · exact SeqAt.in_list_reads r2 r1 (SeqAt.canLay_of_shaped s2) (SeqAt.canLay_of_shaped s1) (room_in_shaped s1 hu) ⟨.bl _, H, I, rfl, by rw [e]; simpa using fin q⟩
    · exact SeqAt.notIn_list_reads r2 r1 (SeqAt.canLay_of_shaped s2) (SeqAt.canLay_of_shaped s1) (room_in_shaped s1 hu) ⟨.bl _, H, I, rfl, by rw [e]; simpa using fin q⟩
    · exact SeqAt.in_tuple_reads r2 r1 (show (PyData.tuple (toPys ds)).canLay0 = true from SeqAt.canLay_of_shaped s2) (SeqAt.canLay_of_shaped s1) (room_in_shaped s1 hu) ⟨.bl _, H, I, rfl, by rw [e]; simpa using fin q⟩
    · exact SeqAt.notIn_tuple_reads r2 r1 (show (PyData.tuple (toPys ds)).canLay0 = true from SeqAt.canLay_of_shaped s2) (SeqAt.canLay_of_shaped s1) (room_in_shaped s1 hu) ⟨.bl _, H, I, rfl, by rw [e]; simpa using fin q⟩
  unfold fInB at h
  split at h
  · rename_i b
    cases ry
    split at h
    · rename_i a
      cases rx
      split at h
      · rename_i c ec
        have ea : a = ⟨#[c]⟩ := by
          cases a with
          | mk cps =>
            have : cps = [c].toArray := by rw [← ec]
            rw [this]
        subst ea
        cases neg
        · exact op_in_sign pins s σ H _ _ _ _ Q' I rv ru ⟨c, b, rfl, rfl, by simpa using fin h⟩
        · exact op_notIn_sign pins s σ H _ _ _ _ Q' I rv ru ⟨c, b, rfl, rfl, by simpa using fin h⟩
      · cases neg
        · exact op_in_str pins s σ H _ _ _ _ Q' I rv ru ⟨a, b, rfl, rfl, by simpa using fin h⟩
        · exact op_notIn_str pins s σ H _ _ _ _ Q' I rv ru ⟨a, b, rfl, rfl, by simpa using fin h⟩
    · exact h.elim
  · rename_i ys
    obtain ⟨⟨h1, h2⟩, h⟩ := h
    have p1 := Bool.and_eq_true_iff.mp h1
    have p2 := Bool.and_eq_true_iff.mp h2
    obtain ⟨as, r2⟩ := Dp.reads I _ u uu (ry.rdp sim p2.1) ru
    exact dat (rx.rdp sim p1.1) h1 r2 (.inr rfl) h2 h
  · rename_i ys
    obtain ⟨⟨h1, h2⟩, h⟩ := h
    have p1 := Bool.and_eq_true_iff.mp h1
    have p2 := Bool.and_eq_true_iff.mp h2
    obtain ⟨as, r2⟩ := Dp.reads I _ u uu (ry.dp sim.im p2.1) ru
    exact dat (rx.rdp sim p1.1) h1 r2 (.inl rfl) h2 h
  · rename_i a
    split at h
    · rename_i ys e0
      obtain ⟨⟨h1, h2⟩, h⟩ := h
      have p1 := Bool.and_eq_true_iff.mp h1
      have e1 : rd S (.ref a) = .lst ys := by unfold rd; rw [e0]
      have p2 := Bool.and_eq_true_iff.mp h2
      have q2 := ry.rdp sim (by rw [e1]; exact p2.1)
      rw [e1] at q2
      obtain ⟨as, r2⟩ := Dp.reads I _ u uu q2 ru
      exact dat (rx.rdp sim p1.1) h1 r2 (.inl rfl) h2 h
    · rename_i kvs e0
      obtain ⟨us, ha, r1⟩ := st_dK sim e0
      split at h
      · rename_i key ek
        have ev := rx.key ek
        subst ev
        cases ry
        cases ru
        have hu1 : X.A.units + 1 < cLine := by omega
        have g : DGet H a (kV key) (valV us key) := DGet.k ha
        cases neg
        · exact d_in hu1 I g rv fun s3 I3 => ⟨.bl _, H, I3, rfl, by rw [r1.isSome]; simpa using fin h⟩
        · exact d_notIn hu1 I g rv fun s3 I3 => ⟨.bl _, H, I3, rfl, by rw [r1.isSome]; simpa using fin h⟩
      · exact h.elim
    · rename_i kvs e0
      obtain ⟨us, ha, _, r1⟩ := st_lk sim e0
      split at h
      · rename_i key ek
        have ev := rx.key ek
        subst ev
        cases ry
        cases ru
        have hu1 : X.A.units + 1 < cLine := by omega
        have g : DGet H a (kV key) (valV us key) := .inl ⟨us, key, .inr ⟨_, ha⟩, rfl, rfl⟩
        cases neg
        · exact d_in hu1 I g rv fun s3 I3 => ⟨.bl _, H, I3, rfl, by rw [r1.isSome]; simpa using fin h⟩
        · exact d_notIn hu1 I g rv fun s3 I3 => ⟨.bl _, H, I3, rfl, by rw [r1.isSome]; simpa using fin h⟩
      · exact h.elim
    · exact h.elim
  · exact h.elim
theorem oIn (hu : X.A.units + 65 < cLine) : OpM X wi (compareOp .In) fIn := by
  intro pins s σ H v u vv uu Q' I rv ru ⟨Ih, S, x, y, Q, sim, rx, ry, h, k⟩
  exact inB false hu I rv ru sim rx ry (by simpa [fIn] using h) k
theorem oNotIn (hu : X.A.units + 65 < cLine) : OpM X wi (compareOp .NotIn) fNotIn := by
  intro pins s σ H v u vv uu Q' I rv ru ⟨Ih, S, x, y, Q, sim, rx, ry, h, k⟩
  exact inB true hu I rv ru sim rx ry (by simpa [fNotIn] using h) k

/-! ### calls of built-in functions -/
section
variable {x : Str} {p pos : Pos} {e : Expr} {es : List Expr} {t : DA} {id T : String} {g : List D → Sto → DK → Prop}
theorem lift_fn {K : PySem.W.Frag} {σ : L2.St} {H : Hp} {Q : VK} (h : lift K wi (dFn g t) σ H Q) : tCB (rcOf K wi g) (liftA K wi t) σ H Q := by
  obtain ⟨I, env, S, Qd, sim, er, h, k⟩ := h
  exact ⟨I, env, S, _, sim, er, h, fun I1 ws vs S1 H1 e1 s1 r1 h1 => ⟨I1, S1, ws, Qd, s1, r1, h1, k.ext e1⟩⟩
theorem mB (hc : CallM X wi (.builtin id) g) (hm : X.mg x = none) (hv : bootBuiltins x = some (.builtin id)) (ha : MA X wi (e :: es) t) (hg : Gl X x := by rfl) (hn : x ≠ "__name__" := by decide) (hdb : (x == ("__debug__" : Str)) = false := by decide)
    (he : starEach (e :: es) X.env = (false, eval e X.env) :: starEach es X.env := by rfl) (hpl : (backTo pos (starEach es X.env)).any (·.1) = false := by rfl) : ME X wi (.Call (.Name x p) (e :: es) [] pos) (dFn g t) :=
  PE.of (pe_callB hc hg hm hv ha hn hdb he hpl) fun _ _ _ => lift_fn
theorem mBT (hc : CallM X wi (.type T) g) (hm : X.mg x = none) (hv : bootBuiltins x = some (.type T)) (ha : MA X wi (e :: es) t) (hg : Gl X x := by rfl) (hn : x ≠ "__name__" := by decide) (hdb : (x == ("__debug__" : Str)) = false := by decide)
    (he : starEach (e :: es) X.env = (false, eval e X.env) :: starEach es X.env := by rfl) (hpl : (backTo pos (starEach es X.env)).any (·.1) = false := by rfl) : ME X wi (.Call (.Name x p) (e :: es) [] pos) (dFn g t) :=
  PE.of (pe_callTy hc hg hm hv ha hn hdb he hpl) fun _ _ _ => lift_fn
/-- a built-in class as a value -/
theorem mTy {pos : Pos} (hm : X.mg x = none) (hv : bootBuiltins x = some (.type T)) (hg : Gl X x := by rfl) (hn : x ≠ "__name__" := by decide) (hd : (x == ("__debug__" : Str)) = false := by decide) : ME X wi (.Name x pos) (dC (.val (.ty T))) :=
  PE.of (pe_bltn (v := .ty T) hg hm hv rfl hn hd) fun _ _ _ => lift_c fun _ => .val _
end

/-! isinstance -/
def tyOf (S : Sto) : D → Option String
  | .non => some "NoneType"
  | .bl _ => some "bool"
  | .int _ => some "int"
  | .str _ => some "str"
  | .tup _ => some "tuple"
  | .lst _ => some "list"
  | .scr _ => none
  | .ref a => (match S a with
    | some (.lst _) => some "list"
    | some (.dK _) => some "dict"
    | some (.dT _) => some "dict"
    | _ => none)
  | .val _ => none
def tys : List String := ["int", "bool", "str", "tuple", "list", "dict"]
def isSub (t T : String) : Bool := t == T || (t == "bool" && T == "int")
def gIsi (xs : List D) (S : Sto) (Q : DK) : Prop :=
  match xs with
  | [x, .val (.ty T)] => T ∈ tys ∧ (match tyOf S x with
    | some t => Q (.bl (isSub t T)) S
    | none => False)
  | _ => False
theorem kitAll {K : PySem.W.Frag} {t T : String} (ht : t ∈ ["NoneType", "bool", "int", "str", "tuple", "list", "dict"]) (hT : T ∈ tys) : PySem.W.kitOne K (.type t) (.type T) = some (isSub t T) := by
  have h : (["NoneType", "bool", "int", "str", "tuple", "list", "dict"].all fun t => tys.all fun T => kitB t T == some (isSub t T)) = true := by decide +kernel
  have h1 := List.all_eq_true.mp (List.all_eq_true.mp h t ht) T hT
  exact kit_ty (eq_of_beq h1)
theorem cIsi : CallM X wi (.builtin "isinstance") gIsi := by
  intro pins s σ H vs us Q' I rv ⟨Ih, S, xs, Q, sim, rx, h, k⟩
  unfold gIsi at h
  split at h
  · rename_i x T
    obtain ⟨hT, h⟩ := h
    split at h
    · rename_i t et
      cases rx with
      | cons r1 rx =>
        cases rx with
        | cons r2 rx =>
          cases rx
          cases r2
          have q := k _ _ _ _ _ .refl sim (.bl _) h
          have go : ∀ {v : V}, t ∈ ["NoneType", "bool", "int", "str", "tuple", "list", "dict"] → TyX X.K H v (.type t) → RelV v (us.headD .none) → Vals [v, .ty T] us → wpAny (model X.prog X.w) X.A (call (.builtin "isinstance") us) (EP X pins σ Q') X.xe s := fun {v} ht ty _ rv =>
            call_isi pins s σ H _ _ Q' I rv ⟨v, .ty T, _, _, _, rfl, .ty T, ty, kitAll ht hT, q⟩
          have hd : ∀ {v : V}, Vals [v, .ty T] us → RelV v (us.headD .none) := fun {v} rv => by
            cases rv with
            | cons r _ => exact r
          cases r1 with
          | non => cases et; exact go (by decide) (.base .non) (hd rv) rv
          | bl b => cases et; exact go (by decide) (.base (.bl b)) (hd rv) rv
          | int i => cases et; exact go (by decide) (.base (.int i)) (hd rv) rv
          | str x => cases et; exact go (by decide) (.base (.str x)) (hd rv) rv
          | tup h1 r1 =>
            cases et
            rcases SqT.le sim.im h1.sq with (h1 | ⟨o, h1⟩) | ⟨o, its, n, h1, h2, _⟩
            · exact go (by decide) (.base (.tup h1)) (hd rv) rv
            · exact go (by decide) (.fTuple h1) (hd rv) rv
            · exact go (by decide) (.kTuple h1 h2) (hd rv) rv
          | lst h1 r1 => cases et; exact go (by decide) (.base (.lst (sim.im _ _ h1))) (hd rv) rv
          | scr h1 r1 => cases et
          | val v => cases et
          | ref a =>
            have et' : (match S a with | some (.lst _) => some "list" | some (.dK _) => some "dict" | some (.dT _) => some "dict" | _ => none) = some t := et
            split at et'
            · rename_i ys e0
              cases et'
              obtain ⟨ws, ha, _⟩ := st_lst sim e0
              exact go (by decide) (.base (.lst ha)) (hd rv) rv
            · rename_i ys e0
              cases et'
              obtain ⟨ws, ha, _⟩ := st_dK sim e0
              exact go (by decide) (.base (.dK ha)) (hd rv) rv
            · rename_i ys e0
              cases et'
              obtain ⟨_, u, r, hu⟩ := sim.st a _ e0
              cases u <;> try exact r.elim
              exact go (by decide) (.base (.dT hu)) (hd rv) rv
            · cases et'
    · exact h.elim
  · exact h.elim

/-! len, list, tuple, str, repr, int, ord, all, any, sum -/
def gLen (xs : List D) (S : Sto) (Q : DK) : Prop :=
  match xs with
  | [.str z] => z.length ≤ sizeLine ∧ Q (.int z.length) S
  | [x] => (match itsOf S x with
    | some ys => Q (.int ys.length) S
    | none => False)
  | _ => False
theorem itsOf_at {K : PySem.W.Frag} {I H : Hp} {S : Sto} (s : Sim K wi I S H) {x : D} {v : V} {xs : List D} (r : RD K I x v) (h : itsOf S x = some xs) : ∃ a vs, v = .ref a ∧ (SqL K H a vs ∨ SqT K H a vs) ∧ RDs K I xs vs := by
  cases r <;> try cases h
  · rename_i a vs h1 h2
    exact ⟨a, vs, rfl, .inr (SqT.le s.im h1.sq), h2⟩
  · rename_i a vs h1 h2
    exact ⟨a, vs, rfl, .inl (SqL.of (s.im _ _ h1)), h2⟩
  · rename_i a vs h1 h2
    exact ⟨a, vs, rfl, .inl (SqL.le s.im h1), h2⟩
  · rename_i a
    have h' : (match S a with | some (.lst ys) => some ys | _ => none) = some xs := h
    split at h'
    · rename_i ys e
      cases h'
      obtain ⟨ws, ha, r⟩ := st_lst s e
      exact ⟨a, ws, rfl, .inl (SqL.of ha), r⟩
    · cases h'
theorem cLen : CallM X wi (.builtin "len") gLen := by
  intro pins s σ H vs us Q' I rv ⟨Ih, S, xs, Q, sim, rx, h, k⟩
  unfold gLen at h
  split at h
  · cases rx with
    | cons r1 rx =>
      cases rx
      cases r1
      exact call_len_str pins s σ H _ _ Q' I rv ⟨_, rfl, h.1, k _ _ _ _ _ .refl sim (.int _) h.2⟩
  · split at h
    · rename_i ys ey
      cases rx with
      | cons r1 rx =>
        cases rx
        obtain ⟨a, ws, rfl, hs, r⟩ := itsOf_at sim r1 ey
        refine call_len_seq pins s σ H _ _ Q' I rv ⟨a, ws, rfl, hs, ?_⟩
        rw [← r.length]
        exact k _ _ _ _ _ .refl sim (.int _) h
    · exact h.elim
  · exact h.elim
/-- list(x): a list that is never changed; gListR: one that is -/
def gList (xs : List D) (S : Sto) (Q : DK) : Prop :=
  match xs with
  | [x] => (match itsOf S x with
    | some ys => Q (.lst ys) S
    | none => False)
  | _ => False
def gListR (xs : List D) (S : Sto) (Q : DK) : Prop :=
  match xs with
  | [x] => (match itsOf S x with
    | some ys => ∀ p, S p = none → Q (.ref p) (su S p (.lst ys))
    | none => False)
  | _ => False
theorem cList : CallM X wi (.type "list") gList := by
  intro pins s σ H vs us Q' I rv ⟨Ih, S, xs, Q, sim, rx, h, k⟩
  unfold gList at h
  split at h
  · split at h
    · rename_i ys ey
      cases rx with
      | cons r1 rx =>
        cases rx
        obtain ⟨a, ws, rfl, hs, r⟩ := itsOf_at sim r1 ey
        exact call_list_of pins s σ H _ _ Q' I rv ⟨a, ws, rfl, hs, fun p hp => k.newI sim hp (.lst upd_same (r.newI (sim.free hp))) h⟩
    · exact h.elim
  · exact h.elim
theorem cListR : CallM X wi (.type "list") gListR := by
  intro pins s σ H vs us Q' I rv ⟨Ih, S, xs, Q, sim, rx, h, k⟩
  unfold gListR at h
  split at h
  · split at h
    · rename_i ys ey
      cases rx with
      | cons r1 rx =>
        cases rx
        obtain ⟨a, ws, rfl, hs, r⟩ := itsOf_at sim r1 ey
        exact call_list_of pins s σ H _ _ Q' I rv ⟨a, ws, rfl, hs, fun p hp => k.newS sim hp (show RO X.K Ih (.lst ys) (.lst ws) from r) h⟩
    · exact h.elim
  · exact h.elim
def gTuple (xs : List D) (S : Sto) (Q : DK) : Prop :=
  match xs with
  | [x] => (match itsOf S x with
    | some ys => Q (.tup ys) S
    | none => False)
  | _ => False
theorem cTuple : CallM X wi (.type "tuple") gTuple := by
  intro pins s σ H vs us Q' I rv ⟨Ih, S, xs, Q, sim, rx, h, k⟩
  unfold gTuple at h
  split at h
  · split at h
    · rename_i ys ey
      cases rx with
      | cons r1 rx =>
        cases rx
        obtain ⟨a, ws, e, hs, r⟩ := itsOf_at sim r1 ey
        subst e
        rcases hs with hs | hs
        · exact call_tupF pins s σ H _ _ Q' I rv ⟨a, ws, rfl, .inl ⟨hs, k.newT sim r h⟩⟩
        · refine call_tupF pins s σ H _ _ Q' I rv ⟨a, ws, rfl, .inr ⟨hs, ?_⟩⟩
          cases r1 with
          | tup h1 r2 => cases ey; exact k _ _ _ _ _ .refl sim (.tup h1 r2) h
          | lst h1 r2 =>
            have z : H a = some (.lst _) := sim.im _ _ h1
            rcases hs with (q | ⟨o, q⟩) | ⟨o, its, n, q, q2, _⟩
            · rw [z] at q; cases q
            · rw [z] at q; cases q
            · exact (by
                obtain ⟨z1, _, _, _, z2⟩ := I.hok a _ z
                have q3 := I.kIn a o q
                rw [z2] at q3
                cases q3
                exact absurd q2 (by simp))
          | scr h1 r2 =>
            have z := SqL.le sim.im h1
            obtain ⟨i1, _, ⟨o1, n1, g1, c1, _, d1⟩, _⟩ := I.list z
            obtain ⟨i2, _, ⟨o2, g2, c2, _⟩, _⟩ := I.tuple hs
            rw [g1] at g2; cases g2
            rw [c1] at c2; exact absurd c2 (by simp)
          | ref b =>
            have ey' : (match S a with | some (.lst ys) => some ys | _ => none) = some ys := ey
            split at ey'
            · rename_i zs e0
              obtain ⟨ws2, ha, _⟩ := st_lst sim e0
              obtain ⟨i1, _, ⟨o1, n1, g1, c1, _, d1⟩, _⟩ := I.list (SqL.of ha)
              obtain ⟨i2, _, ⟨o2, g2, c2, _⟩, _⟩ := I.tuple hs
              rw [g1] at g2; cases g2
              rw [c1] at c2; exact absurd c2 (by simp)
            · cases ey'
          | val v => cases ey
    · exact h.elim
  · exact h.elim
def gStr (xs : List D) (S : Sto) (Q : DK) : Prop :=
  match xs with
  | [.int i] => i.natAbs.log2 < 1920 ∧ Q (.str (toString i)) S
  | [.bl b] => Q (.str (if b then "True" else "False")) S
  | [.str a] => Q (.str a) S
  | _ => False
theorem cStr : CallM X wi (.type "str") gStr := by
  intro pins s σ H vs us Q' I rv ⟨Ih, S, xs, Q, sim, rx, h, k⟩
  unfold gStr at h
  split at h
  · cases rx with
    | cons r1 rx =>
      cases rx
      cases r1
      exact call_str_int pins s σ H _ _ Q' I rv ⟨_, rfl, h.1, k _ _ _ _ _ .refl sim (.str _) h.2⟩
  · cases rx with
    | cons r1 rx =>
      cases rx
      cases r1
      obtain ⟨u, rfl, ru⟩ := vals1 rv
      cases ru
      exact PySem.P.str_of_bool ⟨.str _, H, I.tok _, ⟨_, rfl⟩, k _ _ _ _ _ .refl sim (.str _) h⟩
  · cases rx with
    | cons r1 rx =>
      cases rx
      cases r1
      exact SkE.call_str_str pins s σ H _ _ Q' I rv ⟨_, rfl, k _ _ _ _ _ .refl sim (.str _) h⟩
  · exact h.elim
def gRepr (xs : List D) (S : Sto) (Q : DK) : Prop :=
  match xs with
  | [x] => ((pur (rd S x) = true ∧ dep (rd S x) ≤ 60) ∧ shb (rd S x) = true ∧ (shown (rd S x)).length ≤ sizeLine) ∧ Q (.str (shown (rd S x))) S
  | _ => False
theorem noDict_toPy : ∀ x : D, pur x = true → (toPy x).hasDict = false := fun x p => PyData.hasDict_of_canLay _ (canLay_toPy x p)
theorem cRepr (hG : X.A.guards = some []) (hu : X.A.units + 64 < cLine) : CallM X wi (.builtin "repr") gRepr := by
  intro pins s σ H vs us Q' I rv ⟨Ih, S, xs, Q, sim, rx, h, k⟩
  unfold gRepr at h
  split at h
  · rename_i x
    obtain ⟨⟨⟨hp, hd⟩, hs, hl⟩, h⟩ := h
    cases rx with
    | cons r1 rx =>
      cases rx
      obtain ⟨u, rfl, ru⟩ := vals1 rv
      have dp := r1.rdp sim hp
      have q := k _ _ _ _ _ .refl sim (.str _) h
      obtain ⟨as, rr⟩ := Dp.reads I _ _ _ dp ru
      have go : ∀ a, u = .ref a → wpAny (model X.prog X.w) X.A (call (.builtin "repr") [u]) (EP X pins σ Q') X.xe s := fun a e => by
        subst e
        refine repr_of_reads' rr hs (fun z => by rw [noDict_toPy _ hp] at z; cases z) hG (by rw [depth_toPy]; omega) (fun _ _ e => e) (fun h' u tk kk => ?_) hl
        exact ⟨.str _, H, I.kept kk, ⟨_, rfl⟩, q⟩
      generalize hx : rd S x = z at *
      cases z with
      | non =>
        cases dp
        cases ru
        exact PySem.P.repr_of_none ⟨.str _, H, I.tok _, ⟨_, rfl⟩, q⟩
      | bl b =>
        cases dp
        cases ru
        exact PySem.P.repr_of_bool ⟨.str _, H, I.tok _, ⟨_, rfl⟩, q⟩
      | int i =>
        cases dp
        obtain ⟨t, rfl⟩ := ru
        exact PySem.P.repr_of_int (of_decide_eq_true hs) ⟨.str _, H, I.tok _, ⟨_, rfl⟩, q⟩
      | str y =>
        cases dp
        obtain ⟨t, rfl⟩ := ru
        exact PySem.P.repr_of_str ⟨.str _, H, I.tok _, ⟨_, rfl⟩, q⟩ hl
      | tup ys => cases dp; cases ru; exact go _ rfl
      | lst ys => cases dp; cases ru; exact go _ rfl
      | scr ys => cases dp; cases ru; exact go _ rfl
      | ref a => cases hp
      | val v => cases hp
  · exact h.elim
def gInt (xs : List D) (S : Sto) (Q : DK) : Prop :=
  match xs with
  | [.int i] => Q (.int i) S
  | [.bl b] => Q (.int (b2 b)) S
  | [.str a] => (match PySem.intText? a with
    | some n => a.length ≤ 640 ∧ Q (.int n) S
    | none => False)
  | _ => False
theorem cInt : CallM X wi (.type "int") gInt := by
  intro pins s σ H vs us Q' I rv ⟨Ih, S, xs, Q, sim, rx, h, k⟩
  unfold gInt at h
  split at h
  · cases rx with
    | cons r1 rx =>
      cases rx
      cases r1
      exact call_int1 pins s σ H _ _ Q' I rv (.inl ⟨_, rfl, k _ _ _ _ _ .refl sim (.int _) h⟩)
  · cases rx with
    | cons r1 rx =>
      cases rx
      cases r1
      exact call_int1 pins s σ H _ _ Q' I rv (.inr ⟨_, rfl, k _ _ _ _ _ .refl sim (.int _) h⟩)
  · cases rx with
    | cons r1 rx =>
      cases rx
      cases r1
      split at h
      · rename_i n en
        exact call_int_str pins s σ H _ _ Q' I rv ⟨_, n, rfl, en, h.1, k _ _ _ _ _ .refl sim (.int _) h.2⟩
      · exact h.elim
  · exact h.elim
def gOrd (xs : List D) (S : Sto) (Q : DK) : Prop :=
  match xs with
  | [.str x] => x.length = 1 ∧ Q (.int (x.cps.getD 0 0 : Nat)) S
  | _ => False
theorem cOrd : CallM X wi (.builtin "ord") gOrd := by
  intro pins s σ H vs us Q' I rv ⟨Ih, S, xs, Q, sim, rx, h, k⟩
  unfold gOrd at h
  split at h
  · cases rx with
    | cons r1 rx =>
      cases rx
      cases r1
      exact call_ord pins s σ H _ _ Q' I rv ⟨_, rfl, h.1, k _ _ _ _ _ .refl sim (.int _) h.2⟩
  · exact h.elim
def blsOf : List D → Option (List Bool)
  | [] => some []
  | .bl b :: r => (blsOf r).map (b :: ·)
  | _ => none
theorem bls_of {K : PySem.W.Frag} {I : Hp} : ∀ {xs : List D} {vs : List V} {bs : List Bool}, RDs K I xs vs → blsOf xs = some bs → vs = bs.map V.bl
  | _, _, _, .nil, h => by cases h; rfl
  | _, _, bs, .cons r t, h => by
    cases r <;> try cases h
    rename_i b
    have h' : (blsOf _).map (b :: ·) = some bs := h
    obtain ⟨cs, h1, h2⟩ := Option.map_eq_some_iff.mp h'
    subst h2
    rw [bls_of t h1]; rfl
def gAll (xs : List D) (S : Sto) (Q : DK) : Prop :=
  match xs with
  | [x] => (match (lsOf S x).bind blsOf with
    | some bs => Q (.bl (bs.all id)) S
    | none => False)
  | _ => False
def gAny (xs : List D) (S : Sto) (Q : DK) : Prop :=
  match xs with
  | [x] => (match (lsOf S x).bind blsOf with
    | some bs => Q (.bl (bs.any id)) S
    | none => False)
  | _ => False
theorem cAll (hc : X.calm = true) : CallM X wi (.builtin "all") gAll := by
  intro pins s σ H vs us Q' I rv ⟨Ih, S, xs, Q, sim, rx, h, k⟩
  unfold gAll at h
  split at h
  · split at h
    · rename_i bs eb
      obtain ⟨ys, e1, e2⟩ := Option.bind_eq_some_iff.mp eb
      cases rx with
      | cons r1 rx =>
        cases rx
        obtain ⟨a, ws, rfl, ha, r⟩ := lsOf_at sim r1 e1
        have e3 := bls_of r e2
        subst e3
        exact cr_all hc pins s σ H _ _ Q' I rv ⟨a, bs, rfl, SqL.of ha, k _ _ _ _ _ .refl sim (.bl _) h⟩
    · exact h.elim
  · exact h.elim
theorem cAny (hc : X.calm = true) : CallM X wi (.builtin "any") gAny := by
  intro pins s σ H vs us Q' I rv ⟨Ih, S, xs, Q, sim, rx, h, k⟩
  unfold gAny at h
  split at h
  · split at h
    · rename_i bs eb
      obtain ⟨ys, e1, e2⟩ := Option.bind_eq_some_iff.mp eb
      cases rx with
      | cons r1 rx =>
        cases rx
        obtain ⟨a, ws, rfl, ha, r⟩ := lsOf_at sim r1 e1
        have e3 := bls_of r e2
        subst e3
        exact cr_any hc pins s σ H _ _ Q' I rv ⟨a, bs, rfl, SqL.of ha, k _ _ _ _ _ .refl sim (.bl _) h⟩
    · exact h.elim
  · exact h.elim
def strsOf : List D → Option (List Str)
  | [] => some []
  | .str b :: r => (strsOf r).map (b :: ·)
  | _ => none
theorem strs_of {K : PySem.W.Frag} {I : Hp} : ∀ {xs : List D} {vs : List V} {bs : List Str}, RDs K I xs vs → strsOf xs = some bs → vs = bs.map V.str
  | _, _, _, .nil, h => by cases h; rfl
  | _, _, bs, .cons r t, h => by
    cases r <;> try cases h
    rename_i b
    have h' : (strsOf _).map (b :: ·) = some bs := h
    obtain ⟨cs, h1, h2⟩ := Option.map_eq_some_iff.mp h'
    subst h2
    rw [strs_of t h1]; rfl
def gJoin (x : D) (ys : List D) (S : Sto) (Q : DK) : Prop :=
  match x, ys with
  | .str a, [y] => (match (itsOf S y).bind strsOf with
    | some zs => (zs.map (·.length)).sum + zs.length * a.length ≤ 16777216 ∧ Q (.str (Txt.join a zs)) S
    | none => False)
  | _, _ => False
theorem tJoin : MtD X wi "str.join" gJoin := by
  intro pins s σ H v vs vv us Q' I rv rvs ⟨Ih, S, x, ys, Q, sim, rx, rys, h, k⟩
  unfold gJoin at h
  split at h
  · split at h
    · rename_i zs ez
      obtain ⟨ws, e1, e2⟩ := Option.bind_eq_some_iff.mp ez
      cases rx
      cases rys with
      | cons r1 rys =>
        cases rys
        obtain ⟨b, us2, rfl, hb, r⟩ := itsOf_at sim r1 e1
        have e3 := strs_of r e2
        subst e3
        exact mt_join pins s σ H _ _ _ _ Q' I rv rvs ⟨_, b, zs, rfl, rfl, hb, h.1, k _ _ _ _ _ .refl sim (.str _) h.2⟩
    · exact h.elim
  · exact h.elim
end
end DL


set_option Elab.async false
set_option linter.all false
set_option maxRecDepth 100000
set_option maxHeartbeats 4000000
namespace DL
open PySem PySem.Spec PyProof.Rows L2

/-! ### statements -/
def sNext : DS := fun d env S => d.nx env S
def sSeq (t u : DS) : DS := fun d env S => t { d with nx := u d } env S
def sAsg (t : DE) (i : Nat) : DS := fun d env S => t env S fun w S1 => d.nx (env.set i (some w)) S1
def sRet (t : DE) : DS := fun d env S => t env S d.rt
def sRetN : DS := fun d _ S => d.rt .non S
def sIf (c : DT) (t u : DS) : DS := fun d env S => c env S fun b S1 => if b = true then t d env S1 else u d env S1
def sExpr (t : DE) : DS := fun d env S => t env S fun _ S1 => d.nx env S1
def sBrk : DS := fun d env S => d.bk env S
def sCnt : DS := fun d env S => d.ct env S
section
variable {X : Cx} {st : Stmt} {rest : List Stmt} {t u : DS} {e : Expr} {te : DE} {pos : Pos}
theorem sNil : MSs X wi [] sNext := PSs.of pss_nil fun D σ H h => by
  obtain ⟨I, env, S, d, sim, er, h, k⟩ := h
  exact k.nx I env σ S H .refl sim er h
theorem KD.seq {K : PySem.W.Frag} {I H : Hp} {S : Sto} {d : DEnds} {D' : Ends} (k : KD K wi I S H d D') : KD K wi I S H { d with nx := u d } { D' with nx := liftS K wi u D' } :=
  ⟨fun I1 env σ S1 H1 e1 s1 er h1 => ⟨I1, env, S1, d, s1, er, h1, k.ext e1⟩, k.rt, k.bk, k.ct⟩
theorem sCons (h1 : MS X wi st t) (h2 : MSs X wi rest u) : MSs X wi (st :: rest) (sSeq t u) := PSs.of (pss_cons h1 h2) fun D σ H h => by
  obtain ⟨I, env, S, d, sim, er, h, k⟩ := h
  exact ⟨I, env, S, _, sim, er, h, k.seq⟩
theorem sOne (h1 : MS X wi st t) : MSs X wi [st] t := pss_one h1
theorem mPass : MS X wi (.Pass pos) sNext := PS.of ps_pass fun D σ H h => by
  obtain ⟨I, env, S, d, sim, er, h, k⟩ := h
  exact k.nx I env σ S H .refl sim er h
theorem mBrk : MS X wi (.Break pos) sBrk := PS.of ps_break fun D σ H h => by
  obtain ⟨I, env, S, d, sim, er, h, k⟩ := h
  exact k.bk I env σ S H .refl sim er h
theorem mCnt : MS X wi (.Continue pos) sCnt := PS.of ps_continue fun D σ H h => by
  obtain ⟨I, env, S, d, sim, er, h, k⟩ := h
  exact k.ct I env σ S H .refl sim er h
theorem mRet (he : ME X wi e te) : MS X wi (.Return (some e) pos) (sRet te) := PS.of (ps_ret he) fun D σ H h => by
  obtain ⟨I, env, S, d, sim, er, h, k⟩ := h
  exact ⟨I, env, S, _, sim, er, h, k.rt⟩
theorem mRetN : MS X wi (.Return none pos) sRetN := PS.of ps_retN fun D σ H h => by
  obtain ⟨I, env, S, d, sim, er, h, k⟩ := h
  exact k.rt I _ _ S H .refl sim .non h
theorem mExpr (he : ME X wi e te) (hs : swapsWith e none pos.line X.env = pure false := by rfl) : MS X wi (.Expr e pos) (sExpr te) := PS.of (ps_expr he hs) fun D σ H h => by
  obtain ⟨I, env, S, d, sim, er, h, k⟩ := h
  exact ⟨I, env, S, _, sim, er, h, fun I1 w v S1 H1 e1 s1 r1 h1 => k.nx I1 env σ S1 H1 e1 s1 (er.le e1.le) h1⟩
theorem mIf {c : Expr} {a b : List Stmt} {tc : DT} (hc : MT X wi c tc) (ha : MSs X wi a t) (hb : MSs X wi b u) : MS X wi (.If c a b pos) (sIf tc t u) := PS.of (ps_if hc ha hb) fun D σ H h => by
  obtain ⟨I, env, S, d, sim, er, h, k⟩ := h
  refine ⟨I, env, S, _, sim, er, h, fun I1 b S1 H1 e1 s1 h1 => ?_⟩
  cases b
  · exact ⟨I1, env, S1, d, s1, er.le e1.le, h1, k.ext e1⟩
  · exact ⟨I1, env, S1, d, s1, er.le e1.le, h1, k.ext e1⟩

/-! ### targets: vs, the places that they may store to -/
abbrev DG := D → Env' → Sto → (Env' → Sto → Prop) → Prop
abbrev DGs := List D → Env' → Sto → (Env' → Sto → Prop) → Prop
/-- the end of a target -/
def KG (K : PySem.W.Frag) (wi : Wi) (I : Hp) (S : Sto) (H : Hp) (σ : L2.St) (vs : List Nat) (Q : Env' → Sto → Prop) (Q' : L2.St → Hp → Prop) : Prop := ∀ I' env σ' S' H', Ext I S H I' S' H' → Sim K wi I' S' H' → ER K I' env σ' → wipe σ' vs = wipe σ vs → Q env S' → Q' σ' H'
def liftG (K : PySem.W.Frag) (wi : Wi) (vs : List Nat) (g : DG) : TG := fun v σ H Q' => ∃ I env S x Q, Sim K wi I S H ∧ ER K I env σ ∧ RD K I x v ∧ g x env S Q ∧ KG K wi I S H σ vs Q Q'
def liftGs (K : PySem.W.Frag) (wi : Wi) (vs : List Nat) (g : DGs) : TGs := fun us σ H Q' => ∃ I env S xs Q, Sim K wi I S H ∧ ER K I env σ ∧ RDs K I xs us ∧ g xs env S Q ∧ KG K wi I S H σ vs Q Q'
abbrev MG (X : Cx) (wi : Wi) (vs : List Nat) (tg : Expr) (g : DG) : Prop := PG X tg (liftG X.K wi vs g)
abbrev MGs (X : Cx) (wi : Wi) (vs : List Nat) (ts : List Expr) (g : DGs) : Prop := PGs X ts (liftGs X.K wi vs g)
theorem PG.of {tg : Expr} {g g' : TG} (h : PG X tg g) (i : ∀ v σ H Q, g' v σ H Q → g v σ H Q) : PG X tg g' := ⟨fun pins s σ H v u Q I r hw => h.run pins s σ H v u Q I r (i v σ H Q hw)⟩
theorem PGs.of {ts : List Expr} {g g' : TGs} (h : PGs X ts g) (i : ∀ v σ H Q, g' v σ H Q → g v σ H Q) : PGs X ts g' := ⟨fun pins s σ H v u Q I r hw => h.run pins s σ H v u Q I r (i v σ H Q hw)⟩
theorem wipe_set {i : Nat} {x : Option V} : ∀ {vs : List Nat} {σ : L2.St}, i ∈ vs → wipe (σ.set i x) vs = wipe σ vs
  | v :: vs, σ, h => by
    show (wipe (σ.set i x) vs).set v none = (wipe σ vs).set v none
    by_cases hv : i ∈ vs
    · rw [wipe_set hv]
    · have e : i = v := (List.mem_cons.mp h).resolve_right hv
      subst e
      have comm : ∀ (ws : List Nat) (τ : L2.St), i ∉ ws → wipe (τ.set i x) ws = (wipe τ ws).set i x := by
        intro ws
        induction ws with
        | nil => intro τ _; rfl
        | cons w ws ih =>
          intro τ hn
          show (wipe (τ.set i x) ws).set w none = ((wipe τ ws).set w none).set i x
          rw [ih τ fun z => hn (List.mem_cons_of_mem _ z)]
          exact List.set_comm _ _ fun z => hn (z ▸ List.mem_cons_self ..)
      rw [comm vs σ hv, List.set_set]
def gNm (i : Nat) : DG := fun x env S Q => Q (env.set i (some x)) S
theorem mgN (i : Nat) {vs : List Nat} {x : Str} (hN : X.N.Nodup) (hi : X.N[i]? = some x := by rfl) (hx : Loc X.env.scope x := by first | exact Or.inl rfl | exact Or.inr rfl) (hv : i ∈ vs := by decide) (hf : X.fn x = true ∨ X.env.scope.names.lookup x = some .local := by first | exact .inl rfl | exact .inr rfl | assumption) : MG X wi vs (.Name x pos) (gNm i) := PG.of (pg_name hN hi hx hf) fun v σ H Q h => by
  obtain ⟨I, env, S, y, Qd, sim, er, r, h, k⟩ := h
  exact k I _ _ S H .refl sim (er.set i r) (wipe_set hv) h
def gsNil : DGs := fun xs env S Q => xs = [] ∧ Q env S
def gsCons (t : DG) (u : DGs) : DGs := fun xs env S Q => match xs with
  | x :: r => t x env S fun env' S' => u r env' S' Q
  | [] => False
theorem mgsN {vs : List Nat} : MGs X wi vs [] gsNil := PGs.of pgs_nil fun us σ H Q h => by
  obtain ⟨I, env, S, xs, Qd, sim, er, r, ⟨e, h⟩, k⟩ := h
  subst e
  cases r
  exact ⟨rfl, k I _ _ S H .refl sim er rfl h⟩
theorem mgsC {vs : List Nat} {e : Expr} {es : List Expr} {t : DG} {u : DGs} (h1 : MG X wi vs e t) (h2 : MGs X wi vs es u)
    (hs : (assignEach (e :: es) X.env).map (·.2) = assign e X.env :: (assignEach es X.env).map (·.2) := by rfl) : MGs X wi vs (e :: es) (gsCons t u) := PGs.of (pgs_cons h1 h2 hs) fun us σ H Q h => by
  obtain ⟨I, env, S, xs, Qd, sim, er, r, h, k⟩ := h
  cases r with
  | nil => exact h.elim
  | cons r1 r2 =>
    refine ⟨_, _, rfl, I, env, S, _, _, sim, er, r1, h, fun I1 env1 σ1 S1 H1 e1 s1 er1 w1 h1 => ?_⟩
    exact ⟨I1, env1, S1, _, Qd, s1, er1, r2.le e1.le, h1, fun I2 env2 σ2 S2 H2 e2 s2 er2 w2 h2 => k I2 env2 σ2 S2 H2 (e1.trans e2) s2 er2 (w2.trans w1) h2⟩
def gTp (n : Nat) (t : DGs) : DG := fun x env S Q => match x with
  | .tup xs => xs.length = n ∧ t xs env S Q
  | _ => False
theorem mgT {vs : List Nat} {es : List Expr} {k : Nat} {t : DGs} {n : Nat} (hc : X.calm = true) (h : MGs X wi vs es t)
    (hn : (assignEach es X.env).length = n := by rfl) (hst : (assignEach es X.env).findIdx? (·.1) = none := by rfl) : MG X wi vs (.Tuple es k pos) (gTp n t) := PG.of (pg_tup hc h hn hst) fun v σ H Q h => by
  obtain ⟨I, env, S, x, Qd, sim, er, r, h, k⟩ := h
  cases r with
  | tup h1 r1 => exact ⟨_, _, rfl, SqT.le sim.im h1.sq, by rw [← r1.length]; exact h.1, I, env, S, _, Qd, sim, er, r1, h.2, k⟩
  | _ => exact h.elim
/-- o[i] = .. -/
def fSet (o i x : D) (S : Sto) (Q : Sto → Prop) : Prop :=
  match o with
  | .ref a => (match S a with
    | some (.dK kvs) => (match keyOf i with
      | some k => kvs.length < sizeLine ∧ Q (su S a (.dK (dput kvs k x)))
      | none => False)
    | some (.lst xs) => (match i with
      | .int j => (match ixN xs.length j with
        | some n => Q (su S a (.lst (xs.set n x)))
        | none => False)
      | _ => False)
    | _ => False)
  | _ => False
theorem RKV.any {κ : Type} [DecidableEq κ] {K : PySem.W.Frag} {I : Hp} {xs : List (κ × D)} {ys : List (κ × V)} (r : RKV K I xs ys) (k : κ) : (xs.any fun kv => decide (kv.1 = k)) = ys.any fun kv => decide (kv.1 = k) := by
  induction r with
  | nil => rfl
  | cons h t ih => rw [List.any_cons, List.any_cons, ih, h.1]
theorem RKV.length {κ : Type} {K : PySem.W.Frag} {I : Hp} {xs : List (κ × D)} {ys : List (κ × V)} (r : RKV K I xs ys) : xs.length = ys.length := Paired.length r
theorem RKV.repl {κ : Type} [DecidableEq κ] {K : PySem.W.Frag} {I : Hp} {x : D} {v : V} (rx : RD K I x v) (k : κ) {xs : List (κ × D)} {ys : List (κ × V)} (r : RKV K I xs ys) :
    RKV K I (xs.map fun kv => if kv.1 = k then (kv.1, x) else kv) (ys.map fun kv => if kv.1 = k then (kv.1, v) else kv) := by
  induction r with
  | nil => exact .nil
  | @cons p q _ _ h t ih =>
    rw [List.map_cons, List.map_cons]
    refine .cons ?_ ih
    by_cases e : p.1 = k
    · rw [if_pos e, if_pos (h.1 ▸ e)]; exact ⟨h.1, rx⟩
    · rw [if_neg e, if_neg (h.1 ▸ e)]; exact h
theorem RKV.snoc {κ : Type} {K : PySem.W.Frag} {I : Hp} {x : D} {v : V} (rx : RD K I x v) (k : κ) {xs : List (κ × D)} {ys : List (κ × V)} (r : RKV K I xs ys) : RKV K I (xs ++ [(k, x)]) (ys ++ [(k, v)]) := by
  induction r with
  | nil => exact .cons ⟨rfl, rx⟩ .nil
  | cons h t ih => exact .cons h ih
theorem RKV.put {κ : Type} [DecidableEq κ] {K : PySem.W.Frag} {I : Hp} {x : D} {v : V} (rx : RD K I x v) (k : κ) {xs : List (κ × D)} {ys : List (κ × V)} (r : RKV K I xs ys) : RKV K I (dput xs k x) (putK ys k v) := by
  unfold dput putK
  rw [r.any k]
  split
  · exact r.repl rx k
  · exact r.snoc rx k
def rsetOf (K : PySem.W.Frag) (wi : Wi) : TSet := fun o i v H Q' => ∃ I S o' i' x Q, Sim K wi I S H ∧ RD K I o' o ∧ RD K I i' i ∧ RD K I x v ∧ fSet o' i' x S Q ∧ ∀ S' H', Ext I S H I S' H' → Sim K wi I S' H' → Q S' → Q' H'
theorem pSet (hu : X.A.units + 1 < cLine) : PSet X (rsetOf X.K wi) := by
  intro pins s σ H o i v ov iv uv Q' I ro ri rv ⟨Ih, S, o', i', x, Q, sim, rdo, rdi, rdx, h, k⟩
  unfold fSet at h
  split at h
  · cases rdo
    rename_i a
    split at h
    · rename_i kvs e0
      obtain ⟨us, ha, r1⟩ := st_dK sim e0
      split at h
      · rename_i key ek
        have ei := rdi.key ek
        subst ei
        cases ro
        obtain ⟨s2, e2⟩ := sim.wr (o := .dK (dput kvs key x)) (u := .dK (putK us key v)) e0 (show RKV X.K Ih _ _ from r1.put rdx key)
        exact d_setItem hu I (DPut.k ha (by rw [← r1.length]; exact h.1)) ri rv fun s' I' => ⟨_, I', k _ _ e2 s2 h.2⟩
      · exact h.elim
    · rename_i xs e0
      obtain ⟨us, ha, r1⟩ := st_lst sim e0
      split at h
      · cases rdi
        split at h
        · rename_i n en
          obtain ⟨s2, e2⟩ := sim.wr (o := .lst (xs.set n x)) (u := .lst (us.set n v)) e0 (show RDs X.K Ih _ _ from RDs.set rdx n r1)
          exact set_list pins s σ H _ _ _ _ _ _ Q' I ro ri rv ⟨a, us, _, n, rfl, rfl, ha, by rw [← r1.length]; exact en, k _ _ e2 s2 h⟩
        · exact h.elim
      · exact h.elim
    · exact h.elim
  · exact h.elim
def gSubD (to ti : DE) : DG := fun x env S Q => to env S fun o S1 => ti env S1 fun i S2 => fSet o i x S2 fun S3 => Q env S3
theorem mgSub {vs : List Nat} {o i : Expr} {to ti : DE} (hu : X.A.units + 1 < cLine) (ho : ME X wi o to) (hi : ME X wi i ti)
    (ha : ∀ v, assign (.Subscript o i pos) X.env v = (do
      let ov ← holding [v] (eval o X.env)
      let iv ← holding [v, ov] (eval i X.env)
      standAt pos
      holding [v, ov, iv] (setItem ov iv v)
      release [v, ov, iv] []) := by intro _; rfl) : MG X wi vs (.Subscript o i pos) (gSubD to ti) := PG.of (pg_sub ho hi (pSet hu) ha) fun v σ H Q h => by
  obtain ⟨I, env, S, x, Qd, sim, er, r, h, k⟩ := h
  refine ⟨I, env, S, _, sim, er, h, fun I1 w1 v1 S1 H1 e1 s1 r1 h1 => ?_⟩
  refine ⟨I1, env, S1, _, s1, er.le e1.le, h1, fun I2 w2 v2 S2 H2 e2 s2 r2 h2 => ?_⟩
  exact ⟨I2, S2, w1, w2, x, _, s2, r1.le e2.le, r2, (r.le e1.le).le e2.le, h2, fun S' H' e3 s3 q => k I2 env σ S' H' ((e1.trans e2).trans e3) s3 ((er.le e1.le).le e2.le) rfl q⟩
def sAsgG (te : DE) (g : DG) : DS := fun d env S => te env S fun x S1 => g x env S1 d.nx
theorem mAsg {vs : List Nat} {tg : Expr} {g : DG} (he : ME X wi e te) (hg : MG X wi vs tg g) (hs : swapsWithSole [tg] e pos.line X.env = pure false := by rfl) (hw : swappedStores [tg] e X.env = pure none := by rfl)
    (h1 : (assignEach [tg] X.env).map (·.2) = [assign tg X.env] := by rfl) : MS X wi (.Assign [tg] e pos) (sAsgG te g) := PS.of (ps_asg he hg hs hw h1) fun D σ H h => by
  obtain ⟨I, env, S, d, sim, er, h, k⟩ := h
  refine ⟨I, env, S, _, sim, er, h, fun I1 w1 v1 S1 H1 e1 s1 r1 h1 => ?_⟩
  exact ⟨I1, env, S1, w1, _, s1, er.le e1.le, r1, h1, fun I2 env2 σ2 S2 H2 e2 s2 er2 _ h2 => k.nx I2 env2 σ2 S2 H2 (e1.trans e2) s2 er2 h2⟩
theorem mSet (i : Nat) {x : Str} {pos' : Pos} (hN : X.N.Nodup) (he : ME X wi e te) (hi : X.N[i]? = some x := by rfl) (hx : Loc X.env.scope x := by first | exact Or.inl rfl | exact Or.inr rfl) (hs : swapsWith e (some (.Name x pos')) pos.line X.env = pure false := by rfl) (hf : X.fn x = true ∨ X.env.scope.names.lookup x = some .local := by first | exact .inl rfl | exact .inr rfl | assumption) :
    MS X wi (.Assign [.Name x pos'] e pos) (sAsg te i) := PS.of (ps_set hN hi hx he hs hf) fun D σ H h => by
  obtain ⟨I, env, S, d, sim, er, h, k⟩ := h
  refine ⟨I, env, S, _, sim, er, h, fun I1 w1 v1 S1 H1 e1 s1 r1 h1 => ?_⟩
  exact k.nx I1 _ _ S1 H1 e1 s1 ((er.le e1.le).set i r1) h1
/-- a, b = x, y with plain names -/
def sPar (i j : Nat) (t : DA) : DS := fun d env S => t env S fun ws S1 => match ws with
  | [v, w] => d.nx ((env.set i (some v)).set j (some w)) S1
  | _ => False
theorem mPar (i j : Nat) {x y : Str} {a b : Expr} {ta : DA} {px py pt : Pos} {kt k2 pt2} (hc : X.calm = true) (hN : X.N.Nodup) (ha : MA X wi [a, b] ta) (hi : X.N[i]? = some x := by rfl) (hj : X.N[j]? = some y := by rfl) (hij : i ≠ j := by decide)
    (hx : X.env.scope.names.lookup x = some .local := by rfl) (hy : X.env.scope.names.lookup y = some .local := by rfl)
    (hw : swappedStores [.Tuple [.Name x px, .Name y py] kt pt] (.Tuple [a, b] k2 pt2) X.env = pure (some [x, y]) := by rfl)
    (hs : swapsWithSole [.Tuple [.Name x px, .Name y py] kt pt] (.Tuple [a, b] k2 pt2) pos.line X.env = pure false := by rfl) :
    MS X wi (.Assign [.Tuple [.Name x px, .Name y py] kt pt] (.Tuple [a, b] k2 pt2) pos) (sPar i j ta) := PS.of (ps_par hc hN hi hj hij hx hy ha hw hs) fun D σ H h => by
  obtain ⟨I, env, S, d, sim, er, h, k⟩ := h
  refine ⟨I, env, S, _, sim, er, h, fun I1 ws vs S1 H1 e1 s1 r1 h1 => ?_⟩
  cases r1 with
  | nil => exact h1.elim
  | cons ra r1 =>
    cases r1 with
    | nil => exact h1.elim
    | cons rb r1 =>
      cases r1 with
      | cons _ _ => exact h1.elim
      | nil => exact ⟨_, _, rfl, k.nx I1 _ _ S1 H1 e1 s1 (((er.le e1.le).set i ra).set j rb) h1⟩
/-- name op= e -/
def sAug (i : Nat) (f : D → D → Sto → DK → Prop) (te : DE) : DS := fun d env S => match env[i]? with
  | some (some x) => te env S fun y S1 => f x y S1 fun z S2 => d.nx (env.set i (some z)) S2
  | _ => False
def fIAdd (x y : D) (S : Sto) (Q : DK) : Prop :=
  match x, y with
  | .int i, .int j => Q (.int (i + j)) S
  | _, _ => False
def fISub (x y : D) (S : Sto) (Q : DK) : Prop :=
  match x, y with
  | .int i, .int j => Q (.int (i - j)) S
  | _, _ => False
def ripOf (K : PySem.W.Frag) (wi : Wi) (g : D → D → Sto → DK → Prop) : TIp := fun v u H Q' => ∃ I S x y Q, Sim K wi I S H ∧ RD K I x v ∧ RD K I y u ∧ g x y S Q ∧ KQ K wi I S H Q Q'
theorem iAdd : PIp X .Add (ripOf X.K wi fIAdd) := by
  intro pins s σ H v u vv uu Q' I rv ru ⟨Ih, S, x, y, Q, sim, rx, ry, h, k⟩
  unfold fIAdd at h
  split at h
  · cases rx; cases ry
    exact ip_add pins s σ H _ _ _ _ Q' I rv ru ⟨_, _, rfl, rfl, k _ _ _ _ _ .refl sim (.int _) h⟩
  · exact h.elim
theorem iSub : PIp X .Sub (ripOf X.K wi fISub) := by
  intro pins s σ H v u vv uu Q' I rv ru ⟨Ih, S, x, y, Q, sim, rx, ry, h, k⟩
  unfold fISub at h
  split at h
  · cases rx; cases ry
    exact ip_sub pins s σ H _ _ _ _ Q' I rv ru ⟨_, _, rfl, rfl, k _ _ _ _ _ .refl sim (.int _) h⟩
  · exact h.elim
theorem mAug (i : Nat) {x : Str} {op : Operator} {g : D → D → Sto → DK → Prop} {pos' : Pos} (hN : X.N.Nodup) (ho : PIp X op (ripOf X.K wi g)) (he : ME X wi e te) (hi : X.N[i]? = some x := by rfl) (hx : Loc X.env.scope x := by first | exact Or.inl rfl | exact Or.inr rfl) (hf : X.fn x = true ∨ X.env.scope.names.lookup x = some .local := by first | exact .inl rfl | exact .inr rfl | assumption) :
    MS X wi (.AugAssign (.Name x pos') op e pos) (sAug i g te) := PS.of (ps_aug hN hi hx he ho hf) fun D σ H h => by
  obtain ⟨I, env, S, d, sim, er, h, k⟩ := h
  unfold sAug at h
  split at h
  · rename_i w hw
    obtain ⟨v, hv, r⟩ := er.at' i w hw
    refine ⟨v, hv, I, env, S, _, sim, er, h, fun I1 w1 v1 S1 H1 e1 s1 r1 h1 => ?_⟩
    refine ⟨I1, S1, w, w1, _, s1, r.le e1.le, r1, h1, fun I2 w2 v2 S2 H2 e2 s2 r2 h2 => ?_⟩
    exact k.nx I2 _ _ S2 H2 (e1.trans e2) s2 (((er.le e1.le).le e2.le).set i r2) h2
  · exact h.elim

/-! ### what a loop walks -/
structure ItD (K : PySem.W.Frag) (wi : Wi) (I0 : Hp) (J : It) (items : List D) (ok : Sto → Prop) : Prop where
  go : ∀ i I S H, Le I0 I → Sim K wi I S H → ok S → i < items.length → J.go i H
  yl : ∀ i I S H x H', Le I0 I → Sim K wi I S H → ok S → i < items.length → J.yld i H x H' → ∃ I' w, Ext I S H I' S H' ∧ Sim K wi I' S H' ∧ items[i]? = some w ∧ RD K I' w x
  st : ∀ I S H, Le I0 I → Sim K wi I S H → ok S → J.stop items.length H
theorem ItD.le {K : PySem.W.Frag} {I0 I1 : Hp} {J : It} {items : List D} {ok : Sto → Prop} (h : ItD K wi I0 J items ok) (l : Le I0 I1) : ItD K wi I1 J items ok :=
  ⟨fun i I S H l' => h.go i I S H (l.trans l'), fun i I S H x H' l' => h.yl i I S H x H' (l.trans l'), fun I S H l' => h.st I S H (l.trans l')⟩
abbrev DI := Env' → Sto → (List D → (Sto → Prop) → Sto → Prop) → Prop
def liftI (K : PySem.W.Frag) (wi : Wi) (t : DI) : TI := fun σ H R => ∃ I env S Q, Sim K wi I S H ∧ ER K I env σ ∧ t env S Q ∧ ∀ I' S' H' J items ok, Ext I S H I' S' H' → Sim K wi I' S' H' → ItD K wi I' J items ok → Q items ok S' → R J H'
abbrev MI (X : Cx) (wi : Wi) (tg iter : Expr) (t : DI) : Prop := PI X tg iter (liftI X.K wi t)
theorem PI.of {tg iter : Expr} {t t' : TI} (h : PI X tg iter t) (i : ∀ σ H Q, t' σ H Q → t σ H Q) : PI X tg iter t' := ⟨fun pins s σ H Q I hw => h.run pins s σ H Q I (i σ H Q hw)⟩
theorem itd_list {K : PySem.W.Frag} {I0 : Hp} {a : Addr} {items : List D} {ok : Sto → Prop} (h : ∀ I S H, Le I0 I → Sim K wi I S H → ok S → ∃ vs, H a = some (.lst vs) ∧ RDs K I items vs) : ItD K wi I0 (Itl K a) items ok where
  go := fun i I S H l sim o hi => by
    obtain ⟨vs, ha, r⟩ := h I S H l sim o
    obtain ⟨v, hv, _⟩ := r.get (List.getElem?_eq_getElem hi)
    exact ⟨vs, v, SqL.of ha, hv⟩
  yl := fun i I S H x H' l sim o hi y => by
    obtain ⟨vs, ha, r⟩ := h I S H l sim o
    obtain ⟨e, y⟩ := y
    subst e
    obtain ⟨w, hw, rw'⟩ := r.get' (y vs (SqL.of ha))
    exact ⟨I, w, .refl, sim, hw, rw'⟩
  st := fun I S H l sim o => by
    obtain ⟨vs, ha, r⟩ := h I S H l sim o
    exact ⟨vs, SqL.of ha, by rw [r.length]; exact Nat.le_refl _⟩
theorem itd_scr {K : PySem.W.Frag} {I0 : Hp} {a : Addr} {items : List D} {vs : List V} (ha : SqL K I0 a vs) (r : RDs K I0 items vs) : ItD K wi I0 (Itl K a) items (fun _ => True) where
  go := fun i I S H l sim o hi => by
    obtain ⟨v, hv, _⟩ := r.get (List.getElem?_eq_getElem hi)
    exact ⟨vs, v, SqL.le sim.im (SqL.le l ha), hv⟩
  yl := fun i I S H x H' l sim o hi y => by
    obtain ⟨e, y⟩ := y
    subst e
    obtain ⟨w, hw, rw'⟩ := r.get' (y vs (SqL.le sim.im (SqL.le l ha)))
    exact ⟨I, w, .refl, sim, hw, rw'.le l⟩
  st := fun I S H l sim o => ⟨vs, SqL.le sim.im (SqL.le l ha), by rw [r.length]; exact Nat.le_refl _⟩
theorem itd_tup {K : PySem.W.Frag} {I0 : Hp} {a : Addr} {items : List D} {vs : List V} (ha : SqT K I0 a vs) (r : RDs K I0 items vs) : ItD K wi I0 (Itt K a) items (fun _ => True) where
  go := fun i I S H l sim o hi => by
    obtain ⟨v, hv, _⟩ := r.get (List.getElem?_eq_getElem hi)
    exact ⟨vs, v, SqT.le sim.im (SqT.le l ha), hv⟩
  yl := fun i I S H x H' l sim o hi y => by
    obtain ⟨e, y⟩ := y
    subst e
    obtain ⟨w, hw, rw'⟩ := r.get' (y vs (SqT.le sim.im (SqT.le l ha)))
    exact ⟨I, w, .refl, sim, hw, rw'.le l⟩
  st := fun I S H l sim o => ⟨vs, SqT.le sim.im (SqT.le l ha), by rw [r.length]; exact Nat.le_refl _⟩
theorem itd_str {K : PySem.W.Frag} {I0 : Hp} (x : Str) : ItD K wi I0 (Its x) (x.cps.toList.map fun c => .str ⟨#[c]⟩) (fun _ => True) where
  go := fun i I S H l sim o hi => by
    show i < x.cps.size
    simpa using hi
  yl := fun i I S H v H' l sim o hi y => by
    obtain ⟨e, c, hc, hv⟩ := y
    subst e hv
    refine ⟨I, .str ⟨#[c]⟩, .refl, sim, ?_, .str _⟩
    rw [List.getElem?_map, Array.getElem?_toList, hc]; rfl
  st := fun I S H l sim o => by show x.cps.size ≤ _; simp
/-- a tuple, a list, a text -/
def dIt (t : DE) : DI := fun env S Q => t env S fun w S1 => match w with
  | .tup xs => Q xs (fun _ => True) S1
  | .lst xs => Q xs (fun _ => True) S1
  | .scr xs => Q xs (fun _ => True) S1
  | .str x => Q (x.cps.toList.map fun c => .str ⟨#[c]⟩) (fun _ => True) S1
  | .ref a => (match S1 a with
    | some (.lst xs) => Q xs (fun S => S a = some (.lst xs)) S1
    | _ => False)
  | _ => False
theorem mIt {tg : Expr} (he : ME X wi e te) : MI X wi tg e (dIt te) := by
  refine ⟨fun pins s σ H R I h => ?_⟩
  obtain ⟨Ih, env, S, Q, sim, er, h, k⟩ := h
  refine thn (he.run pins s σ H (fun v H1 => ∃ I1 w S1, Ext Ih S H I1 S1 H1 ∧ Sim X.K wi I1 S1 H1 ∧ RD X.K I1 w v ∧ (match w with
    | .tup xs => Q xs (fun _ => True) S1
    | .lst xs => Q xs (fun _ => True) S1
    | .scr xs => Q xs (fun _ => True) S1
    | .str x => Q (x.cps.toList.map fun c => .str ⟨#[c]⟩) (fun _ => True) S1
    | .ref a => (match S1 a with
      | some (.lst xs) => Q xs (fun S => S a = some (.lst xs)) S1
      | _ => False)
    | _ => False)) I ⟨Ih, env, S, _, sim, er, h, fun I1 w1 v1 S1 H1 e1 s1 r1 h1 => ⟨I1, w1, S1, e1, s1, r1, h1⟩⟩) fun u s1 ⟨v, H1, J1, ru, I1, w, S1, e1, sm1, r1, h1⟩ => ?_
  have lst : ∀ {a : Addr} {vs : List V}, SqL X.K H1 a vs → u = .ref a → R (Itl X.K a) H1 → wpAny (model X.prog X.w) X.A (pyIter u) (PIE X pins σ tg R) X.xe s1 := fun {a vs} hq e q => by
    subst e
    obtain ⟨its, rv, p, hz⟩ := J1.list hq
    refine wpAny_pyIter_list p.isList ⟨s1.heap.objs.size, [s1.heap.objs.size], _, _, H1, rfl, J1.kept (t' := s1.toks) fun b o e => Heap.get?_push_of_some _ e, turn_list a _, ⟨_, Heap.get?_push_size _ rfl, rfl, rfl⟩, fun b hb => ?_, q⟩
    have e : b = s1.heap.objs.size := by simpa using hb
    subst e
    exact J1.fpOk (Nat.le_refl _) (J1.hok.fresh (Nat.le_refl _))
  cases r1 with
  | tup g1 r1 =>
    rename_i a xs vs
    cases ru
    obtain ⟨its, rv, p, hz⟩ := J1.tuple (SqT.le sm1.im g1.sq)
    refine wpAny_pyIter_tuple (show s1.heap.IsTuple a its.toArray from p) ⟨s1.heap.objs.size, [s1.heap.objs.size], _, _, H1, rfl, J1.kept (t' := s1.toks) fun b o e => Heap.get?_push_of_some _ e, turn_tuple a _, ⟨_, Heap.get?_push_size _ rfl, rfl, rfl⟩, fun b hb => ?_, k _ _ _ _ _ _ e1 sm1 (itd_tup g1.sq r1) h1⟩
    have e : b = s1.heap.objs.size := by simpa using hb
    subst e
    exact J1.fpOk (Nat.le_refl _) (J1.hok.fresh (Nat.le_refl _))
  | lst g1 r1 =>
    cases ru
    exact lst (SqL.of (sm1.im _ _ g1)) rfl (k _ _ _ _ _ _ e1 sm1 (itd_list fun I S H l sim _ => ⟨_, sim.im _ _ (l _ _ g1), r1.le l⟩) h1)
  | scr g1 r1 =>
    cases ru
    exact lst (SqL.le sm1.im g1) rfl (k _ _ _ _ _ _ e1 sm1 (itd_scr g1 r1) h1)
  | str x =>
    obtain ⟨t, rfl⟩ := ru
    have q : R (Its x) H1 := k _ _ _ _ _ _ e1 sm1 (itd_str x) h1
    cases ha : x.cps.all (· < 128)
    · exact wpAny_pyIter_wide ha (pi_one (tk := s1.toks) J1 _ (turn_str _ x t "str_iterator" (.inr rfl)) ⟨_, Heap.get?_push_size _ rfl, rfl, rfl⟩ q)
    · exact wpAny_pyIter_ascii ha (pi_one (tk := s1.toks) J1 _ (turn_str _ x t "str_ascii_iterator" (.inl rfl)) ⟨_, Heap.get?_push_size _ rfl, rfl, rfl⟩ q)
  | ref a =>
    have h1' : (match S1 a with | some (.lst xs) => Q xs (fun S => S a = some (.lst xs)) S1 | _ => False) := h1
    split at h1'
    · rename_i xs e0
      obtain ⟨vs, ha, r⟩ := st_lst sm1 e0
      cases ru
      exact lst (SqL.of ha) rfl (k _ _ _ _ _ _ e1 sm1 (itd_list fun I S H l sim o => st_lst sim o) h1')
    · exact h1'.elim
  | _ => exact h1.elim
end
end DL


set_option Elab.async false
set_option linter.all false
set_option maxRecDepth 100000
set_option maxHeartbeats 4000000
namespace DL
open PySem PySem.Spec PyProof.Rows L2

section
variable {X : Cx} {tg iter e a b : Expr} {te ta tb : DE} {t : DA} {pos p : Pos}
/-! ### range -/
theorem itd_range {K : PySem.W.Frag} {I0 : Hp} (lo : Int) (n : Nat) : ItD K wi I0 (Itr lo n) ((List.range n).map fun k : Nat => .int (lo + k)) (fun _ => True) where
  go := fun i I S H l sim o hi => by
    show i < n
    simpa using hi
  yl := fun i I S H v H' l sim o hi y => by
    obtain ⟨e, hv⟩ := y
    subst e hv
    have hi' : i < n := by simpa using hi
    refine ⟨I, .int (lo + i), .refl, sim, ?_, .int _⟩
    rw [List.getElem?_map, List.getElem?_range hi']; rfl
  st := fun I S H l sim o => by show n ≤ _; simp
def dRng1 (t : DA) : DI := fun env S Q => t env S fun xs S1 => match xs with
  | [.int j] => (-(2 ^ 62) ≤ j ∧ j < 2 ^ 62) ∧ Q ((List.range j.toNat).map fun k : Nat => .int k) (fun _ => True) S1
  | _ => False
def dRng2 (t : DA) : DI := fun env S Q => t env S fun xs S1 => match xs with
  | [.int i, .int j] => (-(2 ^ 62) ≤ i ∧ i < 2 ^ 62 ∧ -(2 ^ 62) ≤ j ∧ j < 2 ^ 62) ∧ Q ((List.range (j - i).toNat).map fun k : Nat => .int (i + k)) (fun _ => True) S1
  | _ => False
theorem mRng1 (hm : X.mg "range" = none) (ha : MA X wi [a] t) (hg : Gl X "range" := by rfl) (hs : starEach [a] X.env = [(false, eval a X.env)] := by rfl) : MI X wi tg (.Call (.Name "range" p) [a] [] pos) (dRng1 t) := PI.of (pi_range1 hg hm ha hs) fun σ H R h => by
  obtain ⟨I, env, S, Q, sim, er, h, k⟩ := h
  refine ⟨I, env, S, _, sim, er, h, fun I1 ws vs S1 H1 e1 s1 r1 h1 => ?_⟩
  split at h1
  · rename_i j
    cases r1 with
    | cons ra r1 =>
      cases r1
      cases ra
      have z := itd_range (K := X.K) (wi := wi) (I0 := I1) 0 j.toNat
      simp only [Int.zero_add] at z
      exact ⟨j, rfl, h1.1.1, h1.1.2, k _ _ _ _ _ _ e1 s1 z h1.2⟩
  · exact h1.elim
theorem mRng2 (hm : X.mg "range" = none) (ha : MA X wi [a, b] t) (hg : Gl X "range" := by rfl) (hs : starEach [a, b] X.env = [(false, eval a X.env), (false, eval b X.env)] := by rfl) (hs2 : starEach [b] X.env = [(false, eval b X.env)] := by rfl) : MI X wi tg (.Call (.Name "range" p) [a, b] [] pos) (dRng2 t) := PI.of (pi_range2 hg hm ha hs hs2) fun σ H R h => by
  obtain ⟨I, env, S, Q, sim, er, h, k⟩ := h
  refine ⟨I, env, S, _, sim, er, h, fun I1 ws vs S1 H1 e1 s1 r1 h1 => ?_⟩
  split at h1
  · rename_i i j
    cases r1 with
    | cons ra r1 =>
      cases r1 with
      | cons rb r1 =>
        cases r1
        cases ra
        cases rb
        exact ⟨i, j, rfl, h1.1, k _ _ _ _ _ _ e1 s1 (itd_range i (j - i).toNat) h1.2⟩
  · exact h1.elim

/-! ### for -/
def sLoop (g : DG) (body : DS) (d : DEnds) (ok : Sto → Prop) : List D → Env' → Sto → Prop
  | [], env, S => ok S ∧ d.nx env S
  | x :: r, env, S => ok S ∧ g x env S fun env2 S2 => body { d with nx := sLoop g body d ok r, ct := sLoop g body d ok r, bk := d.nx } env2 S2
def sFor (it : DI) (g : DG) (body : DS) : DS := fun d env S => it env S fun items ok S1 => sLoop g body d ok items env S1
theorem KD.loop {K : PySem.W.Frag} {I H : Hp} {S : Sto} {d : DEnds} {D' : Ends} (k : KD K wi I S H d D') {N : Env' → Sto → Prop} {N' : L2.St → Hp → Prop} (kn : KN K wi I S H N N') :
    KD K wi I S H { d with nx := N, ct := N, bk := d.nx } { D' with nx := N', ct := N', bk := D'.nx } := ⟨kn, k.rt, k.nx, kn⟩
theorem mFor {vs : List Nat} {it : DI} {g : DG} {body : List Stmt} {tb : DS} (hp : PassesOwn (model X.prog X.w) X.A X.env X.xe) (hc : X.calm = true) (hi : MI X wi tg iter it) (hg : MG X wi vs tg g) (hb : MSs X wi body tb)
    (hs : ∀ x, foldedSetIterable iter X.env x = pure x := by intro _; rfl) : MS X wi (.For tg iter body [] pos) (sFor it g tb) := PS.of (ps_for hp hc hi hg hb hs) fun D σ H h => by
  obtain ⟨I, env, S, d, sim, er, h, k⟩ := h
  refine ⟨I, env, S, _, sim, er, h, fun I1 S1 H1 J items ok e1 s1 hit h1 => ?_⟩
  refine ⟨fun i m σ H => m = items.length - i ∧ i ≤ items.length ∧ ∃ I2 env2 S2, Ext I1 S1 H1 I2 S2 H ∧ Sim X.K wi I2 S2 H ∧ ER X.K I2 env2 σ ∧ sLoop g tb d ok (items.drop i) env2 S2,
    ⟨items.length, by simp, Nat.zero_le _, I1, env, S1, .refl, s1, er.le e1.le, h1⟩, ?_⟩
  rintro i m σ H ⟨rfl, hi, I2, env2, S2, e2, s2, er2, h2⟩
  by_cases hlt : i < items.length
  · have hd : items.drop i = items[i] :: items.drop (i + 1) := List.drop_eq_getElem_cons hlt
    rw [hd] at h2
    obtain ⟨o2, h2⟩ := h2
    refine .inr ⟨hit.go i I2 S2 H e2.le s2 o2 hlt, fun σ' H' => ∃ I3 env3 S3, Ext I1 S1 H1 I3 S3 H' ∧ Sim X.K wi I3 S3 H' ∧ ER X.K I3 env3 σ' ∧ sLoop g tb d ok (items.drop (i + 1)) env3 S3,
      fun σ' H' q => ⟨items.length - (i + 1), by omega, rfl, hlt, q⟩, fun x H' y => ?_⟩
    obtain ⟨I3, w, e3, s3, hw, rw'⟩ := hit.yl i I2 S2 H x H' e2.le s2 o2 hlt y
    rw [List.getElem?_eq_getElem hlt] at hw
    cases hw
    refine ⟨I3, env2, S2, items[i], _, s3, er2.le e3.le, rw', h2, fun I4 env4 σ4 S4 H4 e4 s4 er4 _ h4 => ?_⟩
    have e14 := (e2.trans e3).trans e4
    exact ⟨I4, env4, S4, _, s4, er4, h4, (k.ext (e1.trans e14)).loop fun I5 env5 σ5 S5 H5 e5 s5 er5 h5 => ⟨I5, env5, S5, e14.trans e5, s5, er5, h5⟩⟩
  · have e : i = items.length := by omega
    subst e
    rw [List.drop_length] at h2
    obtain ⟨o2, h2⟩ := h2
    exact .inl ⟨hit.st I2 S2 H e2.le s2 o2, k.nx I2 env2 σ S2 H (e1.trans e2) s2 er2 h2⟩

/-! ### while: by a word W of a measure, the names and the store -/
def sWhile (c : DT) (tb : DS) : DS := fun d env S => ∃ W : Nat → Env' → Sto → Prop, (∃ m, W m env S) ∧ ∀ m env S, W m env S →
  c env S fun b S1 => if b = true then tb { d with nx := fun env' S' => ∃ m', m' < m ∧ W m' env' S', ct := fun env' S' => ∃ m', m' < m ∧ W m' env' S', bk := d.nx } env S1 else d.nx env S1
theorem mWhile {c : Expr} {body : List Stmt} {tc : DT} {tb : DS} (hp : PassesOwn (model X.prog X.w) X.A X.env X.xe) (hc : MT X wi c tc) (hb : MSs X wi body tb) : MS X wi (.While c body [] pos) (sWhile tc tb) := PS.of (ps_while hp hc hb) fun D σ H h => by
  obtain ⟨I, env, S, d, sim, er, ⟨W, ⟨m0, w0⟩, turn⟩, k⟩ := h
  refine ⟨fun m σ H' => ∃ I2 env2 S2, Ext I S H I2 S2 H' ∧ Sim X.K wi I2 S2 H' ∧ ER X.K I2 env2 σ ∧ W m env2 S2, ⟨m0, I, env, S, .refl, sim, er, w0⟩, ?_⟩
  rintro m σ H1 ⟨I2, env2, S2, e2, s2, er2, w2⟩
  refine ⟨I2, env2, S2, _, s2, er2, turn m env2 S2 w2, fun I3 b S3 H3 e3 s3 h3 => ?_⟩
  have e13 := e2.trans e3
  cases b
  · exact k.nx I3 env2 σ S3 H3 e13 s3 (er2.le e3.le) h3
  · refine ⟨fun σ' H' => ∃ m', m' < m ∧ ∃ I4 env4 S4, Ext I S H I4 S4 H' ∧ Sim X.K wi I4 S4 H' ∧ ER X.K I4 env4 σ' ∧ W m' env4 S4, fun σ' H' q => q, ?_⟩
    exact ⟨I3, env2, S3, _, s3, er2.le e3.le, h3, (k.ext e13).loop fun I5 env5 σ5 S5 H5 e5 s5 er5 ⟨m', hm, w5⟩ => ⟨m', hm, I5, env5, S5, e13.trans e5, s5, er5, w5⟩⟩

/-! ### list comprehensions -/
def wipeD (env : Env') : List Nat → Env'
  | [] => env
  | v :: vs => (wipeD env vs).set v none
theorem ER.wipe {K : PySem.W.Frag} {I : Hp} {env : Env'} {σ : L2.St} (h : ER K I env σ) : ∀ vs : List Nat, ER K I (wipeD env vs) (L2.wipe σ vs)
  | [] => h
  | v :: vs => by
    have ih := ER.wipe h vs
    refine ⟨by show ((wipeD env vs).set v none).length = ((L2.wipe σ vs).set v none).length; rw [List.length_set, List.length_set]; exact ih.len, fun j x e => ?_⟩
    have e' : ((wipeD env vs).set v none)[j]? = some (some x) := e
    show ∃ w, ((L2.wipe σ vs).set v none)[j]? = some (some w) ∧ RD K I x w
    by_cases hj : v = j
    · subst hj
      by_cases hl : v < (wipeD env vs).length
      · rw [List.getElem?_set_self hl] at e'; cases e'
      · rw [List.getElem?_eq_none (by simpa using hl)] at e'; cases e'
    · rw [List.getElem?_set_ne hj] at e'
      rw [List.getElem?_set_ne hj]
      exact ih.at' j x e'
def cLoop (g : DG) (tt : DT) (te : DE) (env : Env') (ok : Sto → Prop) (Q : List D → Sto → Prop) : List D → List D → Sto → Prop
  | [], acc, S => ok S ∧ Q acc S
  | x :: r, acc, S => ok S ∧ g x env S fun env2 S2 => tt env2 S2 fun b S3 => if b = true then te env2 S3 fun y S4 => acc.length < sizeLine ∧ cLoop g tt te env ok Q r (acc ++ [y]) S4 else cLoop g tt te env ok Q r acc S3
def dTrue : DT := fun _ S Q => Q true S
/-- a list that is never changed; dLcR: one that may be -/
def dLc (it : DI) (g : DG) (tt : DT) (te : DE) (vs : List Nat) : DE := fun env S Q => it env S fun items ok S1 => cLoop g tt te (wipeD env vs) ok (fun acc S2 => Q (.lst acc) S2) items [] S1
def dLcR (it : DI) (g : DG) (tt : DT) (te : DE) (vs : List Nat) : DE := fun env S Q => it env S fun items ok S1 => cLoop g tt te (wipeD env vs) ok (fun acc S2 => ∀ p, S2 p = none → Q (.ref p) (su S2 p (.lst acc))) items [] S1
abbrev MTs (X : Cx) (wi : Wi) (ifs : List Expr) (t : DT) : Prop := PTs X ifs (liftT X.K wi t)
theorem mTs0 : MTs X wi [] dTrue := ⟨fun pins s σ H Q I h => pts_nil.run pins s σ H Q I (by
  obtain ⟨Ih, env, S, Qd, sim, er, h, k⟩ := h
  exact k Ih true S H .refl sim h)⟩
theorem mTs1 {c : Expr} {t : DT} (h : MT X wi c t) : MTs X wi [c] t := pts_one h
section
variable {elt : Expr} {ifs : List Expr} {scope : Scope} {own : List (Str × Nat)} {it : DI} {g : DG} {tt : DT}
theorem lift_lc {K : PySem.W.Frag} {R : Bool} {σ : L2.St} {H : Hp} {Q' : VK} {vs : List Nat} (h : lift K wi (if R = true then dLcR it g tt te vs else dLc it g tt te vs) σ H Q') : tLc (liftI K wi it) (liftG K wi vs g) (liftT K wi tt) (lift K wi te) vs σ H Q' := by
  obtain ⟨I, env, S, Q, sim, er, h, k⟩ := h
  have h : it env S fun items ok S1 => cLoop g tt te (wipeD env vs) ok (fun acc S2 => if R = true then ∀ p, S2 p = none → Q (.ref p) (su S2 p (.lst acc)) else Q (.lst acc) S2) items [] S1 := by
    cases R <;> simpa [dLc, dLcR] using h
  refine ⟨I, env, S, _, sim, er, h, fun I1 S1 H1 J items ok e1 s1 hit h1 => fun L hL => ?_⟩
  -- the new list stands at L, within neither part
  have hI1 : I1 L = none := s1.free hL
  have hS1 : S1 L = none := by
    cases q : S1 L with
    | none => rfl
    | some u =>
      obtain ⟨_, v, _, hv⟩ := s1.st L u q
      rw [hL] at hv; cases hv
  refine ⟨fun i m H => m = items.length - i ∧ i ≤ items.length ∧ ∃ I2 S2 acc vacc, Ext I1 S1 (upd H1 L (.lst [])) I2 S2 (upd H L (.lst [])) ∧ Sim K wi I2 S2 H ∧ H L = some (.lst vacc) ∧ RDs K I2 acc vacc ∧ S2 L = none ∧ I2 L = none ∧
      cLoop g tt te (wipeD env vs) ok (fun acc S2 => if R = true then ∀ p, S2 p = none → Q (.ref p) (su S2 p (.lst acc)) else Q (.lst acc) S2) (items.drop i) acc S2,
    ⟨items.length, by simp, Nat.zero_le _, I1, S1, [], [], by rw [upd_upd]; exact .refl, ?_, upd_same, .nil, hS1, hI1, h1⟩, ?_⟩
  · refine ⟨⟨fun a o q => ?_, fun a o q => ?_⟩, s1.kx.ext ⟨.refl, fun a o q k => ⟨by rw [upd_ne (ne_of_none q hL)]; exact q, k, rfl⟩⟩⟩
    · rw [upd_ne (ne_of_none q hI1)]; exact s1.im a o q
    · obtain ⟨z1, u, z2, z3⟩ := s1.st a o q
      exact ⟨z1, u, z2, by rw [upd_ne (ne_of_none z3 hL)]; exact z3⟩
  rintro i m H ⟨rfl, hi, I2, S2, acc, vacc, e2, s2, hLc, racc, hSL, hIL, h2⟩
  -- what stays of H1 does so behind
  have fwd : ∀ {I3 S3 H3}, Ext I2 S2 H I3 S3 H3 → Ext I1 S1 (upd H1 L (.lst [])) I3 S3 (upd H3 L (.lst [])) := fun {I3 S3 H3} e3 => by
    refine ⟨e2.le.trans e3.le, fun a o q k => ?_⟩
    by_cases ha : a = L
    · subst ha
      obtain ⟨_, z2, z3⟩ := e3.fr a _ hLc hSL
      rw [upd_same] at q
      exact ⟨by rw [upd_same]; exact q, z2, by rw [z3, hIL, hI1]⟩
    · obtain ⟨y1, y2, y3⟩ := e2.fr a o q k
      rw [upd_ne ha] at y1
      obtain ⟨z1, z2, z3⟩ := e3.fr a o y1 y2
      exact ⟨by rw [upd_ne ha]; exact z1, z2, z3.trans y3⟩
  have out : ∀ {I3 S3 H3 w}, Ext I1 S1 (upd H1 L (.lst [])) I3 S3 (upd H3 L (.lst [])) → H3 L = some w → I3 L = none → Ext I1 S1 H1 I3 S3 H3 := fun {I3 S3 H3 w} e3 hw hi3 => by
    refine ⟨e3.le, fun a o q k => ?_⟩
    have ha : a ≠ L := ne_of_none q hL
    obtain ⟨z1, z2, z3⟩ := e3.fr a o (by rw [upd_ne ha]; exact q) k
    rw [upd_ne ha] at z1
    exact ⟨z1, z2, z3⟩
  by_cases hlt : i < items.length
  · have hd : items.drop i = items[i] :: items.drop (i + 1) := List.drop_eq_getElem_cons hlt
    rw [hd] at h2
    obtain ⟨o2, h2⟩ := h2
    refine .inr ⟨hit.go i I2 S2 H e2.le s2 o2 hlt, fun H' => ∃ I3 S3 acc3 vacc3, Ext I1 S1 (upd H1 L (.lst [])) I3 S3 (upd H' L (.lst [])) ∧ Sim K wi I3 S3 H' ∧ H' L = some (.lst vacc3) ∧ RDs K I3 acc3 vacc3 ∧ S3 L = none ∧ I3 L = none ∧
        cLoop g tt te (wipeD env vs) ok (fun acc S2 => if R = true then ∀ p, S2 p = none → Q (.ref p) (su S2 p (.lst acc)) else Q (.lst acc) S2) (items.drop (i + 1)) acc3 S3,
      fun H' q => ⟨items.length - (i + 1), by omega, rfl, hlt, q⟩, fun x H' y => ?_⟩
    obtain ⟨I3, w, e3, s3, hw, rw'⟩ := hit.yl i I2 S2 H x H' e2.le s2 o2 hlt y
    rw [List.getElem?_eq_getElem hlt] at hw
    cases hw
    refine ⟨I3, wipeD env vs, S2, items[i], _, s3, ((er.le e1.le).le (e2.le.trans e3.le)).wipe vs, rw', h2, fun I4 env4 σ4 S4 H4 e4 s4 er4 w4 h4 => ⟨w4.trans (by
      -- wiping twice is wiping once
      have wp : ∀ (ws : List Nat) (τ : L2.St), (∀ v ∈ ws, v ∈ vs) → L2.wipe (L2.wipe τ vs) ws = L2.wipe τ vs := by
        intro ws
        induction ws with
        | nil => intro τ _; rfl
        | cons v ws ih =>
          intro τ hv
          show (L2.wipe (L2.wipe τ vs) ws).set v none = L2.wipe τ vs
          rw [ih τ fun u hu => hv u (List.mem_cons_of_mem _ hu)]
          have hv' : v ∈ vs := hv v (List.mem_cons_self ..)
          have at_none : ∀ (us : List Nat), v ∈ us → (L2.wipe τ us).set v none = L2.wipe τ us := by
            intro us
            induction us with
            | nil => intro z; cases z
            | cons u us ih2 =>
              intro hz
              show ((L2.wipe τ us).set u none).set v none = (L2.wipe τ us).set u none
              by_cases huv : v = u
              · subst huv; rw [List.set_set]
              · rw [List.set_comm _ _ (Ne.symm huv), ih2 ((List.mem_cons.mp hz).resolve_left huv)]
          exact at_none vs hv'
      exact wp vs σ fun v h => h), ?_⟩⟩
    refine ⟨I4, env4, S4, _, s4, er4, h4, fun I5 b S5 H5 e5 s5 h5 => ?_⟩
    have e25 := (e3.trans e4).trans e5
    obtain ⟨hL5, hS5, hI5⟩ := e25.fr L _ hLc hSL
    cases b
    · exact ⟨I5, S5, acc, vacc, fwd e25, s5, hL5, racc.le e25.le, hS5, by rw [hI5]; exact hIL, h5⟩
    · refine ⟨I5, env4, S5, _, s5, er4.le e5.le, h5, fun I6 y v S6 H6 e6 s6 r6 h6 => ?_⟩
      have e26 := e25.trans e6
      obtain ⟨hL6, hS6, hI6⟩ := e26.fr L _ hLc hSL
      refine ⟨vacc, hL6, by rw [← racc.length]; exact h6.1, ?_⟩
      refine ⟨I6, S6, acc ++ [y], vacc ++ [v], ?_, ?_, upd_same, (racc.le e26.le).append (.cons r6 .nil), hS6, by rw [hI6]; exact hIL, h6.2⟩
      · rw [upd_upd]; exact fwd e26
      · refine ⟨⟨fun a o q => ?_, fun a o q => ?_⟩, s1.kx.ext ⟨(fwd e26).le, fun a o q k => ?_⟩⟩
        rotate_left 2
        · have ha : a ≠ L := ne_of_none q hL
          obtain ⟨z1, z2, z3⟩ := (fwd e26).fr a o (by rw [upd_ne ha]; exact q) k
          rw [upd_ne ha] at z1
          exact ⟨by rw [upd_ne ha]; exact z1, z2, z3⟩
        · rw [upd_ne (ne_of_none q (by rw [hI6]; exact hIL))]; exact s6.im a o q
        · obtain ⟨z1, u, z2, z3⟩ := s6.st a o q
          refine ⟨z1, u, z2, ?_⟩
          rw [upd_ne (by rintro rfl; rw [hS6] at q; cases q)]; exact z3
  · have e : i = items.length := by omega
    subst e
    rw [List.drop_length] at h2
    obtain ⟨o2, h2⟩ := h2
    refine .inl ⟨hit.st I2 S2 H e2.le s2 o2, ?_⟩
    have eo := out e2 hLc hIL
    cases R
    · -- it is data from now on
      have le : Le I2 (upd I2 L (.lst vacc)) := fun a o q => by rw [upd_ne (ne_of_none q hIL)]; exact q
      have ex : Ext I1 S1 H1 (upd I2 L (.lst vacc)) S2 H := ⟨eo.le.trans le, fun a o q z => by
        obtain ⟨z1, z2, z3⟩ := eo.fr a o q z
        exact ⟨z1, z2, by rw [upd_ne (ne_of_none q hL)]; exact z3⟩⟩
      refine k (upd I2 L (.lst vacc)) (.lst acc) _ S2 H (e1.trans ex) ⟨⟨fun a o q => ?_, fun a o q => ?_⟩, s1.kx.ext ex⟩ (.lst upd_same (racc.le le)) (by simpa using h2)
      · by_cases ha : a = L
        · subst ha; rw [upd_same] at q; cases q; exact hLc
        · rw [upd_ne ha] at q; exact s2.im a o q
      · obtain ⟨z1, u, z2, z3⟩ := s2.st a o q
        exact ⟨by rw [upd_ne (by rintro rfl; rw [hSL] at q; cases q)]; exact z1, u, z2.le le, z3⟩
    · -- it may be changed
      have h2' : ∀ p, S2 p = none → Q (.ref p) (su S2 p (.lst acc)) := by simpa using h2
      have ex : Ext I1 S1 H1 I2 (su S2 L (.lst acc)) H := ⟨eo.le, fun a o q z => by
        obtain ⟨z1, z2, z3⟩ := eo.fr a o q z
        exact ⟨z1, by rw [su_ne (ne_of_none q hL)]; exact z2, z3⟩⟩
      refine k I2 (.ref L) _ (su S2 L (.lst acc)) H (e1.trans ex) ⟨⟨s2.im, fun a o q => ?_⟩, s1.kx.ext ex⟩ (.ref L) (h2' L hSL)
      by_cases ha : a = L
      · subst ha; rw [su_same] at q; cases q; exact ⟨hIL, .lst vacc, racc, hLc⟩
      · rw [su_ne ha] at q; exact s2.st a o q
theorem mLc (hc : X.calm = true) (hN : X.N.Nodup) (hi : MI X wi tg iter it) (ok : BlkOk X.N X.env.scope scope own)
    (hg : ∀ (s : Shared) (H : Hp) (C : Addr) (cl : List (Str × Addr)) (fp : List Addr), MG (X.blk s H scope (compEnvC scope cl C X.env) fp) wi (own.map (·.2)) tg g) (ht : ∀ (s : Shared) (H : Hp) (C : Addr) (cl : List (Str × Addr)) (fp : List Addr), MTs (X.blk s H scope (compEnvC scope cl C X.env) fp) wi ifs tt)
    (he : ∀ (s : Shared) (H : Hp) (C : Addr) (cl : List (Str × Addr)) (fp : List Addr), ME (X.blk s H scope (compEnvC scope cl C X.env) fp) wi elt te) (hs : ∀ x, foldedSetIterable iter X.env x = pure x := by intro _; rfl) :
    ME X wi (.ListComp elt [⟨tg, iter, ifs, 0⟩] scope pos) (dLc it g tt te (own.map (·.2))) :=
  PE.of (pe_lc hc hN hi ok hg ht he hs) fun σ H Q h => lift_lc (R := false) h
theorem mLcR (hc : X.calm = true) (hN : X.N.Nodup) (hi : MI X wi tg iter it) (ok : BlkOk X.N X.env.scope scope own)
    (hg : ∀ (s : Shared) (H : Hp) (C : Addr) (cl : List (Str × Addr)) (fp : List Addr), MG (X.blk s H scope (compEnvC scope cl C X.env) fp) wi (own.map (·.2)) tg g) (ht : ∀ (s : Shared) (H : Hp) (C : Addr) (cl : List (Str × Addr)) (fp : List Addr), MTs (X.blk s H scope (compEnvC scope cl C X.env) fp) wi ifs tt)
    (he : ∀ (s : Shared) (H : Hp) (C : Addr) (cl : List (Str × Addr)) (fp : List Addr), ME (X.blk s H scope (compEnvC scope cl C X.env) fp) wi elt te) (hs : ∀ x, foldedSetIterable iter X.env x = pure x := by intro _; rfl) :
    ME X wi (.ListComp elt [⟨tg, iter, ifs, 0⟩] scope pos) (dLcR it g tt te (own.map (·.2))) :=
  PE.of (pe_lc hc hN hi ok hg ht he hs) fun σ H Q h => lift_lc (R := true) h
/-- name = [..] on one line -/
theorem mSetLc (R : Bool) (i : Nat) {y : Str} {py spos : Pos} (hc : X.calm = true) (hN : X.N.Nodup) (hsw : swapsWith (.ListComp elt [⟨tg, iter, ifs, 0⟩] scope pos) (some (.Name y py)) spos.line X.env = pure true) (hi : MI X wi tg iter it) (ok : BlkOk X.N X.env.scope scope own)
    (hg : ∀ (s : Shared) (H : Hp) (C : Addr) (cl : List (Str × Addr)) (fp : List Addr), MG (X.blk s H scope (compEnvC scope cl C X.env) fp) wi (own.map (·.2)) tg g) (ht : ∀ (s : Shared) (H : Hp) (C : Addr) (cl : List (Str × Addr)) (fp : List Addr), MTs (X.blk s H scope (compEnvC scope cl C X.env) fp) wi ifs tt)
    (he : ∀ (s : Shared) (H : Hp) (C : Addr) (cl : List (Str × Addr)) (fp : List Addr), ME (X.blk s H scope (compEnvC scope cl C X.env) fp) wi elt te) (hy : X.N[i]? = some y := by rfl) (hyl : X.env.scope.names.lookup y = some .local := by rfl) (hs : ∀ x, foldedSetIterable iter X.env x = pure x := by intro _; rfl) :
    MS X wi (.Assign [.Name y py] (.ListComp elt [⟨tg, iter, ifs, 0⟩] scope pos) spos) (sAsg (if R = true then dLcR it g tt te (own.map (·.2)) else dLc it g tt te (own.map (·.2))) i) := PS.of (ps_setLc hc hN hy hyl hsw hi ok hg ht he hs) fun D σ H h => by
  obtain ⟨I, env, S, d, sim, er, h, k⟩ := h
  refine lift_lc (R := R) ⟨I, env, S, _, sim, er, h, fun I1 w1 v1 S1 H1 e1 s1 r1 h1 => ?_⟩
  exact k.nx I1 _ _ S1 H1 e1 s1 ((er.le e1.le).set i r1) h1
end
end
end DL


set_option Elab.async false
set_option linter.all false
set_option maxRecDepth 100000
set_option maxHeartbeats 4000000
namespace DL
open PySem PySem.Spec PyProof.Rows L2

/-! ### what a def promises, over data -/
/-- arguments, store, wish of the value and store, wish of an exception -/
abbrev DSp := List D → Sto → DK → XD → Prop
def liftSp (K : PySem.W.Frag) (sp : DSp) : Sp := fun vs H Q' E' => ∃ I S ws Q E, Sim K (wi2 E E') I S H ∧ RDs K I ws vs ∧ sp ws S Q E ∧ KQ K (wi2 E E') I S H Q Q'
/-- a def keeps a promise, where no repr is under way -/
structure FnG (P : Program) (w : World) (K : PySem.W.Frag) (mg : Str → Option Value) (base : Heap) (CX : CXT) (k : Nat) (f : Addr) (fd : FuncData) (ps : List Str) (sp : DSp) : Prop where
  len : ∀ ws S Q E, sp ws S Q E → ws.length = ps.length
  run : ∀ (A : Around) (outer : List Env) (s : Shared) (H : Hp) (args : Args) (us : List Value) (vs : List V) (Q : VK) (E : XK), Room k A → A.guards = some [] → Env0 P w K mg base A outer s H → BindsTo s fd args (ps.zip us) → Vals vs us → liftSp K sp vs H Q E →
    codeAny (model P w) A (.call (.ref f) args) (CR CX outer P w H s Q E) s
theorem FnG.mono {P : Program} {w : World} {K : PySem.W.Frag} {mg : Str → Option Value} {base : Heap} {CX : CXT} {j k : Nat} {f : Addr} {fd : FuncData} {ps : List Str} {sp : DSp} (F : FnG P w K mg base CX j f fd ps sp) (h : j ≤ k) :
    FnG P w K mg base CX k f fd ps sp := ⟨F.len, fun A outer s H args us vs Q E hr => F.run A outer s H args us vs Q E (hr.mono h)⟩
/-- a weaker promise -/
theorem FnG.imp {P : Program} {w : World} {K : PySem.W.Frag} {mg : Str → Option Value} {base : Heap} {CX : CXT} {k : Nat} {f : Addr} {fd : FuncData} {ps : List Str} {sp sp' : DSp} (F : FnG P w K mg base CX k f fd ps sp)
    (h : ∀ ws S Q E, sp' ws S Q E → sp ws S Q E) : FnG P w K mg base CX k f fd ps sp' :=
  ⟨fun ws S Q E q => F.len ws S Q E (h _ _ _ _ q), fun A outer s H args us vs Q E hr hg he hb hv ⟨I, S, ws, Qd, Ed, a, b, c, d⟩ => F.run A outer s H args us vs Q E hr hg he hb hv ⟨I, S, ws, Qd, Ed, a, b, h _ _ _ _ c, d⟩⟩
/-- how a call binds: n values by their places, keywords named ks; gD lays both in the parameters' order -/
def Bnd (K : PySem.W.Frag) (fd : FuncData) (ps : List Str) (n : Nat) (ks : List Str) (gD : List D → List D → List D) : Prop :=
  ∃ (g : List Value → List Value → List Value) (gV : List V → List V → List V), KBn K fd ps n ks g gV ∧ ∀ I xs vs ys us, RDs K I xs vs → RDs K I ys us → RDs K I (gD xs ys) (gV vs us)

section
variable {X : Cx} {CX : CXT} {k n : Nat} {f : Addr} {fd : FuncData} {ps ks : List Str} {sp : DSp} {E : XK} {x : Str} {p pos kpos : Pos} {e : Expr} {es : List Expr} {kws : List Keyword} {te : DE} {t tk : DA} {nm : Option Str} {gD : List D → List D → List D}
/-- keywords -/
abbrev MK (X : Cx) (wi : Wi) (kws : List Keyword) (t : DA) : Prop := PK X kws (liftA X.K wi t)
theorem PK.of {t t' : TA} (h : PK X kws t) (i : ∀ σ H Q, t' σ H Q → t σ H Q) : PK X kws t' := ⟨fun pos pins s σ H Q I hw => h.run pos pins s σ H Q I (i σ H Q hw)⟩
theorem mK0 : MK X wi [] dNil := PK.of pk_nil fun σ H Q h => by
  obtain ⟨I, env, S, Qd, sim, er, h, k⟩ := h
  exact k I [] [] S H .refl sim .nil h
theorem mKC (ha : ME X wi e te) (hr : MK X wi kws t) : MK X wi (⟨nm, e, kpos⟩ :: kws) (dCons te t) := PK.of (pk_cons ha hr) fun σ H Q h => by
  obtain ⟨I, env, S, Qd, sim, er, h, k⟩ := h
  refine ⟨I, env, S, _, sim, er, h, fun I1 w1 v1 S1 H1 e1 s1 r1 h1 => ?_⟩
  refine ⟨I1, env, S1, _, s1, er.le e1.le, h1, fun I2 ws vs S2 H2 e2 s2 r2 h2 => ?_⟩
  exact k I2 _ _ S2 H2 (e1.trans e2) s2 (.cons (r1.le e2.le) r2) h2
/-- a call: the values by their places, then the keywords' -/
def dCall (sp : DSp) (n m : Nat) (gD : List D → List D → List D) (E : XD) (t tk : DA) : DE := fun env S Q => t env S fun xs S1 => tk env S1 fun ys S2 => xs.length = n ∧ ys.length = m ∧ sp (gD xs ys) S2 Q E
def E00 : XD := fun _ _ _ => False
/-- what this body wants of an exception of a callee's, from any of its states -/
structure XPass (CX : CXT) (X : Cx) (wi : Wi) (E : XD) (E' : XK) : Prop where
  ps : Passes CX X E'
  kx : ∀ I S H, KX X.K I S H wi → KXe X.K I S H E E'
theorem xpass0 : XPass CX0 X wi E00 E0 := ⟨pass0, fun _ _ _ _ _ _ _ _ _ _ _ _ _ _ _ _ _ z => z.elim⟩
theorem Sim.wish {K : PySem.W.Frag} {w1 w2 : Wi} {I H : Hp} {S : Sto} (s : Sim K w1 I S H) (k : KX K I S H w2) : Sim K w2 I S H := ⟨s.toSim0, k⟩
theorem run_g {E' : XD} {pins : List (Addr × Obj)} {σ : L2.St} {H : Hp} {s : Shared} {Q' : VK} {us ws : List Value} {vs zs : List V} (F : FnG X.prog X.w X.K X.mg X.base CX k f fd ps sp) (hr : Room k X.A) (hG : X.A.guards = some []) (hb : Bnd X.K fd ps n ks gD) (hx : XPass CX X wi E' E)
    (I : Inv X pins σ H s) (r : Vals vs us) (rz : Vals zs ws) {Ih : Hp} {S : Sto} {xs ys : List D} {Q : DK} (sim : Sim X.K wi Ih S H) (rx : RDs X.K Ih xs vs) (ry : RDs X.K Ih ys zs) (hn : xs.length = n) (hm : ys.length = ks.length) (h : sp (gD xs ys) S Q E') (k : KQ X.K wi Ih S H Q Q') :
    wpAny (model X.prog X.w) X.A (call (.ref f) us (ks.zip ws)) (EP X pins σ Q') X.xe s := by
  obtain ⟨g, gV, hbn, hgd⟩ := hb
  have r2 := hbn.rel r rz
  have k2 : KQ X.K (wi2 E' E) Ih S H Q Q' := fun I' w v S' H' e s' r q => k I' w v S' H' e (s'.wish (sim.kx.ext e)) r q
  refine wpAny_call (codeAny_mono (F.run X.A X.stack s H ⟨us, ks.zip ws⟩ (g us ws) (gV vs zs) Q' E hr hG I.env0 (hbn.to s us ws I.kIn (by rw [← r.length, ← rx.length]; exact hn) (by rw [← rz.length, ← ry.length]; exact hm)) r2 ⟨Ih, S, _, Q, E', sim.wish ⟨hx.kx _ _ _ sim.kx, fun _ z => nomatch z⟩, hgd _ _ _ _ _ rx ry, h, k2⟩) fun r s' hq => ?_)
  cases r with
  | error e => exact hx.ps pins σ H s e s' I hq
  | ok fl =>
    cases fl with
    | ret u => exact I.after hq
    | next => exact False.elim hq
    | brk => exact False.elim hq
    | cont => exact False.elim hq
theorem mCall {E' : XD} (F : FnG X.prog X.w X.K X.mg X.base CX k f fd ps sp) (hr : Room k X.A) (hG : X.A.guards = some []) (hm : X.mg x = some (.ref f)) (hk : PySem.W.keepIn X.K (.ref f) = true) (hb : Bnd X.K fd ps n ks gD) (hx : XPass CX X wi E' E)
    (ha : MA X wi (e :: es) t) (hkw : MK X wi kws tk) (hg : Gl X x := by rfl) (hall : (backToKw pos (keywordEach kws X.env)).all (·.1.isSome) = true := by rfl) (hks : (backToKw pos (keywordEach kws X.env)).filterMap (·.1) = ks := by rfl)
    (hdb : (x == ("__debug__" : Str)) = false := by decide) (he : starEach (e :: es) X.env = (false, eval e X.env) :: starEach es X.env := by rfl)
    (hpl : ((backTo pos (starEach (e :: es) X.env)).any (·.1) || (backToKw pos (keywordEach kws X.env)).any (·.1.isNone)) = false := by rfl) :
    ME X wi (.Call (.Name x p) (e :: es) kws pos) (dCall sp n ks.length gD E' t tk) := by
  refine ⟨fun pins s σ H Q' I h => ?_⟩
  obtain ⟨Ih, env, S, Q, sim, er, h, k⟩ := h
  refine wpAny_Call_Name_kw (ld_glob I hg hm ?_ hdb)
  refine PySem.W.callWith_KW (h₀ := X.base) I.ok.mod.kin hk hall (thn (ha.run pos pins s σ H (fun vs H1 => ∃ I1 xs S1, Ext Ih S H I1 S1 H1 ∧ Sim X.K wi I1 S1 H1 ∧ RDs X.K I1 xs vs ∧ tk env S1 fun ys S2 => xs.length = n ∧ ys.length = ks.length ∧ sp (gD xs ys) S2 Q E') I
    ⟨Ih, env, S, _, sim, er, h, fun I1 xs vs S1 H1 e1 s1 r1 h1 => ⟨I1, xs, S1, e1, s1, r1, h1⟩⟩) fun us s1 ⟨vs, H1, J1, r, I1, xs, S1, e1, sm1, r1, h1⟩ => ?_) hpl he
  refine thn (hkw.run pos pins s1 σ H1 (fun zs H2 => ∃ I2 ys S2, Ext Ih S H I2 S2 H2 ∧ Sim X.K wi I2 S2 H2 ∧ RDs X.K I2 xs vs ∧ RDs X.K I2 ys zs ∧ xs.length = n ∧ ys.length = ks.length ∧ sp (gD xs ys) S2 Q E') J1
    ⟨I1, env, S1, _, sm1, er.le e1.le, h1, fun I2 ys zs S2 H2 e2 s2 r2 h2 => ⟨I2, ys, S2, e1.trans e2, s2, r1.le e2.le, r2, h2⟩⟩) fun ws s2 ⟨zs, H2, J2, rz, I2, ys, S2, e2, sm2, rx, ry, hn, hm2, h2⟩ => ⟨J2.kIn, ?_⟩
  rw [hks]
  exact run_g F hr hG hb hx J2 r rz sm2 rx ry hn hm2 h2 (k.ext e2)
/-- f(k = v, ..), and f() -/
theorem mCallN {E' : XD} (F : FnG X.prog X.w X.K X.mg X.base CX k f fd ps sp) (hr : Room k X.A) (hG : X.A.guards = some []) (hm : X.mg x = some (.ref f)) (hk : PySem.W.keepIn X.K (.ref f) = true) (hb : Bnd X.K fd ps 0 ks gD) (hx : XPass CX X wi E' E)
    (hkw : MK X wi kws tk) (hg : Gl X x := by rfl) (hall : (backToKw pos (keywordEach kws X.env)).all (·.1.isSome) = true := by rfl) (hks : (backToKw pos (keywordEach kws X.env)).filterMap (·.1) = ks := by rfl)
    (hdb : (x == ("__debug__" : Str)) = false := by decide) (hpl : ((backTo pos (starEach [] X.env)).any (·.1) || (backToKw pos (keywordEach kws X.env)).any (·.1.isNone)) = false := by rfl) :
    ME X wi (.Call (.Name x p) [] kws pos) (dCall sp 0 ks.length gD E' dNil tk) := by
  refine ⟨fun pins s σ H Q' I h => ?_⟩
  obtain ⟨Ih, env, S, Q, sim, er, h, k⟩ := h
  refine wpAny_Call_Name_kw (ld_glob I hg hm ?_ hdb)
  refine PySem.W.callWith_KW0 (h₀ := X.base) I.ok.mod.kin hk hall (thn (hkw.run pos pins s σ H (fun zs H2 => ∃ I2 ys S2, Ext Ih S H I2 S2 H2 ∧ Sim X.K wi I2 S2 H2 ∧ RDs X.K I2 ys zs ∧ (0 : Nat) = 0 ∧ ys.length = ks.length ∧ sp (gD [] ys) S2 Q E') I
    ⟨Ih, env, S, _, sim, er, h, fun I2 ys zs S2 H2 e2 s2 r2 h2 => ⟨I2, ys, S2, e2, s2, r2, h2⟩⟩) fun ws s2 ⟨zs, H2, J2, rz, I2, ys, S2, e2, sm2, ry, _, hm2, h2⟩ => ⟨J2.kIn, ?_⟩) hpl
  rw [hks]
  exact run_g F hr hG hb hx J2 .nil rz sm2 .nil ry rfl hm2 h2 (k.ext e2)
end

/-! ### a def's body keeps its promise -/
def startD (N : List Str) (ws : List D) : Env' := ws.map some ++ List.replicate (N.length - ws.length) none
theorem er_start {K : PySem.W.Frag} {I : Hp} {N : List Str} {ws : List D} {vs : List V} (r : RDs K I ws vs) : ER K I (startD N ws) (L2.start N vs) := by
  unfold startD L2.start
  refine ⟨by simp [r.length], fun i w e => ?_⟩
  by_cases hi : i < ws.length
  · rw [List.getElem?_append_left (by simpa using hi), List.getElem?_map] at e
    cases q : ws[i]? with
    | none => rw [q] at e; cases e
    | some x =>
      rw [q] at e
      cases e
      obtain ⟨v, hv, rv⟩ := r.get q
      refine ⟨v, ?_, rv⟩
      rw [List.getElem?_append_left (by rw [List.length_map, ← r.length]; exact hi), List.getElem?_map, hv]; rfl
  · rw [List.getElem?_append_right (by simpa using hi), List.getElem?_replicate] at e
    split at e <;> cases e
/-- where a def ends some of the store may be forgotten -/
def endsD (Q : DK) : DEnds := { nx := fun _ S => ∃ S0, Sub S0 S ∧ Q .non S0, rt := fun w S => ∃ S0, Sub S0 S ∧ Q w S0 }
theorem KD.ends {K : PySem.W.Frag} {wi : Wi} {I H : Hp} {S : Sto} {Q : DK} {Q' : VK} (k : KQ K wi I S H Q Q') : KD K wi I S H (endsD Q) { nx := fun _ H' => Q' .non H', rt := Q' } :=
  ⟨fun I' env σ S' H' e s er ⟨S0, hs, q⟩ => k I' .non .non S0 H' (e.sub hs) (s.sub hs) .non q, fun I' w v S' H' e s r ⟨S0, hs, q⟩ => k I' w v S0 H' (e.sub hs) (s.sub hs) r q, fun _ _ _ _ _ _ _ _ z => z.elim, fun _ _ _ _ _ _ _ _ z => z.elim⟩
theorem fnG_of {CX : CXT} {P : Program} {w : World} {K : PySem.W.Frag} {mg : Str → Option Value} {base : Heap} {k : Nat} {f : Addr} {name qual : Str} {params : Arguments} {body : List Stmt} {scope : Scope} {dV kV doc pm cdv ct oc : Value} {an od : Option Addr}
    {osl : Array (Option Value)} {N ps : List Str} {sp : DSp} (lk : K.lookup f = some ⟨oc, od, .func (PySem.W.fnOf name qual params body scope dV kV doc pm an cdv ct), osl⟩) (hcd : PySem.W.codeIn K cdv qual = true) (sc : FnScope N ps scope)
    (len : ∀ ws S Q E, sp ws S Q E → ws.length = ps.length)
    (hbody : ∀ (A : Around) (outer : List Env) (s : Shared) (H : Hp) (E : XD) (E' : XK), Room k (A.deeper (envOfC qual scope s.heap.objs.size f cdv)) → A.guards = some [] →
      ∃ t, MSs (cxOf CX P w K mg base N qual scope f cdv A outer s H E') (wi2 E E') body t ∧ ∀ (ws : List D) (S : Sto) (Q : DK), sp ws S Q E → t (endsD Q) (startD N ws) S) :
    FnG P w K mg base CX (k + 1) f (PySem.W.fnOf name qual params body scope dV kV doc pm an cdv ct) ps sp := by
  refine ⟨len, fun A outer s H args us vs Q' E' hr hG e0 hb r hsp => ?_⟩
  obtain ⟨Ih, S, ws, Q, E, sim, rw', hsp, kq⟩ := hsp
  have hl : vs.length = ps.length := by rw [← rw'.length]; exact len _ _ _ _ hsp
  have KH : K.In s.heap := e0.mod.kin.keeps fun b o e => (e0.bs b o e).1
  have lim : s.heap.NoLimit := e0.mod.nolimit.keeps fun b o e => (e0.bs b o e).1
  have hkind : ∀ y ∈ ps.zip us, scope.names.lookup y.1 = some .local ∨ (scope.names.lookup y.1 = some .cell ∧ ((cellsFrom (s.heap.objs.size + 1) scope.names []).lookup y.1).isSome = true) := fun ⟨n, v⟩ hy =>
    (sc.par n (List.of_mem_zip hy).1).imp id fun q => ⟨q, PySem.W.cellsFrom_some _ _ _ (.inl q)⟩
  refine codeAny_call_function hr.depth (KH _ _ lk) rfl sc.co sc.gen rfl (PySem.W.codeRec_of KH hcd) (hb _ _ _ _ (wpAny_newFunctionEnv_cells sc.kind hkind fun env he s1 x => ?_))
  subst he
  refine ⟨lim.keeps x.toInCall.keep, codeAny_func ?_⟩
  obtain ⟨t, ht, hq⟩ := hbody A outer s H E E' (hr.deeper _) hG
  have J : Inv (cxOf CX P w K mg base N qual scope f cdv A outer s H E') [] (L2.start N vs) H s1 := inv_start sc hr.hd e0 hl r x
  have go : liftS K (wi2 E E') t { nx := fun _ H' => Q' .non H', rt := Q' } (L2.start N vs) H := ⟨Ih, startD N ws, S, endsD Q, sim, er_start rw', hq ws S Q hsp, KD.ends kq⟩
  refine wpAny_mono (ht.run [] s1 (L2.start N vs) H _ J go) (fun fl s' hs => ?_) fun e s' hs => hs
  cases fl with
  | ret u =>
    obtain ⟨v, σ', H', J', rv, q⟩ := hs
    exact ⟨v, H', J'.os, J'.bare, J'.base, J'.hok, rv, q⟩
  | next =>
    obtain ⟨σ', H', J', q⟩ := hs
    exact ⟨.non, H', J'.os, J'.bare, J'.base, J'.hok, rfl, q⟩
  | brk => obtain ⟨_, _, _, q⟩ := hs; exact q.elim
  | cont => obtain ⟨_, _, _, q⟩ := hs; exact q.elim
/-- a def of the text -/
theorem FnG.def_ {CX : CXT} {P : Program} {w : World} {K : PySem.W.Frag} {mg : Str → Option Value} {base : Heap} {x qual : Str} {params : Arguments} {body : List Stmt} {scope : Scope} {dvs : List V} {kws : List (Str × V)} {f : Addr} {fd : FuncData} {N ps : List Str} {k : Nat} {sp : DSp}
    (F : FunD K x qual params body scope dvs kws f fd) (sc : FnScope N ps scope) (len : ∀ ws S Q E, sp ws S Q E → ws.length = ps.length)
    (hbody : ∀ (cdv : Value) (A : Around) (outer : List Env) (s : Shared) (H : Hp) (E : XD) (E' : XK), Room k (A.deeper (envOfC qual scope s.heap.objs.size f cdv)) → A.guards = some [] →
      ∃ t, MSs (cxOf CX P w K mg base N qual scope f cdv A outer s H E') (wi2 E E') body t ∧ ∀ (ws : List D) (S : Sto) (Q : DK), sp ws S Q E → t (endsD Q) (startD N ws) S) : FnG P w K mg base CX (k + 1) f fd ps sp := by
  obtain ⟨oc, od, dV, kV, doc, pm, an, cdv, ct, osl, rfl, lk, hcd, _, _⟩ := F.ex
  exact fnG_of lk hcd sc len fun A outer s H E E' hr hG => hbody cdv A outer s H E E' hr hG

/-! ### how calls bind -/
theorem KBn.same {K : PySem.W.Frag} {fd : FuncData} {ps ks : List Str} {n : Nat} {g : List Value → List Value → List Value} {gV : List V → List V → List V} (h : KBn K fd ps n ks g gV) : KBn K fd ps n ks g gV := h
/-- every parameter is given by its place -/
theorem bnd_all {K : PySem.W.Frag} {fd : FuncData} {ps : List Str} (b : Binds K fd ps []) : Bnd K fd ps ps.length [] (fun xs _ => xs) := by
  refine ⟨fun us _ => us, fun vs _ => vs, ⟨fun s us ws X hn hw => ?_, fun r _ => r⟩, fun I xs vs ys us r _ => r⟩
  have z := b s us X (by rw [List.append_nil]; exact hn)
  rw [List.append_nil] at z
  cases ws with
  | nil => exact z
  | cons _ _ => cases hw

/-! ### the law's end -/
theorem RD.ints {K : PySem.W.Frag} {I : Hp} : ∀ ns : List Int, RDs K I (ns.map D.int) (ns.map V.int)
  | [] => .nil
  | n :: ns => .cons (.int n) (RD.ints ns)
/-- the script alone is tracked, where it is none of the module's own objects -/
def scrH (K : PySem.W.Frag) (a : Addr) (o : Obj) (vs : List V) : Hp := fun b => if b = a ∧ (K.lookup a).isNone = true then some (.frz o (.lst vs)) else none
theorem scrH_some {K : PySem.W.Frag} {a b : Addr} {o : Obj} {vs : List V} {u : HO} (e : scrH K a o vs b = some u) : b = a ∧ K.lookup a = none ∧ u = .frz o (.lst vs) := by
  unfold scrH at e
  split at e
  · rename_i h
    cases e
    refine ⟨h.1, ?_, rfl⟩
    cases q : K.lookup a with
    | none => rfl
    | some x => rw [q] at h; exact absurd h.2 (by simp)
  · cases e
theorem law_callG {P : Program} {w : World} {K : PySem.W.Frag} {mg mb : Str → Option Value} {CX : CXT} {k : Nat} {fa a : Addr} {fd : FuncData} {x : Str} {sp : DSp} {s1 : Shared} {vs : List Value} {ns : List Int}
    (KX : K.In s1.heap) (hns : s1.heap.Ns mainGlobals mg) (hb : s1.heap.Ns builtinsNs mb) (hbb : ∀ x : Str, x ≠ "__name__" → mb x = bootBuiltins x) (hlim : s1.heap.NoLimit) (hg : s1.gens = #[])
    (ha : s1.heap.get? a = some { cls := .type "list", data := .seq vs.toArray }) (hi : IntsAre vs ns) (hl : ns.length ≤ sizeLine) (hr : Room k callerA)
    (F : ∀ base : Heap, K.In base → base.Ns mainGlobals mg → FnG P w K mg base CX k fa fd [x] sp) (hbind : ∀ (s : Shared) (u : Value), BindsTo s fd ⟨[u], []⟩ [(x, u)])
    (hsp : sp [.scr (ns.map .int)] (fun _ => none) (fun v _ => v = .bl true) E00) (hCX : ∀ H e s', CX [] H s1 (fun _ _ _ => False) e s' → False) :
    codeAny (model P w) callerA (.call (.ref fa) ⟨[.ref a], []⟩) (fun r s' => r = .ok (.ret (.bool true)) ∧ OldK s1.heap s'.heap ∧ s'.os = s1.os ∧ AllBare s'.gens) s1 := by
  have rv := vals_ints hi
  have hz : (ns.map V.int).length ≤ sizeLine := by rw [List.length_map]; exact hl
  let o : Obj := { cls := .type "list", data := .seq vs.toArray }
  let H : Hp := scrH K a o (ns.map V.int)
  have hS : SqL K H a (ns.map V.int) := by
    cases q : K.lookup a with
    | none =>
      refine .inl (.inr ⟨o, ?_⟩)
      show scrH K a o (ns.map V.int) a = _
      unfold scrH
      rw [if_pos ⟨rfl, by rw [q]; rfl⟩]
    | some o2 =>
      have e := KX a o2 q
      rw [ha] at e
      cases e
      exact .inr ⟨_, vs.toArray, _, q, rfl, rfl, rfl, by rw [List.size_toArray, ← rv.length]; exact hz, by simpa using rv⟩
  have hok : HOk P w H s1.heap := fun b u e => by
    obtain ⟨rfl, _, rfl⟩ := scrH_some e
    exact ⟨ha, hz, vs, _, rv, ha⟩
  have free : ∀ {b : Addr} {p : Obj}, s1.heap.get? b = some p → b ≠ a → (hidT s1.heap H).get? b = some p := fun {b p} e hb => hidT_get e (by
    cases q : H b with
    | none => rfl
    | some u => exact absurd (scrH_some q).1 hb)
  have nsK : ∀ {b : Addr} {m : Str → Option Value}, s1.heap.Ns b m → (hidT s1.heap H).Ns b m := fun {b m} ⟨p, es, ep, e, d, r⟩ => ⟨p, es, ep, free e (by
    rintro rfl
    rw [ha] at e; cases e
    exact absurd d (by simp)), d, r⟩
  have hKb : K.In (hidT s1.heap H) := fun b p e => hidT_get (KX b p e) (by
    cases q : H b with
    | none => rfl
    | some u =>
      obtain ⟨rfl, z, _⟩ := scrH_some q
      rw [z] at e; cases e)
  have hM : Mod K mg (hidT s1.heap H) := ⟨hKb, nsK hns, ⟨mb, nsK hb, hbb⟩, let ⟨mc, h1, h2⟩ := hlim; ⟨mc, nsK h1, h2⟩⟩
  have e0 : Env0 P w K mg (hidT s1.heap H) callerA [] s1 H := ⟨rfl, hM, fun b p e => of_hidT e, Nat.le_of_eq (hidT_size _ _), trivial, fun b hb => (List.not_mem_nil hb).elim, hok, .of_eq hg⟩
  have sim : Sim K (wi2 E00 fun _ _ _ => False) H (fun _ => none) H := ⟨⟨fun _ _ e => e, fun _ _ e => nomatch e⟩, ⟨fun _ _ _ _ _ _ _ _ _ _ _ _ _ z => z.elim, fun _ z => nomatch z⟩⟩
  refine codeAny_mono ((F _ hKb (nsK hns)).run callerA [] s1 H ⟨[.ref a], []⟩ [.ref a] [.ref a] (fun v _ => v = .bl true) (fun _ _ _ => False) hr rfl e0 (hbind s1 (.ref a)) (.cons rfl .nil)
    ⟨H, fun _ => none, _, _, E00, sim, .cons (.scr hS (RD.ints ns)) .nil, hsp, fun I' v u S' H' _ _ r e => by subst e; cases r; rfl⟩) fun r s' h => ?_
  cases r with
  | error e => exact (hCX H e s' h).elim
  | ok fl =>
    cases fl with
    | next => exact False.elim h
    | brk => exact False.elim h
    | cont => exact False.elim h
    | ret u =>
      obtain ⟨v, H', os, bare, un, hok', r', q⟩ := h
      have q' : v = .bl true := q
      subst q'
      obtain rfl : u = Value.bool true := r'
      refine ⟨rfl, OldK.of_keep fun b p e => ?_, os, bare⟩
      cases q : H b with
      | none => exact un.keep b p e q (fun z => (List.not_mem_nil z).elim) (fun z => (List.not_mem_nil z).elim)
      | some u =>
        obtain ⟨rfl, _, rfl⟩ := scrH_some q
        obtain ⟨e2, _⟩ := hok' b _ (un.frzs b _ _ q)
        rw [ha] at e; cases e
        exact e2
/-- a law: F gives the written part, the function object, the promise over every base -/
theorem walkG {l : PySem.W.OpenLaw} {n k : Nat} {q : Program} {loose : List Str} {XP : (Str → Option Value) → Heap → Prop} {YP : World → Heap → Prop} {d : DefRec} {CX : CXT} {x : Str}
    (hn : l.most = some n) (hn2 : n ≤ sizeLine) (hdf : d.params.defaults = []) (hr : Room k callerA)
    (F : ∀ (w : World) (mg : Str → Option Value) (fa : Addr) (h : Heap), YP w h → h.Ns mainGlobals mg → mg d.name = some (.ref fa) →
      ∃ (K : PySem.W.Frag) (fd : FuncData) (sp : DSp), K.In h ∧ (∀ (s : Shared) (u : Value), BindsTo s fd ⟨[u], []⟩ [(x, u)]) ∧
        (∀ ns : List Int, ns.length ≤ n → sp [.scr (ns.map .int)] (fun _ => none) (fun v _ => v = .bl true) E00) ∧
        ∀ base : Heap, K.In base → base.Ns mainGlobals mg → FnG l.prog w K mg base CX k fa fd [x] sp)
    (hCX : ∀ (H : Hp) (s : Shared) (e : Value) (s' : Shared), CX [] H s (fun _ _ _ => False) e s' → False) :
    PySem.W.WalkO q loose XP YP l.row.toRowW d [] (fun f vs => PySem.call f vs) := by
  refine Att.attach_call hn hdf fun w s0 s1 mg mb fa o pm cd doc a vs ns G Y ho hd hcd hmg hobj hints hlen hg => ?_
  obtain ⟨K, fd, sp, KX, hb, hsp, hF⟩ := F w mg fa _ Y G.T.g hmg
  exact law_callG KX G.T.g G.T.b G.T.builtins G.T.nolimit hg hobj hints (Nat.le_trans hlen hn2) hr hF hb (hsp ns hlen) fun H e s' => hCX H s1 e s'
end DL


set_option Elab.async false
set_option linter.all false
set_option maxRecDepth 100000
set_option maxHeartbeats 4000000
namespace DL
open PySem PySem.Spec PyProof.Rows L2

/-! ### x[::-1] -/
def fRv (x : D) (S : Sto) (Q : DK) : Prop :=
  match x with
  | .tup xs => Q (.tup xs.reverse) S
  | .lst xs => Q (.lst xs.reverse) S
  | .ref a => (match S a with
    | some (.lst xs) => Q (.lst xs.reverse) S
    | _ => False)
  | _ => False
section
variable {prog : Program} {w : World} {A : Around} {E : Value → Shared → Prop} {s : Shared}
theorem pick_rev (xs : Array Value) : ((List.range xs.size).filterMap fun (k : Nat) => xs[((xs.size : Int) - 1 + (k : Int) * (-1)).toNat]?).toArray = xs.toList.reverse.toArray := by
  have e : (List.range xs.size).filterMap (fun (k : Nat) => xs[((xs.size : Int) - 1 + (k : Int) * (-1)).toNat]?) = ((List.range xs.size).map fun k => xs.size - 1 - k).filterMap (xs[·]?) := by
    rw [List.filterMap_map]
    congr 1
    funext k
    have z : ((xs.size : Int) - 1 + (k : Int) * (-1)).toNat = xs.size - 1 - k := by omega
    rw [z]; rfl
  rw [e, PySem.W.krv_range, List.filterMap_reverse, PySem.W.krv_all]
theorem sliceApplied_rev {sl : Addr} {t : Tok} {n : Nat} {Q : Int × Int × Nat → Shared → Prop} (hs : s.heap.IsSliceOf sl .none .none (.int (-1) t)) (h : Q ((n : Int) - 1, -1, n) s) : wpAny (model prog w) A (Builtin.Slice.sliceApplied (.ref sl) (pure (n : Int))) Q E s := by
  obtain ⟨os, hos, hcs, hds⟩ := id hs
  unfold Builtin.Slice.sliceApplied Builtin.Slice.sliceFields
  refine wpAny_bind (wpAny_bind (wpAny_field hos hds (x := .none) rfl (wpAny_bind (wpAny_field hos hds (x := .none) rfl (wpAny_bind (wpAny_field hos hds (x := .int (-1) t) rfl (wpAny_pure ?_)))))))
  refine wpAny_bind (HT.slicePart_ (.int (-1) t) ?_)
  show wpAny _ _ (if ((-1 : Int) == 0) = true then _ else _) _ _ s
  rw [if_neg (by decide)]
  refine wpAny_bind (HT.slicePart_ .none (wpAny_bind (HT.slicePart_ .none (wpAny_bind (wpAny_pure ?_)))))
  have e : Builtin.Slice.slicePlaces ((n : Int) - 1) (-1) (-1) = n := by
    unfold Builtin.Slice.slicePlaces
    rw [if_neg (by decide)]
    by_cases hn : (n : Int) - 1 > -1
    · rw [if_pos hn, show (- -1 : Int) = 1 by decide, Int.ediv_one]; omega
    · rw [if_neg hn]; omega
  refine wpAny_pure ?_
  have e2 : (Builtin.Slice.sliceAdjust none none (-1) (n : Int)) = ((n : Int) - 1, -1) := rfl
  show Q _ s
  have e3 : Builtin.Slice.slicePlaces (Builtin.Slice.sliceAdjust none none (-1) (n : Int)).1 (Builtin.Slice.sliceAdjust none none (-1) (n : Int)).2 (-1) = n := by rw [e2]; exact e
  have e4 : (Builtin.Slice.sliceAdjust none none (-1) (n : Int)).1 = (n : Int) - 1 := by rw [e2]
  rw [← e4] at h
  first
    | exact e3.symm ▸ h
    | (show Q ((Builtin.Slice.sliceAdjust none none (-1) (n : Int)).1, (-1 : Int), Builtin.Slice.slicePlaces (Builtin.Slice.sliceAdjust none none (-1) (n : Int)).1 (Builtin.Slice.sliceAdjust none none (-1) (n : Int)).2 (-1)) s
       rw [e3]; exact h)
theorem getItem_tuple_rev {t sl : Addr} {items : Array Value} {tk : Tok} {Q : Value → Shared → Prop} (ht : IsTup s.heap t items) (hs : s.heap.IsSliceOf sl .none .none (.int (-1) tk))
    (h : Q (.ref s.heap.objs.size) { s with heap := s.heap.push { cls := .type "tuple", data := .seq items.toList.reverse.toArray } }) (hsz : items.size ≤ sizeLine) : wpAny (model prog w) A (getItem (.ref t) (.ref sl)) Q E s := by
  have htake : sizeOk (.seq items.toList.reverse.toArray) := by
    show items.toList.reverse.toArray.size ≤ sizeLine
    rw [List.size_toArray, List.length_reverse, Array.length_toList]; exact hsz
  obtain ⟨os, hos, hcs, hds⟩ := id hs
  have hTs : s.TypeIs (.ref sl) "slice" := ⟨os, hos, hcs⟩
  unfold getItem
  try with_reducible refine wpAny_holding ?_
  first | refine wpAny_bind (wpAny_pure ?_) | skip
  refine wpAny_bind (wpAny_sequenceKey ht.typeIs (by decide) ?_)
  refine wpAny_bind (wpAny_callSpecial?_slot (name := Str.ofString "__getitem__") ht.typeIs PyProof.Rows.slot_tuple_getitem
    (wpAny_call_entry PyProof.Rows.slot_tuple_getitem ht.typeIs entry_tuple_getitem ?_ (args_tuple_getitem _ _)))
  show wpAny _ _ (Builtin.Tuple.tupleItemsOf (.ref t) >>= _) _ _ s
  refine wpAny_bind (tupleItemsOf_ ht ?_)
  refine wpAny_bind (wpAny_typeOf hTs ?_)
  rw [if_pos (by decide)]
  refine wpAny_bind (sliceApplied_rev (n := items.size) hs ?_)
  show wpAny _ _ (if (((items.size : Int) - 1) == 0 && (-1 : Int) == 1 && items.size == items.size) = true then _ else _) _ _ s
  rw [if_neg (by simp), pick_rev]
  first
    | exact wpAny_bind (m := Builtin.Tuple.tupleExact _) (wpAny_newObj_type (wpAny_pure ⟨_, rfl, wpAny_pure h⟩) htake)
    | exact wpAny_bind (m := Builtin.Tuple.tupleExact _) (wpAny_newObj_type (wpAny_bind (wpAny_pure (wpAny_pure ⟨_, rfl, wpAny_pure h⟩))) htake)
    | exact wpAny_bind (wpAny_bind (m := Builtin.Tuple.tupleExact _) (wpAny_newObj_type (wpAny_pure (wpAny_pure ⟨_, rfl, wpAny_pure h⟩)) htake))
    | exact wpAny_bind (wpAny_bind (m := Builtin.Tuple.tupleExact _) (wpAny_newObj_type (wpAny_pure ⟨_, rfl, wpAny_pure h⟩) htake))
end
section
variable {X : Cx} {wi : Wi} {e : Expr} {te : DE} {pos p1 p2 p3 p4 : Pos} {j : Nat}
theorem Vals.rv {xs : List V} {us : List Value} (h : Vals xs us) : Vals xs.reverse us.reverse := Vals.reverse h
theorem mRv (he : ME X wi e te) : ME X wi (.Subscript e (.Slice none none (some (.UnaryOp .USub (.Constant (.int 1) j p1) p2)) p3) pos) (dUn fRv te) := by
  refine ⟨fun pins s σ H Q' I h => ?_⟩
  obtain ⟨Ih, env, S, Q, sim, er, h, k⟩ := h
  refine Subscript_ (thn (he.run pins s σ H (fun v H1 => ∃ I1 w S1, Ext Ih S H I1 S1 H1 ∧ Sim X.K wi I1 S1 H1 ∧ RD X.K I1 w v ∧ fRv w S1 Q) I ⟨Ih, env, S, _, sim, er, h, fun I1 w v S1 H1 e1 s1 r1 h1 => ⟨I1, w, S1, e1, s1, r1, h1⟩⟩) fun v s1 ⟨x, H1, I1, rv, Ih1, w, S1, e1, sm1, r1, h1⟩ => ?_)
  refine wpAny_Slice ?_
  rw [evalPart_none]
  refine wpAny_pure (wpAny_pure ?_)
  rw [evalPart_some]
  have pm : PE X (.UnaryOp .USub (.Constant (.int 1) j p1) p2) (tUn (rU fun i => .int (-i)) (tC (.int 1))) := pe_un un_neg pe_int
  refine thn (pm.run pins s1 σ H1 (fun v H2 => v = .int (-1) ∧ H2 = H1) I1 ⟨1, rfl, rfl, rfl⟩) fun vs s2 ⟨y, H2, I2, ry, ey, eH⟩ => ?_
  subst ey eH
  obtain ⟨tk, rfl⟩ := ry
  have I4 : Inv X pins σ H2 { s2 with heap := s2.heap.push { cls := .type "slice", data := .fields #[.none, .none, .int (-1) tk] } } := I2.kept (t' := s2.toks) fun b ob q => Heap.get?_push_of_some _ q
  have hs : (s2.heap.push { cls := .type "slice", data := .fields #[.none, .none, .int (-1) tk] }).IsSliceOf s2.heap.objs.size .none .none (.int (-1) tk) := Heap.IsSliceOf.new ..
  have lst : ∀ {a : Addr} {xs : List D} {vs : List V}, H2 a = some (.lst vs) → RDs X.K Ih1 xs vs → Q (.lst xs.reverse) S1 → v = .ref a →
      wpAny (model X.prog X.w) X.A (subscriptTail e (.Slice none none (some (.UnaryOp .USub (.Constant (.int 1) j p1) p2)) p3) v (.ref s2.heap.objs.size)) (EP X pins σ Q') X.xe { s2 with heap := s2.heap.push { cls := .type "slice", data := .fields #[.none, .none, .int (-1) tk] } } := fun {a xs vs} ha r q ev => by
    subst ev
    obtain ⟨its, r', ht, hz⟩ := I4.list (SqL.of ha)
    refine tail_any (ops := [.ref a, .ref s2.heap.objs.size]) ht.isList.typeIs slot_list_getitem.lookup (wpAny_getItem_list_slice ht.isList hs .none .none (.int (-1) tk) (by simp) ?_ (by rw [List.size_toArray, ← r'.length]; exact hz)) (by with_unfolding_all rfl)
    rw [PySem.W.krv_pick]
    refine ⟨.ref _, upd H2 _ (.lst vs.reverse), I4.laid (t' := s2.toks) (o := .lst vs.reverse) (fun b ob q => Heap.get?_push_of_some _ q) (Nat.le_refl _) ?_, rfl, (k.ext e1).newI sm1 (I4.hok.fresh (Nat.le_refl _)) (.lst upd_same (r.reverse.newI (sm1.free (I4.hok.fresh (Nat.le_refl _))))) q⟩
    exact ⟨by rw [List.length_reverse]; exact hz, _, 0, Vals.reverse r', Heap.get?_push_size _ rfl⟩
  unfold fRv at h1
  split at h1
  · cases r1 with
    | @tup a xs ws g1 r1 =>
      cases rv
      obtain ⟨its, r', ht, hz⟩ := I4.tuple (SqT.le sm1.im g1.sq)
      refine tail_any (ops := [.ref a, .ref s2.heap.objs.size]) ht.typeIs PyProof.Rows.slot_tuple_getitem.lookup (getItem_tuple_rev ht hs ?_ (by rw [List.size_toArray, ← r'.length]; exact hz)) (by with_unfolding_all rfl)
      obtain ⟨J, hn⟩ := laid_tup (s := s2) (h' := s2.heap.push { cls := .type "slice", data := .fields #[.none, .none, .int (-1) tk] }) (tk := s2.toks) I4 (Vals.reverse r') (by rw [List.length_reverse]; exact hz)
      exact ⟨.ref _, _, J, rfl, (k.ext e1).newT sm1 r1.reverse h1 _ _ tob_nd hn⟩
  · cases r1 with
    | lst g1 r1 =>
      cases rv
      exact lst (sm1.im _ _ g1) r1 h1 rfl
  · cases r1
    rename_i a
    split at h1
    · rename_i xs e0
      obtain ⟨ws, ha, r⟩ := st_lst sm1 e0
      cases rv
      exact lst ha r h1 rfl
    · exact h1.elim
  · exact h1.elim
end

/-! ### dict displays -/
def dPairs : List (DE × DE) → Env' → Sto → (List (D × D) → Sto → Prop) → Prop
  | [], _, S, Q => Q [] S
  | (k, v) :: r, env, S, Q => k env S fun a S1 => v env S1 fun b S2 => dPairs r env S2 fun l S3 => Q ((a, b) :: l) S3
def keysOf : List (D × D) → Option (List (Key × D))
  | [] => some []
  | (a, b) :: r => match keyOf a, keysOf r with
    | some k, some l => some ((k, b) :: l)
    | _, _ => none
def dmerge (kvs more : List (Key × D)) : List (Key × D) := more.foldl (fun acc kv => dput acc kv.1 kv.2) kvs
def dDisp (ps : List (DE × DE)) : DE := fun env S Q => dPairs ps env S fun l S1 => match keysOf l with
  | some kvs => kvs.length ≤ 15 ∧ ∀ p, S1 p = none → Q (.ref p) (su S1 p (.dK (dmerge [] kvs)))
  | none => False
section
variable {X : Cx} {wi : Wi} {pos : Pos}
inductive RPs (K : PySem.W.Frag) (I : Hp) : List (D × D) → List (V × V) → Prop
  | nil : RPs K I [] []
  | cons {a b : D} {u v : V} {l : List (D × D)} {m : List (V × V)} : RD K I a u → RD K I b v → RPs K I l m → RPs K I ((a, b) :: l) ((u, v) :: m)
theorem RPs.keys {K : PySem.W.Frag} {I : Hp} : ∀ {l : List (D × D)} {m : List (V × V)} {kvs : List (Key × D)}, RPs K I l m → keysOf l = some kvs → ∃ us, m = us.map (fun kv => (kV kv.1, kv.2)) ∧ RKV K I kvs us
  | _, _, _, .nil, h => by cases h; exact ⟨[], rfl, .nil⟩
  | _, _, kvs, .cons ra rb t, h => by
    unfold keysOf at h
    split at h
    · rename_i k l e1 e2
      cases h
      obtain ⟨us, e3, r⟩ := RPs.keys t e2
      have e4 := ra.key e1
      subst e3 e4
      exact ⟨(k, _) :: us, rfl, .cons ⟨rfl, rb⟩ r⟩
    · cases h
theorem RKV.merge {K : PySem.W.Frag} {I : Hp} : ∀ {more : List (Key × D)} {rs : List (Key × V)} {kvs : List (Key × D)} {vs : List (Key × V)}, RKV K I more rs → RKV K I kvs vs → RKV K I (dmerge kvs more) (mergeK vs rs)
  | _, _, _, _, .nil, q => q
  | _, _, _, _, .cons (a := p) (b := q') h t, q => by
    show RKV K I (dmerge (dput _ p.1 p.2) _) (mergeK (putK _ q'.1 q'.2) _)
    rw [← h.1]
    exact RKV.merge t (RKV.put h.2 p.1 q)
abbrev MPs (X : Cx) (wi : Wi) (pos : Pos) (keys : List (Option Expr)) (values : List Expr) (ps : List (DE × DE)) : Prop := PPs X pos keys values (ps.map fun p => (lift X.K wi p.1, lift X.K wi p.2))
theorem mP0 : MPs X wi pos [] [] [] := pps_nil
theorem mPC {k v : Expr} {ks : List (Option Expr)} {vs : List Expr} {tk tv : DE} {ps : List (DE × DE)} (hk : ME X wi k tk) (hv : ME X wi v tv) (hr : MPs X wi pos ks vs ps) : MPs X wi pos (some k :: ks) (v :: vs) ((tk, tv) :: ps) := pps_cons hk hv hr
/-- the pairs' readings, from one state on -/
theorem lift_pairs {K : PySem.W.Frag} {σ : L2.St} {env : Env'} : ∀ {ps : List (DE × DE)} {I H : Hp} {S : Sto} {Q : List (D × D) → Sto → Prop} {Q' : List (V × V) → Hp → Prop}, Sim K wi I S H → ER K I env σ → dPairs ps env S Q →
    (∀ I' l m S' H', Ext I S H I' S' H' → Sim K wi I' S' H' → RPs K I' l m → Q l S' → Q' m H') → tPairs (ps.map fun p => (lift K wi p.1, lift K wi p.2)) σ H Q'
  | [], I, H, S, Q, Q', sim, er, h, k => k I [] [] S H .refl sim .nil h
  | p :: ps, I, H, S, Q, Q', sim, er, h, k => by
    refine ⟨I, env, S, _, sim, er, h, fun I1 a u S1 H1 e1 s1 r1 h1 => ?_⟩
    refine ⟨I1, env, S1, _, s1, er.le e1.le, h1, fun I2 b v S2 H2 e2 s2 r2 h2 => ?_⟩
    exact lift_pairs s2 ((er.le e1.le).le e2.le) h2 fun I3 l m S3 H3 e3 s3 r3 h3 => k I3 _ _ S3 H3 ((e1.trans e2).trans e3) s3 (.cons ((r1.le e2.le).le e3.le) (r2.le e3.le) r3) h3
theorem mDisp {keys : List (Option Expr)} {values : List Expr} {ps : List (DE × DE)} (h : MPs X wi pos keys values ps) (hall : keys.all (·.isSome) = true := by rfl) (hl : keys.length = values.length := by rfl) (h0 : keys ≠ [] := by exact fun z => nomatch z)
    (h15 : keys.length ≤ 15 := by decide) : ME X wi (.Dict keys values pos) (dDisp ps) := PE.of (pe_disp h hall hl h0 h15) fun σ H Q' h => by
  obtain ⟨I, env, S, Q, sim, er, h, k⟩ := h
  intro L hL
  have hI : I L = none := sim.free hL
  have hS : S L = none := by
    cases q : S L with
    | none => rfl
    | some u =>
      obtain ⟨_, v, _, hv⟩ := sim.st L u q
      rw [hL] at hv; cases hv
  have e0 : Ext I S H I S (upd H L (.dK [])) := ⟨.refl, fun a o q z => ⟨by rw [upd_ne (ne_of_none q hL)]; exact q, z, rfl⟩⟩
  have s0 : Sim X.K wi I S (upd H L (.dK [])) := ⟨⟨fun a o q => by rw [upd_ne (ne_of_none q hI)]; exact sim.im a o q, fun a o q => by
    obtain ⟨z1, u, z2, z3⟩ := sim.st a o q
    exact ⟨z1, u, z2, by rw [upd_ne (ne_of_none z3 hL)]; exact z3⟩⟩, sim.kx.ext e0⟩
  refine lift_pairs s0 er h fun I1 l m S1 H1 e1 s1 r1 h1 => ?_
  obtain ⟨hL1, hS1, hI1⟩ := e1.fr L _ upd_same hS
  refine ⟨hL1, ?_⟩
  split at h1
  · rename_i kvs ek
    obtain ⟨us, em, rk⟩ := r1.keys ek
    refine ⟨us, em, by rw [← rk.length]; exact h1.1, ?_⟩
    have ex : Ext I S H I1 (su S1 L (.dK (dmerge [] kvs))) (upd H1 L (.dK (mergeK [] us))) := ⟨e1.le, fun a o q z => by
      have ha : a ≠ L := ne_of_none q hL
      obtain ⟨y1, y2, y3⟩ := e1.fr a o (by rw [upd_ne ha]; exact q) z
      exact ⟨by rw [upd_ne ha]; exact y1, by rw [su_ne ha]; exact y2, y3⟩⟩
    refine k I1 (.ref L) (.ref L) _ _ ex ⟨⟨fun a o q => ?_, fun a o q => ?_⟩, sim.kx.ext ex⟩ (.ref L) (h1.2 L hS1)
    · rw [upd_ne (ne_of_none q (by rw [hI1]; exact hI))]; exact s1.im a o q
    · by_cases ha : a = L
      · subst ha
        rw [su_same] at q; cases q
        exact ⟨by rw [hI1]; exact hI, .dK (mergeK [] us), (show RKV X.K I1 _ _ from RKV.merge rk .nil), upd_same⟩
      · rw [su_ne ha] at q
        obtain ⟨z1, u, z2, z3⟩ := s1.st a o q
        exact ⟨z1, u, z2, by rw [upd_ne ha]; exact z3⟩
  · exact h1.elim
end
end DL


set_option Elab.async false
set_option linter.all false
set_option maxRecDepth 100000
set_option maxHeartbeats 4000000
namespace DL
open PySem PySem.Spec PyProof.Rows L2
/-! ### a op b op c -/
def dChain (f f' : D → D → Sto → DK → Prop) (ta tb tc : DE) : DE := fun env S Q => ta env S fun x S1 => tb env S1 fun y S2 => f x y S2 fun z S3 => match z with
  | .bl k => if k = true then tc env S3 fun w S4 => f' y w S4 Q else Q (.bl false) S3
  | _ => False
section
variable {X : Cx} {wi : Wi} {a b c e : Expr} {ta tb tc : DE} {pos : Pos}
theorem lift_chain {K : PySem.W.Frag} {f f' : D → D → Sto → DK → Prop} {σ : L2.St} {H : Hp} {Q' : VK} (h : lift K wi (dChain f f' ta tb tc) σ H Q') : tChain (rOf K wi f) (rOf K wi f') (lift K wi ta) (lift K wi tb) (lift K wi tc) σ H Q' := by
  obtain ⟨I, env, S, Q, sim, er, h, k⟩ := h
  refine ⟨I, env, S, _, sim, er, h, fun I1 x v S1 H1 e1 s1 r1 h1 => ?_⟩
  refine ⟨I1, env, S1, _, s1, er.le e1.le, h1, fun I2 y u S2 H2 e2 s2 r2 h2 => ?_⟩
  refine ⟨I2, S2, x, y, _, s2, r1.le e2.le, r2, h2, fun I3 z t S3 H3 e3 s3 r3 h3 => ?_⟩
  cases z <;> try exact h3.elim
  rename_i d
  cases r3
  refine ⟨d, rfl, ?_⟩
  cases d
  · exact k I3 _ _ S3 H3 ((e1.trans e2).trans e3) s3 (.bl false) h3
  · exact ⟨I3, env, S3, _, s3, ((er.le e1.le).le e2.le).le e3.le, h3, fun I4 w t4 S4 H4 e4 s4 r4 h4 => ⟨I4, S4, y, w, Q, s4, (r2.le e3.le).le e4.le, r4, h4, k.ext (((e1.trans e2).trans e3).trans e4)⟩⟩
theorem mChain {op op' : CmpOp} {f f' : D → D → Sto → DK → Prop} (ho : OpM X wi (compareOp op) f) (ho' : OpM X wi (compareOp op') f') (ha : ME X wi a ta) (hb : ME X wi b tb) (hc : ME X wi c tc)
    (hm : lastMarks [op, op'] [b, c] = false := by with_unfolding_all rfl) : ME X wi (.Compare a [op, op'] [b, c] pos) (dChain f f' ta tb tc) := PE.of (pe_chain ho ho' ha hb hc hm) fun _ _ _ => lift_chain
theorem mChainT {op op' : CmpOp} {f f' : D → D → Sto → DK → Prop} (ho : OpM X wi (compareOp op) f) (ho' : OpM X wi (compareOp op') f') (ha : ME X wi a ta) (hb : ME X wi b tb) (hc : ME X wi c tc)
    (hm : lastMarks [op, op'] [b, c] = false := by with_unfolding_all rfl) : MT X wi (.Compare a [op, op'] [b, c] pos) (dTst (dChain f f' ta tb tc)) := by
  refine PT.of (pt_chain ho ho' ha hb hc hm) fun σ H Q h => ?_
  obtain ⟨I, env, S, Qd, sim, er, h, k⟩ := lift_tst h
  exact lift_chain ⟨I, env, S, Qd, sim, er, h, k⟩
/-! ### any value as a test -/
def truOf (S : Sto) : D → Option Bool
  | .non => some false
  | .bl b => some b
  | .int i => some (i != 0)
  | .tup xs => some (!xs.isEmpty)
  | .lst xs => some (!xs.isEmpty)
  | .ref a => (match S a with
    | some (.lst xs) => some (!xs.isEmpty)
    | _ => none)
  | _ => none
def dTru (t : DE) : DT := fun env S Q => t env S fun w S1 => match truOf S1 w with
  | some b => Q b S1
  | none => False
theorem RDs.isEmpty {K : PySem.W.Frag} {I : Hp} {xs : List D} {vs : List V} (r : RDs K I xs vs) : xs.isEmpty = vs.isEmpty := by cases r <;> rfl
theorem mTru {t : DE} (h : ME X wi e t) (he : ∀ whole, isTrue e X.env whole = (do let v ← whole; standAt e.pos; holding [v] (truthy v)) := by intro _; rfl) : MT X wi e (dTru t) := by
  refine PT.of (pt_truth h he) fun σ H Q' h => ?_
  obtain ⟨I, env, S, Q, sim, er, h, k⟩ := h
  refine ⟨I, env, S, _, sim, er, h, fun I1 w v S1 H1 e1 s1 r1 h1 => ?_⟩
  split at h1
  · rename_i b eb
    refine ⟨b, ?_, k I1 b S1 H1 e1 s1 h1⟩
    cases r1 with
    | non => cases eb; rfl
    | bl b => cases eb; rfl
    | int i => cases eb; rfl
    | str x => cases eb
    | tup g r => cases eb; exact .inr (.inl ⟨_, SqT.le s1.im g.sq, by rw [r.isEmpty]⟩)
    | lst g r => cases eb; exact .inl ⟨_, SqL.of (s1.im _ _ g), by rw [r.isEmpty]⟩
    | scr g r => cases eb
    | val v => cases eb
    | ref a =>
      have eb' : (match S1 a with | some (.lst xs) => some (!xs.isEmpty) | _ => none) = some b := eb
      split at eb'
      · rename_i xs e0
        cases eb'
        obtain ⟨vs, ha, r⟩ := st_lst s1 e0
        exact .inl ⟨_, SqL.of ha, by rw [r.isEmpty]⟩
      · cases eb'
  · exact h1.elim
end
end DL


set_option Elab.async false
set_option linter.all false
set_option maxRecDepth 100000
set_option maxHeartbeats 4000000
namespace DL
open PySem PySem.Spec PyProof.Rows L2
theorem hu65_of {A : Around} {k : Nat} (h : Room k A) : A.units + 65 < cLine := by have := h.un; omega
/-! ### constants of the module -/
mutual
def vD (K : PySem.W.Frag) : D → Value → Bool
  | .non, u => match u with | .none => true | _ => false
  | .bl b, u => match u with | .bool c => b == c | _ => false
  | .int i, u => match u with | .int j _ => decide (i = j) | _ => false
  | .str x, u => match u with | .str y _ => decide (x = y) | _ => false
  | .tup xs, u => match u with
    | .ref a => match List.lookup a K with
      | some ⟨.type c, none, .seq its _, _⟩ => decide (c = "tuple") && (decide (its.size ≤ sizeLine) && vDs K xs its.toList)
      | _ => false
    | _ => false
  | .scr xs, u => match u with
    | .ref a => match List.lookup a K with
      | some ⟨.type c, none, .seq its _, _⟩ => decide (c = "list") && (decide (its.size ≤ sizeLine) && vDs K xs its.toList)
      | _ => false
    | _ => false
  | .lst _, _ => false
  | .ref a, u => match u with | .ref b => decide (a = b) | _ => false
  | .val v, u => He.relB v u
def vDs (K : PySem.W.Frag) : List D → List Value → Bool
  | [], us => us.isEmpty
  | x :: xs, us => match us with | u :: us => vD K x u && vDs K xs us | [] => false
end
mutual
theorem vD_ok {K : PySem.W.Frag} : ∀ (w : D) (u : Value), vD K w u = true → ∃ v, RelV v u ∧ ∀ I, RD K I w v
  | .non, u, h => by
    unfold vD at h
    split at h
    · exact ⟨.non, rfl, fun _ => .non⟩
    · cases h
  | .bl b, u, h => by
    unfold vD at h
    split at h
    · exact ⟨.bl b, by cases (beq_iff_eq.1 h); rfl, fun _ => .bl b⟩
    · cases h
  | .int i, u, h => by
    unfold vD at h
    split at h
    · exact ⟨.int i, by cases (of_decide_eq_true h); exact ⟨_, rfl⟩, fun _ => .int i⟩
    · cases h
  | .str x, u, h => by
    unfold vD at h
    split at h
    · exact ⟨.str x, by cases (of_decide_eq_true h); exact ⟨_, rfl⟩, fun _ => .str x⟩
    · cases h
  | .tup xs, u, h => by
    unfold vD at h
    split at h
    · rename_i a
      split at h
      · rename_i c its ep sl e
        rw [Bool.and_eq_true, Bool.and_eq_true] at h
        obtain ⟨h1, h2, h3⟩ := h
        obtain ⟨vs, rv, hr⟩ := vDs_ok xs its.toList h3
        refine ⟨.ref a, rfl, fun I => .tup (vs := vs) ⟨?_, .inr ⟨_, e, rfl⟩⟩ (hr I)⟩
        cases (of_decide_eq_true h1)
        exact .inr ⟨_, its, ep, e, rfl, rfl, of_decide_eq_true h2, rv⟩
      · cases h
    · cases h
  | .scr xs, u, h => by
    unfold vD at h
    split at h
    · rename_i a
      split at h
      · rename_i c its ep sl e
        rw [Bool.and_eq_true, Bool.and_eq_true] at h
        obtain ⟨h1, h2, h3⟩ := h
        obtain ⟨vs, rv, hr⟩ := vDs_ok xs its.toList h3
        refine ⟨.ref a, rfl, fun I => .scr (vs := vs) ?_ (hr I)⟩
        cases (of_decide_eq_true h1)
        exact .inr ⟨_, its, ep, e, rfl, rfl, rfl, of_decide_eq_true h2, rv⟩
      · cases h
    · cases h
  | .lst _, u, h => by unfold vD at h; cases h
  | .ref a, u, h => by
    unfold vD at h
    split at h
    · exact ⟨.ref a, by cases (of_decide_eq_true h); rfl, fun _ => .ref a⟩
    · cases h
  | .val v, u, h => by
    unfold vD at h
    exact ⟨v, He.relB_ok h, fun _ => .val v⟩
theorem vDs_ok {K : PySem.W.Frag} : ∀ (ws : List D) (us : List Value), vDs K ws us = true → ∃ vs, Vals vs us ∧ ∀ I, RDs K I ws vs
  | [], us, h => by
    unfold vDs at h
    cases us with
    | nil => exact ⟨[], .nil, fun _ => .nil⟩
    | cons _ _ => cases h
  | x :: xs, us, h => by
    unfold vDs at h
    cases us with
    | nil => cases h
    | cons u us =>
      rw [Bool.and_eq_true] at h
      obtain ⟨v, rv, hv⟩ := vD_ok x u h.1
      obtain ⟨vs, rvs, hvs⟩ := vDs_ok xs us h.2
      exact ⟨v :: vs, .cons rv rvs, fun I => .cons (hv I) (hvs I)⟩
end
/-- a name of the module that holds a constant -/
def cD (K : PySem.W.Frag) (x : Str) (w : D) : Bool := match PySem.W.nsIn K mainGlobals x with
  | some (some u) => vD K w u
  | _ => false
theorem gc_of {K : PySem.W.Frag} {h : Heap} {mg : Str → Option Value} {x : Str} {w : D} (X : K.In h) (G : h.Ns mainGlobals mg) (c : cD K x w = true) : GC K mg x w := by
  unfold cD at c
  split at c
  · rename_i u e
    obtain ⟨v, rv, hv⟩ := vD_ok w u c
    exact ⟨v, u, PySem.W.mg_of X G e, rv, hv⟩
  · cases c
/-- the head's hook with facts of one's own -/
def hookX (n : Nat) (fa : List He.Fa) (fn : List He.DefD) (xt : PySem.W.Frag → Bool) : PySem.W.Hook where
  α := He.AlD × Bool
  obs := fun s => (He.obsDG n fa fn s.heap.get?, xt (He.frG s.heap.get? (He.asD s.heap.get? n)))
  val := fun _ => (He.valD fn, true)
  says := fun _ h => ∃ K, K.In h ∧ He.SaysD fa fn K ∧ xt K = true
  of := fun w s e => ⟨He.frG s.heap.get? (He.asD s.heap.get? n), He.frG_in, congrArg Prod.fst e, congrArg Prod.snd e⟩
  keeps := fun w h h' ⟨K, i, c⟩ hk => ⟨K, fun b o e => hk b o (i b o e), c⟩
def obX (n : Nat) (fa : List He.Fa) (fn : List He.DefD) (xt : PySem.W.Frag → Bool) (s : PySem.W.SharedT) : He.AlD × Bool :=
  (He.obsDG n fa fn (HandSHeadRun.getT s), xt (He.frG (HandSHeadRun.getT s) (He.asD (HandSHeadRun.getT s) n)))
theorem obX_eq {n : Nat} {fa : List He.Fa} {fn : List He.DefD} {xt : PySem.W.Frag → Bool} (s : PySem.W.SharedT) : obX n fa fn xt s = (hookX n fa fn xt).obs s.abs := by
  have e : HandSHeadRun.getT s = s.abs.heap.get? := funext (HandSHeadRun.getT_eq s)
  unfold obX
  rw [e]
  rfl
end DL


set_option Elab.async false
set_option linter.all false
set_option maxRecDepth 100000
set_option maxHeartbeats 4000000
set_option exponentiation.threshold 4000
namespace DL
open PySem PySem.Spec PyProof.Rows L2
/-! ### plain things: their leaves' sizes, how deep, how much -/
mutual
def okD (m : Nat) : D → Bool
  | .non | .bl _ => true
  | .int i => decide (i.natAbs ≤ m)
  | .str x => PyData.strOk x
  | .tup xs | .lst xs => oksD m xs
  | .scr _ | .ref _ | .val _ => false
def oksD (m : Nat) : List D → Bool
  | [] => true
  | x :: xs => okD m x && oksD m xs
end
mutual
def bk : D → Nat
  | .str x => x.length
  | .tup xs | .lst xs => bks xs
  | _ => 0
def bks : List D → Nat
  | [] => 0
  | x :: xs => bk x + 1 + bks xs
end
theorem oksD_iff {m : Nat} : ∀ {xs : List D}, oksD m xs = true ↔ ∀ x ∈ xs, okD m x = true
  | [] => by simp [oksD]
  | x :: xs => by simp [oksD, oksD_iff (xs := xs)]
theorem deps_iff {d : Nat} : ∀ {xs : List D}, deps xs ≤ d ↔ ∀ x ∈ xs, dep x ≤ d
  | [] => by simp [deps]
  | x :: xs => by simp [deps, Nat.max_le, deps_iff (xs := xs)]
theorem purs_iff : ∀ {xs : List D}, purs xs = true ↔ ∀ x ∈ xs, pur x = true
  | [] => by simp [purs]
  | x :: xs => by simp [purs, purs_iff (xs := xs)]
theorem bks_append : ∀ xs ys : List D, bks (xs ++ ys) = bks xs + bks ys
  | [], ys => by simp [bks]
  | x :: xs, ys => by simp [bks, bks_append xs ys]; omega
theorem bks_sub {xs ys : List D} (h : List.Sublist xs ys) : bks xs ≤ bks ys := by
  induction h with
  | slnil => exact Nat.le_refl _
  | cons a _ ih => simp only [bks]; omega
  | cons_cons a _ ih => simp only [bks]; omega
theorem bks_rev : ∀ xs : List D, bks xs.reverse = bks xs
  | [] => rfl
  | x :: xs => by simp [bks, bks_append, bks_rev xs]; omega
theorem bk_mem {x : D} : ∀ {xs : List D}, x ∈ xs → bk x + 1 ≤ bks xs
  | [], h => nomatch h
  | y :: ys, h => by
    simp only [bks]
    rcases List.mem_cons.1 h with rfl | h
    · omega
    · have := bk_mem h; omega
theorem len_bks : ∀ xs : List D, xs.length ≤ bks xs
  | [] => Nat.le_refl _
  | x :: xs => by simp only [List.length_cons, bks]; have := len_bks xs; omega
/-- a plain thing: ints to m, d deep, b much -/
structure Gd (m d b : Nat) (x : D) : Prop where
  ok : okD m x = true
  dp : dep x ≤ d
  bk' : bk x ≤ b
structure Gds (m d b : Nat) (xs : List D) : Prop where
  ok : ∀ x ∈ xs, okD m x = true
  dp : ∀ x ∈ xs, dep x ≤ d
  bk' : bks xs ≤ b
mutual
theorem okD_le {m m' : Nat} (hm : m ≤ m') : ∀ {x : D}, okD m x = true → okD m' x = true
  | .non, _ => rfl
  | .bl _, _ => rfl
  | .int i, h => by simp only [okD, decide_eq_true_eq] at *; omega
  | .str _, h => h
  | .tup xs, h => by simp only [okD] at *; exact oksD_le hm h
  | .lst xs, h => by simp only [okD] at *; exact oksD_le hm h
theorem oksD_le {m m' : Nat} (hm : m ≤ m') : ∀ {xs : List D}, oksD m xs = true → oksD m' xs = true
  | [], _ => rfl
  | x :: xs, h => by
    simp only [oksD, Bool.and_eq_true] at *
    exact ⟨okD_le hm h.1, oksD_le hm h.2⟩
end
theorem Gd.le {m d b m' d' b' : Nat} {x : D} (h : Gd m d b x) (hm : m ≤ m') (hd : d ≤ d') (hb : b ≤ b') : Gd m' d' b' x := ⟨okD_le hm h.ok, Nat.le_trans h.dp hd, Nat.le_trans h.bk' hb⟩
theorem Gds.le {m d b m' d' b' : Nat} {x : List D} (h : Gds m d b x) (hm : m ≤ m') (hd : d ≤ d') (hb : b ≤ b') : Gds m' d' b' x := ⟨fun x hx => okD_le hm (h.ok x hx), fun x hx => Nat.le_trans (h.dp x hx) hd, Nat.le_trans h.bk' hb⟩
theorem gd_tup {m d b : Nat} {xs : List D} : Gd m (d + 1) b (.tup xs) ↔ Gds m d b xs := by
  constructor
  · intro h
    have h1 := h.ok; have h2 := h.dp; have h3 := h.bk'
    simp only [okD, dep, bk] at h1 h2 h3
    exact ⟨oksD_iff.1 h1, deps_iff.1 (by omega), h3⟩
  · intro h
    refine ⟨?_, ?_, ?_⟩
    · simp only [okD]; exact oksD_iff.2 h.ok
    · simp only [dep]; have := deps_iff.2 h.dp; omega
    · simp only [bk]; exact h.bk'
theorem gd_lst {m d b : Nat} {xs : List D} : Gd m (d + 1) b (.lst xs) ↔ Gds m d b xs := by
  constructor
  · intro h
    have h1 := h.ok; have h2 := h.dp; have h3 := h.bk'
    simp only [okD, dep, bk] at h1 h2 h3
    exact ⟨oksD_iff.1 h1, deps_iff.1 (by omega), h3⟩
  · intro h
    refine ⟨?_, ?_, ?_⟩
    · simp only [okD]; exact oksD_iff.2 h.ok
    · simp only [dep]; have := deps_iff.2 h.dp; omega
    · simp only [bk]; exact h.bk'
theorem Gd.dpos {m d b : Nat} {xs : List D} (h : Gd m d b (.tup xs)) : ∃ e, d = e + 1 := by
  have h2 := h.dp
  simp only [dep] at h2
  exact ⟨d - 1, by omega⟩
theorem gds_nil {m d b : Nat} : Gds m d b [] := ⟨fun _ h => (nomatch h), fun _ h => (nomatch h), Nat.zero_le _⟩
theorem Gds.cons {m d b c : Nat} {x : D} {xs : List D} (h : Gd m d b x) (hs : Gds m d c xs) : Gds m d (b + 1 + c) (x :: xs) := by
  refine ⟨fun y hy => ?_, fun y hy => ?_, ?_⟩
  · rcases List.mem_cons.1 hy with rfl | hy
    · exact h.ok
    · exact hs.ok y hy
  · rcases List.mem_cons.1 hy with rfl | hy
    · exact h.dp
    · exact hs.dp y hy
  · simp only [bks]; have := h.bk'; have := hs.bk'; omega
theorem Gds.append {m d b c : Nat} {xs ys : List D} (h : Gds m d b xs) (hs : Gds m d c ys) : Gds m d (b + c) (xs ++ ys) := by
  refine ⟨fun y hy => ?_, fun y hy => ?_, ?_⟩
  · rcases List.mem_append.1 hy with hy | hy
    · exact h.ok y hy
    · exact hs.ok y hy
  · rcases List.mem_append.1 hy with hy | hy
    · exact h.dp y hy
    · exact hs.dp y hy
  · rw [bks_append]; have := h.bk'; have := hs.bk'; omega
theorem Gds.sub {m d b : Nat} {xs ys : List D} (h : Gds m d b ys) (hs : List.Sublist xs ys) : Gds m d b xs :=
  ⟨fun y hy => h.ok y (hs.subset hy), fun y hy => h.dp y (hs.subset hy), Nat.le_trans (bks_sub hs) h.bk'⟩
theorem Gds.rev {m d b : Nat} {xs : List D} (h : Gds m d b xs) : Gds m d b xs.reverse :=
  ⟨fun y hy => h.ok y (List.mem_reverse.1 hy), fun y hy => h.dp y (List.mem_reverse.1 hy), by rw [bks_rev]; exact h.bk'⟩
theorem Gds.mem {m d b : Nat} {xs : List D} {x : D} (h : Gds m d b xs) (hx : x ∈ xs) : Gd m d b x := ⟨h.ok x hx, h.dp x hx, by have := bk_mem hx; have := h.bk'; omega⟩
theorem Gds.len {m d b : Nat} {xs : List D} (h : Gds m d b xs) : xs.length ≤ b := Nat.le_trans (len_bks xs) h.bk'
theorem gd_non {m d b : Nat} : Gd m d b .non := ⟨rfl, Nat.zero_le _, Nat.zero_le _⟩
theorem gd_bl {m d b : Nat} {k : Bool} : Gd m d b (.bl k) := ⟨rfl, Nat.zero_le _, Nat.zero_le _⟩
theorem gd_int {m d b : Nat} {i : Int} (h : i.natAbs ≤ m) : Gd m d b (.int i) := ⟨by simp only [okD, decide_eq_true_eq]; exact h, Nat.zero_le _, Nat.zero_le _⟩
theorem gd_str {m d b : Nat} {z : Str} (h : PyData.strOk z = true) (hl : z.length ≤ b) : Gd m d b (.str z) := ⟨h, Nat.zero_le _, hl⟩
/-- a closed thing -/
theorem gd_by {m d b : Nat} {x : D} (h : (okD m x && decide (dep x ≤ d) && decide (bk x ≤ b)) = true) : Gd m d b x := by
  rw [Bool.and_eq_true, Bool.and_eq_true] at h
  exact ⟨h.1.1, of_decide_eq_true h.1.2, of_decide_eq_true h.2⟩
mutual
theorem okD_pur {m : Nat} : ∀ {x : D}, okD m x = true → pur x = true
  | .non, _ => rfl
  | .bl _, _ => rfl
  | .int i, h => rfl
  | .str _, h => h
  | .tup xs, h => by simp only [okD, pur] at *; exact oksD_purs h
  | .lst xs, h => by simp only [okD, pur] at *; exact oksD_purs h
theorem oksD_purs {m : Nat} : ∀ {xs : List D}, oksD m xs = true → purs xs = true
  | [], _ => rfl
  | x :: xs, h => by
    simp only [oksD, purs, Bool.and_eq_true] at *
    exact ⟨okD_pur h.1, oksD_purs h.2⟩
end
mutual
theorem okD_rd {m : Nat} {S : Sto} : ∀ {x : D}, okD m x = true → rd S x = x
  | .non, _ => rfl
  | .bl _, _ => rfl
  | .int i, h => rfl
  | .str _, h => rfl
  | .tup xs, h => by simp only [okD, rd] at *; rw [oksD_rds h]
  | .lst xs, h => rfl
theorem oksD_rds {m : Nat} {S : Sto} : ∀ {xs : List D}, oksD m xs = true → rds S xs = xs
  | [], _ => rfl
  | x :: xs, h => by
    simp only [oksD, rds, Bool.and_eq_true] at *
    rw [okD_rd h.1, oksD_rds h.2]
end
theorem log2_of_pow {a : Nat} (h : a < 10 ^ 570) : a.log2 < 1920 := by
  by_cases ha : a = 0
  · subst ha; decide
  · exact (Nat.log2_lt ha).2 (Nat.lt_of_lt_of_le h (by decide +kernel))
mutual
theorem okD_shb {m : Nat} (hm : m < 10 ^ 570) : ∀ {x : D}, okD m x = true → (toPy x).showable = true ∧ PyData.leavesShort 571 (toPy x) = true
  | .non, _ => ⟨rfl, rfl⟩
  | .bl _, _ => ⟨rfl, rfl⟩
  | .int i, h => by
    simp only [okD, decide_eq_true_eq] at h
    refine ⟨?_, ?_⟩
    · simp only [toPy, PyData.showable, decide_eq_true_eq]; exact log2_of_pow (Nat.lt_of_le_of_lt h hm)
    · simp only [toPy, PyData.leavesShort, decide_eq_true_eq, PyData.shown, PySem.ofString_length]
      exact int_text_length_le10 (k := 570) (by decide) (Nat.lt_of_le_of_lt h hm)
  | .str z, h => by
    refine ⟨rfl, ?_⟩
    simp only [toPy, PyData.leavesShort, List.all_eq_true, decide_eq_true_eq]
    simp only [okD, PyData.strOk] at h
    intro c hc
    have := (Array.all_eq_true_iff_forall_mem.1 h) c (by simpa using hc)
    have := of_decide_eq_true this
    omega
  | .tup xs, h => by simp only [okD, toPy, PyData.showable, PyData.leavesShort] at *; exact oksD_shb hm h
  | .lst xs, h => by simp only [okD, toPy, PyData.showable, PyData.leavesShort] at *; exact oksD_shb hm h
theorem oksD_shb {m : Nat} (hm : m < 10 ^ 570) : ∀ {xs : List D}, oksD m xs = true → PyData.showableAll (toPys xs) = true ∧ PyData.leavesShortAll 571 (toPys xs) = true
  | [], _ => ⟨rfl, rfl⟩
  | x :: xs, h => by
    simp only [oksD, Bool.and_eq_true] at h
    have h1 := okD_shb hm h.1
    have h2 := oksD_shb hm h.2
    simp only [toPys, PyData.showableAll, PyData.leavesShortAll, Bool.and_eq_true]
    exact ⟨⟨h1.1, h2.1⟩, ⟨h1.2, h2.2⟩⟩
end
mutual
theorem bulk_bk {m : Nat} : ∀ {x : D}, okD m x = true → (toPy x).bulk = bk x
  | .non, _ => rfl
  | .bl _, _ => rfl
  | .int i, h => rfl
  | .str z, h => rfl
  | .tup xs, h => by simp only [okD, toPy, PyData.bulk, bk] at *; exact bulk_bks h
  | .lst xs, h => by simp only [okD, toPy, PyData.bulk, bk] at *; exact bulk_bks h
theorem bulk_bks {m : Nat} : ∀ {xs : List D}, oksD m xs = true → PyData.bulkAll (toPys xs) = bks xs
  | [], _ => rfl
  | x :: xs, h => by
    simp only [oksD, Bool.and_eq_true] at h
    simp only [toPys, PyData.bulkAll, bks]
    rw [bulk_bk h.1, bulk_bks h.2]
end
theorem Gd.shp {m d b : Nat} {x : D} (h : Gd m d b x) (hd : d ≤ 64) : shp x = true := by
  unfold DL.shp
  rw [okD_pur h.ok, Bool.true_and, decide_eq_true_eq]
  exact Nat.le_trans h.dp hd
theorem Gd.rd {m d b : Nat} {x : D} (h : Gd m d b x) (S : Sto) : rd S x = x := okD_rd h.ok
/-- what repr asks -/
theorem Gd.repr {m d b : Nat} {x : D} (h : Gd m d b x) (hm : m < 10 ^ 570) (hd : d ≤ 60) (hb : b ≤ 29000) {S : Sto} {Q : DK} (q : Q (.str (shown x)) S) : gRepr [x] S Q := by
  have e := h.rd S
  show ((pur (DL.rd S x) = true ∧ dep (DL.rd S x) ≤ 60) ∧ shb (DL.rd S x) = true ∧ (shown (DL.rd S x)).length ≤ sizeLine) ∧ Q (.str (shown (DL.rd S x))) S
  rw [e]
  have hs := okD_shb hm h.ok
  have hl := PyData.shown_le_bulk 571 (by decide) (toPy x) hs.2
  rw [bulk_bk h.ok] at hl
  refine ⟨⟨⟨okD_pur h.ok, Nat.le_trans h.dp hd⟩, hs.1, ?_⟩, q⟩
  have h3 := h.bk'
  show (toPy x).shown.length ≤ 16777216
  omega
theorem Gd.eq {m d b m' d' b' : Nat} {x y : D} (h : Gd m d b x) (h' : Gd m' d' b' y) (hd : d ≤ 64) (hd' : d' ≤ 64) {S : Sto} {Q : DK} (q : Q (.bl (deq x y)) S) : fEq x y S Q := by
  unfold fEq
  rw [h.rd, h'.rd]
  exact ⟨.inr ⟨h.shp hd, h'.shp hd'⟩, q⟩
theorem Gd.ne {m d b m' d' b' : Nat} {x y : D} (h : Gd m d b x) (h' : Gd m' d' b' y) (hd : d ≤ 64) (hd' : d' ≤ 64) {S : Sto} {Q : DK} (q : Q (.bl (!deq x y)) S) : fNe x y S Q := by
  unfold fNe
  rw [h.rd, h'.rd]
  exact ⟨.inr ⟨h.shp hd, h'.shp hd'⟩, q⟩
theorem eq_str {a b : Str} {S : Sto} {Q : DK} (q : Q (.bl (decide (a = b))) S) : fEq (.str a) (.str b) S Q := by
  refine ⟨.inl rfl, ?_⟩
  have e : deq (rd S (.str a)) (rd S (.str b)) = decide (a = b) := by
    show PyData.eqv (.str a) (.str b) = _
    simp only [PyData.eqv]
    by_cases h : a = b <;> simp [h]
  rw [e]; exact q
theorem ne_str {a b : Str} {S : Sto} {Q : DK} (q : Q (.bl (!decide (a = b))) S) : fNe (.str a) (.str b) S Q := by
  refine ⟨.inl rfl, ?_⟩
  have e : deq (rd S (.str a)) (rd S (.str b)) = decide (a = b) := by
    show PyData.eqv (.str a) (.str b) = _
    simp only [PyData.eqv]
    by_cases h : a = b <;> simp [h]
  rw [e]; exact q
/-! ### equality -/
mutual
theorem eqv_self : ∀ x : D, pur x = true → PyData.eqv (toPy x) (toPy x) = true
  | .non, _ => rfl
  | .bl b, _ => by simp [toPy, PyData.eqv]
  | .int b, _ => by simp [toPy, PyData.eqv]
  | .str b, _ => by simp [toPy, PyData.eqv]
  | .tup xs, h => by simp only [toPy, PyData.eqv, pur] at *; exact eqvs_self xs h
  | .lst xs, h => by simp only [toPy, PyData.eqv, pur] at *; exact eqvs_self xs h
  | .scr xs, h => by simp only [toPy, PyData.eqv, pur] at *; exact eqvs_self xs h
theorem eqvs_self : ∀ x : List D, purs x = true → PyData.eqvAll (toPys x) (toPys x) = true
  | [], _ => rfl
  | x :: xs, h => by
    simp only [purs, Bool.and_eq_true] at h
    simp only [toPys, PyData.eqvAll, eqv_self x h.1, eqvs_self xs h.2, Bool.and_self]
end
theorem deq_int {i j : Int} : deq (.int i) (.int j) = decide (i = j) := by
  simp only [deq, toPy, PyData.eqv]; by_cases h : i = j <;> simp [h]
theorem deq_str {i j : Str} : deq (.str i) (.str j) = decide (i = j) := by
  simp only [deq, toPy, PyData.eqv]; by_cases h : i = j <;> simp [h]
theorem deq_lst0 {xs : List D} : deq (.lst xs) (.lst []) = xs.isEmpty := by
  cases xs <;> simp [deq, toPy, toPys, PyData.eqv, PyData.eqvAll]
theorem deq_tup0 {xs : List D} : deq (.tup xs) (.tup []) = xs.isEmpty := by
  cases xs <;> simp [deq, toPy, toPys, PyData.eqv, PyData.eqvAll]
/-! ### places -/
theorem atI_lt {α : Type} {xs : List α} {i : Int} (h0 : 0 ≤ i) (h : i < xs.length) : ∃ x, xs[i.toNat]? = some x ∧ atI xs i = some x := by
  have hl : i.toNat < xs.length := by omega
  refine ⟨xs[i.toNat], List.getElem?_eq_getElem hl, ?_⟩
  unfold L2.atI L2.ixN
  rw [if_pos h0, if_pos h]
  exact List.getElem?_eq_getElem hl
/-- a place of a list or tuple of data: whatever stands there -/
theorem ix_lst {xs : List D} {i : Int} {S : Sto} {Q : DK} (h0 : 0 ≤ i) (h : i < xs.length) (q : ∀ x ∈ xs, Q x S) : fIx (.lst xs) (.int i) S Q := by
  obtain ⟨x, e, ea⟩ := atI_lt h0 h
  show qOpt (L2.atI xs i) S Q
  rw [ea]
  exact q x (List.mem_of_getElem? e)
theorem ix_tup {xs : List D} {i : Int} {S : Sto} {Q : DK} (h0 : 0 ≤ i) (h : i < xs.length) (q : ∀ x ∈ xs, Q x S) : fIx (.tup xs) (.int i) S Q := by
  obtain ⟨x, e, ea⟩ := atI_lt h0 h
  show qOpt (L2.atI xs i) S Q
  rw [ea]
  exact q x (List.mem_of_getElem? e)
theorem ix_str {z : Str} {i : Int} {S : Sto} {Q : DK} (hz : z.length ≤ sizeLine) (h0 : 0 ≤ i) (h : i < z.length) (q : ∀ c ∈ z.cps.toList, Q (.str ⟨#[c]⟩) S) : fIx (.str z) (.int i) S Q := by
  obtain ⟨x, e, ea⟩ := atI_lt (xs := z.cps.toList) h0 (by rw [Array.length_toList]; exact h)
  refine ⟨hz, ?_⟩
  rw [ea]
  exact q x (List.mem_of_getElem? e)
end DL


set_option Elab.async false
set_option linter.all false
set_option maxRecDepth 100000
set_option maxHeartbeats 4000000
namespace DL
open PySem PySem.Spec PyProof.Rows L2
/-! ### the laws' feed of drawn numbers -/
def feedO (cells : List Int) (t l n : Int) : O := .dK [(.inr "cells", .lst (cells.map .int)), (.inr "at", .int t), (.inr "left", .int l), (.inr "count", .int n)]
structure FeedO (o : O) : Prop where
  ex : ∃ cells t l n, o = feedO cells t l n ∧ 0 ≤ t
section
variable {S : Sto} {a : Addr} {c : List Int} {t l n k : Int} {Q : DK} {R : Sto → Prop}
theorem dv_cells : dval [((.inr "cells" : Key), D.lst (c.map .int)), (.inr "at", .int t), (.inr "left", .int l), (.inr "count", .int n)] (.inr "cells") = some (.lst (c.map .int)) := rfl
theorem dv_at : dval [((.inr "cells" : Key), D.lst (c.map .int)), (.inr "at", .int t), (.inr "left", .int l), (.inr "count", .int n)] (.inr "at") = some (.int t) := rfl
theorem dv_left : dval [((.inr "cells" : Key), D.lst (c.map .int)), (.inr "at", .int t), (.inr "left", .int l), (.inr "count", .int n)] (.inr "left") = some (.int l) := rfl
theorem dv_count : dval [((.inr "cells" : Key), D.lst (c.map .int)), (.inr "at", .int t), (.inr "left", .int l), (.inr "count", .int n)] (.inr "count") = some (.int n) := rfl
theorem ix_dK {kvs : List (Key × D)} {z : Str} {w : D} (h : dval kvs (.inr z) = some w) : fIx (.ref a) (.str z) (su S a (.dK kvs)) Q = Q w (su S a (.dK kvs)) := by
  simp only [fIx, su_same, keyOf, h, qOpt]
theorem set_dK {kvs kvs' : List (Key × D)} {z : Str} {w : D} (h : dput kvs (.inr z) w = kvs') (hl : kvs.length < sizeLine) : fSet (.ref a) (.str z) w (su S a (.dK kvs)) R = R (su S a (.dK kvs')) := by
  simp only [fSet, su_same, keyOf, h, su_su, hl, true_and]
theorem fx_cells : fIx (.ref a) (.str "cells") (su S a (feedO c t l n)) Q = Q (.lst (c.map .int)) (su S a (feedO c t l n)) := ix_dK dv_cells
theorem fx_at : fIx (.ref a) (.str "at") (su S a (feedO c t l n)) Q = Q (.int t) (su S a (feedO c t l n)) := ix_dK dv_at
theorem fx_left : fIx (.ref a) (.str "left") (su S a (feedO c t l n)) Q = Q (.int l) (su S a (feedO c t l n)) := ix_dK dv_left
theorem fx_count : fIx (.ref a) (.str "count") (su S a (feedO c t l n)) Q = Q (.int n) (su S a (feedO c t l n)) := ix_dK dv_count
theorem ft_at : fSet (.ref a) (.str "at") (.int k) (su S a (feedO c t l n)) R = R (su S a (feedO c k l n)) := set_dK rfl (show 4 < sizeLine by decide)
theorem ft_left : fSet (.ref a) (.str "left") (.int k) (su S a (feedO c t l n)) R = R (su S a (feedO c t k n)) := set_dK rfl (show 4 < sizeLine by decide)
theorem ft_count : fSet (.ref a) (.str "count") (.int k) (su S a (feedO c t l n)) R = R (su S a (feedO c t l k)) := set_dK rfl (show 4 < sizeLine by decide)
end
theorem fMul_ii {i j : Int} {S : Sto} {Q : DK} : fMul (.int i) (.int j) S Q = (CMul i j ∧ Q (.int (i * j)) S) := rfl
theorem gLen_lst {xs : List D} {S : Sto} {Q : DK} : gLen [.lst xs] S Q = Q (.int xs.length) S := rfl
theorem gLen_tup {xs : List D} {S : Sto} {Q : DK} : gLen [.tup xs] S Q = Q (.int xs.length) S := rfl
theorem gLen_str {z : Str} {S : Sto} {Q : DK} : gLen [.str z] S Q = (z.length ≤ sizeLine ∧ Q (.int z.length) S) := rfl
theorem purs_ints (c : List Int) : purs (c.map .int) = true := purs_iff.2 fun x hx => by
  obtain ⟨i, _, rfl⟩ := List.mem_map.1 hx
  rfl
theorem deps_ints (c : List Int) : deps (c.map .int) = 0 := Nat.le_zero.1 (deps_iff.2 fun x hx => by
  obtain ⟨i, _, rfl⟩ := List.mem_map.1 hx
  exact Nat.le_refl _)
theorem ne_nil_ints {c : List Int} {S : Sto} {Q : DK} : fNe (.lst (c.map .int)) (.lst []) S Q = Q (.bl (!c.isEmpty)) S := by
  have h1 : shp (rd S (.lst (c.map .int))) = true := by
    show (pur (.lst (c.map .int)) && decide (dep (.lst (c.map .int)) ≤ 64)) = true
    rw [show pur (.lst (c.map .int)) = purs (c.map .int) from by simp only [pur], purs_ints]
    rw [show dep (.lst (c.map .int)) = deps (c.map .int) + 1 from by simp only [dep], deps_ints]
    rfl
  have h2 : deq (rd S (.lst (c.map .int))) (rd S (.lst [])) = c.isEmpty := by
    show deq (.lst (c.map .int)) (.lst []) = _
    rw [deq_lst0]
    cases c <;> rfl
  unfold fNe
  rw [h1, h2]
  simp only [eq_iff_iff, and_iff_right_iff_imp]
  intro _
  exact .inr ⟨trivial, rfl⟩
/-- the feed's numbers -/
structure Fd where
  d0 : Int
  m1 : Int
  a1 : Int
  b1 : Int
  q1 : Int
  a2 : Int
  b2 : Int
  q2 : Int
  a3 : Int
  q3 : Int
  v : Int
  top : Int
structure Fd.Ok (p : Fd) : Prop where
  m1 : 0 < p.m1
  a1 : -2 ^ 64 < p.a1 ∧ p.a1 < 2 ^ 64
  q1 : 0 < p.q1 ∧ p.q1 < 2 ^ 64
  a2 : -2 ^ 64 < p.a2 ∧ p.a2 < 2 ^ 64
  q2 : 0 < p.q2 ∧ p.q2 < 2 ^ 64
  q3 : 0 < p.q3
  v : 0 < p.v ∧ p.v < 1073741824
def rFeed (p : Fd) : DS :=
  (sRet (dDisp [((dC (.str "cells")), (dFn gList (dCons (dSl (dVar 0) dNoPart (dPart (dC (.int p.top)))) dNil))), ((dC (.str "at")), (dC (.int 0))), ((dC (.str "left")), (dC (.int 0))), ((dC (.str "count")), (dC (.int 0)))]))
def rTail0 (p : Fd) : DS :=
  (sSeq (sAsg (dOp fMod (dOp fAdd (dOp fAdd (dOp fMod (dVar 4) (dC (.int p.m1))) (dOp fMul (dC (.int p.a1)) (dOp fIx (dVar 0) (dC (.str "count"))))) (dC (.int p.b1))) (dC (.int p.q1))) 5) (sSeq (sAsg (dOp fMod (dOp fAdd (dOp fAdd (dOp fMul (dVar 5) (dVar 5)) (dOp fMul (dC (.int p.a2)) (dOp fIx (dVar 0) (dC (.str "count"))))) (dC (.int p.b2))) (dC (.int p.q2))) 5) (sRet (dOp fMod (dOp fDiv (dOp fMod (dOp fAdd (dOp fMul (dVar 5) (dVar 5)) (dOp fMul (dC (.int p.a3)) (dVar 5))) (dC (.int p.q3))) (dC (.int p.v))) (dVar 1)))))
def rTail (p : Fd) : DS :=
  (sSeq (sIf (dAnd (dTst (dOp fGe (dVar 4) (dOp fPow (dC (.int 10)) (dC (.int 18))))) (dTst (dOp fLt (dVar 3) (dFn gLen (dCons (dOp fIx (dVar 0) (dC (.str "cells"))) dNil))))) (sSeq (sAsgG (dOp fDiv (dVar 4) (dVar 1)) (gSubD (dVar 0) (dC (.str "left")))) (sRet (dOp fMod (dVar 4) (dVar 1)))) sNext) (sSeq (sAsg (dOp fMod (dOp fAdd (dOp fAdd (dOp fMod (dVar 4) (dC (.int p.m1))) (dOp fMul (dC (.int p.a1)) (dOp fIx (dVar 0) (dC (.str "count"))))) (dC (.int p.b1))) (dC (.int p.q1))) 5) (sSeq (sAsg (dOp fMod (dOp fAdd (dOp fAdd (dOp fMul (dVar 5) (dVar 5)) (dOp fMul (dC (.int p.a2)) (dOp fIx (dVar 0) (dC (.str "count"))))) (dC (.int p.b2))) (dC (.int p.q2))) 5) (sRet (dOp fMod (dOp fDiv (dOp fMod (dOp fAdd (dOp fMul (dVar 5) (dVar 5)) (dOp fMul (dC (.int p.a3)) (dVar 5))) (dC (.int p.q3))) (dC (.int p.v))) (dVar 1))))))
def rDraw (p : Fd) : DS :=
  (sSeq (sAsgG (dOp fAdd (dOp fIx (dVar 0) (dC (.str "count"))) (dC (.int 1))) (gSubD (dVar 0) (dC (.str "count")))) (sSeq (sIf (dTst (dOp fGt (dOp fIx (dVar 0) (dC (.str "left"))) (dC (.int 0)))) (sSeq (sAsg (dOp fMod (dOp fIx (dVar 0) (dC (.str "left"))) (dVar 1)) 2) (sSeq (sAsgG (dOp fDiv (dOp fIx (dVar 0) (dC (.str "left"))) (dVar 1)) (gSubD (dVar 0) (dC (.str "left")))) (sRet (dVar 2)))) sNext) (sSeq (sAsg (dOp fIx (dVar 0) (dC (.str "at"))) 3) (sSeq (sAsgG (dOp fAdd (dVar 3) (dC (.int 1))) (gSubD (dVar 0) (dC (.str "at")))) (sSeq (sAsg (dIf (dTst (dOp fNe (dOp fIx (dVar 0) (dC (.str "cells"))) (dLst dNil))) (dOp fIx (dOp fIx (dVar 0) (dC (.str "cells"))) (dOp fMod (dVar 3) (dFn gLen (dCons (dOp fIx (dVar 0) (dC (.str "cells"))) dNil)))) (dC (.int p.d0))) 4) (rTail p))))))
/-- what a draw promises -/
def spDraw : DSp := fun ws S Q _ => ∃ a many, ws = [.ref a, .int many] ∧ (0 < many ∧ many < 1073741824) ∧ (∃ o, S a = some o ∧ FeedO o) ∧ ∀ r o, 0 ≤ r → r < many → FeedO o → Q (.int r) (su S a o)
theorem draw_by {a : Addr} {many : Int} {S : Sto} {Q : DK} {E : XD} {o : O} (hs : S a = some o) (ho : FeedO o) (h0 : 0 < many) (h1 : many < 1073741824) (q : ∀ r o, 0 ≤ r → r < many → FeedO o → Q (.int r) (su S a o)) : spDraw [.ref a, .int many] S Q E :=
  ⟨a, many, rfl, ⟨h0, h1⟩, ⟨o, hs, ho⟩, q⟩
theorem draw_su {a : Addr} {many : Int} {S : Sto} {Q : DK} {E : XD} {o : O} (ho : FeedO o) (h0 : 0 < many) (h1 : many < 1073741824) (q : ∀ r o, 0 ≤ r → r < many → FeedO o → Q (.int r) (su S a o)) : spDraw [.ref a, .int many] (su S a o) Q E :=
  draw_by (su_same ..) ho h0 h1 fun r o h2 h3 h4 => by rw [su_su]; exact q r o h2 h3 h4
theorem ends_rt {Q : DK} {w : D} {S : Sto} (h : Q w S) : (endsD Q).rt w S := ⟨S, .refl, h⟩
theorem draw_tail {p : Fd} (hp : p.Ok) {S : Sto} {Q : DK} {a : Addr} {many t0 cell t l n : Int} {c : List Int} (h0 : 0 < many) (h1 : many < 1073741824) (ht : 0 ≤ t) (q : ∀ r o, 0 ≤ r → r < many → FeedO o → Q (.int r) (su S a o)) :
    rTail p (endsD Q) [some (.ref a), some (.int many), none, some (.int t0), some (.int cell), none] (su S a (feedO c t l n)) := by
  have rt : ∀ x t l n, 0 ≤ t → (endsD Q).rt (.int (x % many)) (su S a (feedO c t l n)) := fun x t l n ht => ends_rt (q _ _ (Int.emod_nonneg _ (by omega)) (Int.emod_lt_of_pos _ h0) ⟨_, _, _, _, rfl, ht⟩)
  have unf : rTail p = _ := rfl
  simp only [rTail]
  simp only [sSeq, sAsgG, dOp, dVar, dC, gSubD, List.getElem?_cons_zero, List.getElem?_cons_succ, sIf, dTst, fGe, fPow, sAsg, fMod, fDiv, sNext, List.set_cons_zero, List.set_cons_succ, dAnd, dFn, dCons, dNil, sRet]
  refine ⟨⟨by decide, by decide, by decide⟩, ?_⟩
  have m2 : ∀ x y : Int, 0 < y → y < 2 ^ 64 → CMul (x % y) (x % y) := fun x y h h' => .inl ⟨by have := Int.emod_nonneg x (b := y) (by omega); omega, by have := Int.emod_lt_of_pos x h; omega⟩
  have m2' : ∀ x y : Int, 0 < y → y < 2 ^ 64 → -2 ^ 64 < x % y ∧ x % y < 2 ^ 64 := fun x y h h' => ⟨by have := Int.emod_nonneg x (b := y) (by omega); omega, by have := Int.emod_lt_of_pos x h; omega⟩
  have last : rTail0 p (endsD Q) [some (.ref a), some (.int many), none, some (.int t0), some (.int cell), none] (su S a (feedO c t l n)) := by
    simp only [rTail0]
    simp only [sSeq, dOp, dVar, dC, List.getElem?_cons_zero, List.getElem?_cons_succ, sAsg, fMod, List.set_cons_zero, List.set_cons_succ, sRet, fx_count, fMul_ii, fAdd]
    refine ⟨hp.m1, .inl hp.a1, hp.q1.1, m2 _ _ hp.q1.1 hp.q1.2, .inl hp.a2, hp.q2.1, m2 _ _ hp.q2.1 hp.q2.2, ?_⟩
    simp only [fDiv]
    refine ⟨.inr ⟨(m2' _ _ hp.q2.1 hp.q2.2).1, (m2' _ _ hp.q2.1 hp.q2.2).2⟩, hp.q3, hp.v, h0, rt _ _ _ _ ht⟩
  have e18 : ((10 : Int) ^ (18 : Int).toNat) = 1000000000000000000 := rfl
  rw [e18]
  by_cases h18 : cell ≥ 1000000000000000000
  · rw [if_pos (decide_eq_true h18)]
    simp only [fx_cells, gLen_lst, List.length_map, fLt]
    by_cases ht0 : t0 < c.length
    · rw [if_pos (decide_eq_true ht0)]
      simp only [ft_left]
      exact ⟨⟨h0, h1⟩, h0, rt _ _ _ _ ht⟩
    · rw [if_neg (by simpa using ht0)]
      exact last
  · rw [if_neg (by simpa using h18)]
    exact last
theorem draw_ok {p : Fd} (hp : p.Ok) {S : Sto} {Q : DK} {E : XD} {ws : List D} (h : spDraw ws S Q E) : rDraw p (endsD Q) (startD ["_law_feed_here", "_law_many", "_law_figure", "_law_at", "_law_cell", "_law_mixed"] ws) S := by
  obtain ⟨a, many, rfl, ⟨h0, h1⟩, ⟨o, hs, ⟨c, t, l, n, rfl, ht⟩⟩, q⟩ := h
  rw [← su_self hs]
  simp only [rDraw, startD, List.map_cons, List.map_nil, List.length_cons, List.length_nil, Nat.reduceAdd, Nat.reduceSub, List.replicate, List.cons_append, List.nil_append]
  simp only [sSeq, sAsgG, dOp, dVar, dC, gSubD, List.getElem?_cons_zero, List.getElem?_cons_succ, fx_count, fAdd, ft_count, sIf, dTst, fx_left, fGt, sAsg, fMod, fDiv, sNext, fx_at, ft_at, ft_left, List.set_cons_zero, List.set_cons_succ, fx_cells, dIf, dAnd, dFn, dCons, dNil, dLst, sRet]
  by_cases hl : 0 < l
  · rw [if_pos (decide_eq_true hl)]
    refine ⟨h0, ⟨h0, h1⟩, ends_rt (q _ _ (Int.emod_nonneg _ (by omega)) (Int.emod_lt_of_pos _ h0) ⟨_, _, _, _, rfl, ht⟩)⟩
  · rw [if_neg (by simpa using hl)]
    refine ⟨by decide, ?_⟩
    rw [ne_nil_ints]
    by_cases hc : c = []
    · subst hc
      simp only [List.isEmpty_nil, Bool.not_true, if_false, Bool.false_eq_true]
      exact draw_tail hp h0 h1 (by omega) q
    · have e : c.isEmpty = false := by cases c with
        | nil => exact absurd rfl hc
        | cons _ _ => rfl
      have hlen : 0 < c.length := List.length_pos_iff.2 hc
      simp only [e, Bool.not_false, if_true]
      simp only [fx_cells, gLen_lst, List.length_map]
      have hm : (0 : Int) < c.length := by omega
      refine ⟨hm, ix_lst (Int.emod_nonneg _ (by omega)) (by rw [List.length_map]; exact Int.emod_lt_of_pos _ hm) fun x hx => ?_⟩
      obtain ⟨i, _, rfl⟩ := List.mem_map.1 hx
      exact draw_tail hp h0 h1 (by omega) q
def spFeed : DSp := fun ws S Q _ => ∃ ns : List Int, ws = [.scr (ns.map .int)] ∧ ns.length ≤ 63 ∧ ∀ a o, S a = none → FeedO o → Q (.ref a) (su S a o)
theorem feed_ok {p : Fd} {S : Sto} {Q : DK} {E : XD} {ws : List D} (h : spFeed ws S Q E) : rFeed p (endsD Q) (startD ["_law_script"] ws) S := by
  obtain ⟨ns, rfl, hn, q⟩ := h
  simp only [rFeed, startD, List.map_cons, List.map_nil, List.length_cons, List.length_nil, Nat.reduceAdd, Nat.reduceSub, List.replicate, List.cons_append, List.nil_append]
  simp only [sRet, dDisp, dPairs, dC, dFn, dCons, dNil, dSl, dVar, dNoPart, dPart, List.getElem?_cons_zero, fSl, keysOf, keyOf]
  have e : cut (ns.map D.int) none (some p.top) = (cut ns none (some p.top)).map D.int := by
    unfold cut
    rw [List.length_map, ← List.map_drop, ← List.map_take]
  rw [e]
  exact ⟨show 4 ≤ 15 by decide, fun a ha => ends_rt (q a _ ha ⟨_, 0, 0, 0, rfl, Int.le_refl _⟩)⟩
end DL


set_option Elab.async false
set_option linter.all false
set_option maxRecDepth 100000
set_option maxHeartbeats 4000000
namespace DL
open PySem PySem.Spec PyProof.Rows L2
section
variable {g : DG} {tt : DT} {te : DE} {env : Env'} {ok : Sto → Prop} {Q : List D → Sto → Prop}
/-- a comprehension by what stands behind each thing: J tells of the things gone through, what was gathered, the store -/
theorem cLoop_all (J : List D → List D → Sto → Prop) (hok : ∀ pre acc S, J pre acc S → ok S) : ∀ (items pre acc : List D) (S : Sto), acc.length + items.length ≤ sizeLine →
    (∀ x ∈ items, ∀ pre acc S, J pre acc S → ∀ (R1 : D → Sto → Prop) (R2 : Sto → Prop), (∀ y S', J (pre ++ [x]) (acc ++ [y]) S' → R1 y S') → (∀ S', J (pre ++ [x]) acc S' → R2 S') → g x env S fun env2 S2 => tt env2 S2 fun b S3 => if b = true then te env2 S3 R1 else R2 S3) →
    J pre acc S → (∀ acc' S', acc'.length ≤ acc.length + items.length → J (pre ++ items) acc' S' → Q acc' S') → cLoop g tt te env ok Q items acc S
  | [], pre, acc, S, _, _, j, q => ⟨hok _ _ _ j, q _ _ (Nat.le_refl _) (by rw [List.append_nil]; exact j)⟩
  | x :: r, pre, acc, S, hl, step, j, q => by
    refine ⟨hok _ _ _ j, ?_⟩
    refine step x (List.mem_cons_self ..) pre acc S j _ _ (fun y S' j' => ⟨?_, ?_⟩) fun S' j' => ?_
    · simp only [List.length_cons] at hl; omega
    · refine cLoop_all J hok r (pre ++ [x]) (acc ++ [y]) S' (by simp only [List.length_cons, List.length_append, List.length_nil] at *; omega) (fun z hz => step z (List.mem_cons_of_mem _ hz)) j' fun acc' S2 h2 j2 => q acc' S2 (by simp only [List.length_cons, List.length_append, List.length_nil] at *; omega) (by rw [List.append_assoc] at j2; exact j2)
    · refine cLoop_all J hok r (pre ++ [x]) acc S' (by simp only [List.length_cons] at *; omega) (fun z hz => step z (List.mem_cons_of_mem _ hz)) j' fun acc' S2 h2 j2 => q acc' S2 (by simp only [List.length_cons] at *; omega) (by rw [List.append_assoc] at j2; exact j2)
/-- .. where nothing of the things gone through is asked -/
theorem cLoop_inv (J : List D → Sto → Prop) (hok : ∀ acc S, J acc S → ok S) (items acc : List D) (S : Sto) (hl : acc.length + items.length ≤ sizeLine)
    (step : ∀ x ∈ items, ∀ acc S, J acc S → ∀ (R1 : D → Sto → Prop) (R2 : Sto → Prop), (∀ y S', J (acc ++ [y]) S' → R1 y S') → (∀ S', J acc S' → R2 S') → g x env S fun env2 S2 => tt env2 S2 fun b S3 => if b = true then te env2 S3 R1 else R2 S3)
    (j : J acc S) (q : ∀ acc' S', acc'.length ≤ acc.length + items.length → J acc' S' → Q acc' S') : cLoop g tt te env ok Q items acc S :=
  cLoop_all (fun _ => J) (fun _ => hok) items [] acc S hl (fun x hx _ => step x hx) j q
/-- .. where the store stays, each thing's value is told -/
theorem cLoop_map (f : D → D) {items : List D} {S : Sto} (hok : ok S) (hl : items.length ≤ sizeLine) (step : ∀ x ∈ items, ∀ R : D → Sto → Prop, R (f x) S → g x env S fun env2 S2 => te env2 S2 R) (q : Q (items.map f) S) : cLoop g dTrue te env ok Q items [] S :=
  cLoop_all (fun pre acc S' => S' = S ∧ acc = pre.map f) (fun _ _ S' e => e.1 ▸ hok) items [] [] S (by simpa using hl) (fun x hx pre acc S' ⟨e1, e2⟩ R1 R2 h1 _ => by
    subst e1 e2
    exact step x hx R1 (h1 _ _ ⟨rfl, by rw [List.map_append]; rfl⟩)) ⟨rfl, rfl⟩ fun acc' S' _ ⟨e1, e2⟩ => by subst e1 e2; exact q
theorem cLoop_filter (p : D → Bool) (f : D → D) {items : List D} {S : Sto} (hok : ok S) (hl : items.length ≤ sizeLine)
    (step : ∀ x ∈ items, ∀ (R1 : D → Sto → Prop) (R2 : Sto → Prop), (p x = true → R1 (f x) S) → (p x = false → R2 S) → g x env S fun env2 S2 => tt env2 S2 fun b S3 => if b = true then te env2 S3 R1 else R2 S3)
    (q : Q ((items.filter p).map f) S) : cLoop g tt te env ok Q items [] S :=
  cLoop_all (fun pre acc S' => S' = S ∧ acc = (pre.filter p).map f) (fun _ _ S' e => e.1 ▸ hok) items [] [] S (by simpa using hl) (fun x hx pre acc S' ⟨e1, e2⟩ R1 R2 h1 h2 => by
    subst e1 e2
    refine step x hx R1 R2 (fun hp => h1 _ _ ⟨rfl, ?_⟩) fun hp => h2 _ ⟨rfl, ?_⟩
    · rw [List.filter_append, List.map_append]; simp [hp]
    · rw [List.filter_append, List.map_append]; simp [hp]) ⟨rfl, rfl⟩ fun acc' S' _ ⟨e1, e2⟩ => by subst e1 e2; exact q
end
section
variable {g : DG} {body : DS} {d : DEnds} {ok : Sto → Prop}
/-- a for: J tells of the things gone through, the names, the store -/
theorem sLoop_all (J : List D → Env' → Sto → Prop) (hok : ∀ pre env S, J pre env S → ok S) : ∀ (items pre : List D) (env : Env') (S : Sto),
    (∀ x ∈ items, ∀ pre env S, J pre env S → ∀ R : Env' → Sto → Prop, (∀ env' S', J (pre ++ [x]) env' S' → R env' S') → g x env S fun env2 S2 => body { d with nx := R, ct := R, bk := d.nx } env2 S2) →
    J pre env S → (∀ env' S', J (pre ++ items) env' S' → d.nx env' S') → sLoop g body d ok items env S
  | [], pre, env, S, _, j, q => ⟨hok _ _ _ j, q _ _ (by rw [List.append_nil]; exact j)⟩
  | x :: r, pre, env, S, step, j, q => by
    refine ⟨hok _ _ _ j, ?_⟩
    refine step x (List.mem_cons_self ..) pre env S j _ fun env' S' j' => ?_
    exact sLoop_all J hok r (pre ++ [x]) env' S' (fun z hz => step z (List.mem_cons_of_mem _ hz)) j' fun env2 S2 j2 => q env2 S2 (by rw [List.append_assoc] at j2; exact j2)
theorem sLoop_inv (J : Env' → Sto → Prop) (hok : ∀ env S, J env S → ok S) (items : List D) (env : Env') (S : Sto)
    (step : ∀ x ∈ items, ∀ env S, J env S → ∀ R : Env' → Sto → Prop, (∀ env' S', J env' S' → R env' S') → g x env S fun env2 S2 => body { d with nx := R, ct := R, bk := d.nx } env2 S2)
    (j : J env S) (q : ∀ env' S', J env' S' → d.nx env' S') : sLoop g body d ok items env S :=
  sLoop_all (fun _ => J) (fun _ => hok) items [] env S (fun x hx _ => step x hx) j q
end
/-! ### readings of the operations, one a shape -/
section
variable {S : Sto} {Q : DK}
theorem gAll_lst {xs : List D} {bs : List Bool} (h : xs = bs.map .bl) : gAll [.lst xs] S Q = Q (.bl (bs.all id)) S := by
  subst h
  have e : blsOf (bs.map .bl) = some bs := by
    induction bs with
    | nil => rfl
    | cons b bs ih => simp only [List.map_cons, blsOf, ih]; first | rfl | simp
  show (match (some (bs.map D.bl)).bind blsOf with | some bs => Q (.bl (bs.all id)) S | none => False) = _
  rw [Option.bind_some, e]
theorem gAny_lst {xs : List D} {bs : List Bool} (h : xs = bs.map .bl) : gAny [.lst xs] S Q = Q (.bl (bs.any id)) S := by
  subst h
  have e : blsOf (bs.map .bl) = some bs := by
    induction bs with
    | nil => rfl
    | cons b bs ih => simp only [List.map_cons, blsOf, ih]; first | rfl | simp
  show (match (some (bs.map D.bl)).bind blsOf with | some bs => Q (.bl (bs.any id)) S | none => False) = _
  rw [Option.bind_some, e]
theorem fIn_sign {c : Nat} {b : Str} : fIn (.str ⟨#[c]⟩) (.str b) S Q = Q (.bl (decide (c ∈ b.cps.toList))) S := rfl
/-- data as data: nothing of the store within -/
theorem shp_sign {c : Nat} : True := trivial
end
end DL


set_option Elab.async false
set_option linter.all false
set_option maxRecDepth 100000
set_option maxHeartbeats 4000000
set_option exponentiation.threshold 4000
namespace DL
open PySem PySem.Spec PyProof.Rows L2
/-! ### texts: right signs, at most b of them -/
structure Ss (b : Nat) (z : Str) : Prop where
  ok : ∀ c ∈ z.cps.toList, c < 1114112
  len : z.length ≤ b
theorem strOk_iff {z : Str} : PyData.strOk z = true ↔ ∀ c ∈ z.cps.toList, c < 1114112 := by
  unfold PyData.strOk
  rw [Array.all_eq_true_iff_forall_mem]
  simp
theorem Ss.strOk {b : Nat} {z : Str} (h : Ss b z) : PyData.strOk z = true := strOk_iff.2 h.ok
theorem Ss.le {b c : Nat} {z : Str} (h : Ss b z) (hb : b ≤ c) : Ss c z := ⟨h.ok, Nat.le_trans h.len hb⟩
theorem len_toList (z : Str) : z.length = z.cps.toList.length := by show z.cps.size = _; rw [Array.length_toList]
theorem Ss.app {b c : Nat} {x y : Str} (h : Ss b x) (h' : Ss c y) : Ss (b + c) (x ++ y) := by
  have e : (x ++ y).cps.toList = x.cps.toList ++ y.cps.toList := by
    show (x.cps ++ y.cps).toList = _
    rw [Array.toList_append]
  refine ⟨fun d hd => ?_, ?_⟩
  · rw [e] at hd
    rcases List.mem_append.1 hd with hd | hd
    · exact h.ok d hd
    · exact h'.ok d hd
  · rw [len_toList, e, List.length_append, ← len_toList, ← len_toList]
    have := h.len; have := h'.len; omega
theorem cut_toList (z : Str) (lo hi : Option Int) : (cutS z lo hi).cps.toList = (z.cps.toList.drop (HT.sIx z.length 0 lo)).take (HT.sIx z.length z.length hi - HT.sIx z.length 0 lo) := rfl
theorem Ss.cutS {b : Nat} {z : Str} (h : Ss b z) (lo hi : Option Int) : Ss b (cutS z lo hi) := by
  refine ⟨fun d hd => h.ok d ?_, ?_⟩
  · rw [cut_toList] at hd
    exact List.mem_of_mem_drop (List.mem_of_mem_take hd)
  · rw [len_toList, cut_toList, List.length_take, List.length_drop, ← len_toList]
    have := h.len; omega
theorem cutS_to {z : Str} {i : Int} (h0 : 0 ≤ i) (h : i ≤ z.length) : (L2.cutS z none (some i)).length = i.toNat := by
  rw [len_toList, cut_toList, List.length_take, List.length_drop, ← len_toList]
  simp only [HT.sIx]
  rw [if_neg (by omega)]
  omega
theorem cutS_from {z : Str} {i : Int} (h0 : 0 ≤ i) : (L2.cutS z (some i) none).length = z.length - i.toNat := by
  rw [len_toList, cut_toList, List.length_take, List.length_drop, ← len_toList]
  simp only [HT.sIx]
  rw [if_neg (by omega)]
  omega
theorem cut_to {α : Type} {z : List α} {i : Int} (h0 : 0 ≤ i) (h : i ≤ z.length) : cut z none (some i) = z.take i.toNat := by
  unfold cut
  simp only [HT.sIx]
  rw [if_neg (by omega), List.drop_zero]
  congr 1
  omega
theorem cut_from {α : Type} {z : List α} {i : Int} (h0 : 0 ≤ i) : cut z (some i) none = z.drop i.toNat := by
  unfold cut
  simp only [HT.sIx]
  rw [if_neg (by omega), List.take_of_length_le (by rw [List.length_drop]; omega)]
  by_cases h : i.toNat ≤ z.length
  · rw [Nat.min_eq_left h]
  · rw [Nat.min_eq_right (by omega), List.drop_of_length_le (Nat.le_refl _), List.drop_of_length_le (by omega)]
theorem cut_sub {α : Type} (z : List α) (lo hi : Option Int) : List.Sublist (cut z lo hi) z := (List.take_sublist _ _).trans (List.drop_sublist _ _)
theorem ss_sign {c : Nat} (h : c < 1114112) : Ss 1 ⟨#[c]⟩ := ⟨fun d hd => by simp at hd; omega, by simp [Str.length]⟩
theorem Ss.sign {b c : Nat} {z : Str} (h : Ss b z) (hc : c ∈ z.cps.toList) : Ss 1 ⟨#[c]⟩ := ss_sign (h.ok c hc)
theorem ss_by {b : Nat} {z : Str} (h : (z.cps.toList.all (fun c => decide (c < 1114112)) && decide (z.length ≤ b)) = true) : Ss b z := by
  rw [Bool.and_eq_true, List.all_eq_true] at h
  exact ⟨fun c hc => of_decide_eq_true (h.1 c hc), of_decide_eq_true h.2⟩
theorem glue_fold (g : Array Nat) : ∀ (zs : List Str) (acc : Array Nat), (zs.foldl (fun acc p => acc ++ g ++ p.cps) acc).toList = acc.toList ++ (zs.map fun p => g.toList ++ p.cps.toList).flatten
  | [], acc => by simp
  | z :: zs, acc => by
    rw [List.foldl_cons, glue_fold g zs]
    simp
theorem join_toList (g : Str) : ∀ zs : List Str, (Txt.join g zs).cps.toList = (match zs with
    | [] => []
    | z :: r => z.cps.toList ++ (r.map fun p => g.cps.toList ++ p.cps.toList).flatten)
  | [] => rfl
  | z :: r => by
    show (List.foldl (fun acc p => acc ++ g.cps ++ p.cps) z.cps r).toList = _
    rw [glue_fold]
theorem ss_join {b k : Nat} {g : Str} (hg : Ss k g) {zs : List Str} (h : ∀ z ∈ zs, Ss b z) : Ss (zs.length * (b + k)) (Txt.join g zs) := by
  have key : ∀ zs : List Str, (∀ z ∈ zs, Ss b z) → (∀ c ∈ (zs.map fun p : Str => g.cps.toList ++ p.cps.toList).flatten, c < 1114112) ∧ (zs.map fun p : Str => g.cps.toList ++ p.cps.toList).flatten.length ≤ zs.length * (b + k) := by
    intro zs
    induction zs with
    | nil => intro _; exact ⟨fun c hc => by simp at hc, by simp⟩
    | cons z r ih =>
      intro h
      obtain ⟨h1, h2⟩ := ih fun x hx => h x (List.mem_cons_of_mem _ hx)
      have hz := h z (List.mem_cons_self ..)
      refine ⟨fun c hc => ?_, ?_⟩
      · rw [List.map_cons, List.flatten_cons, List.mem_append, List.mem_append] at hc
        rcases hc with (hc | hc) | hc
        · exact hg.ok c hc
        · exact hz.ok c hc
        · exact h1 c hc
      · rw [List.map_cons, List.flatten_cons, List.length_append, List.length_append, ← len_toList, ← len_toList, List.length_cons, Nat.succ_mul]
        have := hg.len; have := hz.len; omega
  cases zs with
  | nil => exact ⟨fun c hc => by rw [join_toList] at hc; simp at hc, by rw [len_toList, join_toList]; simp⟩
  | cons z r =>
    obtain ⟨h1, h2⟩ := key r fun x hx => h x (List.mem_cons_of_mem _ hx)
    have hz := h z (List.mem_cons_self ..)
    refine ⟨fun c hc => ?_, ?_⟩
    · rw [join_toList] at hc
      rcases List.mem_append.1 hc with hc | hc
      · exact hz.ok c hc
      · exact h1 c hc
    · rw [len_toList, join_toList, List.length_append, ← len_toList, List.length_cons, Nat.succ_mul]
      have := hz.len; omega
theorem Ss.gd {m d b c : Nat} {z : Str} (h : Ss b z) (hb : b ≤ c) : Gd m d c (.str z) := gd_str h.strOk (Nat.le_trans h.len hb)
/-! ### readings -/
section
variable {S : Sto} {Q : DK}
theorem strs_map (zs : List Str) : strsOf (zs.map .str) = some zs := by
  induction zs with
  | nil => rfl
  | cons z r ih => simp only [List.map_cons, strsOf, ih]; rfl
theorem join_by {g : Str} {zs : List Str} {b k : Nat} (hg : Ss k g) (h : ∀ z ∈ zs, Ss b z) (hl : zs.length * (b + k) ≤ 16777216) (q : Q (.str (Txt.join g zs)) S) : gJoin (.str g) [.lst (zs.map .str)] S Q := by
  show (match (some (zs.map D.str)).bind strsOf with
    | some zs => (zs.map (·.length)).sum + zs.length * g.length ≤ 16777216 ∧ Q (.str (Txt.join g zs)) S
    | none => False)
  rw [Option.bind_some, strs_map]
  refine ⟨?_, q⟩
  have key : ∀ zs : List Str, (∀ z ∈ zs, Ss b z) → (zs.map (·.length)).sum ≤ zs.length * b := by
    intro zs
    induction zs with
    | nil => intro _; simp
    | cons z r ih =>
      intro h
      have := ih fun x hx => h x (List.mem_cons_of_mem _ hx)
      have := (h z (List.mem_cons_self ..)).len
      rw [List.map_cons, List.sum_cons, List.length_cons, Nat.succ_mul]; omega
  have h1 := key zs h
  have h2 : zs.length * g.length ≤ zs.length * k := Nat.mul_le_mul_left _ hg.len
  rw [Nat.mul_add] at hl
  show (zs.map (·.length)).sum + zs.length * g.length ≤ 16777216
  omega
theorem nil_by {env : Env'} {S : Sto} {Q : List D → Sto → Prop} (h : Q [] S) : dNil env S Q := h
/-- a test parts -/
theorem ite_by {b : Bool} {p q : Prop} (h1 : b = true → p) (h2 : b = false → q) : if b = true then p else q := by
  cases b
  · exact h2 rfl
  · exact h1 rfl
end
end DL


set_option Elab.async false
set_option linter.all false
set_option maxRecDepth 100000
set_option maxHeartbeats 4000000
namespace DL
open PySem PySem.Spec PyProof.Rows L2
/-! ### what a drawing def promises: its feed first, further things, then a value; nothing else is touched -/
def spG (A : List D → Prop) (P : List D → D → Prop) : DSp := fun ws S Q _ => ∃ a o xs, ws = .ref a :: xs ∧ A xs ∧ S a = some o ∧ FeedO o ∧ ∀ x o', P xs x → FeedO o' → Q x (su S a o')
theorem g_su {A : List D → Prop} {P : List D → D → Prop} {a : Addr} {o : O} {S : Sto} {Q : DK} {E : XD} {xs : List D} (ho : FeedO o) (hA : A xs) (q : ∀ x o', P xs x → FeedO o' → Q x (su S a o')) : spG A P (.ref a :: xs) (su S a o) Q E :=
  ⟨a, o, xs, rfl, hA, su_same .., ho, fun x o' h1 h2 => by rw [su_su]; exact q x o' h1 h2⟩
theorem g_at {A : List D → Prop} {P : List D → D → Prop} {a : Addr} {o : O} {S : Sto} {Q : DK} {E : XD} {xs : List D} (hs : S a = some o) (ho : FeedO o) (hA : A xs) (q : ∀ x o', P xs x → FeedO o' → Q x (su S a o')) : spG A P (.ref a :: xs) S Q E :=
  ⟨a, o, xs, rfl, hA, hs, ho, q⟩
/-- a pure def: further things to a value, the store stays -/
def spP (A : List D → Prop) (P : List D → D → Prop) : DSp := fun ws S Q _ => A ws ∧ ∀ x, P ws x → Q x S
end DL


set_option Elab.async false
set_option linter.all false
set_option maxRecDepth 100000
set_option maxHeartbeats 4000000
set_option exponentiation.threshold 4000
namespace DL
open PySem PySem.Spec PyProof.Rows L2
/-! ### readings of the operations, one a shape: rows to rewrite by -/
section
variable {S : Sto} {Q : DK} {i j : Int} {x y z : Str} {xs ys : List D} {b c : Bool} {w u : D} {a : Addr}
theorem fAdd_ii : fAdd (.int i) (.int j) S Q = Q (.int (i + j)) S := rfl
theorem fAdd_ss : fAdd (.str x) (.str y) S Q = (x.length + y.length ≤ sizeLine ∧ Q (.str (x ++ y)) S) := rfl
theorem fAdd_tt : fAdd (.tup xs) (.tup ys) S Q = (xs.length + ys.length ≤ sizeLine ∧ Q (.tup (xs ++ ys)) S) := rfl
theorem fAdd_ll : fAdd (.lst xs) (.lst ys) S Q = (xs.length + ys.length ≤ sizeLine ∧ Q (.lst (xs ++ ys)) S) := rfl
theorem fAdd_rl : fAdd (.ref a) (.lst ys) S Q = (match lsOf S (.ref a) with | some xs => xs.length + ys.length ≤ sizeLine ∧ Q (.lst (xs ++ ys)) S | none => False) := by
  show (match lsOf S (.ref a), some ys with | some xs, some ys => xs.length + ys.length ≤ sizeLine ∧ Q (.lst (xs ++ ys)) S | _, _ => False) = _
  cases lsOf S (.ref a) <;> rfl
theorem fSub_ii : fSub (.int i) (.int j) S Q = Q (.int (i - j)) S := rfl
theorem fNeg_i : fNeg (.int i) S Q = Q (.int (-i)) S := rfl
theorem fDiv_ii : fDiv (.int i) (.int j) S Q = ((0 < j ∧ j < 1073741824) ∧ Q (.int (i / j)) S) := rfl
theorem fMod_ii : fMod (.int i) (.int j) S Q = (0 < j ∧ Q (.int (i % j)) S) := rfl
theorem fPow_ii : fPow (.int i) (.int j) S Q = (CPow i j ∧ Q (.int (i ^ j.toNat)) S) := rfl
theorem fLt_ii : fLt (.int i) (.int j) S Q = Q (.bl (decide (i < j))) S := rfl
theorem fLe_ii : fLe (.int i) (.int j) S Q = Q (.bl (decide (i ≤ j))) S := rfl
theorem fGt_ii : fGt (.int i) (.int j) S Q = Q (.bl (decide (j < i))) S := rfl
theorem fGe_ii : fGe (.int i) (.int j) S Q = Q (.bl (decide (j ≤ i))) S := rfl
theorem fEq_ii : fEq (.int i) (.int j) S Q = Q (.bl (decide (i = j))) S := by
  unfold fEq
  have e : deq (rd S (.int i)) (rd S (.int j)) = decide (i = j) := deq_int
  rw [e]
  exact propext ⟨fun h => h.2, fun h => ⟨.inr ⟨rfl, rfl⟩, h⟩⟩
theorem fNe_ii : fNe (.int i) (.int j) S Q = Q (.bl (!decide (i = j))) S := by
  unfold fNe
  have e : deq (rd S (.int i)) (rd S (.int j)) = decide (i = j) := deq_int
  rw [e]
  exact propext ⟨fun h => h.2, fun h => ⟨.inr ⟨rfl, rfl⟩, h⟩⟩
theorem fEq_ss : fEq (.str x) (.str y) S Q = Q (.bl (decide (x = y))) S := propext ⟨fun h => by
  have e : deq (rd S (.str x)) (rd S (.str y)) = decide (x = y) := deq_str
  unfold fEq at h; rw [e] at h; exact h.2, eq_str⟩
theorem fNe_ss : fNe (.str x) (.str y) S Q = Q (.bl (!decide (x = y))) S := propext ⟨fun h => by
  have e : deq (rd S (.str x)) (rd S (.str y)) = decide (x = y) := deq_str
  unfold fNe at h; rw [e] at h; exact h.2, ne_str⟩
theorem fIx_t : fIx (.tup xs) (.int i) S Q = qOpt (atI xs i) S Q := rfl
theorem fIx_l : fIx (.lst xs) (.int i) S Q = qOpt (atI xs i) S Q := rfl
theorem fSl_t {lo hi : Option Int} : fSl (.tup xs) lo hi S Q = Q (.tup (cut xs lo hi)) S := rfl
theorem fSl_l {lo hi : Option Int} : fSl (.lst xs) lo hi S Q = Q (.lst (cut xs lo hi)) S := rfl
theorem fSl_s {lo hi : Option Int} : fSl (.str x) lo hi S Q = (x.length ≤ sizeLine ∧ Q (.str (cutS x lo hi)) S) := rfl
theorem fRv_t : fRv (.tup xs) S Q = Q (.tup xs.reverse) S := rfl
theorem fRv_l : fRv (.lst xs) S Q = Q (.lst xs.reverse) S := rfl
theorem gList_t : gList [.tup xs] S Q = Q (.lst xs) S := rfl
theorem gList_l : gList [.lst xs] S Q = Q (.lst xs) S := rfl
theorem gTuple_t : gTuple [.tup xs] S Q = Q (.tup xs) S := rfl
theorem gTuple_l : gTuple [.lst xs] S Q = Q (.tup xs) S := rfl
theorem gStr_i : gStr [.int i] S Q = (i.natAbs.log2 < 1920 ∧ Q (.str (toString i)) S) := rfl
theorem gStr_s : gStr [.str x] S Q = Q (.str x) S := rfl
theorem gInt_b : gInt [.bl b] S Q = Q (.int (b2 b)) S := rfl
theorem gInt_i : gInt [.int i] S Q = Q (.int i) S := rfl
theorem isi_tup (T : String) (h : T ∈ tys) : gIsi [.tup xs, .val (.ty T)] S Q = Q (.bl (T == "tuple")) S := by
  show (T ∈ tys ∧ Q (.bl (isSub "tuple" T)) S) = _
  have e : isSub "tuple" T = (T == "tuple") := by
    simp only [tys, List.mem_cons, List.not_mem_nil, or_false] at h
    rcases h with rfl | rfl | rfl | rfl | rfl | rfl <;> decide
  rw [e]; exact propext ⟨fun q => q.2, fun q => ⟨h, q⟩⟩
theorem isi_at {x : D} {t : String} (e : tyOf S x = some t) (T : String) (h : T ∈ tys) : gIsi [x, .val (.ty T)] S Q = Q (.bl (isSub t T)) S := by
  show (T ∈ tys ∧ (match tyOf S x with | some t => Q (.bl (isSub t T)) S | none => False)) = _
  rw [e]; exact propext ⟨fun q => q.2, fun q => ⟨h, q⟩⟩
theorem isi_non_int : gIsi [.non, .val (.ty "int")] S Q = Q (.bl false) S := isi_at (t := "NoneType") rfl "int" (by decide)
theorem isi_non_bool : gIsi [.non, .val (.ty "bool")] S Q = Q (.bl false) S := isi_at (t := "NoneType") rfl "bool" (by decide)
theorem isi_non_str : gIsi [.non, .val (.ty "str")] S Q = Q (.bl false) S := isi_at (t := "NoneType") rfl "str" (by decide)
theorem isi_non_tuple : gIsi [.non, .val (.ty "tuple")] S Q = Q (.bl false) S := isi_at (t := "NoneType") rfl "tuple" (by decide)
theorem isi_non_list : gIsi [.non, .val (.ty "list")] S Q = Q (.bl false) S := isi_at (t := "NoneType") rfl "list" (by decide)
theorem isi_non_dict : gIsi [.non, .val (.ty "dict")] S Q = Q (.bl false) S := isi_at (t := "NoneType") rfl "dict" (by decide)
theorem isi_bl_int : gIsi [(.bl b), .val (.ty "int")] S Q = Q (.bl true) S := isi_at (t := "bool") rfl "int" (by decide)
theorem isi_bl_bool : gIsi [(.bl b), .val (.ty "bool")] S Q = Q (.bl true) S := isi_at (t := "bool") rfl "bool" (by decide)
theorem isi_bl_str : gIsi [(.bl b), .val (.ty "str")] S Q = Q (.bl false) S := isi_at (t := "bool") rfl "str" (by decide)
theorem isi_bl_tuple : gIsi [(.bl b), .val (.ty "tuple")] S Q = Q (.bl false) S := isi_at (t := "bool") rfl "tuple" (by decide)
theorem isi_bl_list : gIsi [(.bl b), .val (.ty "list")] S Q = Q (.bl false) S := isi_at (t := "bool") rfl "list" (by decide)
theorem isi_bl_dict : gIsi [(.bl b), .val (.ty "dict")] S Q = Q (.bl false) S := isi_at (t := "bool") rfl "dict" (by decide)
theorem isi_int_int : gIsi [(.int i), .val (.ty "int")] S Q = Q (.bl true) S := isi_at (t := "int") rfl "int" (by decide)
theorem isi_int_bool : gIsi [(.int i), .val (.ty "bool")] S Q = Q (.bl false) S := isi_at (t := "int") rfl "bool" (by decide)
theorem isi_int_str : gIsi [(.int i), .val (.ty "str")] S Q = Q (.bl false) S := isi_at (t := "int") rfl "str" (by decide)
theorem isi_int_tuple : gIsi [(.int i), .val (.ty "tuple")] S Q = Q (.bl false) S := isi_at (t := "int") rfl "tuple" (by decide)
theorem isi_int_list : gIsi [(.int i), .val (.ty "list")] S Q = Q (.bl false) S := isi_at (t := "int") rfl "list" (by decide)
theorem isi_int_dict : gIsi [(.int i), .val (.ty "dict")] S Q = Q (.bl false) S := isi_at (t := "int") rfl "dict" (by decide)
theorem isi_str_int : gIsi [(.str x), .val (.ty "int")] S Q = Q (.bl false) S := isi_at (t := "str") rfl "int" (by decide)
theorem isi_str_bool : gIsi [(.str x), .val (.ty "bool")] S Q = Q (.bl false) S := isi_at (t := "str") rfl "bool" (by decide)
theorem isi_str_str : gIsi [(.str x), .val (.ty "str")] S Q = Q (.bl true) S := isi_at (t := "str") rfl "str" (by decide)
theorem isi_str_tuple : gIsi [(.str x), .val (.ty "tuple")] S Q = Q (.bl false) S := isi_at (t := "str") rfl "tuple" (by decide)
theorem isi_str_list : gIsi [(.str x), .val (.ty "list")] S Q = Q (.bl false) S := isi_at (t := "str") rfl "list" (by decide)
theorem isi_str_dict : gIsi [(.str x), .val (.ty "dict")] S Q = Q (.bl false) S := isi_at (t := "str") rfl "dict" (by decide)
theorem isi_tup_int : gIsi [(.tup xs), .val (.ty "int")] S Q = Q (.bl false) S := isi_at (t := "tuple") rfl "int" (by decide)
theorem isi_tup_bool : gIsi [(.tup xs), .val (.ty "bool")] S Q = Q (.bl false) S := isi_at (t := "tuple") rfl "bool" (by decide)
theorem isi_tup_str : gIsi [(.tup xs), .val (.ty "str")] S Q = Q (.bl false) S := isi_at (t := "tuple") rfl "str" (by decide)
theorem isi_tup_tuple : gIsi [(.tup xs), .val (.ty "tuple")] S Q = Q (.bl true) S := isi_at (t := "tuple") rfl "tuple" (by decide)
theorem isi_tup_list : gIsi [(.tup xs), .val (.ty "list")] S Q = Q (.bl false) S := isi_at (t := "tuple") rfl "list" (by decide)
theorem isi_tup_dict : gIsi [(.tup xs), .val (.ty "dict")] S Q = Q (.bl false) S := isi_at (t := "tuple") rfl "dict" (by decide)
theorem isi_lst_int : gIsi [(.lst xs), .val (.ty "int")] S Q = Q (.bl false) S := isi_at (t := "list") rfl "int" (by decide)
theorem isi_lst_bool : gIsi [(.lst xs), .val (.ty "bool")] S Q = Q (.bl false) S := isi_at (t := "list") rfl "bool" (by decide)
theorem isi_lst_str : gIsi [(.lst xs), .val (.ty "str")] S Q = Q (.bl false) S := isi_at (t := "list") rfl "str" (by decide)
theorem isi_lst_tuple : gIsi [(.lst xs), .val (.ty "tuple")] S Q = Q (.bl false) S := isi_at (t := "list") rfl "tuple" (by decide)
theorem isi_lst_list : gIsi [(.lst xs), .val (.ty "list")] S Q = Q (.bl true) S := isi_at (t := "list") rfl "list" (by decide)
theorem isi_lst_dict : gIsi [(.lst xs), .val (.ty "dict")] S Q = Q (.bl false) S := isi_at (t := "list") rfl "dict" (by decide)
theorem fAdd_bi : fAdd (.bl b) (.int j) S Q = Q (.int (b2 b + j)) S := rfl
theorem fAdd_ib : fAdd (.int i) (.bl b) S Q = Q (.int (i + b2 b)) S := rfl
theorem fSub_bi : fSub (.bl b) (.int j) S Q = Q (.int (b2 b - j)) S := rfl
theorem fEq_bi : fEq (.bl b) (.int i) S Q = Q (.bl (deq (.bl b) (.int i))) S := by
  unfold fEq
  exact propext ⟨fun h => h.2, fun h => ⟨.inr ⟨rfl, rfl⟩, h⟩⟩
theorem gStr_b : gStr [.bl b] S Q = Q (.str (if b then "True" else "False")) S := rfl
end
theorem strOk_of (s : String) : PyData.strOk (Str.ofString s) = true := by
  rw [strOk_iff, Str.ofString_eq_toList]
  intro c hc
  obtain ⟨d, _, rfl⟩ := List.mem_map.1 hc
  rcases d.valid with h | h
  · exact Nat.lt_trans h (by decide)
  · exact h.2
theorem len_of (s : String) : (Str.ofString s).length = s.length := by
  rw [PySem.ofString_length]
theorem gd_txt {m d b : Nat} {s : String} (h : s.length ≤ b) : Gd m d b (.str (Str.ofString s)) := gd_str (strOk_of s) (by rw [len_of]; exact h)
theorem gds1 {m d b : Nat} {x : D} (h : Gd m d b x) : Gds m d (b + 1) [x] := (Gds.cons h (gds_nil (b := 0))).le (Nat.le_refl _) (Nat.le_refl _) (by omega)
theorem natAbs_of {m d b : Nat} {i : Int} (h : Gd m d b (.int i)) : i.natAbs ≤ m := by
  have := h.ok
  simpa only [okD, decide_eq_true_eq] using this
/-- numbers that repr and str take -/
def Lim (m : Nat) : Prop := m < 10 ^ 560
theorem Lim.big {m : Nat} (h : Lim m) : m < 10 ^ 570 := Nat.lt_of_lt_of_le h (Nat.pow_le_pow_right (by decide) (by decide))
theorem Lim.le {m n : Nat} (h : Lim m) (hn : n ≤ m) : Lim n := Nat.lt_of_le_of_lt hn h
theorem int_len {i : Int} {m : Nat} (hi : i.natAbs ≤ m) (hm : Lim m) : i.natAbs.log2 < 1920 ∧ (toString i : String).length ≤ 571 :=
  ⟨log2_of_pow (Nat.lt_of_le_of_lt hi hm.big), int_text_length_le10 (k := 570) (by decide) (Nat.lt_of_le_of_lt hi hm.big)⟩
theorem gd_int_text {i : Int} {m m' d b : Nat} (hi : i.natAbs ≤ m) (hm : Lim m) (hb : 571 ≤ b) : Gd m' d b (.str (Str.ofString (toString i))) := gd_txt (Nat.le_trans (int_len hi hm).2 hb)
/-- numbers whose text is at most L signs -/
def LimL (L m : Nat) : Prop := (10 ≤ L ∧ L ≤ 561) ∧ m < 10 ^ (L - 1)
theorem LimL.lim {L m : Nat} (h : LimL L m) : Lim m := Nat.lt_of_lt_of_le h.2 (Nat.pow_le_pow_right (by decide) (by have := h.1; omega))
theorem LimL.len {i : Int} {L m : Nat} (hi : i.natAbs ≤ m) (h : LimL L m) : (toString i : String).length ≤ L := by
  have := int_text_length_le10 (k := L - 1) (by have := h.1; omega) (Nat.lt_of_le_of_lt hi h.2)
  have := h.1
  omega
theorem LimL.gd {i : Int} {L m m' d b : Nat} (hi : i.natAbs ≤ m) (h : LimL L m) (hb : L ≤ b) : Gd m' d b (.str (Str.ofString (toString i))) := gd_txt (Nat.le_trans (h.len hi) hb)
theorem b2_le (b : Bool) : 0 ≤ b2 b ∧ b2 b ≤ 1 := by cases b <;> decide
/-- a place of a displayed list: each of its things -/
theorem ix_all {xs : List D} {i : Int} {S : Sto} {Q : DK} (h0 : 0 ≤ i) (h : i < xs.length) (q : ∀ x ∈ xs, Q x S) : qOpt (atI xs i) S Q := by
  obtain ⟨x, e, ea⟩ := atI_lt h0 h
  rw [ea]
  exact q x (List.mem_of_getElem? e)
theorem ix_P (P : D → Prop) {xs : List D} {i : Int} {S : Sto} {Q : DK} (h0 : 0 ≤ i) (h : i < xs.length) (hp : ∀ x ∈ xs, P x) (q : ∀ x, P x → Q x S) : qOpt (atI xs i) S Q := ix_all h0 h fun x hx => q x (hp x hx)
theorem exists_map {α : Type} {f : α → D} {P : α → Prop} : ∀ {acc : List D}, (∀ y ∈ acc, ∃ z, y = f z ∧ P z) → ∃ zs : List α, acc = zs.map f ∧ ∀ z ∈ zs, P z
  | [], _ => ⟨[], rfl, fun _ h => nomatch h⟩
  | y :: r, h => by
    obtain ⟨z, e, hz⟩ := h y (List.mem_cons_self ..)
    obtain ⟨zs, e2, hzs⟩ := exists_map (acc := r) fun x hx => h x (List.mem_cons_of_mem _ hx)
    exact ⟨z :: zs, by rw [e, e2]; rfl, fun x hx => (List.mem_cons.1 hx).elim (fun h => h ▸ hz) (hzs x)⟩
theorem pow10_le {i : Int} {n k : Nat} (h0 : 0 ≤ i) (hi : i < 10 ^ n) (h : n ≤ k) : i.natAbs ≤ 10 ^ k := by
  have h3 : (10 : Nat) ^ n ≤ 10 ^ k := Nat.pow_le_pow_right (by decide) h
  have h4 : ((10 ^ n : Nat) : Int) = (10 : Int) ^ n := by rw [Int.natCast_pow]; rfl
  generalize (10 : Nat) ^ k = b at *
  rw [← h4] at hi
  omega
theorem Gds.bk_at {m d b : Nat} {xs : List D} (h : Gds m d b xs) : bks xs ≤ b := h.bk'
/-- a comprehension that draws: each thing is of P, only the feed goes on -/
theorem cLoop_feed {g : DG} {te : DE} {env : Env'} {Q : List D → Sto → Prop} (P : D → Prop) {a : Addr} {S0 : Sto} {o : O} (ho : FeedO o) {items : List D} (hl : items.length ≤ sizeLine)
    (step : ∀ x ∈ items, ∀ o, FeedO o → ∀ R : DK, (∀ y o', P y → FeedO o' → R y (su S0 a o')) → g x env (su S0 a o) fun env2 S2 => te env2 S2 R)
    (q : ∀ acc o', acc.length = items.length → (∀ y ∈ acc, P y) → FeedO o' → Q acc (su S0 a o')) : cLoop g dTrue te env (fun _ => True) Q items [] (su S0 a o) := by
  refine cLoop_all (fun pre acc S => acc.length = pre.length ∧ (∀ y ∈ acc, P y) ∧ ∃ o, FeedO o ∧ S = su S0 a o) (fun _ _ _ _ => trivial) items [] [] _ (by simpa using hl) (fun x hx pre acc S ⟨e1, h1, o, h2, e2⟩ R1 R2 h _ => ?_) ⟨rfl, fun _ h => (List.not_mem_nil h).elim, o, ho, rfl⟩ fun acc' S' _ ⟨e1, h1, o, h2, e2⟩ => ?_
  · subst e2
    exact step x hx o h2 R1 fun y o' hy ho' => h y _ ⟨by simp only [List.length_append, e1, List.length_cons, List.length_nil], fun z hz => (List.mem_append.1 hz).elim (h1 z) fun hz => by rw [List.mem_singleton.1 hz]; exact hy, o', ho', rfl⟩
  · subst e2
    exact q acc' o (by simpa using e1) h1 h2
/-- a for that draws: J tells of the names, only the feed goes on -/
theorem sLoop_feed {g : DG} {body : DS} {d : DEnds} (J : Nat → Env' → Prop) {a : Addr} {S0 : Sto} {o : O} (ho : FeedO o) {items : List D} {env : Env'} (j : J 0 env)
    (step : ∀ (n : Nat) (x : D), x ∈ items → n < items.length → ∀ env o, J n env → FeedO o → ∀ R : Env' → Sto → Prop, (∀ env' o', J (n + 1) env' → FeedO o' → R env' (su S0 a o')) → g x env (su S0 a o) fun env2 S2 => body { d with nx := R, ct := R, bk := d.nx } env2 S2)
    (q : ∀ env' o', J items.length env' → FeedO o' → d.nx env' (su S0 a o')) : sLoop g body d (fun _ => True) items env (su S0 a o) := by
  have go : ∀ (its : List D) (pre : List D) env o, pre ++ its = items → J pre.length env → FeedO o → sLoop g body d (fun _ => True) its env (su S0 a o) := by
    intro its
    induction its with
    | nil =>
      intro pre env o e j ho
      rw [List.append_nil] at e
      subst e
      exact ⟨trivial, q _ _ j ho⟩
    | cons x its ih =>
      intro pre env o e j ho
      refine ⟨trivial, step pre.length x (by rw [← e]; simp) (by rw [← e]; simp) env o j ho _ fun env' o' j' ho' => ?_⟩
      exact ih (pre ++ [x]) env' o' (by rw [← e]; simp) (by simpa using j') ho'
  exact go items [] env o rfl j ho
/-- a for: J tells of how many things are gone through, the names, the store -/
theorem sLoop_n {g : DG} {body : DS} {d : DEnds} {ok : Sto → Prop} (J : Nat → Env' → Sto → Prop) {items : List D} (hok : ∀ n env S, n ≤ items.length → J n env S → ok S) {env : Env'} {S : Sto} (j : J 0 env S)
    (step : ∀ (n : Nat) (x : D), items[n]? = some x → n < items.length → ∀ env S, J n env S → ∀ R : Env' → Sto → Prop, (∀ env' S', J (n + 1) env' S' → R env' S') → g x env S fun env2 S2 => body { d with nx := R, ct := R, bk := d.nx } env2 S2)
    (q : ∀ env' S', J items.length env' S' → d.nx env' S') : sLoop g body d ok items env S := by
  have go : ∀ (its : List D) (pre : List D) env S, pre ++ its = items → J pre.length env S → sLoop g body d ok its env S := by
    intro its
    induction its with
    | nil =>
      intro pre env S e j
      rw [List.append_nil] at e
      subst e
      exact ⟨hok _ _ _ (Nat.le_refl _) j, q _ _ j⟩
    | cons x its ih =>
      intro pre env S e j
      have hl : pre.length < items.length := by rw [← e]; simp
      refine ⟨hok _ _ _ (Nat.le_of_lt hl) j, step pre.length x (by rw [← e]; simp) hl env S j _ fun env' S' j' => ?_⟩
      exact ih (pre ++ [x]) env' S' (by rw [← e]; simp) (by simpa using j')
  exact go items [] env S rfl j
theorem rd_ref {S : Sto} {p : Addr} {xs : List D} (h : S p = some (.lst xs)) : rd S (.ref p) = .lst xs := by
  unfold rd; rw [h]
theorem ty_lst {S : Sto} {a : Addr} {xs : List D} (h : S a = some (.lst xs)) : tyD "list" (.ref a) S := by
  show (match S a with | some (.lst _) => "list" = "list" | some (.dK _) => "list" = "dict" | some (.dT _) => "list" = "dict" | _ => False)
  rw [h]
theorem repr_ref {m d b : Nat} {xs : List D} {S : Sto} {p : Addr} {Q : DK} (hs : S p = some (.lst xs)) (h : Gds m d b xs) (hm : m < 10 ^ 570) (hd : d < 60) (hb : b ≤ 29000) (q : Q (.str (shown (.lst xs))) S) : gRepr [.ref p] S Q := by
  have z : gRepr [.lst xs] S Q := Gd.repr (gd_lst.2 h) hm hd hb q
  have z' : ((pur (rd S (.lst xs)) = true ∧ dep (rd S (.lst xs)) ≤ 60) ∧ shb (rd S (.lst xs)) = true ∧ (shown (rd S (.lst xs))).length ≤ sizeLine) ∧ Q (.str (shown (rd S (.lst xs)))) S := z
  show ((pur (rd S (.ref p)) = true ∧ dep (rd S (.ref p)) ≤ 60) ∧ shb (rd S (.ref p)) = true ∧ (shown (rd S (.ref p))).length ≤ sizeLine) ∧ Q (.str (shown (rd S (.ref p)))) S
  rw [rd_ref hs]
  exact z'
end DL


set_option Elab.async false
set_option linter.all false
set_option maxRecDepth 100000
set_option maxHeartbeats 4000000
set_option exponentiation.threshold 4000
namespace DL
open PySem PySem.Spec PyProof.Rows L2

local macro_rules | `(tactic| walk_at "rd") => `(tactic| simp only [startD, List.map_cons, List.map_nil, List.length_cons, List.length_nil, Nat.reduceAdd, Nat.reduceSub, List.replicate, List.cons_append, List.nil_append,
  sSeq, sNext, sAsg, sRet, sRetN, sIf, sExpr, sFor, dVar, dC, dUn, dOp, dNil, dCons, dFn, dTst, dNot, dAnd, dOr, dIf, dAndV, dOrV, dNotV, dTup, dLst, dSl, dNoPart, dPart, dMt, dMt0, dCall, dChain, dRng1, dRng2, dLc, dIt, gNm,
  List.getElem?_cons_zero, List.getElem?_cons_succ, List.set_cons_zero, List.set_cons_succ,
  fAdd_ii, fAdd_bi, fAdd_ib, fSub_bi, fEq_bi, gStr_b, fAdd_ss, fAdd_tt, fAdd_ll, fSub_ii, fNeg_i, fDiv_ii, fMod_ii, fPow_ii, fMul_ii, fLt_ii, fLe_ii, fGt_ii, fGe_ii, fEq_ii, fNe_ii, fEq_ss, fNe_ss, fIx_t, fIx_l, fSl_t, fSl_l, fSl_s, fRv_t, fRv_l, gList_t, gList_l, gTuple_t, gTuple_l, gStr_i, gStr_s, gInt_b, gInt_i, gLen_lst, gLen_tup, gLen_str,
  isi_non_int, isi_non_bool, isi_non_str, isi_non_tuple, isi_non_list, isi_non_dict, isi_bl_int, isi_bl_bool, isi_bl_str, isi_bl_tuple, isi_bl_list, isi_bl_dict, isi_int_int, isi_int_bool, isi_int_str, isi_int_tuple, isi_int_list, isi_int_dict, isi_str_int, isi_str_bool, isi_str_str, isi_str_tuple, isi_str_list, isi_str_dict, isi_tup_int, isi_tup_bool, isi_tup_str, isi_tup_tuple, isi_tup_list, isi_tup_dict, isi_lst_int, isi_lst_bool, isi_lst_str, isi_lst_tuple, isi_lst_list, isi_lst_dict,
  if_true, if_false, Bool.false_eq_true, true_and, and_true, Bool.not_true, Bool.not_false, ite_true, ite_false])
def rBent (draw bent : DSp) : DS :=
  (sSeq (sIf (dAnd (dTst (dFn gIsi (dCons (dVar 1) (dCons (dC (.val (.ty "tuple"))) dNil)))) (dAnd (dTst (dOp fNe (dVar 1) (dTup dNil))) (dTst (dOp fGt (dCall draw 2 0 (fun xs _ => xs) E00 (dCons (dVar 0) (dCons (dC (.int 5)) dNil)) dNil) (dC (.int 0)))))) (sSeq (sAsg (dCall draw 2 0 (fun xs _ => xs) E00 (dCons (dVar 0) (dCons (dFn gLen (dCons (dVar 1) dNil)) dNil)) dNil) 2) (sRet (dOp fAdd (dOp fAdd (dSl (dVar 1) dNoPart (dPart (dVar 2))) (dTup (dCons (dCall bent 2 0 (fun xs _ => xs) E00 (dCons (dVar 0) (dCons (dOp fIx (dVar 1) (dVar 2)) dNil)) dNil) dNil))) (dSl (dVar 1) (dPart (dOp fAdd (dVar 2) (dC (.int 1)))) dNoPart)))) sNext) (sSeq (sAsg (dCall draw 2 0 (fun xs _ => xs) E00 (dCons (dVar 0) (dCons (dC (.int 9)) dNil)) dNil) 3) (sSeq (sIf (dTst (dFn gIsi (dCons (dVar 1) (dCons (dC (.val (.ty "tuple"))) dNil)))) (sSeq (sAsg (dLst (dCons (dFn gList (dCons (dVar 1) dNil)) (dCons (dUn fRv (dVar 1)) (dCons (dTup (dCons (dVar 1) dNil)) (dCons (dOp fAdd (dVar 1) (dVar 1)) (dCons (dTup dNil) (dCons (dC .non) (dCons (dSl (dVar 1) (dPart (dC (.int 1))) dNoPart) (dCons (dSl (dVar 1) dNoPart (dPart (dUn fNeg (dC (.int 1))))) dNil))))))))) 4) (sRet (dOp fIx (dOp fAdd (dVar 4) (dLst (dCons (dOp fAdd (dVar 1) (dTup (dCons (dC .non) dNil))) dNil))) (dVar 3)))) sNext) (sSeq (sIf (dTst (dFn gIsi (dCons (dVar 1) (dCons (dC (.val (.ty "int"))) dNil)))) (sRet (dOp fIx (dLst (dCons (dOp fAdd (dVar 1) (dC (.int 1))) (dCons (dOp fSub (dVar 1) (dC (.int 1))) (dCons (dOp fEq (dVar 1) (dC (.int 1))) (dCons (dFn gStr (dCons (dVar 1) dNil)) (dCons (dC .non) (dCons (dTup (dCons (dVar 1) dNil)) (dCons (dC (.int 0)) (dCons (dUn fNeg (dC (.int 1))) (dCons (dOp fPow (dC (.int 10)) (dC (.int 60))) dNil)))))))))) (dVar 3))) sNext) (sRet (dOp fIx (dLst (dCons (dC .non) (dCons (dC (.bl true)) (dCons (dC (.int 0)) (dCons (dC (.int 1)) (dCons (dC (.str "")) (dCons (dTup dNil) (dCons (dLst dNil) (dCons (dUn fNeg (dC (.int 1))) (dCons (dC (.str "a")) dNil)))))))))) (dVar 3)))))))
def spBent (L n : Nat) : DSp := fun ws S Q _ => ∃ a o x m d b, ws = [.ref a, x] ∧ S a = some o ∧ FeedO o ∧ Gd m d b x ∧ d < n ∧ (d ≤ 60 ∧ LimL L m ∧ b ≤ 4000000) ∧ ∀ y o', Gd (m + 10 ^ 60) (d + 1) (2 * b + L) y → FeedO o' → Q y (su S a o')
theorem bent_ok {L n : Nat} {ws : List D} {S : Sto} {Q : DK} {E : XD} (h : spBent L (n + 1) ws S Q E) : rBent spDraw (spBent L n) (endsD Q) (startD ["a", "b", "c", "d", "e"] ws) S := by
  obtain ⟨a, o, x, m, d, b, rfl, hs, ho, hx, hd, ⟨hd2, hm, hb⟩, q⟩ := h
  rw [← su_self hs]
  unfold rBent
  have fin : ∀ {y o'}, FeedO o' → Gd (m + 10 ^ 60) (d + 1) (2 * b + L) y → (endsD Q).rt y (su S a o') := fun {y o'} h2 h1 => ends_rt (q y o' h1 h2)
  have big : ((10 : Int) ^ (Int.toNat 60)).natAbs ≤ m + 10 ^ 60 := by
    have e : ((10 : Int) ^ (Int.toNat 60)).natAbs = 10 ^ 60 := by decide +kernel
    rw [e]; exact Nat.le_add_left ..
  have big1 : m + 9 ≤ m + 10 ^ 60 := Nat.add_le_add_left (by decide +kernel) _
  have hL := hm.1
  have pw : CPow 10 60 := ⟨by decide, by decide, by decide⟩
  generalize hMe : m + 10 ^ 60 = M at q fin big big1
  clear hs
  have leaf : ∀ r o', 0 ≤ r → r < 9 → FeedO o' → qOpt (atI [D.non, D.bl true, D.int 0, D.int 1, D.str (Str.ofString ""), D.tup [], D.lst [], D.int (-1), D.str (Str.ofString "a")] r) (su S a o') (endsD Q).rt := fun r o' h0 h1 ho' => by
    refine ix_all h0 (by simpa using h1) ?_
    simp only [List.forall_mem_cons]
    refine ⟨fin ho' gd_non, fin ho' gd_bl, fin ho' (gd_int (by omega)), fin ho' (gd_int (by omega)), fin ho' (gd_txt (Nat.zero_le _)), fin ho' (gd_tup.2 gds_nil), fin ho' (gd_lst.2 gds_nil), fin ho' (gd_int (by omega)), fin ho' (gd_txt (show 1 ≤ _ by omega)), fun _ h => nomatch h⟩
  cases x with
  | non =>
    walk_at "rd"
    exact draw_su ho (by decide) (by decide) fun r o' h0 h1 ho' => ⟨by decide, by decide, by decide, leaf r o' h0 h1 ho'⟩
  | str _ =>
    walk_at "rd"
    exact draw_su ho (by decide) (by decide) fun r o' h0 h1 ho' => ⟨by decide, by decide, by decide, leaf r o' h0 h1 ho'⟩
  | lst _ =>
    walk_at "rd"
    exact draw_su ho (by decide) (by decide) fun r o' h0 h1 ho' => ⟨by decide, by decide, by decide, leaf r o' h0 h1 ho'⟩
  | int i =>
    walk_at "rd"
    refine draw_su ho (by decide) (by decide) fun r o' h0 h1 ho' => ?_
    have hi := natAbs_of hx
    refine ⟨(int_len hi hm.lim).1, by decide, pw, by decide, ?_⟩
    refine ix_all h0 (by simpa using h1) ?_
    simp only [List.forall_mem_cons]
    have g1 : Gds M 0 (0 + 1) [.int i] := gds1 (gd_int (by omega))
    refine ⟨fin ho' (gd_int (by omega)), fin ho' (gd_int (by omega)), fin ho' gd_bl, fin ho' (hm.gd hi (by omega)), fin ho' gd_non, fin ho' ((gd_tup.2 g1).le (Nat.le_refl _) (by omega) (by omega)), fin ho' (gd_int (by omega)), fin ho' (gd_int (by omega)), fin ho' (gd_int big), fun _ h => nomatch h⟩
  | bl k =>
    walk_at "rd"
    refine draw_su ho (by decide) (by decide) fun r o' h0 h1 ho' => ?_
    have hk := b2_le k
    refine ⟨by decide, pw, by decide, ?_⟩
    refine ix_all h0 (by simpa using h1) ?_
    simp only [List.forall_mem_cons]
    have g1 : Gds M 0 (0 + 1) [.bl k] := gds1 gd_bl
    refine ⟨fin ho' (gd_int (by omega)), fin ho' (gd_int (by omega)), fin ho' gd_bl, fin ho' ?_, fin ho' gd_non, fin ho' ((gd_tup.2 g1).le (Nat.le_refl _) (by omega) (by omega)), fin ho' (gd_int (by omega)), fin ho' (gd_int (by omega)), fin ho' (gd_int big), fun _ h => nomatch h⟩
    cases k
    · exact gd_txt (s := "False") (show 5 ≤ _ by omega)
    · exact gd_txt (s := "True") (show 4 ≤ _ by omega)
  | tup xs =>
    obtain ⟨e, rfl⟩ := hx.dpos
    have hg := gd_tup.1 hx
    have hl := hg.len
    have hz : sizeLine = 16777216 := rfl
    have hM : m ≤ M := by omega
    -- where it is drawn as a whole
    have whole : ∀ o', FeedO o' → spDraw [D.ref a, D.int 9] (su S a o') (fun w S1 => 1 ≤ sizeLine ∧ xs.length + xs.length ≤ sizeLine ∧ 0 ≤ sizeLine ∧ 8 ≤ sizeLine ∧ 1 ≤ sizeLine ∧ xs.length + 1 ≤ sizeLine ∧ 1 ≤ sizeLine ∧ 9 ≤ sizeLine ∧
        fIx (D.lst [D.lst xs, D.tup xs.reverse, D.tup [D.tup xs], D.tup (xs ++ xs), D.tup [], D.non, D.tup (cut xs (some 1) none), D.tup (cut xs none (some (-1))), D.tup (xs ++ [D.non])]) w S1 (endsD Q).rt) E00 := fun o' ho' => by
      refine draw_su ho' (by decide) (by decide) fun r o' h0 h1 ho' => ⟨by omega, by omega, by omega, by omega, by omega, by omega, by omega, by omega, ?_⟩
      walk_at "rd"
      refine ix_all h0 (by simpa using h1) ?_
      simp only [List.forall_mem_cons]
      have up : ∀ {ys : List D} {c : Nat}, Gds m e c ys → c ≤ 2 * b + L → Gd M (e + 1 + 1) (2 * b + L) (.tup ys) := fun h1 h2 => (gd_tup.2 h1).le hM (by omega) h2
      refine ⟨fin ho' ((gd_lst.2 hg).le hM (by omega) (by omega)), fin ho' (up hg.rev (by omega)), fin ho' (gd_tup.2 ((gds1 hx).le hM (by omega) (by omega))), fin ho' (up (hg.append hg) (by omega)), fin ho' (gd_tup.2 gds_nil), fin ho' gd_non, fin ho' (up (hg.sub (cut_sub _ _ _)) (by omega)), fin ho' (up (hg.sub (cut_sub _ _ _)) (by omega)), fin ho' (up (hg.append (gds1 (b := 0) gd_non)) (by omega)), fun _ h => nomatch h⟩
    walk_at "rd"
    refine ⟨by decide, hx.ne (m' := 0) (d' := 1) (b' := 0) (gd_tup.2 gds_nil) (by omega) (by decide) ?_⟩
    rw [deq_tup0]
    cases xs with
    | nil => exact whole _ ho
    | cons y ys =>
      simp only [List.isEmpty_cons, Bool.not_false, if_true]
      refine draw_su ho (by decide) (by decide) fun r o' h0 h1 ho' => ?_
      walk_at "rd"
      refine ite_by (fun _ => ?_) (fun _ => whole _ ho')
      have hl' : ys.length + 1 ≤ b := hl
      refine draw_su ho' (by omega) (by omega) fun i o' hi0 hi1 ho' => ?_
      obtain ⟨x, ex, ea⟩ := atI_lt (xs := y :: ys) hi0 (by simpa using hi1)
      walk_at "rd"
      rw [ea]
      have hx1 : x ∈ y :: ys := List.mem_of_getElem? ex
      have hx2 : Gd m e (bk x) x := ⟨hg.ok _ hx1, hg.dp _ hx1, Nat.le_refl _⟩
      have hx3 := bk_mem hx1
      have hx4 := hg.bk'
      refine ⟨a, _, x, m, e, bk x, rfl, su_same, ho', hx2, by omega, ⟨by omega, hm, by omega⟩, fun z o' hz ho' => ?_⟩
      rw [su_su]
      rw [hMe] at hz
      have e1 := cut_to (z := y :: ys) hi0 (by simpa using Int.le_of_lt hi1)
      have e2 := cut_from (z := y :: ys) (i := i + 1) (by omega)
      have e3 : (i + 1).toNat = i.toNat + 1 := by omega
      rw [e1, e2, e3]
      have hsp : bks ((y :: ys).take i.toNat) + (bk x + 1 + bks ((y :: ys).drop (i.toNat + 1))) = bks (y :: ys) := by
        have := List.getElem?_eq_some_iff.1 ex
        obtain ⟨h1, h2⟩ := this
        rw [show bk x + 1 + bks ((y :: ys).drop (i.toNat + 1)) = bks ((y :: ys).drop i.toNat) by rw [List.drop_eq_getElem_cons h1, h2]; rfl, ← bks_append, List.take_append_drop]
      have hlt : ((y :: ys).take i.toNat).length ≤ b := Nat.le_trans (by rw [List.length_take]; exact Nat.min_le_right ..) hl
      have hld : ((y :: ys).drop (i.toNat + 1)).length ≤ b := Nat.le_trans (by rw [List.length_drop]; exact Nat.sub_le ..) hl
      refine ⟨by omega, by omega, by simp only [List.length_append, List.length_cons, List.length_nil]; omega, fin ho' ?_⟩
      have t1 : Gds m e (bks ((y :: ys).take i.toNat)) ((y :: ys).take i.toNat) := ⟨(hg.sub (List.take_sublist ..)).ok, (hg.sub (List.take_sublist ..)).dp, Nat.le_refl _⟩
      have t2 : Gds m e (bks ((y :: ys).drop (i.toNat + 1))) ((y :: ys).drop (i.toNat + 1)) := ⟨(hg.sub (List.drop_sublist ..)).ok, (hg.sub (List.drop_sublist ..)).dp, Nat.le_refl _⟩
      refine (gd_tup.2 (((t1.le hM (Nat.le_succ e) (Nat.le_refl _)).append (gds1 hz)).append (t2.le hM (Nat.le_succ e) (Nat.le_refl _)))).le (Nat.le_refl _) (by omega) ?_
      omega
  | scr _ => cases hx.ok
  | ref _ => cases hx.ok
  | val _ => cases hx.ok
/-- nothing is promised -/
theorem FnG.void {P : Program} {w : World} {K : PySem.W.Frag} {mg : Str → Option Value} {base : Heap} {CX : CXT} {k : Nat} {f : Addr} {fd : FuncData} {ps : List Str} {sp : DSp} (h : ∀ ws S Q E, ¬ sp ws S Q E) : FnG P w K mg base CX k f fd ps sp :=
  ⟨fun ws S Q E q => (h ws S Q E q).elim, fun A outer s H args us vs Q E hr hg he hb hv ⟨I, S, ws, Qd, Ed, a, b, c, d⟩ => (h _ _ _ _ c).elim⟩
end DL


set_option Elab.async false
set_option linter.all false
set_option maxRecDepth 100000
set_option maxHeartbeats 4000000
namespace DL
open PySem PySem.Spec PyProof.Rows L2
/-! ### a, *b, c = a tuple -/
section
variable {prog : Program} {w : World} {A : Around} {E : Value → Shared → Prop} {s : Shared}
/-- a walk from its k-th thing on -/
theorem walk_from {I : Addr} {fp wr : List Addr} {n : Nat} {P : Nat → Value → Prop} {St : Nat → Heap → Prop} (W : Walks prog w A I fp wr n P St) {k : Nat} (hk : k ≤ n) : Walks prog w A I fp wr (n - k) (fun i => P (k + i)) (fun i => St (k + i)) where
  sub := W.sub
  frame := fun i => W.frame (k + i)
  item := fun i s Q E hi st hQ => W.item (k + i) s Q E (by omega) st hQ
  done := fun s Q E st hQ => W.done s Q E (by rw [Nat.add_sub_cancel' hk] at st; exact st) hQ
  self := fun i => W.self (k + i)
theorem got_eq {items : List Value} {k : Nat} {acc : Array Value} (hk : k ≤ items.length) (h : ItemsOf (fun i v => items.toArray[k + i]? = some v) acc (items.length - k)) : acc.toList = items.drop k := by
  obtain ⟨h1, h2⟩ := h
  apply List.ext_getElem?
  intro j
  rw [List.getElem?_drop, Array.getElem?_toList]
  by_cases hj : j < acc.size
  · have e := h2 j acc[j] (Array.getElem?_eq_getElem hj)
    rw [Array.getElem?_eq_getElem hj]
    rw [← e]; simp
  · rw [Array.getElem?_eq_none (by omega), List.getElem?_eq_none (by omega)]
theorem draw_some {it t : Addr} {items : Array Value} (hne : t ≠ it) {n : Nat} {s : Shared} {Q : List Value → Shared → Prop} (h1 : IsTupIter s.heap it t 0) (h2 : IsTup s.heap t items) (hn : n ≤ items.size)
    (q : ∀ h', IsTupIter h' it t n → Heap.SameBut it s.heap h' → Q (items.toList.take n) { s with heap := h' }) : wpAny (model prog w) A (draw (.ref it) n) Q E s :=
  draw_tuple hne n 0 s Q h1 h2 (by omega) fun h' a b => by
    rw [Nat.zero_add] at a
    rw [List.drop_zero]
    exact q h' a b
theorem starItems {t : Addr} {items : List Value} {i n : Nat} {Q : List Value → Shared → Prop} (hh : A.handled = none) (ht : IsTup s.heap t items.toArray) (hi : i < n) (hn : n ≤ items.length + 1) (hz : items.length ≤ sizeLine)
    (hQ : ∀ (h' : Heap) (tk : Nat), (∀ b o, s.heap.get? b = some o → h'.get? b = some o) →
      Q (items.take i ++ [.ref h'.objs.size] ++ items.drop (items.length + 1 - (n - i))) { s with heap := h'.push { cls := .type "list", data := .seq ((items.drop i).take (items.length + 1 - n)).toArray }, toks := tk }) : wpAny (model prog w) A (unpackItems (.ref t) n (some i)) Q E s := by
  have hlt : t ≠ s.heap.objs.size := by obtain ⟨o, ho, _⟩ := ht; exact Nat.ne_of_lt (Heap.lt_size ho)
  unfold unpackItems
  refine wpAny_bind ?_
  unfold notIterableAtAll
  refine wpAny_bind (wpAny_specialOf ht.typeIs slot_tuple_iter.lookup (wpAny_pure ?_))
  rw [if_neg Bool.false_ne_true]
  refine wpAny_bind (wpAny_holding (iter_tuple ht (wpAny_bind (wpAny_holding ?_))))
  refine draw_some hlt ⟨_, Heap.get?_push_size _ rfl, rfl, rfl⟩ (ht.push _) (by simp; omega) fun h1 it1 sb1 => ?_
  have len1 : (List.take i items.toArray.toList).length = i := by simp; omega
  rw [if_neg (by rw [len1]; exact Nat.lt_irrefl i)]
  have ht1 : IsTup h1 t items.toArray := (ht.push _).extBut sb1.extBut hlt
  have W := (walk_from (Walks.tuple (prog := prog) (w := w) (A := A.in1) hh s.heap.objs.size t hlt items.toArray) (k := i) (by simp; omega)).toS
  refine wpAny_bind (wpAny_holding (wpAny_collect_iter (.inr (.inr (.inr rfl))) W (fun j s' st => ?_) ⟨?_, ?_⟩ ?_ (List.mem_cons_self ..) (fun s' acc mv io => ?_) (by simp; omega)))
  · exact st.1.typeIs
  · exact it1
  · exact ht1
  · intro b hb
    rcases List.mem_cons.1 hb with rfl | hb
    · obtain ⟨o, ho, _⟩ := it1
      exact Heap.lt_size ho
    · rw [List.mem_singleton.1 hb]
      obtain ⟨o, ho, _⟩ := ht1
      exact Heap.lt_size ho
  · have er : acc.toList = items.drop i := got_eq (by omega) io
    have hlen : acc.toList.length = items.length - i := by rw [er, List.length_drop]
    show wpAny (model prog w) A (if acc.toList.length < n - 1 - i then _ else _) Q E s'
    rw [if_neg (by omega), er]
    have hm : (items.drop i).length - (n - 1 - i) = items.length + 1 - n := by rw [List.length_drop]; omega
    refine wpAny_bind ?_
    show wpAny (model prog w) A (newList ((items.drop i).take ((items.drop i).length - (n - 1 - i)))) _ E s'
    rw [hm]
    refine wpAny_newList (wpAny_pure ?_) (by rw [List.length_take, List.length_drop]; omega)
    obtain ⟨hp, gs, dr, tk, os⟩ := s'
    obtain ⟨m1, m2, m3, m4, m5⟩ := mv
    cases m2; cases m3; cases m4
    have q := hQ hp tk fun b o e => m1 b o (by
      simp only [List.mem_singleton]
      exact Nat.ne_of_lt (Heap.lt_size e)) ((sb1.2 b (Nat.ne_of_lt (Heap.lt_size e))).trans (Heap.get?_push_of_some _ e))
    rw [List.drop_drop] 
    rw [show items.length + 1 - (n - i) = i + (items.length + 1 - n) by omega] at q
    exact q
end
section
variable {X : Cx} {wi : Wi} {pos : Pos}
theorem vals_take {vs : List V} {us : List Value} (r : Vals vs us) (n : Nat) : Vals (vs.take n) (us.take n) := by
  induction r generalizing n with
  | nil => simp; exact .nil
  | cons h t ih => cases n with
    | zero => exact .nil
    | succ n => exact .cons h (ih n)
theorem vals_drop {vs : List V} {us : List Value} (r : Vals vs us) (n : Nat) : Vals (vs.drop n) (us.drop n) := by
  induction r generalizing n with
  | nil => simp; exact .nil
  | cons h t ih => cases n with
    | zero => exact .cons h t
    | succ n => exact ih n
theorem vals_app {vs ws : List V} {us us' : List Value} (r : Vals vs us) (r' : Vals ws us') : Vals (vs ++ ws) (us ++ us') := by
  induction r with
  | nil => exact r'
  | cons h t ih => exact .cons h ih
/-- a, .., *b, .., c = a tuple: n targets, the i-th has the star -/
def gStar (i n : Nat) (t : DGs) : DG := fun x env S Q => match x with
  | .tup xs => n ≤ xs.length + 1 ∧ t (xs.take i ++ [.lst ((xs.drop i).take (xs.length + 1 - n))] ++ xs.drop (xs.length + 1 - (n - i))) env S Q
  | _ => False
theorem mgStar {vs : List Nat} {es : List Expr} {k : Nat} {t : DGs} {n i : Nat} (hc : X.calm = true) (h : MGs X wi vs es t)
    (hi : i < n := by decide) (hn : (assignEach es X.env).length = n := by rfl) (hst : (assignEach es X.env).findIdx? (·.1) = some i := by rfl) : MG X wi vs (.Tuple es k pos) (gStar i n t) := by
  refine ⟨fun pins s σ H v u Q I r hw => ?_⟩
  obtain ⟨Ih, env, S, x, Qd, sim, er, rx, hq, kq⟩ := hw
  cases rx with
  | @tup a xs ws h1 r1 =>
    cases r
    obtain ⟨hl, hq⟩ := hq
    obtain ⟨its, rv, ht, hz⟩ := I.tuple (SqT.le sim.im h1.sq)
    have l1 := rv.length
    have l2 := r1.length
    rw [assign_Tuple]
    refine wpAny_bind (wpAny_standAt ?_)
    unfold unpack
    rw [hn, hst]
    refine wpAny_bind (wpAny_holding (starItems (I.ok.hd hc) ht hi (by omega) (by omega) fun h' tk ext => ?_))
    have I1 : Inv X pins σ H { s with heap := h', toks := tk } := I.kept fun b o e => ext b o e
    have hp : H h'.objs.size = none := I1.hok.fresh (Nat.le_refl _)
    obtain ⟨s2, e2⟩ := sim.newI (u := .lst ((ws.drop i).take (its.length + 1 - n))) hp
    have I2 : Inv X pins σ (upd H h'.objs.size (.lst ((ws.drop i).take (its.length + 1 - n)))) { s with heap := h'.push { cls := .type "list", data := .seq ((its.drop i).take (its.length + 1 - n)).toArray }, toks := tk } :=
      I1.laid (t' := tk) (o := .lst ((ws.drop i).take (its.length + 1 - n))) (fun b ob q => Heap.get?_push_of_some _ q) (Nat.le_refl _) ⟨by rw [List.length_take, List.length_drop]; omega, _, 0, vals_take (vals_drop rv i) _, Heap.get?_push_size _ rfl⟩
    have r2 : RDs X.K (upd Ih h'.objs.size (.lst ((ws.drop i).take (its.length + 1 - n)))) xs ws := r1.newI (sim.free hp)
    refine h.run pins _ σ _ (ws.take i ++ [.ref h'.objs.size] ++ ws.drop (its.length + 1 - (n - i))) _ Q I2 (vals_app (vals_app (vals_take rv i) (.cons (show RelV (V.ref h'.objs.size) (.ref h'.objs.size) from rfl) .nil)) (vals_drop rv _)) ?_
    refine ⟨_, env, S, _, Qd, s2, er.le e2.le, ?_, hq, fun I' env' σ' S' H' e3 s3 er3 w3 q3 => kq I' env' σ' S' H' (e2.trans e3) s3 er3 w3 q3⟩
    have e4 : xs.length = its.length := by omega
    rw [e4]
    exact ((r2.take i).append (.cons (.lst upd_same ((r2.drop i).take _)) .nil)).append (r2.drop _)
  | _ => exact hq.elim
end
end DL


set_option Elab.async false
set_option linter.all false
set_option maxRecDepth 100000
set_option maxHeartbeats 4000000
namespace DL
open PySem PySem.Spec PyProof.Rows L2
section
variable {X : Cx} {wi : Wi}
/-- a target with a star among others -/
theorem mgsS {vs : List Nat} {e : Expr} {es : List Expr} {t : DG} {u : DGs} {p : Pos} (h1 : MG X wi vs e t) (h2 : MGs X wi vs es u)
    (hs : (assignEach (e :: es) X.env).map (·.2) = assign e X.env :: (assignEach es X.env).map (·.2) := by rfl)
    (hq : (assignEach (.Starred e p :: es) X.env).map (·.2) = (assignEach (e :: es) X.env).map (·.2) := by rfl) : MGs X wi vs (.Starred e p :: es) (gsCons t u) :=
  ⟨fun pins s σ H us ws Q I r h => by rw [hq]; exact (mgsC h1 h2 hs).run pins s σ H us ws Q I r h⟩
end
/-! ### keywords and defaults -/
inductive Sr where
  | p (i : Nat) | k (i : Nat) | d (i : Nat)
def Sr.of {α : Type} (z : α) (xs ys ds : List α) : Sr → α
  | .p i => xs.getD i z
  | .k i => ys.getD i z
  | .d i => ds.getD i z
def lay {α : Type} (z : α) (ss : List Sr) (xs ys ds : List α) : List α := ss.map (Sr.of z xs ys ds)
theorem vals_getD {vs : List V} {us : List Value} (r : Vals vs us) (i : Nat) : RelV (vs.getD i .non) (us.getD i .none) := by
  induction r generalizing i with
  | nil => cases i <;> rfl
  | cons h t ih => cases i with
    | zero => exact h
    | succ i => exact ih i
theorem vals_lay {vs zs ds : List V} {us ws its : List Value} (r : Vals vs us) (q : Vals zs ws) (d : Vals ds its) : ∀ ss : List Sr, Vals (lay .non ss vs zs ds) (lay .none ss us ws its)
  | [] => .nil
  | .p i :: ss => .cons (vals_getD r i) (vals_lay r q d ss)
  | .k i :: ss => .cons (vals_getD q i) (vals_lay r q d ss)
  | .d i :: ss => .cons (vals_getD d i) (vals_lay r q d ss)
theorem rds_getD {K : PySem.W.Frag} {I : Hp} : ∀ {xs : List D} {vs : List V}, RDs K I xs vs → ∀ i : Nat, RD K I (xs.getD i .non) (vs.getD i .non)
  | _, _, .nil, i => by cases i <;> exact .non
  | _, _, .cons h t, 0 => h
  | _, _, .cons h t, i + 1 => rds_getD t i
theorem rds_lay {K : PySem.W.Frag} {I : Hp} {xs ys es : List D} {vs zs ds : List V} (r : RDs K I xs vs) (q : RDs K I ys zs) (d : RDs K I es ds) : ∀ ss : List Sr, RDs K I (lay .non ss xs ys es) (lay .non ss vs zs ds)
  | [] => .nil
  | .p i :: ss => .cons (rds_getD r i) (rds_lay r q d ss)
  | .k i :: ss => .cons (rds_getD q i) (rds_lay r q d ss)
  | .d i :: ss => .cons (rds_getD d i) (rds_lay r q d ss)
section
variable {K : PySem.W.Frag} {x qual : Str} {params : Arguments} {body : List Stmt} {scope : Scope} {dvs : List V} {kws ms : List (Str × V)} {f : Addr} {fd : FuncData} {ps ks : List Str} {n : Nat} {ss : List Sr} {ds : List D}
theorem FunD.noKw (F : FunD K x qual params body scope dvs kws f fd) : FunD K x qual params body scope dvs [] f fd := by
  obtain ⟨oc, od, dV, kV, doc, pm, an, cdv, ct, osl, e, lk, hcd, hD, _⟩ := F.ex
  exact ⟨⟨oc, od, dV, kV, doc, pm, an, cdv, ct, osl, e, lk, hcd, hD, .inl rfl⟩, F.kp⟩
/-- every parameter is given, by its place or its name -/
theorem bnd_kwN (F : FunD K x qual params body scope [] kws f fd)
    (h : ∀ (kV doc pm : Value) (an : Option Addr) (cdv ct : Value) (us ws : List Value), us.length = n → ws.length = ks.length → bindArgs (PySem.W.fnOf x qual params body scope .none kV doc pm an cdv ct) ⟨us, ks.zip ws⟩ = pure (ps.zip (lay .none ss us ws []))) :
    Bnd K fd ps n ks (fun xs ys => lay .non ss xs ys []) := by
  obtain ⟨oc, od, dV, kV, doc, pm, an, cdv, ct, osl, rfl, lk, hcd, hD, _⟩ := F.ex
  rcases hD with ⟨_, rfl⟩ | ⟨e, _⟩
  · exact ⟨fun us ws => lay .none ss us ws [], fun vs zs => lay .non ss vs zs [], ⟨fun s us ws _ l1 l2 => .of_eq (h kV doc pm an cdv ct us ws l1 l2), fun r q => vals_lay r q .nil ss⟩, fun I xs vs ys us r q => rds_lay r q .nil ss⟩
  · exact absurd rfl e
/-- some keyword-only parameters take their defaults -/
theorem bnd_kwD (F : FunD K x qual params body scope [] kws f fd) (hk : kws ≠ []) (hms : ∀ q ∈ ms, q ∈ kws) (hd : ∀ I, RDs K I ds (ms.map (·.2)))
    (h : ∀ (D : Addr) (doc pm : Value) (an : Option Addr) (cdv ct : Value) (us mv ws : List Value), us.length = n → mv.length = ms.length → ws.length = ks.length →
      KwChain D ((ms.map (·.1)).zip mv) (bindArgs (PySem.W.fnOf x qual params body scope .none (.ref D) doc pm an cdv ct) ⟨us, ks.zip ws⟩) (ps.zip (lay .none ss us ws mv))) :
    Bnd K fd ps n ks (fun xs ys => lay .non ss xs ys ds) := by
  obtain ⟨oc, od, dV, kV, doc, pm, an, cdv, ct, osl, rfl, lk, hcd, hD, hK⟩ := F.ex
  rcases hD with ⟨_, rfl⟩ | ⟨e, _⟩
  · rcases hK with e | ⟨D, rfl, hq⟩
    · exact absurd e hk
    · obtain ⟨mv, hl, rk, hks⟩ := kwd_vals (ms := ms) fun q hm => hq q (hms q hm)
      exact ⟨fun us ws => lay .none ss us ws mv, fun vs zs => lay .non ss vs zs (ms.map (·.2)), ⟨fun s us ws X l1 l2 => BindsTo.of_looks fun M => KwChain.looks X hks (h D doc pm an cdv ct us mv ws l1 hl l2), fun r q => vals_lay r q rk ss⟩, fun I xs vs ys us r q => rds_lay r q (hd I) ss⟩
  · exact absurd rfl e
end
/-! ### a default that is an object -/
/-- the object that the keyword-only parameter nm of the def x has, if it is left out -/
def kwAt (x nm : Str) (K : PySem.W.Frag) : Addr := match K.lookup (He.fAd K (x, none)) with
  | some ⟨_, _, .func fd, _⟩ => (match fd.kwdefaults with
    | .ref D => (match PySem.W.nsIn K D nm with
      | some (some (.ref a)) => a
      | _ => 0)
    | _ => 0)
  | _ => 0
theorem rd_at {K : PySem.W.Frag} {w : D} {a : Addr} (h : vD K w (.ref a) = true) : ∀ I, RD K I w (.ref a) := by
  obtain ⟨v, r, q⟩ := vD_ok w (.ref a) h
  cases v with
  | ref b => cases (show Value.ref a = Value.ref b from r); exact q
  | non => cases (show Value.ref a = Value.none from r)
  | bl b => cases (show Value.ref a = Value.bool b from r)
  | ty b => cases (show Value.ref a = Value.type b from r)
  | int i => obtain ⟨t, e⟩ := r; cases e
  | str i => obtain ⟨t, e⟩ := r; cases e
  | byt i => obtain ⟨t, e⟩ := r; cases e
  | flt i => obtain ⟨t, e⟩ := r; cases e
end DL


set_option Elab.async false
set_option linter.all false
set_option maxRecDepth 100000
set_option maxHeartbeats 4000000
namespace DL
open PySem PySem.Spec PyProof.Rows L2
/-! ### enumerate and zip, whose pairs are plain tuples -/
def ItF (J : It) (pr : Nat → Hp → List V → Prop) : It :=
  ⟨J.go, fun i H v H' => ∃ T ob xs, v = .ref T ∧ ob.dict = none ∧ H T = none ∧ H' = upd H T (.frz ob (.tup xs)) ∧ pr i H xs, J.stop⟩
section
variable {P : Program} {w : World} {K : PySem.W.Frag} {elts : List Expr} {kk : Nat} {tpos : Pos}
/-- a new pair stands -/
theorem fr_ok {X : Cx} {pins : List (Addr × Obj)} {σ : L2.St} {H : Hp} {s : Shared} {h' : Heap} {t' : Nat} {ch : List Addr} {xs : List V} {us : List Value} (I : Inv X pins σ H s) (k : ∀ b o, b ∉ ch → s.heap.get? b = some o → h'.get? b = some o) (hf : ∀ b ∈ ch, FpOk X pins H b)
    (r : Vals xs us) (hz : xs.length ≤ sizeLine) (e : h'.get? s.heap.objs.size = some (tob us)) : Inv X pins σ (upd H s.heap.objs.size (.frz (tob us) (.tup xs))) { s with heap := h', toks := t' } :=
  I.turnedNew (ch := ch) k hf (Nat.le_refl _) ⟨e, hz, us, r, ⟨_, e, rfl, 0, rfl⟩⟩
def prE (K : PySem.W.Frag) (a : Addr) (i : Nat) (H : Hp) (ps : List V) : Prop := ∃ x, ps = [.int (i : Nat), x] ∧ ∀ xs, SqL K H a xs → xs[i]? = some x
theorem turn_enumF (a e it : Addr) : Turn P w K (.Tuple elts kk tpos) (ItF (Ite K a) (prE K a)) [e, it] e (fun i h => (∃ old, IsEnum h e it ((i : Nat) : Int) old) ∧ h.IsListIter it a i ∧ e ≠ it) where
  mem := (turn_enum (P := P) (w := w) (K := K) (elts := elts) (kk := kk) (tpos := tpos) a e it).mem
  obj := (turn_enum (P := P) (w := w) (K := K) (elts := elts) (kk := kk) (tpos := tpos) a e it).obj
  keep := (turn_enum (P := P) (w := w) (K := K) (elts := elts) (kk := kk) (tpos := tpos) a e it).keep
  done := (turn_enum (P := P) (w := w) (K := K) (elts := elts) (kk := kk) (tpos := tpos) a e it).done
  self := (turn_enum (P := P) (w := w) (K := K) (elts := elts) (kk := kk) (tpos := tpos) a e it).self
  item := by
    rintro X rfl rfl rfl hc i pins s σ H E I hf ⟨⟨old, he⟩, hit, hne⟩ ⟨xs, x, hq, hx⟩
    obtain ⟨its, rv, p, _⟩ := I.list hq
    obtain ⟨u, hu, ru⟩ := rv.get hx
    have el : e < s.heap.objs.size := Heap.lt_size he
    have il : it < s.heap.objs.size := by obtain ⟨_, q, _⟩ := hit; exact Heap.lt_size q
    refine wpAny_pyNext_enum_item he hit p.isList (x := u) (by simpa using hu) hne fun h1 ho hit1 hT _ hk => ⟨_, rfl, wpAny_letOwnedTupleGo_enum (s := { s with heap := h1, toks := s.toks + 1 }) ho fun h2 he2 sb => ?_⟩
    have out : ∀ {b : Addr}, b ∉ [e, it] → b ≠ e ∧ b ≠ it := fun z => ⟨fun q => z (by simp [q]), fun q => z (by simp [q])⟩
    refine ⟨.ref s.heap.objs.size, _, fr_ok (s := s) (h' := h2) (t' := s.toks + 1) (xs := [.int (i : Nat), x]) (us := [.int i s.toks, u]) (ch := [e, it]) I (fun b ob hb q => (sb.2 b (out hb).1).trans (hk b ob (out hb).1 (out hb).2 q)) hf (.cons ⟨_, rfl⟩ (.cons ru .nil)) (by show 2 ≤ sizeLine; decide) ((sb.2 _ (Nat.ne_of_gt el)).trans hT), rfl,
      ⟨_, _, _, rfl, rfl, I.hok.fresh (Nat.le_refl _), rfl, x, rfl, fun ys hy => by rw [I.list_inj hy hq]; exact hx⟩, ⟨⟨u, ?_⟩, hit1.at fun o q => (sb.2 it (Ne.symm hne)).trans q, hne⟩, fun b hb => ?_⟩
    · rw [show ((i + 1 : Nat) : Int) = (i : Int) + 1 by omega]; exact he2
    · have hl : b < s.heap.objs.size := by
        rcases List.mem_cons.mp hb with q | q
        · rw [q]; exact el
        · rw [List.mem_singleton.mp q]; exact il
      rw [upd_ne (Nat.ne_of_lt hl)]
      exact (hf b hb).1
def iEnumF (K : PySem.W.Frag) (ta : TA) : TI := fun σ H R => ta σ H fun vs H1 => ∃ a xs, vs = [.ref a] ∧ SqL K H1 a xs ∧ R (ItF (Ite K a) (prE K a)) H1
theorem pi_enumF {X : Cx} {e : Expr} {ta : TA} {p pos : Pos} (hg : Gl X "enumerate") (hm : X.mg "enumerate" = none) (ha : PA X [e] ta) (hs : starEach [e] X.env = [(false, eval e X.env)] := by rfl) :
    PI X (.Tuple elts kk tpos) (.Call (.Name "enumerate" p) [e] [] pos) (iEnumF X.K ta) := by
  refine ⟨fun pins s σ H R I h => Call_ (ld_blt I hg hm boot_enumerate (PyProof.Rows.callWith_type1 (thn (ha.run pos pins s σ H _ I h) fun us s1 ⟨vs, H1, I1, r1, a, xs, ex, hq, q⟩ => ?_) hs rfl))⟩
  subst ex
  obtain ⟨u, rfl, r⟩ := vals1 r1
  cases r
  obtain ⟨its, rv, p', _⟩ := I1.list hq
  refine call_enumerate_list p'.isList fun h' he hit _ hk => wpAny_pyIter_enum he ?_
  refine ⟨s1.heap.objs.size + 1, [s1.heap.objs.size + 1, s1.heap.objs.size], _, _, H1, rfl, I1.kept (t' := s1.toks) hk, turn_enumF a _ _, ⟨⟨.none, he⟩, hit, Nat.succ_ne_self _⟩, fun b hb => ?_, q⟩
  have hle : s1.heap.objs.size ≤ b := by
    rcases List.mem_cons.mp hb with q | q
    · rw [q]; exact Nat.le_add_right _ _
    · rw [List.mem_singleton.mp q]; exact Nat.le_refl _
  exact I1.fpOk hle (I1.hok.fresh hle)
def prZ (K : PySem.W.Frag) (a b : Addr) (i : Nat) (H : Hp) (ps : List V) : Prop := ∃ x y, ps = [x, y] ∧ (∀ xs, SqT K H a xs → xs[i]? = some x) ∧ ∀ ys, SqT K H b ys → ys[i]? = some y
theorem turn_zipF {a b z TI TO i1 i2 : Addr} (D : ZipApart z TI TO i1 i2 a b) :
    Turn P w K (.Tuple elts kk tpos) (ItF (RZ.ItzT K a b) (prZ K a b)) [z, TI, TO, i1, i2] z (fun i h => IsZip h z TI TO .none ∧ IsPair h TI (.ref i1) (.ref i2) ∧ (∃ x y, IsPair h TO x y) ∧ h.IsTupleIter i1 a i ∧ h.IsTupleIter i2 b i) where
  mem := (RZ.turn_zipT (P := P) (w := w) (K := K) (elts := elts) (kk := kk) (tpos := tpos) D).mem
  obj := (RZ.turn_zipT (P := P) (w := w) (K := K) (elts := elts) (kk := kk) (tpos := tpos) D).obj
  keep := (RZ.turn_zipT (P := P) (w := w) (K := K) (elts := elts) (kk := kk) (tpos := tpos) D).keep
  done := (RZ.turn_zipT (P := P) (w := w) (K := K) (elts := elts) (kk := kk) (tpos := tpos) D).done
  self := (RZ.turn_zipT (P := P) (w := w) (K := K) (elts := elts) (kk := kk) (tpos := tpos) D).self
  item := by
    rintro X rfl rfl rfl hc i pins s σ H E I hf ⟨hz, hTI, ⟨x0, y0, hTO⟩, h1, h2⟩ ⟨xs, ys, x, y, hqx, hqy, hx, hy⟩
    obtain ⟨its, rv, p, _⟩ := I.tuple hqx
    obtain ⟨its2, rv2, p2, _⟩ := I.tuple hqy
    obtain ⟨u, hu, ru⟩ := rv.get hx
    obtain ⟨u2, hu2, ru2⟩ := rv2.get hy
    have zl : z < s.heap.objs.size := Heap.lt_size hz
    refine RZ.pyNext_zipT_item D hz hTI hTO h1 h2 p p2 (x := u) (y := u2) (by simpa using hu) (by simpa using hu2) fun h' z' TO' h1' h2' hT _ hk => ⟨_, rfl, wpAny_letOwnedTupleGo_zip (s := { s with heap := h' }) z' fun h'' z'' sb => ?_⟩
    have out : ∀ {c : Addr}, c ∉ [z, TI, TO, i1, i2] → c ≠ z ∧ c ≠ TI ∧ c ≠ TO ∧ c ≠ i1 ∧ c ≠ i2 := fun q => by simpa using q
    refine ⟨.ref s.heap.objs.size, _, fr_ok (s := s) (h' := h'') (t' := s.toks) (xs := [x, y]) (us := [u, u2]) (ch := [z, TI, TO, i1, i2]) I (fun c o hb q => (sb.2 c (out hb).1).trans (hk c o (out hb).1 (out hb).2.2.1 (out hb).2.2.2.1 (out hb).2.2.2.2 q)) hf (.cons ru (.cons ru2 .nil)) (by show 2 ≤ sizeLine; decide) ((sb.2 _ (Nat.ne_of_gt zl)).trans hT), rfl,
      ⟨_, _, _, rfl, rfl, I.hok.fresh (Nat.le_refl _), rfl, x, y, rfl, fun l hl => by rw [I.tuple_inj hl hqx]; exact hx, fun l hl => by rw [I.tuple_inj hl hqy]; exact hy⟩, ⟨z'', ?_, ⟨u, u2, ?_⟩, ?_, ?_⟩, fun c hcm => ?_⟩
    · exact (sb.2 _ D.TIz).trans (hk _ _ D.TIz D.TITO D.TIi1 D.TIi2 hTI)
    · exact (sb.2 _ D.TOz).trans TO'
    · exact h1'.at fun o q => (sb.2 _ D.i1z).trans q
    · exact h2'.at fun o q => (sb.2 _ D.i2z).trans q
    · have hlt : c < s.heap.objs.size := by
        rcases (by simpa using hcm : c = z ∨ c = TI ∨ c = TO ∨ c = i1 ∨ c = i2) with q | q | q | q | q <;> rw [q]
        · exact zl
        · exact Heap.lt_size hTI
        · exact Heap.lt_size hTO
        · obtain ⟨_, e1, _⟩ := h1; exact Heap.lt_size e1
        · obtain ⟨_, e2, _⟩ := h2; exact Heap.lt_size e2
      rw [upd_ne (Nat.ne_of_lt hlt)]
      exact (hf c hcm).1
def iZipF (K : PySem.W.Frag) (ta : TA) : TI := fun σ H R => ta σ H fun vs H1 => ∃ a b xs ys, vs = [.ref a, .ref b] ∧ SqT K H1 a xs ∧ SqT K H1 b ys ∧ R (ItF (RZ.ItzT K a b) (prZ K a b)) H1
theorem pi_zipF {X : Cx} {e e2 : Expr} {ta : TA} {p pos : Pos} (hg : Gl X "zip") (hm : X.mg "zip" = none) (ha : PA X [e, e2] ta)
    (hs : starEach [e, e2] X.env = (false, eval e X.env) :: starEach [e2] X.env := by rfl) (hpl : (backTo pos (starEach [e2] X.env)).any (·.1) = false := by rfl) :
    PI X (.Tuple elts kk tpos) (.Call (.Name "zip" p) [e, e2] [] pos) (iZipF X.K ta) := by
  refine ⟨fun pins s σ H R I h => Call_ (ld_blt I hg hm PyProof.Rows.boot_zip (PyProof.Rows.callWith_type1 (thn (ha.run pos pins s σ H _ I h) fun us s1 ⟨vs, H1, I1, r1, a, b, xs, ys, ex, hqx, hqy, q⟩ => ?_) hs hpl))⟩
  subst ex
  cases r1 with
  | cons r rr =>
    obtain ⟨u2, rfl, r'⟩ := vals1 rr
    cases r
    cases r'
    obtain ⟨its, rv, p1, _⟩ := I1.tuple hqx
    obtain ⟨its2, rv2, p2, _⟩ := I1.tuple hqy
    obtain ⟨o1, ho1, _⟩ := id p1
    obtain ⟨o2, ho2, _⟩ := id p2
    refine RZ.call_zipT (show s1.heap.IsTuple a its.toArray from p1) (show s1.heap.IsTuple b its2.toArray from p2) fun h' hz hTI hTO h1 h2 _ hk => wpAny_pyIter_zip hz ?_
    refine ⟨s1.heap.objs.size + 4, [s1.heap.objs.size + 4, s1.heap.objs.size + 2, s1.heap.objs.size + 3, s1.heap.objs.size, s1.heap.objs.size + 1], _, _, H1, rfl, I1.kept (t' := s1.toks) hk, turn_zipF (PySem.W.ktu_apart s1.heap.objs.size a b (Heap.lt_size ho1) (Heap.lt_size ho2)), ⟨hz, hTI, ⟨_, _, hTO⟩, h1, h2⟩, fun c hcm => ?_, q⟩
    have hle : s1.heap.objs.size ≤ c := by
      rcases (by simpa using hcm : c = s1.heap.objs.size + 4 ∨ c = s1.heap.objs.size + 2 ∨ c = s1.heap.objs.size + 3 ∨ c = s1.heap.objs.size ∨ c = s1.heap.objs.size + 1) with z | z | z | z | z <;> rw [z]
      all_goals first | exact Nat.le_add_right _ _ | exact Nat.le_refl _
    exact I1.fpOk hle (I1.hok.fresh hle)
end
/-! ### over data -/
def enD : Nat → List D → List D
  | _, [] => []
  | n, x :: r => .tup [.int n, x] :: enD (n + 1) r
theorem enD_get : ∀ (n i : Nat) (xs : List D), (enD n xs)[i]? = (xs[i]?).map fun x => .tup [.int ((n + i : Nat) : Int), x]
  | n, i, [] => by cases i <;> rfl
  | n, 0, x :: r => rfl
  | n, i + 1, x :: r => by
    show (enD (n + 1) r)[i]? = (r[i]?).map _
    rw [enD_get (n + 1) i r, show n + 1 + i = n + (i + 1) by omega]
theorem enD_len : ∀ (n : Nat) (xs : List D), (enD n xs).length = xs.length
  | _, [] => rfl
  | n, x :: r => congrArg Nat.succ (enD_len (n + 1) r)
section
variable {X : Cx} {wi : Wi} {e e2 : Expr} {p pos : Pos} {elts : List Expr} {kk : Nat} {tpos : Pos} {t : DA}
theorem itd_en {K : PySem.W.Frag} {I0 : Hp} {a : Addr} {items : List D} {ok : Sto → Prop} (h : ∀ I S H, Le I0 I → Sim K wi I S H → ok S → ∃ vs, SqL K H a vs ∧ RDs K I items vs) : ItD K wi I0 (ItF (Ite K a) (prE K a)) (enD 0 items) ok where
  go := fun i I S H l sim o hi => by
    obtain ⟨vs, ha, r⟩ := h I S H l sim o
    rw [enD_len] at hi
    obtain ⟨v, hv, _⟩ := r.get (List.getElem?_eq_getElem hi)
    exact ⟨vs, v, ha, hv⟩
  yl := fun i I S H x H' l sim o hi y => by
    obtain ⟨vs, ha, r⟩ := h I S H l sim o
    obtain ⟨T, ob, xs, rfl, nd, hn, rfl, z, rfl, y⟩ := y
    obtain ⟨w, hw, rw'⟩ := r.get' (y vs ha)
    obtain ⟨s2, e2⟩ := sim.newI (u := .frz ob (.tup [.int (i : Nat), z])) hn
    refine ⟨_, .tup [.int i, w], e2, s2, ?_, .tup (TpA.new nd) (.cons (.int _) (.cons (rw'.le e2.le) .nil))⟩
    rw [enD_get, hw, Nat.zero_add]; rfl
  st := fun I S H l sim o => by
    obtain ⟨vs, ha, r⟩ := h I S H l sim o
    exact ⟨vs, ha, by rw [enD_len, r.length]; exact Nat.le_refl _⟩
/-- enumerate(a list) -/
def dEnum (t : DA) : DI := fun env S Q => t env S fun xs S1 => match xs with
  | [.lst xs] => Q (enD 0 xs) (fun _ => True) S1
  | [.scr xs] => Q (enD 0 xs) (fun _ => True) S1
  | [.ref a] => (match S1 a with
    | some (.lst xs) => Q (enD 0 xs) (fun S => S a = some (.lst xs)) S1
    | _ => False)
  | _ => False
theorem mEnum (hm : X.mg "enumerate" = none) (ha : MA X wi [e] t) (hg : Gl X "enumerate" := by rfl) (hs : starEach [e] X.env = [(false, eval e X.env)] := by rfl) :
    MI X wi (.Tuple elts kk tpos) (.Call (.Name "enumerate" p) [e] [] pos) (dEnum t) := PI.of (pi_enumF hg hm ha hs) fun σ H R h => by
  obtain ⟨I, env, S, Q, sim, er, h, k⟩ := h
  refine ⟨I, env, S, _, sim, er, h, fun I1 ws vs S1 H1 e1 s1 r1 h1 => ?_⟩
  split at h1
  · cases r1 with
    | cons r1 rn =>
      cases rn
      cases r1 with
      | lst h2 r =>
        exact ⟨_, _, rfl, SqL.of (s1.im _ _ h2), k _ _ _ _ _ _ e1 s1 (itd_en fun I2 S2 H2 l s2 _ => ⟨_, SqL.of (s2.im _ _ (l _ _ h2)), r.le l⟩) h1⟩
  · cases r1 with
    | cons r1 rn =>
      cases rn
      cases r1 with
      | scr h2 r =>
        exact ⟨_, _, rfl, SqL.le s1.im h2, k _ _ _ _ _ _ e1 s1 (itd_en fun I2 S2 H2 l s2 _ => ⟨_, SqL.le s2.im (SqL.le l h2), r.le l⟩) h1⟩
  · rename_i a
    split at h1
    · rename_i xs ea
      cases r1 with
      | cons r1 rn =>
        cases rn
        cases r1
        obtain ⟨_, u, ro, hu⟩ := s1.st _ _ ea
        cases u <;> first | exact ro.elim | skip
        exact ⟨_, _, rfl, SqL.of hu, k _ _ _ _ _ _ e1 s1 (itd_en fun I2 S2 H2 l s2 o => by
          obtain ⟨_, u2, ro2, hu2⟩ := s2.st _ _ o
          cases u2 <;> first | exact ro2.elim | skip
          exact ⟨_, SqL.of hu2, ro2⟩) h1⟩
    · exact h1.elim
  · exact h1.elim
def zpD : List D → List D → List D
  | x :: r, y :: q => .tup [x, y] :: zpD r q
  | _, _ => []
theorem zpD_len : ∀ (xs ys : List D), (zpD xs ys).length = min xs.length ys.length
  | [], _ => by simp [zpD]
  | _ :: _, [] => by simp [zpD]
  | x :: r, y :: q => by simp only [zpD, List.length_cons, zpD_len r q]; omega
theorem zpD_get : ∀ (i : Nat) (xs ys : List D) (x y : D), xs[i]? = some x → ys[i]? = some y → (zpD xs ys)[i]? = some (.tup [x, y])
  | _, [], _, _, _, h, _ => by simp at h
  | _, _ :: _, [], _, _, _, h => by simp at h
  | 0, x :: r, y :: q, _, _, h, h' => by cases h; cases h'; rfl
  | i + 1, x :: r, y :: q, _, _, h, h' => zpD_get i r q _ _ h h'
theorem itd_zp {K : PySem.W.Frag} {I0 : Hp} {a b : Addr} {xs ys : List D} {vs us : List V} (ha : SqT K I0 a vs) (r : RDs K I0 xs vs) (hb : SqT K I0 b us) (q : RDs K I0 ys us) : ItD K wi I0 (ItF (RZ.ItzT K a b) (prZ K a b)) (zpD xs ys) (fun _ => True) where
  go := fun i I S H l sim o hi => by
    rw [zpD_len] at hi
    obtain ⟨v, hv, _⟩ := r.get (List.getElem?_eq_getElem (show i < xs.length by omega))
    obtain ⟨u, hu, _⟩ := q.get (List.getElem?_eq_getElem (show i < ys.length by omega))
    exact ⟨vs, us, v, u, SqT.le sim.im (SqT.le l ha), SqT.le sim.im (SqT.le l hb), hv, hu⟩
  yl := fun i I S H x H' l sim o hi y => by
    obtain ⟨T, ob, _, rfl, nd, hn, rfl, z, z2, rfl, y1, y2⟩ := y
    obtain ⟨w, hw, rw'⟩ := r.get' (y1 vs (SqT.le sim.im (SqT.le l ha)))
    obtain ⟨w2, hw2, rw2⟩ := q.get' (y2 us (SqT.le sim.im (SqT.le l hb)))
    obtain ⟨s2, e2⟩ := sim.newI (u := .frz ob (.tup [z, z2])) hn
    exact ⟨_, .tup [w, w2], e2, s2, zpD_get i xs ys _ _ hw hw2, .tup (TpA.new nd) (.cons ((rw'.le l).le e2.le) (.cons ((rw2.le l).le e2.le) .nil))⟩
  st := fun I S H l sim o => ⟨vs, us, SqT.le sim.im (SqT.le l ha), SqT.le sim.im (SqT.le l hb), by
    rw [zpD_len, r.length, q.length]; omega⟩
/-- zip(a tuple, a tuple) -/
def dZip (t : DA) : DI := fun env S Q => t env S fun xs S1 => match xs with
  | [.tup xs, .tup ys] => Q (zpD xs ys) (fun _ => True) S1
  | _ => False
theorem mZip (hm : X.mg "zip" = none) (ha : MA X wi [e, e2] t) (hg : Gl X "zip" := by rfl)
    (hs : starEach [e, e2] X.env = (false, eval e X.env) :: starEach [e2] X.env := by rfl) (hpl : (backTo pos (starEach [e2] X.env)).any (·.1) = false := by rfl) :
    MI X wi (.Tuple elts kk tpos) (.Call (.Name "zip" p) [e, e2] [] pos) (dZip t) := PI.of (pi_zipF hg hm ha hs hpl) fun σ H R h => by
  obtain ⟨I, env, S, Q, sim, er, h, k⟩ := h
  refine ⟨I, env, S, _, sim, er, h, fun I1 ws vs S1 H1 e1 s1 r1 h1 => ?_⟩
  split at h1
  · cases r1 with
    | cons r1 rn =>
      cases rn with
      | cons r2 rn =>
        cases rn
        cases r1 with
        | tup h2 r =>
          cases r2 with
          | tup h3 r3 =>
            exact ⟨_, _, _, _, rfl, SqT.le s1.im h2.sq, SqT.le s1.im h3.sq, k _ _ _ _ _ _ e1 s1 (itd_zp h2.sq r h3.sq r3) h1⟩
  · exact h1.elim
end
end DL


set_option Elab.async false
set_option linter.all false
set_option maxRecDepth 100000
set_option maxHeartbeats 4000000
namespace DL
open PySem PySem.Spec PyProof.Rows L2
section
variable {X : Cx} {wi : Wi} {o e f : Expr} {to ty tz : DE} {apos cpos pos : Pos}
/-! ### d.get(k), d.get(k, x), {} -/
def isDct (x : D) (S : Sto) : Prop := match x with
  | .ref a => (match S a with
    | some (.dK _) => True
    | some (.lkK _ _ _) => True
    | _ => False)
  | _ => False
def fGet (x y z : D) (S : Sto) (Q : DK) : Prop := match x with
  | .ref a => (match S a with
    | some (.dK kvs) => (match keyOf y with
      | some k => Q ((dval kvs k).getD z) S
      | none => False)
    | some (.lkK _ _ kvs) => (match keyOf y with
      | some k => Q ((dval kvs k).getD z) S
      | none => False)
    | _ => False)
  | _ => False
def dGet2 (to ty tz : DE) : DE := fun env S Q => to env S fun x S1 => isDct x S1 ∧ ty env S1 fun y S2 => tz env S2 fun z S3 => fGet x y z S3 Q
def dGet1 (to ty : DE) : DE := fun env S Q => to env S fun x S1 => isDct x S1 ∧ ty env S1 fun y S2 => fGet x y .non S2 Q
theorem isDct_at {K : PySem.W.Frag} {I H : Hp} {S : Sto} {x : D} {v : V} (s : Sim K wi I S H) (r : RD K I x v) (h : isDct x S) : ∃ a, v = .ref a ∧ IsD H a := by
  cases r with
  | ref a =>
    have h' : (match S a with | some (.dK _) => True | some (.lkK _ _ _) => True | _ => False) := h
    split at h'
    · rename_i kvs e
      obtain ⟨us, ha, _⟩ := st_dK s e
      exact ⟨a, rfl, .inl ⟨us, .inl ha⟩⟩
    · rename_i kvs e
      obtain ⟨us, ha, _⟩ := st_lk s e
      exact ⟨a, rfl, .inl ⟨us, .inr ⟨_, ha⟩⟩⟩
    · exact h'.elim
  | _ => exact h.elim
theorem fGet_at {K : PySem.W.Frag} {I H : Hp} {S : Sto} {x y z : D} {v u t : V} {Q : DK} {Q' : VK} (s : Sim K wi I S H) (rx : RD K I x v) (ry : RD K I y u) (rz : RD K I z t) (h : fGet x y z S Q) (k : KQ K wi I S H Q Q') :
    ∃ a o, v = .ref a ∧ DGet H a u o ∧ Q' (o.getD t) H := by
  cases rx with
  | ref a =>
    have h' : (match S a with | some (.dK kvs) => (match keyOf y with | some k => Q ((dval kvs k).getD z) S | none => False) | some (.lkK _ _ kvs) => (match keyOf y with | some k => Q ((dval kvs k).getD z) S | none => False) | _ => False) := h
    have go : ∀ {kvs : List (Key × D)} {us : List (Key × V)}, RKV K I kvs us → Rd H a (.dK us) → (match keyOf y with | some k => Q ((dval kvs k).getD z) S | none => False) → ∃ b o, V.ref a = .ref b ∧ DGet H b u o ∧ Q' (o.getD t) H := fun {kvs us} r1 ha h' => by
      split at h'
      · rename_i key ek
        have eu := ry.key ek
        subst eu
        refine ⟨a, _, rfl, .inl ⟨us, key, ha, rfl, rfl⟩, ?_⟩
        cases ev : dval kvs key with
        | none =>
          rw [RKV.none r1 ev]
          rw [ev] at h'
          exact k _ _ _ _ _ .refl s rz h'
        | some w =>
          obtain ⟨w', e1, e2⟩ := RKV.val r1 ev
          rw [e1]
          rw [ev] at h'
          exact k _ _ _ _ _ .refl s e2 h'
      · exact h'.elim
    split at h'
    · rename_i kvs e
      obtain ⟨us, ha, r1⟩ := st_dK s e
      exact go r1 (.inl ha) h'
    · rename_i kvs e
      obtain ⟨us, ha, _, r1⟩ := st_lk s e
      exact go r1 (.inr ⟨_, ha⟩) h'
    · exact h'.elim
  | _ => exact h.elim
theorem mGet2 (hu : X.A.units + 1 < cLine) (ho : ME X wi o to) (he : ME X wi e ty) (hf : ME X wi f tz) (m : M2 X o "get" apos e f cpos := by exact ⟨rfl, rfl, rfl, rfl⟩) : ME X wi (.Call (.Attribute o "get" apos) [e, f] [] cpos) (dGet2 to ty tz) := by
  refine PE.of (pe_dget2 hu ho he hf m) fun σ H Q' h => ?_
  obtain ⟨I, env, S, Q, sim, er, h, k⟩ := h
  refine ⟨I, env, S, _, sim, er, h, fun I1 x v S1 H1 e1 s1 r1 h1 => ?_⟩
  obtain ⟨a, ea, da⟩ := isDct_at s1 r1 h1.1
  refine ⟨a, ea, da, I1, env, S1, _, s1, er.le e1.le, h1.2, fun I2 y u S2 H2 e2 s2 r2 h2 => ?_⟩
  refine ⟨I2, env, S2, _, s2, (er.le e1.le).le e2.le, h2, fun I3 z t S3 H3 e3 s3 r3 h3 => ?_⟩
  obtain ⟨b, ov, eb, g, q⟩ := fGet_at s3 ((r1.le e2.le).le e3.le) (r2.le e3.le) r3 h3 (k.ext ((e1.trans e2).trans e3))
  cases ea.symm.trans eb
  exact ⟨ov, g, q⟩
theorem mGet1 (hu : X.A.units + 1 < cLine) (ho : ME X wi o to) (he : ME X wi e ty) (m : M1 X o "get" apos e cpos := by exact ⟨rfl, rfl, rfl, rfl⟩) : ME X wi (.Call (.Attribute o "get" apos) [e] [] cpos) (dGet1 to ty) := by
  refine PE.of (pe_dget1 hu ho he m) fun σ H Q' h => ?_
  obtain ⟨I, env, S, Q, sim, er, h, k⟩ := h
  refine ⟨I, env, S, _, sim, er, h, fun I1 x v S1 H1 e1 s1 r1 h1 => ?_⟩
  obtain ⟨a, ea, da⟩ := isDct_at s1 r1 h1.1
  refine ⟨a, ea, da, I1, env, S1, _, s1, er.le e1.le, h1.2, fun I2 y u S2 H2 e2 s2 r2 h2 => ?_⟩
  obtain ⟨b, ov, eb, g, q⟩ := fGet_at s2 (r1.le e2.le) r2 .non h2 (k.ext (e1.trans e2))
  cases ea.symm.trans eb
  exact ⟨ov, g, q⟩
def dEmp : DE := fun _ S Q => ∀ p, S p = none → Q (.ref p) (su S p (.dK []))
theorem mEmp : ME X wi (.Dict [] [] pos) dEmp := by
  refine PE.of pe_dnewK fun σ H Q' h => ?_
  obtain ⟨I, env, S, Q, sim, er, h, k⟩ := h
  exact fun p hp => k.newS sim hp (show RO X.K I (.dK []) (.dK []) from .nil) h

/-! ### dict(pairs) -/
def prsOf : List D → Option (List (Key × D))
  | [] => some []
  | .tup [k, x] :: r => (match keyOf k, prsOf r with
    | some k, some l => some ((k, x) :: l)
    | _, _ => none)
  | _ => none
def gDict (xs : List D) (S : Sto) (Q : DK) : Prop := match xs with
  | [x] => (match (itsOf S x).bind prsOf with
    | some kvs => ∀ p, S p = none → Q (.ref p) (su S p (.dK (dmerge [] kvs)))
    | none => False)
  | _ => False
theorem prs_at {K : PySem.W.Frag} {I H : Hp} (l : Le I H) : ∀ {xs : List D} {vs : List V} {kvs : List (Key × D)}, RDs K I xs vs → prsOf xs = some kvs →
    ∃ (ps : List Addr) (us : List (Key × V)), vs = ps.map V.ref ∧ Paired (fun p kv => SqT K H p [kV kv.1, kv.2] ∧ TpA K I p [kV kv.1, kv.2]) ps us ∧ RKV K I kvs us
  | _, _, _, .nil, h => by cases h; exact ⟨[], [], rfl, .nil, .nil⟩
  | x :: xs, _, kvs, .cons r t, h => by
    unfold prsOf at h
    split at h
    · rename_i h0; cases h0
    · rename_i k w r' ex
      cases ex
      split at h
      · rename_i key l' e1 e2
        cases h
        obtain ⟨ps, us, e3, h3, h4⟩ := prs_at l t e2
        cases r with
        | @tup a _ ws g rr =>
          cases rr with
          | cons rk rr =>
            cases rr with
            | cons rw' rr =>
              cases rr
              have ek := rk.key e1
              subst ek
              exact ⟨a :: ps, (key, _) :: us, by rw [e3]; rfl, .cons ⟨SqT.le l g.sq, g⟩ h3, .cons ⟨rfl, rw'⟩ h4⟩
      · cases h
    · cases h
theorem tup_plain {pins : List (Addr × Obj)} {s : Shared} {σ : L2.St} {I H : Hp} {a : Addr} {vs : List V} (J : Inv X pins σ H s) (l : Le I H) (g : TpA X.K I a vs) {its : List Value} (ht : IsTup s.heap a its.toArray) : PySem.PlainSeq "tuple" s.heap a its.toArray := by
  obtain ⟨o, ho, hc, n, hd⟩ := ht
  refine ⟨o, n, ho, hc, ?_, hd⟩
  rcases g.nd with ⟨o', u, e, d⟩ | ⟨o', e, d⟩
  · have z := (J.hok a _ (l _ _ e)).1
    rw [ho] at z; cases z; exact d
  · have z := J.kIn a o' e
    rw [ho] at z; cases z; exact d
theorem all_choose {α : Type} {n : Nat} {R : Nat → α → Prop} (h : ∀ j, j < n → ∃ u, R j u) : ∃ us : List α, us.length = n ∧ ∀ j u, us[j]? = some u → R j u := by
  induction n with
  | zero => exact ⟨[], rfl, fun j u e => by simp at e⟩
  | succ n ih =>
    obtain ⟨us, h1, h2⟩ := ih fun j hj => h j (by omega)
    obtain ⟨u, hu⟩ := h n (by omega)
    refine ⟨us ++ [u], by simp [h1], fun j v e => ?_⟩
    by_cases hj : j < us.length
    · rw [List.getElem?_append_left hj] at e
      exact h2 j v e
    · rw [List.getElem?_append_right (by omega)] at e
      have e0 : j - us.length = 0 := by
        by_cases hz : j - us.length = 0
        · exact hz
        · rw [List.getElem?_eq_none (by simp; omega)] at e; cases e
      rw [e0] at e
      cases e
      have : j = n := by omega
      subst this
      exact hu
theorem cDict (hc : X.calm = true) : CallM X wi (.type "dict") gDict := by
  intro pins s σ H vs us Q' I rv ⟨Ih, S, xs, Q, sim, rx, h, k⟩
  unfold gDict at h
  split at h
  · rename_i x
    split at h
    · rename_i kvs ek
      obtain ⟨ys, e1, e2⟩ := Option.bind_eq_some_iff.mp ek
      cases rx with
      | cons r1 rx =>
        cases rx
        have lst : ∀ {a : Addr} {ws : List V}, SqL X.K H a ws → RDs X.K Ih ys ws → Vals [V.ref a] us → wpAny (model X.prog X.w) X.A (call (.type "dict") us) (EP X pins σ Q') X.xe s := fun {a ws} hs r rv => by
          obtain ⟨ps, ms, e3, h3, h4⟩ := prs_at sim.im r e2
          subst e3
          exact call_dictP hc pins s σ H _ _ Q' I rv ⟨a, ps, ms, rfl, hs, Paired.mapP h3 fun _ _ z => z.1, fun p hp => k.newS sim hp (show RO X.K Ih (.dK (dmerge [] kvs)) (.dK (mergeK [] ms)) from RKV.merge h4 .nil) h⟩
        cases r1 with
        | lst g rr => cases e1; exact lst (SqL.of (sim.im _ _ g)) rr rv
        | scr g rr => cases e1; exact lst (SqL.le sim.im g) rr rv
        | ref a =>
          have e1' : (match S a with | some (.lst ys) => some ys | _ => none) = some ys := e1
          split at e1'
          · rename_i zs e0
            cases e1'
            obtain ⟨ws, ha, rr⟩ := st_lst sim e0
            exact lst (SqL.of ha) rr rv
          · cases e1'
        | @tup a _ ws g rr =>
          cases e1
          obtain ⟨ps, ms, e3, h3, h4⟩ := prs_at sim.im rr e2
          subst e3
          obtain ⟨u, rfl, ru⟩ := vals1 rv
          cases ru
          obtain ⟨its, r', ht, hz⟩ := I.tuple (SqT.le sim.im g.sq)
          have ei := refs_at r'
          subst ei
          obtain ⟨prs, rel, hl, hp⟩ := pairs_of I (Paired.mapP h3 fun _ _ z => z.1)
          obtain ⟨ks, k1, k2⟩ := all_choose (n := prs.length) (R := fun j u => ∃ (q : Key × Value) (b : Addr), prs[j]? = some q ∧ ps[j]? = some b ∧ IsTup s.heap b #[u, q.2] ∧ keyIs q.1 u = true) fun j hj => by
            obtain ⟨b, u, x1, x2, x3⟩ := hp j prs[j] (List.getElem?_eq_getElem hj)
            exact ⟨u, prs[j], b, List.getElem?_eq_getElem hj, x1, x2, x3⟩
          have zl : ((ks.zip prs).map fun p => (p.1, p.2.2)).length = prs.length := by rw [List.length_map, List.length_zip]; omega
          have zat : ∀ j u y, ((ks.zip prs).map fun p => (p.1, p.2.2))[j]? = some (u, y) → ∃ (q : Key × Value) (b : Addr), prs[j]? = some q ∧ q.2 = y ∧ ps[j]? = some b ∧ IsTup s.heap b #[u, y] ∧ keyIs q.1 u = true := fun j u y e => by
            rw [List.getElem?_map, Option.map_eq_some_iff] at e
            obtain ⟨⟨u', q⟩, e4, e5⟩ := e
            cases e5
            rw [List.getElem?_zip_eq_some] at e4
            obtain ⟨q', b, y1, y2, y3, y4⟩ := k2 j _ e4.1
            rw [e4.2] at y1; cases y1
            exact ⟨q, b, e4.2, rfl, y2, y3, y4⟩
          have hz' : prs.length ≤ sizeLine := by rw [hl]; rw [List.length_map] at hz; exact hz
          refine PySem.call_dict_pairs (knd := mixKind X.prog X.w) (kvs := prs) (PySem.PairArg.tuple a (ps.map Value.ref).toArray (fun j => ps.getD j 0) ((ks.zip prs).map fun p => (p.1, p.2.2))) (I.ok.hd hc)
            ⟨tup_plain I sim.im g ht, by rw [zl, hl]; simp, fun j u y e => ?_⟩ ⟨zl.symm, fun j u y e => ?_⟩ (by rw [zl]; exact hz') fun h' tk hd' hk => ?_
          · obtain ⟨q, b, y1, y2, y3, y4, _⟩ := zat j u y e
            have y3' : ps.getD j 0 = b := by rw [List.getD_eq_getElem?_getD, y3]; rfl
            refine ⟨by show (List.map Value.ref ps).toArray[j]? = some (Value.ref (ps.getD j 0)); rw [y3']; simp [y3], .inl ?_⟩
            show IsTup _ (ps.getD j 0) _
            rw [y3']; exact y4
          · obtain ⟨q, b, y1, y2, _, _, y5⟩ := zat j u y e
            exact ⟨q.1, by rw [y1, ← y2], y5⟩
          · have hm : (s.heap.objs.size == sysModules) = false := beq_eq_false_iff_ne.mpr (Nat.ne_of_gt I.big)
            have hlen : (mergeK [] ms).length ≤ sizeLine := Nat.le_trans (length_mergeK ms []) (by rw [List.length_nil, Nat.zero_add, rel.length]; exact hz')
            exact ⟨.ref s.heap.objs.size, upd H s.heap.objs.size (.dK (mergeK [] ms)), I.laid (t' := tk) (fun b o e => hk b o (List.not_mem_nil) e) (Nat.le_refl _) (show ObjOk X.prog X.w _ _ _ (.dK (mergeK [] ms)) from ⟨hlen, hm, merged [] prs, KV.merge rel .nil, hd'⟩), rfl,
              k.newS sim (I.hok.fresh (Nat.le_refl _)) (show RO X.K Ih (.dK (dmerge [] kvs)) (.dK (mergeK [] ms)) from RKV.merge h4 .nil) h⟩
        | _ => cases e1
    · exact h.elim
  · exact h.elim
end
end DL


set_option Elab.async false
set_option linter.all false
set_option maxRecDepth 100000
set_option maxHeartbeats 4000000
namespace DL
open PySem PySem.Spec PyProof.Rows L2
/-! ### what is gathered at L, in neither part, while a comprehension runs -/
structure Mid (K : PySem.W.Frag) (wi : Wi) (I1 : Hp) (S1 : Sto) (H1 : Hp) (L : Addr) (I2 : Hp) (S2 : Sto) (H : Hp) (u : HO) : Prop where
  b0 : Sim K wi I1 S1 H1
  n0 : H1 L = none
  ex : Ext I1 S1 H1 I2 S2 H
  sim : Sim K wi I2 S2 H
  at_ : H L = some u
  nS : S2 L = none
  nI : I2 L = none
section
variable {K : PySem.W.Frag} {wi : Wi} {I1 H1 I2 H I3 H3 : Hp} {S1 S2 S3 : Sto} {L : Addr} {u u' : HO}
theorem Sim.freeS (s : Sim K wi I1 S1 H1) (h : H1 L = none) : S1 L = none := by
  cases q : S1 L with
  | none => rfl
  | some u =>
    obtain ⟨_, v, _, hv⟩ := s.st L u q
    rw [h] at hv; cases hv
theorem Sim.off (s : Sim K wi I2 S2 H) (nS : S2 L = none) (nI : I2 L = none) (kx : KX K I2 S2 (upd H L u) wi) : Sim K wi I2 S2 (upd H L u) := by
  refine ⟨⟨fun a o e => ?_, fun a o e => ?_⟩, kx⟩
  · rw [upd_ne (ne_of_none e nI)]; exact s.im a o e
  · obtain ⟨z1, v, z2, z3⟩ := s.st a o e
    exact ⟨z1, v, z2, by rw [upd_ne (by rintro rfl; rw [nS] at e; cases e)]; exact z3⟩
theorem Mid.put (m : Mid K wi I1 S1 H1 L I2 S2 H u) : Mid K wi I1 S1 H1 L I2 S2 (upd H L u') u' := by
  have ex : Ext I1 S1 H1 I2 S2 (upd H L u') := ⟨m.ex.le, fun a o e k => by
    obtain ⟨y1, y2, y3⟩ := m.ex.fr a o e k
    exact ⟨by rw [upd_ne (ne_of_none e m.n0)]; exact y1, y2, y3⟩⟩
  exact ⟨m.b0, m.n0, ex, m.sim.off m.nS m.nI (m.b0.kx.ext ex), upd_same, m.nS, m.nI⟩
theorem Mid.start (s : Sim K wi I1 S1 H1) (h : H1 L = none) : Mid K wi I1 S1 H1 L I1 S1 (upd H1 L u) u := by
  have ex : Ext I1 S1 H1 I1 S1 (upd H1 L u) := ⟨.refl, fun a o e k => ⟨by rw [upd_ne (ne_of_none e h)]; exact e, k, rfl⟩⟩
  exact ⟨s, h, ex, s.off (s.freeS h) (s.free h) (s.kx.ext ex), upd_same, s.freeS h, s.free h⟩
theorem Mid.step (m : Mid K wi I1 S1 H1 L I2 S2 H u) (e : Ext I2 S2 H I3 S3 H3) (s : Sim K wi I3 S3 H3) : Mid K wi I1 S1 H1 L I3 S3 H3 u := by
  obtain ⟨y1, y2, y3⟩ := e.fr L u m.at_ m.nS
  exact ⟨m.b0, m.n0, m.ex.trans e, s, y1, y2, by rw [y3]; exact m.nI⟩
/-- at the end it is data -/
theorem Mid.data {Q : DK} {Q' : VK} {w : D} {v : V} (m : Mid K wi I1 S1 H1 L I2 S2 H u) (k : KQ K wi I1 S1 H1 Q Q') (r : RD K (upd I2 L u) w v) (q : Q w S2) : Q' v H := by
  have le : Le I2 (upd I2 L u) := fun a o e => by rw [upd_ne (ne_of_none e m.nI)]; exact e
  have ex : Ext I1 S1 H1 (upd I2 L u) S2 H := ⟨m.ex.le.trans le, fun a o e z => by
    obtain ⟨y1, y2, y3⟩ := m.ex.fr a o e z
    exact ⟨y1, y2, by rw [upd_ne (ne_of_none e m.n0)]; exact y3⟩⟩
  refine k _ w v S2 H ex ⟨⟨fun a o e => ?_, fun a o e => ?_⟩, m.b0.kx.ext ex⟩ r q
  · by_cases ha : a = L
    · subst ha; rw [upd_same] at e; cases e; exact m.at_
    · rw [upd_ne ha] at e; exact m.sim.im a o e
  · obtain ⟨z1, x, z2, z3⟩ := m.sim.st a o e
    exact ⟨by rw [upd_ne (by rintro rfl; rw [m.nS] at e; cases e)]; exact z1, x, z2.le le, z3⟩
/-- .. or of the store -/
theorem Mid.store {Q : DK} {Q' : VK} {o : O} (m : Mid K wi I1 S1 H1 L I2 S2 H u) (k : KQ K wi I1 S1 H1 Q Q') (r : RO K I2 o u) (q : ∀ p, S2 p = none → Q (.ref p) (su S2 p o)) : Q' (.ref L) H := by
  have ex : Ext I1 S1 H1 I2 (su S2 L o) H := ⟨m.ex.le, fun a x e z => by
    obtain ⟨y1, y2, y3⟩ := m.ex.fr a x e z
    exact ⟨y1, by rw [su_ne (ne_of_none e m.n0)]; exact y2, y3⟩⟩
  refine k I2 (.ref L) _ (su S2 L o) H ex ⟨⟨m.sim.im, fun a x e => ?_⟩, m.b0.kx.ext ex⟩ (.ref L) (q L m.nS)
  by_cases ha : a = L
  · subst ha; rw [su_same] at e; cases e; exact ⟨m.nI, u, r, m.at_⟩
  · rw [su_ne ha] at e; exact m.sim.st a x e
end
theorem wipe_idem (σ : L2.St) (vs : List Nat) : L2.wipe (L2.wipe σ vs) vs = L2.wipe σ vs := by
  have none_at : ∀ (us : List Nat) (v : Nat), v ∈ us → (L2.wipe σ us).set v none = L2.wipe σ us := by
    intro us
    induction us with
    | nil => intro v z; cases z
    | cons u us ih =>
      intro v hv
      show ((L2.wipe σ us).set u none).set v none = (L2.wipe σ us).set u none
      by_cases huv : v = u
      · subst huv; rw [List.set_set]
      · rw [List.set_comm _ _ (Ne.symm huv), ih v ((List.mem_cons.mp hv).resolve_left huv)]
  have go : ∀ ws : List Nat, (∀ v ∈ ws, v ∈ vs) → L2.wipe (L2.wipe σ vs) ws = L2.wipe σ vs := by
    intro ws
    induction ws with
    | nil => intro _; rfl
    | cons v ws ih =>
      intro h
      show (L2.wipe (L2.wipe σ vs) ws).set v none = _
      rw [ih fun u hu => h u (List.mem_cons_of_mem _ hu), none_at vs v (h v (List.mem_cons_self ..))]
  exact go vs fun v h => h

/-! ### [elt for .. in .. if .. for .. in .. if ..] -/
def cLoop2 (g : DG) (tt : DT) (it1 : DI) (g1 : DG) (tt1 : DT) (te : DE) (vs1 : List Nat) (env : Env') (ok : Sto → Prop) (Q : List D → Sto → Prop) : List D → List D → Sto → Prop
  | [], acc, S => ok S ∧ Q acc S
  | x :: r, acc, S => ok S ∧ g x env S fun env2 S2 => tt env2 S2 fun b S3 => if b = true then it1 env2 S3 fun items1 ok1 S4 => cLoop g1 tt1 te (wipeD env2 vs1) ok1 (fun acc' S5 => cLoop2 g tt it1 g1 tt1 te vs1 env ok Q r acc' S5) items1 acc S4
    else cLoop2 g tt it1 g1 tt1 te vs1 env ok Q r acc S3
def dLc2 (it : DI) (g : DG) (tt : DT) (it1 : DI) (g1 : DG) (tt1 : DT) (te : DE) (vs vs1 : List Nat) : DE := fun env S Q => it env S fun items ok S1 => cLoop2 g tt it1 g1 tt1 te vs1 (wipeD env vs) ok (fun acc S2 => Q (.lst acc) S2) items [] S1
def dLc2R (it : DI) (g : DG) (tt : DT) (it1 : DI) (g1 : DG) (tt1 : DT) (te : DE) (vs vs1 : List Nat) : DE := fun env S Q => it env S fun items ok S1 => cLoop2 g tt it1 g1 tt1 te vs1 (wipeD env vs) ok (fun acc S2 => ∀ p, S2 p = none → Q (.ref p) (su S2 p (.lst acc))) items [] S1
section
variable {X : Cx} {wi : Wi} {elt tg iter tg1 iter1 : Expr} {ifs ifs1 : List Expr} {scope : Scope} {own : List (Str × Nat)} {it it1 : DI} {g g1 : DG} {tt tt1 : DT} {te : DE} {vs vs1 : List Nat} {pos : Pos}
theorem lift_lc2 {K : PySem.W.Frag} {R : Bool} {σ : L2.St} {H : Hp} {Q' : VK} (h : lift K wi (if R = true then dLc2R it g tt it1 g1 tt1 te vs vs1 else dLc2 it g tt it1 g1 tt1 te vs vs1) σ H Q') :
    tLc2 (liftI K wi it) (liftG K wi vs g) (liftT K wi tt) (liftI K wi it1) (liftG K wi vs1 g1) (liftT K wi tt1) (lift K wi te) vs vs1 σ H Q' := by
  obtain ⟨I, env, S, Q, sim, er, h, k⟩ := h
  generalize hE : (fun (acc : List D) (S2 : Sto) => if R = true then ∀ p, S2 p = none → Q (.ref p) (su S2 p (.lst acc)) else Q (.lst acc) S2) = E
  have h : it env S fun items ok S1 => cLoop2 g tt it1 g1 tt1 te vs1 (wipeD env vs) ok E items [] S1 := by
    subst hE
    cases R <;> simpa [dLc2, dLc2R] using h
  refine ⟨I, env, S, _, sim, er, h, fun I1 S1 H1 J items ok e1 s1 hit h1 => fun L hL => ?_⟩
  refine ⟨fun i m H => m = items.length - i ∧ i ≤ items.length ∧ ∃ I2 S2 acc vacc, Mid K wi I1 S1 H1 L I2 S2 H (.lst vacc) ∧ RDs K I2 acc vacc ∧ cLoop2 g tt it1 g1 tt1 te vs1 (wipeD env vs) ok E (items.drop i) acc S2,
    ⟨items.length, by simp, Nat.zero_le _, I1, S1, [], [], .start s1 hL, .nil, h1⟩, ?_⟩
  rintro i m H ⟨rfl, hi, I2, S2, acc, vacc, md, racc, h2⟩
  by_cases hlt : i < items.length
  · rw [show items.drop i = items[i] :: items.drop (i + 1) from List.drop_eq_getElem_cons hlt] at h2
    obtain ⟨o2, h2⟩ := h2
    refine .inr ⟨hit.go i I2 S2 H md.ex.le md.sim o2 hlt, fun H' => ∃ I3 S3 acc3 vacc3, Mid K wi I1 S1 H1 L I3 S3 H' (.lst vacc3) ∧ RDs K I3 acc3 vacc3 ∧ cLoop2 g tt it1 g1 tt1 te vs1 (wipeD env vs) ok E (items.drop (i + 1)) acc3 S3,
      fun H' q => ⟨items.length - (i + 1), by omega, rfl, hlt, q⟩, fun x H' y => ?_⟩
    obtain ⟨I3, w, e3, s3, hw, rw'⟩ := hit.yl i I2 S2 H x H' md.ex.le md.sim o2 hlt y
    rw [List.getElem?_eq_getElem hlt] at hw
    cases hw
    have er3 : ER K I3 env σ := (er.le e1.le).le (md.ex.le.trans e3.le)
    refine ⟨I3, wipeD env vs, S2, items[i], _, s3, er3.wipe vs, rw', h2, fun I4 env4 σ4 S4 H4 e4 s4 er4 w4 h4 => ⟨w4.trans (wipe_idem σ vs), ?_⟩⟩
    refine ⟨I4, env4, S4, _, s4, er4, h4, fun I5 b S5 H5 e5 s5 h5 => ?_⟩
    have e25 := (e3.trans e4).trans e5
    have md5 := md.step e25 s5
    have racc5 := racc.le e25.le
    cases b with
    | false => exact ⟨I5, S5, acc, vacc, md5, racc5, h5⟩
    | true =>
      refine ⟨I5, env4, S5, _, s5, er4.le e5.le, h5, fun I6 S6 H6 J1 items1 ok1 e6 s6 hit1 h6 => ?_⟩
      have md6 := md5.step e6 s6
      have er6 : ER K I6 env4 σ4 := (er4.le e5.le).le e6.le
      refine ⟨fun j k H => k = items1.length - j ∧ j ≤ items1.length ∧ ∃ I7 S7 acc7 vacc7, Le I6 I7 ∧ Mid K wi I1 S1 H1 L I7 S7 H (.lst vacc7) ∧ RDs K I7 acc7 vacc7 ∧
          cLoop g1 tt1 te (wipeD env4 vs1) ok1 (fun acc' S5 => cLoop2 g tt it1 g1 tt1 te vs1 (wipeD env vs) ok E (items.drop (i + 1)) acc' S5) (items1.drop j) acc7 S7,
        ⟨items1.length, by simp, Nat.zero_le _, I6, S6, acc, vacc, .refl, md6, racc5.le e6.le, h6⟩, ?_⟩
      rintro j k H ⟨rfl, hj, I7, S7, acc7, vacc7, l7, md7, racc7, h7⟩
      by_cases hlt1 : j < items1.length
      · rw [show items1.drop j = items1[j] :: items1.drop (j + 1) from List.drop_eq_getElem_cons hlt1] at h7
        obtain ⟨o7, h7⟩ := h7
        refine .inr ⟨hit1.go j I7 S7 H l7 md7.sim o7 hlt1, fun H' => ∃ I8 S8 acc8 vacc8, Le I6 I8 ∧ Mid K wi I1 S1 H1 L I8 S8 H' (.lst vacc8) ∧ RDs K I8 acc8 vacc8 ∧
            cLoop g1 tt1 te (wipeD env4 vs1) ok1 (fun acc' S5 => cLoop2 g tt it1 g1 tt1 te vs1 (wipeD env vs) ok E (items.drop (i + 1)) acc' S5) (items1.drop (j + 1)) acc8 S8,
          fun H' q => ⟨items1.length - (j + 1), by omega, rfl, hlt1, q⟩, fun x H' y => ?_⟩
        obtain ⟨I8, w1, e8, s8, hw1, rw1⟩ := hit1.yl j I7 S7 H x H' l7 md7.sim o7 hlt1 y
        rw [List.getElem?_eq_getElem hlt1] at hw1
        cases hw1
        refine ⟨I8, wipeD env4 vs1, S7, items1[j], _, s8, (er6.le (l7.trans e8.le)).wipe vs1, rw1, h7, fun I9 env9 σ9 S9 H9 e9 s9 er9 w9 h9 => ⟨w9.trans (wipe_idem σ4 vs1), ?_⟩⟩
        refine ⟨I9, env9, S9, _, s9, er9, h9, fun Ia ba Sa Ha ea sa ha => ?_⟩
        have e7a := (e8.trans e9).trans ea
        have mda := md7.step e7a sa
        cases ba with
        | false => exact ⟨Ia, Sa, acc7, vacc7, l7.trans e7a.le, mda, racc7.le e7a.le, ha⟩
        | true =>
          refine ⟨Ia, env9, Sa, _, sa, er9.le ea.le, ha, fun Ib yb vb Sb Hb eb sb rb hb => ?_⟩
          have mdb := mda.step eb sb
          have raccb := (racc7.le e7a.le).le eb.le
          exact ⟨vacc7, mdb.at_, by rw [← raccb.length]; exact hb.1, Ib, Sb, acc7 ++ [yb], vacc7 ++ [vb], (l7.trans e7a.le).trans eb.le, mdb.put, raccb.append (.cons rb .nil), hb.2⟩
      · have ej : j = items1.length := by omega
        subst ej
        rw [List.drop_length] at h7
        obtain ⟨o7, h7⟩ := h7
        exact .inl ⟨hit1.st I7 S7 H l7 md7.sim o7, I7, S7, acc7, vacc7, md7, racc7, h7⟩
  · have ei : i = items.length := by omega
    subst ei
    rw [List.drop_length] at h2
    obtain ⟨o2, h2⟩ := h2
    refine .inl ⟨hit.st I2 S2 H md.ex.le md.sim o2, ?_⟩
    subst hE
    cases R with
    | false => exact md.data (k.ext e1) (.lst upd_same (racc.le fun a o e => by rw [upd_ne (ne_of_none e md.nI)]; exact e)) (by simpa using h2)
    | true => exact md.store (k.ext e1) (show RO K I2 (.lst acc) (.lst vacc) from racc) (by simpa using h2)
abbrev BlkG (X : Cx) (scope : Scope) (p : Cx → Prop) : Prop := ∀ (s : Shared) (H : Hp) (C : Addr) (cl : List (Str × Addr)) (fp : List Addr), p (X.blk s H scope (compEnvC scope cl C X.env) fp)
theorem mLc2 (hc : X.calm = true) (hN : X.N.Nodup) (hi : MI X wi tg iter it) (ok : BlkOk X.N X.env.scope scope own) (hv : ∀ i ∈ vs1, i ∈ own.map (·.2))
    (hg : BlkG X scope fun Y => MG Y wi (own.map (·.2)) tg g) (ht : BlkG X scope fun Y => MTs Y wi ifs tt) (hi1 : BlkG X scope fun Y => MI Y wi tg1 iter1 it1) (hg1 : BlkG X scope fun Y => MG Y wi vs1 tg1 g1) (ht1 : BlkG X scope fun Y => MTs Y wi ifs1 tt1)
    (he : BlkG X scope fun Y => ME Y wi elt te) (hs : ∀ x, foldedSetIterable iter X.env x = pure x := by intro _; rfl) (hs1 : ∀ env x, foldedSetIterable iter1 env x = pure x := by intro _ _; rfl) :
    ME X wi (.ListComp elt [⟨tg, iter, ifs, 0⟩, ⟨tg1, iter1, ifs1, 0⟩] scope pos) (dLc2 it g tt it1 g1 tt1 te (own.map (·.2)) vs1) :=
  PE.of (pe_lc2 hc hN hi ok hv hg ht hi1 hg1 ht1 he hs hs1) fun σ H Q h => lift_lc2 (R := false) h
theorem mLc2R (hc : X.calm = true) (hN : X.N.Nodup) (hi : MI X wi tg iter it) (ok : BlkOk X.N X.env.scope scope own) (hv : ∀ i ∈ vs1, i ∈ own.map (·.2))
    (hg : BlkG X scope fun Y => MG Y wi (own.map (·.2)) tg g) (ht : BlkG X scope fun Y => MTs Y wi ifs tt) (hi1 : BlkG X scope fun Y => MI Y wi tg1 iter1 it1) (hg1 : BlkG X scope fun Y => MG Y wi vs1 tg1 g1) (ht1 : BlkG X scope fun Y => MTs Y wi ifs1 tt1)
    (he : BlkG X scope fun Y => ME Y wi elt te) (hs : ∀ x, foldedSetIterable iter X.env x = pure x := by intro _; rfl) (hs1 : ∀ env x, foldedSetIterable iter1 env x = pure x := by intro _ _; rfl) :
    ME X wi (.ListComp elt [⟨tg, iter, ifs, 0⟩, ⟨tg1, iter1, ifs1, 0⟩] scope pos) (dLc2R it g tt it1 g1 tt1 te (own.map (·.2)) vs1) :=
  PE.of (pe_lc2 hc hN hi ok hv hg ht hi1 hg1 ht1 he hs hs1) fun σ H Q h => lift_lc2 (R := true) h
end
end DL


set_option Elab.async false
set_option linter.all false
set_option maxRecDepth 100000
set_option maxHeartbeats 4000000
namespace DL
open PySem PySem.Spec PyProof.Rows L2
/-! ### sets of ints and texts that are gathered and then sorted -/
def ky : Value → Key
  | .int k _ => .inl k
  | .str x _ => .inr x
  | _ => .inl 0
theorem ky_of {k : Key} {u : Value} (r : RelV (kV k) u) : ky u = k := by
  cases k with
  | inl i => obtain ⟨t, rfl⟩ := r; rfl
  | inr x => obtain ⟨t, rfl⟩ := r; rfl
theorem rel_of_is {k : Key} {u : Value} (h : keyIs k u = true) : RelV (kV k) u := by
  rcases keyIs_shape h with ⟨i, t, rfl, rfl⟩ | ⟨x, t, rfl, rfl⟩
  · exact ⟨t, rfl⟩
  · exact ⟨t, rfl⟩
/-- the entries and the table of a set whose members are ks -/
structure Ents (P : Program) (w : World) (es : Array (Int × Value)) (t : SetTable) (ks : List Key) : Prop where
  el : ElemsOf (mixKind P w) es.toList
  pm : (es.toList.map fun e => ky e.2).Perm ks
  nd : ks.Nodup
  sz : es.size < scanBound
  ft : t.fits es.size = true
  rs : Ris t.place.toList
  ld : w.params.followText "set-order" = true ∨ t.led = true
def SetM (P : Program) (w : World) (h : Heap) (a : Addr) (ks : List Key) : Prop := ∃ o es ep t, h.get? a = some o ∧ o.ExactSet ∧ o.data = .set es ep t ∧ Ents P w es t ks
section
variable {P : Program} {w : World} {A : Around} {E : Value → Shared → Prop} {s : Shared} {a : Addr} {ks : List Key} {es es' : Array (Int × Value)} {t t' : SetTable} {k : Key} {u : Value}
theorem Ents.rel (h : Ents P w es t ks) {e : Int × Value} (he : e ∈ es.toList) : RelV (kV (ky e.2)) e.2 := by
  obtain ⟨⟨k, h1, _⟩, _⟩ := h.el e he
  have r := rel_of_is h1
  rw [ky_of r]; exact r
theorem Ents.is_iff (h : Ents P w es t ks) {e : Int × Value} (he : e ∈ es.toList) (k : Key) : (mixKind P w).is k e.2 = true ↔ ky e.2 = k :=
  ⟨fun z => ky_of (rel_of_is z), fun z => kV_is (by rw [← z]; exact h.rel he)⟩
theorem Ents.mem (h : Ents P w es t ks) : k ∈ ks ↔ ∃ e ∈ es.toList, (mixKind P w).is k e.2 = true := by
  rw [← h.pm.mem_iff, List.mem_map]
  exact ⟨fun ⟨e, he, z⟩ => ⟨e, he, (h.is_iff he k).2 z⟩, fun ⟨e, he, z⟩ => ⟨e, he, (h.is_iff he k).1 z⟩⟩
theorem Ents.len (h : Ents P w es t ks) : es.size = ks.length := by
  rw [← h.pm.length_eq, List.length_map, Array.length_toList]
/-- with one more -/
theorem Ents.more (h : Ents P w es t ks) (ru : RelV (kV k) u) (hk : k ∉ ks) (pc : es'.toList.Perm (((mixKind P w).hash k, u) :: es.toList)) (room : ks.length + 1 < scanBound) (hf : t'.fits es'.size = true) (hr : Ris t'.place.toList) (hl : w.params.followText "set-order" = true ∨ t'.led = true) : Ents P w es' t' (k :: ks) where
  el := fun e he => by
    rcases List.mem_cons.mp (pc.mem_iff.mp he) with z | z
    · rw [z]; exact ⟨⟨k, kV_is ru, rfl⟩, key_scan ru⟩
    · exact h.el e z
  pm := by
    refine (pc.map _).trans ?_
    rw [List.map_cons]
    show (ky u :: _).Perm _
    rw [ky_of ru]
    exact h.pm.cons k
  nd := List.nodup_cons.mpr ⟨hk, h.nd⟩
  sz := by
    have e := pc.length_eq
    rw [List.length_cons, Array.length_toList, Array.length_toList, h.len] at e
    omega
  ft := hf
  rs := hr
  ld := hl
/-- the same, laid otherwise -/
theorem Ents.relaid (h : Ents P w es t ks) (pm : es'.toList.Perm es.toList) (hf : t'.fits es'.size = true) (hr : Ris t'.place.toList) (hl : t'.led = t.led) : Ents P w es' t' ks where
  el := fun e he => h.el e (pm.mem_iff.mp he)
  pm := (pm.map _).trans h.pm
  nd := h.nd
  sz := by
    have e := pm.length_eq
    rw [Array.length_toList, Array.length_toList] at e
    rw [e]; exact h.sz
  ft := hf
  rs := hr
  ld := h.ld.imp id fun z => hl.trans z
theorem stored {h : Heap} {o : Obj} {ep : Nat} (ho : h.get? a = some o) (hd : o.data = .set es ep t) : (h.update a (Obj.putSet es' t')).get? a = some { o with data := .set es' (ep + 1) t' } := by
  have q := Heap.get?_update_self (Obj.putSet es' t') ho (by rw [putSet_of es' t' hd]; rfl)
  rwa [putSet_of es' t' hd] at q
/-- the entries are laid down, and anew in a greater table where this one is full -/
theorem lay_down {c : Bool} {gv : Bool → Sem Unit} {o : Obj} {ep : Nat} {Q : Option Bool → Shared → Prop} (hg : ∀ b (s₁ : Shared) (R : Unit → Shared → Prop), R () s₁ → wpAny (model P w) A (gv b) R E s₁)
    (ho : s.heap.get? a = some o) (hex : o.ExactSet) (hd : o.data = .set es ep t) (h : Ents P w es' t' ks) (hQ : ∀ h', Heap.SameBut a s.heap h' → SetM P w h' a ks → Q (some true) { s with heap := h' }) :
    wpAny (model P w) A (do
      storeSet a es' t'
      if c = true then do
          gv (relayAll t' es' (SetTable.grown es'.size)).2.2
          storeSet a (relayAll t' es' (SetTable.grown es'.size)).1 (relayAll t' es' (SetTable.grown es'.size)).2.1
          pure (some true)
        else pure (some true)) Q E s := by
  have sb := Heap.SameBut.update s.heap a (Obj.putSet es' t')
  refine wpAny_bind (wpAny_storeSet_of ho hd ?_ (fits_of_scanBound h.sz))
  have ho1 := stored (es' := es') (t' := t') ho hd
  cases c with
  | false => exact wpAny_pure (hQ _ sb ⟨_, es', _, t', ho1, hex, rfl, h⟩)
  | true =>
    rw [if_pos rfl]
    have h2 := h.relaid (relayAll_perm t' es' (SetTable.grown es'.size)) (relayAll_fits ..) (relayAll_ris ..) (relayAll_led ..)
    generalize relayAll t' es' (SetTable.grown es'.size) = Z at h2 ⊢
    obtain ⟨es2, t2, gave⟩ := Z
    refine wpAny_bind (hg _ _ _ (wpAny_bind (wpAny_storeSet_of ho1 rfl ?_ (fits_of_scanBound h2.sz))))
    exact wpAny_pure (hQ _ (sb.trans (Heap.SameBut.update _ a _)) ⟨_, es2, _, t2, stored ho1 rfl, hex, rfl, h2⟩)
instance memK (ks : List Key) (k : Key) : Decidable (k ∈ ks) := decidable_of_iff (ks.any (fun j => decide (j = k)) = true) (by simp)
/-- a member more -/
def insK (ks : List Key) (k : Key) : List Key := if k ∈ ks then ks else k :: ks
theorem add_hashed {Q : Bool → Shared → Prop} (R : SetM P w s.heap a ks) (ru : RelV (kV k) u) (room : ks.length + 1 < scanBound) (hQ : ∀ b h', Heap.SameBut a s.heap h' → SetM P w h' a (insK ks k) → Q b { s with heap := h' }) :
    wpAny (model P w) A (setAddHashed a u ((mixKind P w).hash k)) Q E s := by
  obtain ⟨o, es, ep, t, ho, hex, hd, h⟩ := R
  have hkey : (mixKind P w).is k u = true := kV_is ru
  have hsc := key_scan ru
  unfold setAddHashed setAddHashedIn
  refine wpAny_holding (wpAny_bind (wpAny_setState_of ho hd h.ft ?_))
  dsimp only
  rw [byScan_of hsc h.sz h.el]
  simp only [↓reduceIte]
  unfold setAddByScan
  refine wpAny_bind (wpAny_bind (wpAny_rule (wpAny_bind (wpAny_setScan_of hkey ho hd h.ft h.el ?_))))
  cases hfi : List.findIdx? (fun e => (mixKind P w).is k e.2) es.toList with
  | some j =>
    dsimp only
    obtain ⟨hj, pj, _⟩ := List.findIdx?_eq_some_iff_getElem.mp hfi
    have hin : k ∈ ks := h.mem.2 ⟨_, List.getElem_mem hj, pj⟩
    refine wpAny_pure (wpAny_pure (hQ false s.heap (Heap.SameBut.refl a s.heap) ?_))
    rw [insK, if_pos hin]
    exact ⟨o, es, ep, t, ho, hex, hd, h⟩
  | none =>
    dsimp only
    have hout : k ∉ ks := fun z => by
      obtain ⟨e, he, q⟩ := h.mem.1 z
      exact absurd q (by rw [List.findIdx?_eq_none_iff.mp hfi e he]; decide)
    have hQ' : ∀ h', Heap.SameBut a s.heap h' → SetM P w h' a (k :: ks) → Q true { s with heap := h' } := fun h' sb r => hQ true h' sb (by rw [insK, if_neg hout]; exact r)
    have pm := layNew_perm t es ((mixKind P w).hash k) u
    rw [Array.toList_push] at pm
    have more : ∀ {t' : SetTable}, t'.fits (layNew t es ((mixKind P w).hash k) u).1.size = true → Ris t'.place.toList → t'.led = t.led → Ents P w (layNew t es ((mixKind P w).hash k) u).1 t' (k :: ks) := fun {t'} h1 h2 h3 =>
      h.more ru hout (pm.trans (List.perm_append_singleton _ _)) room h1 h2 (h.ld.imp id fun z => h3.trans z)
    have m0 := more (layNew_fits t es ((mixKind P w).hash k) u) (layNew_ris t es _ u h.rs) (layNew_led t es _ u)
    have m1 := more (t' := { (layNew t es ((mixKind P w).hash k) u).2.1 with plain := false }) (SetTable.fits_plain_off (layNew_fits t es ((mixKind P w).hash k) u)) (layNew_ris t es _ u h.rs) (layNew_led t es _ u)
    clear more pm
    generalize layNew t es ((mixKind P w).hash k) u = Z at m0 m1 ⊢
    obtain ⟨es1, t1, dummy, gave⟩ := Z
    dsimp only at m0 m1 ⊢
    have gw : ∀ (b : Bool) {s₁ : Shared} {R : Unit → Shared → Prop}, R () s₁ → wpAny (model P w) A (match b with | true => rule "set.scan.the-table-gave-way" | false => pure ()) R E s₁ := fun b s₁ R q => by
      cases b
      · exact wpAny_pure q
      · exact wpAny_rule q
    refine wpAny_bind (gw _ ?_)
    split
    · rw [hashByValue_scannable 8 hsc]
      refine wpAny_bind (wpAny_pure ?_)
      refine lay_down ?_ ho hex hd (ks := k :: ks) ?_ fun h' sb r => wpAny_pure (hQ' h' sb r)
      · intro b s₁ R q
        exact gw b q
      · split <;> first | exact m0 | exact m1
    · refine wpAny_bind (wpAny_pure ?_)
      simp only [↓reduceIte]
      refine lay_down ?_ ho hex hd (ks := k :: ks) m0 fun h' sb r => wpAny_pure (hQ' h' sb r)
      intro b s₁ R q
      exact gw b q
/-- a.add(u) -/
theorem setM_add {Q : Value → Shared → Prop} (R : SetM P w s.heap a ks) (ru : RelV (kV k) u) (room : ks.length + 1 < scanBound) (hQ : ∀ h', Heap.SameBut a s.heap h' → SetM P w h' a (insK ks k) → Q .none { s with heap := h', toks := s.toks + 1 }) :
    wpAny (model P w) A (call (.builtin "set.add") [.ref a, u]) Q E s := by
  obtain ⟨o, es, ep, t, ho, hex, hd, h⟩ := id R
  refine wpAny_call_entry F.slot_set_add (show s.TypeIs (.ref a) "set" from ⟨o, ho, hex.1⟩) F.entry_set_add ?_ (F.args_set_add_2 _ _)
  unfold Builtin.«set.add» Builtin.Frozenset.oneOther
  simp only [List.isEmpty_nil, bind_assoc]
  unfold Builtin.Frozenset.addrOf setAdd
  refine wpAny_bind (wpAny_pure ?_)
  try dsimp only
  refine wpAny_bind (wpAny_pure ?_)
  try dsimp only
  refine wpAny_bind (wpAny_holding (wpAny_bind ((mixKind P w).pyHash (k := k) (kV_is ru) ?_)))
  refine add_hashed (s := { s with toks := s.toks + 1 }) R ru room fun b h' sb r => ?_
  show wpAny _ _ (ret Value.none) _ _ _
  exact wpAny_pure ⟨_, rfl, hQ h' sb r⟩
def noSet (w : World) : Obj := { cls := .type "set", dict := none, data := .set #[] 0 (.fresh 0 0 (!w.params.followText "set-order")) }
theorem setM_nil {h : Heap} (ho : h.get? a = some (noSet w)) : SetM P w h a [] := by
  refine ⟨_, #[], 0, _, ho, ⟨rfl, rfl, rfl⟩, rfl, fun e he => by simp at he, .refl _, List.nodup_nil, by decide, rfl, List.Pairwise.nil, ?_⟩
  show _ ∨ (!w.params.followText "set-order") = true
  cases w.params.followText "set-order"
  · exact .inr rfl
  · exact .inl rfl
theorem SetM.at' {h h' : Heap} (R : SetM P w h a ks) (k : ∀ o, h.get? a = some o → h'.get? a = some o) : SetM P w h' a ks := by
  obtain ⟨o, es, ep, t, ho, r⟩ := R
  exact ⟨o, es, ep, t, k o ho, r⟩
/-- its members in some order, gathered -/
theorem setM_collect {Q : List Value → Shared → Prop} (R : SetM P w s.heap a ks) (hh : A.handled = none)
    (hQ : ∀ (s' : Shared) (vs : List Value) (ls : List Key), (∀ b o, s.heap.get? b = some o → s'.heap.get? b = some o) → s'.gens = s.gens → s'.os = s.os → ls.Perm ks → Vals (ls.map kV) vs → Q vs s') : wpAny (model P w) A (collect (.ref a)) Q E s := by
  obtain ⟨o, es, ep, t, ho, hex, hd, h⟩ := R
  refine collect_set hh ⟨o, ho, hex.1, hd⟩ h.ft h.sz h.rs h.ld fun s' vs k1 _ g1 o1 pm => hQ s' vs (vs.map ky) k1 g1 o1 ?_ ?_
  · refine (pm.map ky).trans ?_
    rw [List.map_map]
    exact h.pm
  · have rel : ∀ v ∈ vs, RelV (kV (ky v)) v := fun v hv => by
      obtain ⟨e, he, rfl⟩ := List.mem_map.mp (pm.mem_iff.mp hv)
      exact h.rel he
    clear pm
    induction vs with
    | nil => exact .nil
    | cons v vs ih => exact .cons (rel v (List.mem_cons_self ..)) (ih fun u hu => rel u (List.mem_cons_of_mem _ hu))
end
/-! ### .. in the heap beside it -/
def SetMO (P : Program) (w : World) (a : Addr) (ks : List Key) : HO := .ext fun h => SetM P w h a ks
section
variable {X : Cx} {pins : List (Addr × Obj)} {σ : L2.St} {H : Hp} {s : Shared} {D : Addr} {ks : List Key} {k : Key} {u : Value} {E : Value → Shared → Prop}
theorem setM_ok {P : Program} {w : World} {h : Heap} (R : SetM P w h D ks) : ObjOk P w H h D (SetMO P w D ks) := by
  obtain ⟨o, _, _, _, ho, _⟩ := id R
  exact ⟨R, ⟨o, ho⟩, fun h1 h2 p k => SetM.at' p k⟩
theorem setM_get (I : Inv X pins σ H s) (hD : H D = some (SetMO X.prog X.w D ks)) : SetM X.prog X.w s.heap D ks := (I.hok D _ hD).1
theorem addM_ok {Q : Value → Shared → Prop} (I : Inv X pins σ H s) (hD : H D = some (SetMO X.prog X.w D ks)) (ru : RelV (kV k) u) (room : ks.length + 1 < scanBound)
    (h : ∀ s', Inv X pins σ (upd H D (SetMO X.prog X.w D (insK ks k))) s' → Q .none s') : wpAny (model X.prog X.w) X.A (call (.builtin "set.add") [.ref D, u]) Q E s :=
  setM_add (setM_get I hD) ru room fun h' sb r => by
    have he : ∃ u, h'.get? D = some u := by
      obtain ⟨o, _, _, _, ho, _⟩ := id r
      exact ⟨o, ho⟩
    exact h _ (I.write (e := D) (t' := s.toks + 1) (by rw [hD]; trivial) (.inl rfl) (fun b u hb hu => (sb.2 b hb).trans hu) he (setM_ok r))
/-! sorted(a set) -/
def rSetI (P : Program) (w : World) : List V → Hp → VK → Prop := fun vs H Q => ∃ (a : Addr) (ns : List Int), vs = [V.ref a] ∧ H a = some (SetMO P w a (ns.map Sum.inl)) ∧ ∀ (ms : List Int) (p : Addr), ms.Perm ns → ms.Pairwise (· ≤ ·) → H p = none → Q (.ref p) (upd H p (.lst (ms.map V.int)))
def rSetS (P : Program) (w : World) : List V → Hp → VK → Prop := fun vs H Q => ∃ (a : Addr) (ns : List Str), vs = [V.ref a] ∧ H a = some (SetMO P w a (ns.map Sum.inr)) ∧ ns.length < 64 ∧ ∀ (ms : List Str) (p : Addr), ms.Perm ns → sortedS ms = true → H p = none → Q (.ref p) (upd H p (.lst (ms.map V.str)))
theorem perm_inl {ls : List Key} {ns : List Int} (h : ls.Perm (ns.map Sum.inl)) : ∃ ms : List Int, ls = ms.map Sum.inl ∧ ms.Perm ns := by
  refine ⟨ls.filterMap Sum.getLeft?, ?_, ?_⟩
  · have all : ∀ l ∈ ls, ∃ n : Int, l = Sum.inl n := fun l hl => by
      obtain ⟨n, _, e⟩ := List.mem_map.mp (h.mem_iff.mp hl)
      exact ⟨n, e.symm⟩
    clear h
    induction ls with
    | nil => rfl
    | cons l ls ih =>
      obtain ⟨n, rfl⟩ := all l (List.mem_cons_self ..)
      rw [List.filterMap_cons]
      show Sum.inl n :: ls = Sum.inl n :: (ls.filterMap Sum.getLeft?).map Sum.inl
      rw [← ih fun x hx => all x (List.mem_cons_of_mem _ hx)]
  · have z := h.filterMap Sum.getLeft?
    rw [List.filterMap_map] at z
    simpa [Function.comp_def] using z
theorem perm_inr {ls : List Key} {ns : List Str} (h : ls.Perm (ns.map Sum.inr)) : ∃ ms : List Str, ls = ms.map Sum.inr ∧ ms.Perm ns := by
  refine ⟨ls.filterMap Sum.getRight?, ?_, ?_⟩
  · have all : ∀ l ∈ ls, ∃ n : Str, l = Sum.inr n := fun l hl => by
      obtain ⟨n, _, e⟩ := List.mem_map.mp (h.mem_iff.mp hl)
      exact ⟨n, e.symm⟩
    clear h
    induction ls with
    | nil => rfl
    | cons l ls ih =>
      obtain ⟨n, rfl⟩ := all l (List.mem_cons_self ..)
      rw [List.filterMap_cons]
      show Sum.inr n :: ls = Sum.inr n :: (ls.filterMap Sum.getRight?).map Sum.inr
      rw [← ih fun x hx => all x (List.mem_cons_of_mem _ hx)]
  · have z := h.filterMap Sum.getRight?
    rw [List.filterMap_map] at z
    simpa [Function.comp_def] using z
theorem sort_end {Q : VK} {vs : List Value} {ys : List V} {out : List Value} {s1 : Shared} (I : Inv X pins σ H s) (k1 : ∀ b o, s.heap.get? b = some o → s1.heap.get? b = some o) (g1 : s1.gens = s.gens) (o1 : s1.os = s.os) (hz : ys.length ≤ sizeLine)
    (ro : Vals ys out) (q : ∀ p, H p = none → Q (.ref p) (upd H p (.lst ys))) : EP X pins σ Q (.ref s1.heap.objs.size) { s1 with heap := PyProof.Rows.sortedHeap (s1.heap.push (seqObj "list" vs.toArray 0)) s1.heap.objs.size vs out.toArray } := by
  have I1 : Inv X pins σ H s1 := I.call' (ch := []) o1 (Un.kept k1) (I.hok.kept k1) (by rw [g1]; exact I.bare) (fun _ z => nomatch z)
  have hoL : (s1.heap.push (seqObj "list" vs.toArray 0)).get? s1.heap.objs.size = some (seqObj "list" vs.toArray 0) := Heap.get?_push_size _ rfl
  obtain ⟨c, hc⟩ := PyProof.Rows.sortedHeap_at (vs := vs) (out := out.toArray) hoL
  refine ⟨.ref s1.heap.objs.size, upd H s1.heap.objs.size (.lst ys), I1.laid (t' := s1.toks) (fun b u e => ?_) (Nat.le_refl _) ⟨hz, out, c, ro, hc⟩, rfl, q _ (I1.hok.fresh (Nat.le_refl _))⟩
  have hlt := Heap.lt_size e
  rw [PyProof.Rows.sortedHeap_old (Nat.ne_of_lt hlt) (by rw [PyProof.Rows.size_push']; exact Nat.lt_succ_of_lt hlt)]
  exact Heap.get?_push_of_some _ e
theorem cr_sortSetI (hc : X.calm = true) : CallR X (.builtin "sorted") (rSetI X.prog X.w) := by
  rintro pins s σ H vs us Q I r ⟨a, ns, rfl, ha, q⟩
  rw [Vals.ref1 r]
  have R := setM_get I ha
  refine Calls.call_function_entry kind_sorted plain_sorted entry_sorted (args_sorted1 _) ?_
  unfold Builtin.«sorted»
  refine wpAny_bind (m := checkCount "sorted" 1 1 _) (wpAny_pure ?_)
  refine wpAny_bind (setM_collect (A := X.A.in1) R (I.ok.hd hc) fun s1 vs ls k1 g1 o1 pm rv => ?_)
  obtain ⟨ms, rfl, pm2⟩ := perm_inl pm
  rw [List.map_map] at rv
  have rv' : Vals (ms.map V.int) vs := rv
  have hi := rv'.ints
  have hl : vs.length ≤ sizeLine := by
    obtain ⟨o, es, ep, t, ho, hex, hd, h⟩ := R
    have l1 := rv'.length
    have l2 := pm2.length_eq
    have l3 := h.len
    have l4 := h.sz
    rw [List.length_map] at l1 l3
    have : scanBound = 4096 := rfl
    have : sizeLine = 16777216 := rfl
    omega
  refine wpAny_bind (wpAny_newList ?_ hl)
  have hoL : (s1.heap.push (seqObj "list" vs.toArray 0)).get? s1.heap.objs.size = some (seqObj "list" vs.toArray 0) := Heap.get?_push_size _ rfl
  refine wpAny_bind (wpAny_holding (wpAny_call_entry PyProof.Rows.slot_list_sort ⟨_, hoL, rfl⟩ PyProof.Rows.entry_list_sort
    (SrtO.list_sort_ord SrtO.swo_int hoL hl (fun h2 => SrtO.ints_sortable hi h2) fun out h1 h2 => ⟨.none, rfl, ?_⟩) (PyProof.Rows.args_list_sort _)))
  obtain ⟨b1, b2, b3⟩ := SrtO.ints_out hi h1 h2
  refine wpAny_pure ⟨_, rfl, sort_end I k1 g1 o1 ?_ (vals_of_ints b1) fun p hp => q _ p (b2.trans pm2) b3 hp⟩
  have := (vals_of_ints b1).length
  rw [this, h2.perm.length_eq]; exact hl
theorem cr_sortSetS (hc : X.calm = true) : CallR X (.builtin "sorted") (rSetS X.prog X.w) := by
  rintro pins s σ H vs us Q I r ⟨a, ns, rfl, ha, h64, q⟩
  rw [Vals.ref1 r]
  have R := setM_get I ha
  refine Calls.call_function_entry kind_sorted plain_sorted entry_sorted (args_sorted1 _) ?_
  unfold Builtin.«sorted»
  refine wpAny_bind (m := checkCount "sorted" 1 1 _) (wpAny_pure ?_)
  refine wpAny_bind (setM_collect (A := X.A.in1) R (I.ok.hd hc) fun s1 vs ls k1 g1 o1 pm rv => ?_)
  obtain ⟨ms, rfl, pm2⟩ := perm_inr pm
  rw [List.map_map] at rv
  have rv' : Vals (ms.map V.str) vs := rv
  have hS := rv'.strs
  have hl : vs.length < 64 := by
    have l1 := rv'.length
    rw [List.length_map] at l1
    rw [← l1, pm2.length_eq]; exact h64
  have hl2 : vs.length ≤ sizeLine := Nat.le_trans (Nat.le_of_lt hl) (by decide)
  refine wpAny_bind (wpAny_newList ?_ hl2)
  have hoL : (s1.heap.push (seqObj "list" vs.toArray 0)).get? s1.heap.objs.size = some (seqObj "list" vs.toArray 0) := Heap.get?_push_size _ rfl
  refine wpAny_bind (wpAny_holding (wpAny_call_entry PyProof.Rows.slot_list_sort ⟨_, hoL, rfl⟩ PyProof.Rows.entry_list_sort
    (PyProof.Rows.list_sort_treeK PyProof.Rows.strKind_oneLt hoL hS.keysOf (fun v₁ v₂ rest e => PyProof.Rows.keyKind_strs (by rw [← e]; exact hS)) hl fun st' hp hs => ?_) (PyProof.Rows.args_list_sort _)))
  obtain ⟨ys, b1, b2, b3⟩ := PyProof.Rows.sorted_out_str hS hp hs
  have z := sort_end (vs := vs) (out := ((PyProof.Rows.arrOf st').map (·.2)).toList) I k1 g1 o1 (ys := ys.map V.str) (by rw [List.length_map, b2.length_eq, pm2.length_eq]; exact Nat.le_trans (Nat.le_of_lt h64) (by decide)) (vals_of_strs b1) fun p hp => q ys p (b2.trans pm2) b3 hp
  rw [Array.toArray_toList] at z
  exact ⟨_, rfl, wpAny_pure ⟨_, rfl, z⟩⟩
end
end DL


set_option Elab.async false
set_option linter.all false
set_option maxRecDepth 100000
set_option maxHeartbeats 8000000
namespace DL
open PySem PySem.Spec PyProof.Rows L2
/-! ### set(a list or tuple of keys) -/
def insAll (ks js : List Key) : List Key := js.foldl insK ks
theorem insK_len (ks : List Key) (k : Key) : (insK ks k).length ≤ ks.length + 1 := by
  unfold insK
  split
  · omega
  · simp
theorem insAll_len : ∀ (js ks : List Key), (insAll ks js).length ≤ ks.length + js.length
  | [], ks => Nat.le_refl _
  | j :: js, ks => by
    have h1 := insAll_len js (insK ks j)
    have h2 := insK_len ks j
    show (insAll (insK ks j) js).length ≤ _
    rw [List.length_cons]; omega
theorem insAll_take {js : List Key} {i : Nat} {k : Key} (h : js[i]? = some k) (ks : List Key) : insAll ks (js.take (i + 1)) = insK (insAll ks (js.take i)) k := by
  rw [List.take_add_one, h]
  show List.foldl insK ks (js.take i ++ [k]) = _
  rw [List.foldl_append]; rfl
theorem vals_at {vs : List V} {us : List Value} (r : Vals vs us) {i : Nat} {u : Value} (h : us[i]? = some u) : ∃ v, vs[i]? = some v ∧ RelV v u := by
  induction r generalizing i with
  | nil => simp at h
  | cons a b ih => cases i with
    | zero => simp at h; subst h; exact ⟨_, rfl, a⟩
    | succ i => obtain ⟨v, h1, h2⟩ := ih (i := i) (by simpa using h); exact ⟨v, by simpa using h1, h2⟩
section
variable {P : Program} {w : World} {A : Around} {E : Value → Shared → Prop} {s : Shared}
theorem fill_loop {I : Addr} {fp wr : List Addr} {G : Array GenState → Array GenState → Prop} {n : Nat} {Pv : Nat → Value → Prop} {St : Nat → Shared → Prop} {R : Result → Shared → Prop}
    (W : WalksS P w A.in1 I fp wr G n Pv St) (D : Addr) (hD : D ∉ fp) (js : List Key) (hn : n = js.length) (hb : js.length + 1 < scanBound) (hv : ∀ i v, Pv i v → ∃ k, js[i]? = some k ∧ RelV (kV k) v) :
    ∀ (m i : Nat) (s : Shared), n - i = m → i ≤ n → St i s → SetM P w s.heap D (insAll [] (js.take i)) → (∀ s', Moved (D :: wr) G s s' → SetM P w s'.heap D (insAll [] js) → R (.ok (.ret .none)) s') →
      codeAny (model P w) A (.builtin "set.update.loop" ⟨[.ref D, .ref I], []⟩) R s := by
  have hw : D ∉ wr := fun h => hD (W.sub _ h)
  have up : ∀ b ∈ wr, b ∈ D :: wr := fun b h => List.mem_cons_of_mem _ h
  intro m
  induction m with
  | zero =>
    intro i s hm hi st R0 q
    refine codeAny_builtin F.entry_set_update_loop ?_
    rw [Around.under_plainId F.plain_set_update_loop _]
    show wpAny _ A.in1 (pyNext (.ref I) >>= _) _ _ s
    have : i = n := by omega
    subst this
    refine wpAny_bind (W.done s _ _ st fun s' mv => ?_)
    show wpAny _ A.in1 (ret Value.none) _ _ s'
    rw [List.take_of_length_le (by omega)] at R0
    exact wpAny_pure (q s' (mv.mono up) (R0.at' fun o e => mv.heap D o hw e))
  | succ m ih =>
    intro i s hm hi st R0 q
    have lt : i < n := by omega
    refine codeAny_builtin F.entry_set_update_loop ?_
    rw [Around.under_plainId F.plain_set_update_loop _]
    show wpAny _ A.in1 (pyNext (.ref I) >>= _) _ _ s
    refine wpAny_bind (W.item i s _ _ lt st fun v s' hP st' mv => ?_)
    obtain ⟨k, hk, rk⟩ := hv i v hP
    have R1 : SetM P w s'.heap D (insAll [] (js.take i)) := R0.at' fun o e => mv.heap D o hw e
    have l1 := insAll_len (js.take i) []
    rw [List.length_nil, List.length_take] at l1
    show wpAny _ A.in1 (holding [v] (setAdd D v) >>= _) _ _ s'
    refine wpAny_bind (wpAny_holding ?_)
    unfold setAdd
    refine wpAny_holding (wpAny_bind ((mixKind P w).pyHash (k := k) (kV_is rk) ?_))
    refine add_hashed (s := { s' with toks := s'.toks + 1 }) R1 rk (by omega) fun b h' sb R2 => ?_
    rw [← insAll_take hk] at R2
    refine wpAny_pure ⟨plainId_quiet F.plain_set_update_loop _, ih (i + 1) _ (by omega) lt (W.frame _ s' _ _ st' (Nat.le_succ _) fun b hb o e => ?_) R2 fun s2 mv2 R3 => q s2 (Moved.trans W.gtrans ((mv.mono up).then_heap (Nat.le_succ _) fun b o hb e => ?_) mv2) R3⟩
    · rw [sb.2 b (fun h : b = D => hD (by rw [← h]; exact hb))]; exact e
    · rw [sb.2 b (fun h : b = D => hb (by rw [h]; exact List.mem_cons_self))]; exact e

theorem call_set_of_list {l : Addr} {items : List Value} {js : List Key} {Q : Value → Shared → Prop} (hh : A.handled = none) (hl : s.heap.IsList l items.toArray) (rj : Vals (js.map kV) items) (hb : js.length + 1 < scanBound)
    (hQ : ∀ (h' : Heap) (tk : Nat), SetM P w h' s.heap.objs.size (insAll [] js) → (∀ b o, s.heap.get? b = some o → h'.get? b = some o) → Q (.ref s.heap.objs.size) { s with heap := h', toks := tk }) :
    wpAny (model P w) A (call (.type "set") [.ref l]) Q E s := by
  have hlen : items.length = js.length := by rw [← rj.length, List.length_map]
  obtain ⟨c, tl, hmro⟩ := F.called_set.mro
  have hmade := F.called_set.made
  have hsub := F.called_set.sub
  refine wpAny_call (codeAny_of_tree ?_)
  show wpAny _ _ (callAny (.type "set") _) _ _ _
  refine wpAny_pure ⟨Code.quiet_builtin _ (by decide +kernel), codeAny_builtin F.entry_type_call ?_⟩
  rw [Around.under_plain (weight_type_call_type "set" [.ref l] []) rfl]
  have h1 := F.called_set.notType
  have h2 := F.called_set.canCreate
  have hct := F.typeCall_set_1 (.ref l)
  repeat (any_goals (first | assumption | wp_step))
  refine codeAny_mono (code_set_led1 (.ref l) (E := E) (Q₁ := fun obj s₁ => obj = .ref s.heap.objs.size ∧ s₁ = { s with heap := s.heap.push (noSet w) }) ⟨rfl, rfl⟩) fun r s₁ hr => ?_
  cases r with
  | error e => exact hr
  | ok fl =>
    cases fl with
    | ret obj =>
      obtain ⟨rfl, rfl⟩ := hr
      have hS : (s.heap.push (noSet w)).get? s.heap.objs.size = some (noSet w) := Heap.get?_push_size _ rfl
      have hT : Shared.TypeIs { s with heap := s.heap.push (noSet w) } (.ref s.heap.objs.size) "set" := ⟨_, hS, rfl⟩
      have hli := F.called_set.init.lookup
      have hbi := F.called_set.init.bind (.ref s.heap.objs.size)
      repeat (any_goals (first | assumption | wp_step))
      refine codeAny_mono (codeAny_call_builtin (R := wants (fun r s₂ => r = .none ∧ ∃ h' tk, s₂ = { s with heap := h', toks := tk } ∧ SetM P w h' s.heap.objs.size (insAll [] js) ∧ ∀ b o, s.heap.get? b = some o → h'.get? b = some o) E) F.called_set.init.plain F.entry_set_init (check_set_init_1 hT ?_)) fun r₂ s₂ hr₂ => ?_
      · obtain ⟨⟨ocls, odict, odata, oslots⟩, hol, hcl, nl, hdl⟩ := hl
        simp only at hcl hdl
        subst hcl; subst hdl
        have hol' : (s.heap.push (noSet w)).get? l = some { cls := .type "list", dict := odict, data := .seq items.toArray nl, slots := oslots } := Heap.get?_push_of_some _ hol
        have hsls := F.sub_list_set
        have hslf := F.sub_list_frozenset
        have hne : (Value.type "list" == Value.type "dict") = false := by decide
        have hl1 : (s.heap.push (noSet w)).IsList l items.toArray := ⟨_, hol', rfl, nl, rfl⟩
        unfold Builtin.«set.__init__» noKeywords Builtin.Frozenset.updateFrom
        generalize hPI : pyIter = PI
        wp_walk
        subst hPI
        refine wpAny_pyIter_list hl1 (wpAny_bind (wpAny_runValue ?_))
        have hlS : l < s.heap.objs.size := Heap.lt_size hol
        have hz1 : (s.heap.push (noSet w)).objs.size = s.heap.objs.size + 1 := Heap.size_push ..
        have hneI : l ≠ (s.heap.push (noSet w)).objs.size := by rw [hz1]; exact Nat.ne_of_lt (Nat.lt_succ_of_lt hlS)
        have hSf : s.heap.objs.size ∉ [(s.heap.push (noSet w)).objs.size, l] := by
          rw [hz1]
          simp only [List.mem_cons, List.not_mem_nil, or_false, not_or]
          exact ⟨Nat.ne_of_lt (Nat.lt_succ_self _), Nat.ne_of_gt hlS⟩
        have hh3 : A.in1.in1.in1.handled = none := by simp [hh]
        refine fill_loop ((Walks.list hh3 _ l hneI items.toArray).toS) s.heap.objs.size hSf js (by simp [hlen]) hb (fun i v hv => ?_) (items.toArray.size - 0) 0 _ (by omega) (Nat.zero_le _) ⟨⟨_, Heap.get?_push_size _ rfl, rfl, rfl⟩, (hl1.push _)⟩ ?hS0 ?hR
        · obtain ⟨hi, hv⟩ := Array.getElem?_eq_some_iff.mp hv
          have hi' : i < items.length := by simpa using hi
          obtain ⟨x, hx, rx⟩ := vals_at rj (show items[i]? = some v by rw [List.getElem?_eq_getElem hi', ← hv]; simp)
          rw [List.getElem?_map, Option.map_eq_some_iff] at hx
          obtain ⟨j, hj, rfl⟩ := hx
          exact ⟨j, hj, rx⟩
        case hS0 => exact setM_nil (Heap.get?_push_of_some _ hS)
        case hR =>
          rintro ⟨h', g2, d', tk', os'⟩ hm hS'
          have eg : g2 = s.gens := hm.gens
          have ed : d' = s.drawn := hm.drawn
          have eo : os' = s.os := hm.os
          subst eg; subst ed; subst eo
          show wpAny _ _ _ _ _ _
          refine wpAny_pure ?_
          show wpAny _ _ (ret Value.none) _ _ _
          refine wpAny_pure ⟨rfl, h', tk', rfl, hS', fun b o e => ?_⟩
          have hb0 : b < s.heap.objs.size := Heap.lt_size e
          exact hm.heap b o (by rw [hz1]; simp only [List.mem_cons, List.not_mem_nil, or_false, not_or]; exact ⟨Nat.ne_of_lt hb0, Nat.ne_of_lt (Nat.lt_succ_of_lt hb0)⟩) (Heap.get?_push_of_some _ (Heap.get?_push_of_some _ e))
      · cases r₂ with
        | error e => exact hr₂
        | ok fl₂ =>
          cases fl₂ with
          | ret r =>
            obtain ⟨rfl, h', tk, rfl, hS', hk'⟩ := hr₂
            repeat (any_goals (first | assumption | wp_step))
            exact hQ _ _ hS' hk'
          | _ => exact hr₂.elim
    | _ => exact hr.elim

theorem call_set_of_tuple {l : Addr} {items : List Value} {js : List Key} {Q : Value → Shared → Prop} (hh : A.handled = none) (hl : s.heap.IsTuple l items.toArray) (rj : Vals (js.map kV) items) (hb : js.length + 1 < scanBound)
    (hQ : ∀ (h' : Heap) (tk : Nat), SetM P w h' s.heap.objs.size (insAll [] js) → (∀ b o, s.heap.get? b = some o → h'.get? b = some o) → Q (.ref s.heap.objs.size) { s with heap := h', toks := tk }) :
    wpAny (model P w) A (call (.type "set") [.ref l]) Q E s := by
  have hlen : items.length = js.length := by rw [← rj.length, List.length_map]
  obtain ⟨c, tl, hmro⟩ := F.called_set.mro
  have hmade := F.called_set.made
  have hsub := F.called_set.sub
  refine wpAny_call (codeAny_of_tree ?_)
  show wpAny _ _ (callAny (.type "set") _) _ _ _
  refine wpAny_pure ⟨Code.quiet_builtin _ (by decide +kernel), codeAny_builtin F.entry_type_call ?_⟩
  rw [Around.under_plain (weight_type_call_type "set" [.ref l] []) rfl]
  have h1 := F.called_set.notType
  have h2 := F.called_set.canCreate
  have hct := F.typeCall_set_1 (.ref l)
  repeat (any_goals (first | assumption | wp_step))
  refine codeAny_mono (code_set_led1 (.ref l) (E := E) (Q₁ := fun obj s₁ => obj = .ref s.heap.objs.size ∧ s₁ = { s with heap := s.heap.push (noSet w) }) ⟨rfl, rfl⟩) fun r s₁ hr => ?_
  cases r with
  | error e => exact hr
  | ok fl =>
    cases fl with
    | ret obj =>
      obtain ⟨rfl, rfl⟩ := hr
      have hS : (s.heap.push (noSet w)).get? s.heap.objs.size = some (noSet w) := Heap.get?_push_size _ rfl
      have hT : Shared.TypeIs { s with heap := s.heap.push (noSet w) } (.ref s.heap.objs.size) "set" := ⟨_, hS, rfl⟩
      have hli := F.called_set.init.lookup
      have hbi := F.called_set.init.bind (.ref s.heap.objs.size)
      repeat (any_goals (first | assumption | wp_step))
      refine codeAny_mono (codeAny_call_builtin (R := wants (fun r s₂ => r = .none ∧ ∃ h' tk, s₂ = { s with heap := h', toks := tk } ∧ SetM P w h' s.heap.objs.size (insAll [] js) ∧ ∀ b o, s.heap.get? b = some o → h'.get? b = some o) E) F.called_set.init.plain F.entry_set_init (check_set_init_1 hT ?_)) fun r₂ s₂ hr₂ => ?_
      · obtain ⟨⟨ocls, odict, odata, oslots⟩, hol, hcl, nl, hdl⟩ := hl
        simp only at hcl hdl
        subst hcl; subst hdl
        have hol' : (s.heap.push (noSet w)).get? l = some { cls := .type "tuple", dict := odict, data := .seq items.toArray nl, slots := oslots } := Heap.get?_push_of_some _ hol
        have hsls := F.sub_tuple_set
        have hslf := F.sub_tuple_frozenset
        have hne : (Value.type "tuple" == Value.type "dict") = false := by decide
        have hl1 : (s.heap.push (noSet w)).IsTuple l items.toArray := ⟨_, hol', rfl, nl, rfl⟩
        unfold Builtin.«set.__init__» noKeywords Builtin.Frozenset.updateFrom
        generalize hPI : pyIter = PI
        wp_walk
        subst hPI
        refine wpAny_pyIter_tuple hl1 (wpAny_bind (wpAny_runValue ?_))
        have hlS : l < s.heap.objs.size := Heap.lt_size hol
        have hz1 : (s.heap.push (noSet w)).objs.size = s.heap.objs.size + 1 := Heap.size_push ..
        have hneI : l ≠ (s.heap.push (noSet w)).objs.size := by rw [hz1]; exact Nat.ne_of_lt (Nat.lt_succ_of_lt hlS)
        have hSf : s.heap.objs.size ∉ [(s.heap.push (noSet w)).objs.size, l] := by
          rw [hz1]
          simp only [List.mem_cons, List.not_mem_nil, or_false, not_or]
          exact ⟨Nat.ne_of_lt (Nat.lt_succ_self _), Nat.ne_of_gt hlS⟩
        have hh3 : A.in1.in1.in1.handled = none := by simp [hh]
        refine fill_loop ((Walks.tuple hh3 _ l hneI items.toArray).toS) s.heap.objs.size hSf js (by simp [hlen]) hb (fun i v hv => ?_) (items.toArray.size - 0) 0 _ (by omega) (Nat.zero_le _) ⟨⟨_, Heap.get?_push_size _ rfl, rfl, rfl⟩, (hl1.push _)⟩ ?hS0 ?hR
        · obtain ⟨hi, hv⟩ := Array.getElem?_eq_some_iff.mp hv
          have hi' : i < items.length := by simpa using hi
          obtain ⟨x, hx, rx⟩ := vals_at rj (show items[i]? = some v by rw [List.getElem?_eq_getElem hi', ← hv]; simp)
          rw [List.getElem?_map, Option.map_eq_some_iff] at hx
          obtain ⟨j, hj, rfl⟩ := hx
          exact ⟨j, hj, rx⟩
        case hS0 => exact setM_nil (Heap.get?_push_of_some _ hS)
        case hR =>
          rintro ⟨h', g2, d', tk', os'⟩ hm hS'
          have eg : g2 = s.gens := hm.gens
          have ed : d' = s.drawn := hm.drawn
          have eo : os' = s.os := hm.os
          subst eg; subst ed; subst eo
          show wpAny _ _ _ _ _ _
          refine wpAny_pure ?_
          show wpAny _ _ (ret Value.none) _ _ _
          refine wpAny_pure ⟨rfl, h', tk', rfl, hS', fun b o e => ?_⟩
          have hb0 : b < s.heap.objs.size := Heap.lt_size e
          exact hm.heap b o (by rw [hz1]; simp only [List.mem_cons, List.not_mem_nil, or_false, not_or]; exact ⟨Nat.ne_of_lt hb0, Nat.ne_of_lt (Nat.lt_succ_of_lt hb0)⟩) (Heap.get?_push_of_some _ (Heap.get?_push_of_some _ e))
      · cases r₂ with
        | error e => exact hr₂
        | ok fl₂ =>
          cases fl₂ with
          | ret r =>
            obtain ⟨rfl, h', tk, rfl, hS', hk'⟩ := hr₂
            repeat (any_goals (first | assumption | wp_step))
            exact hQ _ _ hS' hk'
          | _ => exact hr₂.elim
    | _ => exact hr.elim

end
section
variable {X : Cx}
/-- set(xs) -/
theorem cr_setOf (hc : X.calm = true) : CallR X (.type "set") (fun vs H Q => ∃ (a : Addr) (js : List Key), vs = [V.ref a] ∧ (SqL X.K H a (js.map kV) ∨ SqT X.K H a (js.map kV)) ∧ js.length + 1 < scanBound ∧ ∀ p, H p = none → Q (.ref p) (upd H p (SetMO X.prog X.w p (insAll [] js)))) := by
  rintro pins s σ H vs us Q I r ⟨a, js, rfl, hs, hb, q⟩
  rw [Vals.ref1 r]
  have fin : ∀ (h' : Heap) (tk : Nat), SetM X.prog X.w h' s.heap.objs.size (insAll [] js) → (∀ b o, s.heap.get? b = some o → h'.get? b = some o) → EP X pins σ Q (.ref s.heap.objs.size) { s with heap := h', toks := tk } := fun h' tk R k =>
    ⟨.ref s.heap.objs.size, _, I.laid (t' := tk) k (Nat.le_refl _) (setM_ok R), rfl, q _ (I.hok.fresh (Nat.le_refl _))⟩
  rcases hs with hs | hs
  · obtain ⟨its, rv, hl, _⟩ := I.list hs
    exact call_set_of_list (I.ok.hd hc) hl.isList rv hb fin
  · obtain ⟨its, rv, hl, _⟩ := I.tuple hs
    exact call_set_of_tuple (I.ok.hd hc) hl rv hb fin
end
end DL


set_option Elab.async false
set_option linter.all false
set_option maxRecDepth 100000
set_option maxHeartbeats 8000000
namespace DL
open PySem PySem.Spec PyProof.Rows L2
/-! ### {elt for .. in ..}, {elt for .. in .. for .. in ..} -/
/-- one turn of a loop within a block: the end, or the next thing stored and the tests asked -/
theorem one_turn {Y : Cx} {tg : Expr} {ifs : List Expr} {J : It} {fp : List Addr} {it : Addr} {tn : Nat → Heap → Prop} {g : TG} {tt : TT} {pins : List (Addr × Obj)} {σ0 : L2.St} {H : Hp} {s : Shared} {i : Nat} {E : Value → Shared → Prop} {Stop : Shared → Prop} {Kk : Bool → Shared → Prop}
    (hc : Y.calm = true) (hxe : Y.xe = fun _ _ => False) (T : Turn Y.prog Y.w Y.K tg J fp it tn) (pg : PG Y tg g) (pt : PTs Y ifs tt) (I : Inv Y pins σ0 H s) (st : tn i s.heap) (nn : ∀ b ∈ fp, H b = none) (fpk : ∀ H', (∀ b ∈ fp, H' b = none) → ∀ b ∈ fp, FpOk Y pins H' b)
    (h : (J.stop i H ∧ ∀ s', Inv Y pins σ0 H s' → Stop s') ∨ ∃ (Pw : L2.St → Prop) (C : L2.St → Bool → Hp → Prop), J.go i H ∧ (∀ x H', J.yld i H x H' → g x σ0 H' fun σ2 H2 => Pw σ2 ∧ tt σ2 H2 (C σ2)) ∧ ∀ σ2 b H3 pp s', Pw σ2 → C σ2 b H3 → Inv Y (pins ++ pp) σ2 H3 s' →
      (∀ σ' H' s', Inv Y (pins ++ pp) σ' H' s' → σ0.length = σ'.length → (∀ (j : Nat) v, σ0[j]? = some (some v) → σ'[j]? = some (some v)) → Inv Y pins σ0 H' s' ∧ tn (i + 1) s'.heap ∧ ∀ b ∈ fp, H' b = none) → Kk b s') :
    wpAny (model Y.prog Y.w) Y.A (pyNext (.ref it)) (fun r s₁ => match r with
      | none => Stop s₁
      | some v => wpAny (model Y.prog Y.w) Y.A (letOwnedTupleGo tg (.ref it) v) (fun _ s₁' => wpAny (model Y.prog Y.w) Y.A (assign tg Y.env v) (fun _ s₂ =>
          wpAny (model Y.prog Y.w) Y.A (forIn ifs true fun c r => if r = true then do let ok ← isTrue c Y.env (eval c Y.env); pure (ForInStep.yield ok) else pure (ForInStep.yield r)) (fun ok s₃ => Kk ok s₃) E s₂) E s₁') E s₁) E s := by
  rcases h with ⟨stop, q⟩ | ⟨Pw, C, go, q, fin⟩
  · refine thnF (T.done Y rfl rfl rfl hc i pins s σ0 H (fun _ _ => False) I (fpk H nn) st stop) fun r s1 ⟨hr, I1⟩ => ?_
    subst hr
    exact q s1 I1
  · refine thnF (T.item Y rfl rfl rfl hc i pins s σ0 H (fun _ _ => False) I (fpk H nn) st go) fun r s1 ⟨u, hr, h1⟩ => ?_
    subst hr
    refine thnF h1 fun _ s2 ⟨x, H2, I2, rx, y2, st2, n2⟩ => ?_
    have P2 := I2.pinned (fpk H2 n2) (T.obj _ _ st2)
    have g2 := pg.run _ s2 σ0 H2 x u _ P2 rx (q x H2 y2)
    rw [hxe] at g2
    refine thnF g2 fun _ s3 ⟨σ3, H3, I3, w3, q3⟩ => ?_
    have t3 := pt.run _ s3 σ3 H3 _ I3 q3
    rw [hxe] at t3
    refine thnF t3 fun b s4 ⟨H4, I4, q4⟩ => fin σ3 b H4 _ s4 w3 q4 I4 fun σ' H' s' I' hl hk => ?_
    have pin : ∀ b ∈ fp, ∀ o, s2.heap.get? b = some o → s'.heap.get? b = some o ∧ H' b = none := fun b hb o e =>
      ⟨(I'.pin (b, o) (List.mem_append_right _ (List.mem_append_right _ (mem_pinsAt hb e)))).1, (I'.pin (b, o) (List.mem_append_right _ (List.mem_append_right _ (mem_pinsAt hb e)))).2.1⟩
    refine ⟨I'.unpinned.weak hl hk, T.keep _ _ _ st2 fun b hb o e => (pin b hb o e).1, fun b hb => ?_⟩
    obtain ⟨o, e, _⟩ := T.obj _ _ st2 b hb
    exact (pin b hb o e).2
/-- what is asked of a block: its loop, from where it starts -/
theorem set_block {X : Cx} {pins : List (Addr × Obj)} {s : Shared} {σ : L2.St} {H : Hp} {Q : VK} {elt tg iter : Expr} {ifs : List Expr} {rest : List Comprehension} {scope : Scope} {own : List (Str × Nat)} {pos pos' : Pos} {wi : TI} {R : It → Hp → Prop} (hc : X.calm = true) (hN : X.N.Nodup)
    (I : Inv X pins σ H s) (hi : PI X tg iter wi) (ok : BlkOk X.N X.env.scope scope own) (hs : ∀ x, foldedSetIterable iter X.env x = pure x)
    (h : wi σ H R) (hR : ∀ J H1, R J H1 → ∀ D, H1 D = none → ∀ (s3 : Shared) (cl : List (Str × Addr)) (fp : List Addr) (it : Addr) (tn : Nat → Heap → Prop) (Y : Cx), Y = X.blk s3 (upd H1 D (SetMO X.prog X.w D [])) scope (compEnvC scope cl s3.heap.objs.size X.env) fp → cl = cellsFrom (s3.heap.objs.size + 1) scope.names (cloFrom X.env.cells scope.names []) →
      Turn X.prog X.w X.K tg J fp it tn → (∀ H', (∀ b ∈ fp, H' b = none) → Y.Ok → ∀ b ∈ fp, FpOk Y [] H' b) →
      ∀ s4, Inv Y [] (L2.wipe σ (own.map (·.2))) (upd H1 D (SetMO X.prog X.w D [])) s4 → tn 0 s4.heap → (∀ b ∈ fp, (upd H1 D (SetMO X.prog X.w D [])) b = none) →
        codeAny (model X.prog X.w) X.A (.compLoop (.SetComp elt (⟨tg, iter, ifs, 0⟩ :: rest) scope pos) 0 (.ref it) (.ref D) Y.env) (fun r s' => match r with
          | .ok _ => ∃ H', Inv Y [] (L2.wipe σ (own.map (·.2))) H' s' ∧ Q (.ref D) H'
          | .error _ => False) s4) :
    wpAny (model X.prog X.w) X.A (comprehension (.SetComp elt (⟨tg, iter, ifs, 0⟩ :: rest) scope pos) scope X.env pos' (newSet (.type "set")) false (eval iter X.env) none) (EP X pins σ Q) X.xe s := by
  have hfree : ∀ y ∈ scope.names, y.2 = .free → ∃ c, X.env.cells.lookup y.1 = some c := fun y hy e => (ok.free y hy e).elim (fun k => I.ok.has _ (.inl k)) fun k => I.ok.has _ (.inr k)
  refine wpAny_comprehension_free (use := none) rfl hs (closure_ok hfree) ok.kind (fun y hy e => by rw [ok.uniq y hy, e]) (thn (hi.run pins s σ H _ I h) fun xv s1 hx => thn hx fun itv s2 ⟨it, fp, tn, J, H2, e, I2, T, st2, f2, q⟩ => ?_)
  subst e
  refine PpSet.newSet_ok (newEnv_comp ?_)
  generalize hD : s2.heap.objs.size = D
  have hDn : H2 D = none := I2.hok.fresh (Nat.le_of_eq hD)
  have q := hR J H2 q D hDn
  generalize hs3 : ({ s2 with heap := s2.heap.push (noSet X.w) } : Shared) = s3
  have h3 : s3.heap = s2.heap.push (noSet X.w) := by rw [← hs3]
  have I3 : Inv X pins σ (upd H2 D (SetMO X.prog X.w D [])) s3 := by
    rw [← hs3]
    refine I2.laid (t' := s2.toks) (fun b o e => Heap.get?_push_of_some _ e) (Nat.le_of_eq hD) (setM_ok (setM_nil ?_))
    rw [← hD]
    exact Heap.get?_push_size _ rfl
  have f3 : ∀ b ∈ fp, FpOk X pins (upd H2 D (SetMO X.prog X.w D [])) b ∧ b < s3.heap.objs.size := fun b hb => by
    obtain ⟨o, e, _⟩ := T.obj _ _ st2 b hb
    have hlt := Heap.lt_size e
    refine ⟨⟨?_, (f2 b hb).2⟩, by rw [h3, Heap.size_push]; exact Nat.lt_succ_of_lt hlt⟩
    rw [upd_ne (by rw [← hD]; exact Nat.ne_of_lt hlt)]
    exact (f2 b hb).1
  have I4 := block_start I3 ok hN f3
  have st4 : tn 0 (pushCells (s3.heap.push { cls := .type "dict", data := .dict #[] }) scope.names) := T.keep _ _ _ st2 fun b _ o e => pushCells_keeps _ _ _ _ (Heap.get?_push_of_some _ (by rw [h3]; exact Heap.get?_push_of_some _ e))
  have loop := q s3 _ fp it tn _ rfl rfl T (fun H' hn yo b hb => ⟨hn b hb, (yo.exf b hb).1, yo.exfs b hb, .inl hb, fun x c e => (yo.exf b hb).2 x c e, fun p hp => absurd (show p ∈ ([] : List (Addr × Obj)) ++ [] from hp) (by simp)⟩) _ I4 st4 fun b hb => (f3 b hb).1.1
  have post : ∀ r s', (match r with
      | .ok _ => ∃ H', Inv (X.blk s3 (upd H2 D (SetMO X.prog X.w D [])) scope (compEnvC scope (cellsFrom (s3.heap.objs.size + 1) scope.names (cloFrom X.env.cells scope.names [])) s3.heap.objs.size X.env) fp) [] (L2.wipe σ (own.map (·.2))) H' s' ∧ Q (.ref D) H'
      | .error _ => False) → compPost (model X.prog X.w) X.A X.xe none (EP X pins σ Q) (.ref D) s3.heap.objs.size r s' := by
    rintro r s' hr
    cases r with
    | error e => exact hr.elim
    | ok f =>
      obtain ⟨H', I6, qq⟩ := hr
      have I7 : Inv X pins σ H' s' := I3.call' (ch := fp) I6.os I6.base I6.hok I6.bare fun b hb => ⟨(f3 b hb).1.2.2.2.1, (f3 b hb).1.2.1, (f3 b hb).1.2.2.2.2.1, (f3 b hb).1.2.2.2.2.2⟩
      obtain ⟨m, hn, _⟩ := I6.loc
      have nC : H' s3.heap.objs.size = none := I6.free
      refine ⟨m, hn, fun h'' sb => ?_⟩
      obtain ⟨f0, f1, f2', f3', f4, f5⟩ := I3.fpOk (Nat.le_refl _) nC
      exact ⟨.ref D, H', I7.turned (t' := s'.toks) (fun b o hb e => (sb.2 b hb).trans e) f0 f1 f3' f4 f5, rfl, qq⟩
  have loop2 := codeAny_mono loop post
  subst hs3
  exact PpSet.codeAny_compStart_set (R := compPost (model X.prog X.w) X.A X.xe none (EP X pins σ Q) (.ref D) _) loop2 (T.self X.A 0 _ _ _ st4 loop2)
/-- {elt for tg in iter if ..}, the members keys -/
def tSc1 (P : Program) (w : World) (wi : TI) (g : TG) (tt : TT) (te : TE) (vs : List Nat) : TE := fun σ H Q => wi σ H fun J H1 => ∀ D, H1 D = none → ∃ W : Nat → Nat → Hp → Prop, (∃ m, W 0 m (upd H1 D (SetMO P w D []))) ∧ ∀ i m H, W i m H →
  (J.stop i H ∧ Q (.ref D) H) ∨ (J.go i H ∧ ∃ Nx : Hp → Prop, (∀ H', Nx H' → ∃ m', m' < m ∧ W (i + 1) m' H') ∧ ∀ x H', J.yld i H x H' → g x (L2.wipe σ vs) H' fun σ2 H2 => L2.wipe σ2 vs = L2.wipe σ vs ∧ tt σ2 H2 fun b H3 =>
    if b = true then te σ2 H3 fun y H4 => ∃ (k : Key) (ks : List Key), y = kV k ∧ H4 D = some (SetMO P w D ks) ∧ ks.length + 1 < scanBound ∧ Nx (upd H4 D (SetMO P w D (insK ks k))) else Nx H3)
abbrev BlkP (X : Cx) (scope : Scope) (p : Cx → Prop) : Prop := ∀ (s : Shared) (H : Hp) (C : Addr) (cl : List (Str × Addr)) (fp : List Addr), p (X.blk s H scope (compEnvC scope cl C X.env) fp)
section
variable {X : Cx} {elt tg iter tg1 iter1 : Expr} {ifs ifs1 : List Expr} {scope : Scope} {own : List (Str × Nat)} {pos : Pos} {wi wi1 : TI} {g g1 : TG} {tt tt1 : TT} {te : TE} {vs1 : List Nat}
/-- g that leaves all but the block's names, and tests that are asked of the slots behind it -/
theorem pe_sc1 (hc : X.calm = true) (hN : X.N.Nodup) (hi : PI X tg iter wi) (ok : BlkOk X.N X.env.scope scope own) (hg : BlkP X scope fun Y => PG Y tg g) (ht : BlkP X scope fun Y => PTs Y ifs tt) (he : BlkP X scope fun Y => PE Y elt te)
    (hs : ∀ x, foldedSetIterable iter X.env x = pure x := by intro _; rfl) : PE X (.SetComp elt [⟨tg, iter, ifs, 0⟩] scope pos) (tSc1 X.prog X.w wi g tt te (own.map (·.2))) := by
  refine ⟨fun pins s σ H Q I h => ?_⟩
  rw [PpSet.eval_SetComp]
  refine set_block hc hN I hi ok hs h fun J H1 hR D hD s3 cl fp it tn Y hY hcl T fpk s4 I4 st4 n4 => ?_
  obtain ⟨W, ⟨m0, w0⟩, turn⟩ := hR D hD
  have pg : PG Y tg g := by rw [hY]; exact hg ..
  have pt : PTs Y ifs tt := by rw [hY]; exact ht ..
  have pe : PE Y elt te := by rw [hY]; exact he ..
  have y1 : Y.prog = X.prog := by rw [hY]
  have y2 : Y.w = X.w := by rw [hY]
  have y3 : Y.K = X.K := by rw [hY]
  have y4 : Y.A = X.A := by rw [hY]
  have y5 : Y.calm = true := by rw [hY]; exact hc
  have y6 : Y.xe = fun _ _ => False := by rw [hY]
  rw [← y1, ← y2, ← y3] at T
  rw [← y1, ← y2, ← y4]
  rw [← y1, ← y2] at w0 I4 turn n4
  clear hY hcl y1 y2 y3 y4 hi h
  refine PpSet.compLoopS_any (fun n s' => ∃ i H', Inv Y [] (L2.wipe σ (own.map (·.2))) H' s' ∧ tn i s'.heap ∧ (∀ b ∈ fp, H' b = none) ∧ W i n H') ?_ m0 ⟨0, _, I4, st4, n4, w0⟩
  rintro n s5 ⟨i, H5, I5, st5, n5, w5⟩
  refine one_turn (Kk := fun ok s₃ => if ok = true then _ else _) y5 y6 T pg pt I5 st5 n5 (fun H' hn => fpk H' hn I5.ok) ?_
  rcases turn i n H5 w5 with ⟨stop, qq⟩ | ⟨go, Nx, hNx, step⟩
  · exact .inl ⟨stop, fun s' I' => ⟨H5, I', qq⟩⟩
  · refine .inr ⟨_, fun σ2 b H3 => _, go, step, fun σ2 b H3 pp s6 w2 c3 I6 back => ?_⟩
    have hl : (L2.wipe σ (own.map (·.2))).length = σ2.length := by rw [← w2, wipe_length]
    have hk : ∀ (j : Nat) v, (L2.wipe σ (own.map (·.2)))[j]? = some (some v) → σ2[j]? = some (some v) := fun j v e => by
      rw [← w2] at e
      exact (wipe_some e).1
    have fin : ∀ {s' H'}, Inv Y ([] ++ pp) σ2 H' s' → Nx H' → ∃ m, m < n ∧ ∃ i H', Inv Y [] (L2.wipe σ (own.map (·.2))) H' s' ∧ tn i s'.heap ∧ (∀ b ∈ fp, H' b = none) ∧ W i m H' := fun {s' H'} I' nx => by
      obtain ⟨m', hm, w'⟩ := hNx H' nx
      obtain ⟨b1, b2, b3⟩ := back _ _ _ I' hl hk
      exact ⟨m', hm, i + 1, H', b1, b2, b3, w'⟩
    cases b with
    | false =>
      simp only [Bool.false_eq_true, if_false] at c3 ⊢
      exact fin I6 c3
    | true =>
      simp only [if_true] at c3 ⊢
      have e6 := pe.run _ s6 σ2 H3 _ I6 c3
      rw [y6] at e6
      refine thnF e6 fun u s7 ⟨v, H7, I7, rv, k, ks, ev, hD7, hz, nx⟩ => ?_
      subst ev
      exact addM_ok I7 hD7 rv hz fun s8 I8 => fin I8 nx
end
/-! two clauses: the first one's loop, the second one's start and loop -/
section
variable {prog : Program} {w : World} {A : Around} {R : Result → Shared → Prop} {s : Shared} {elt t0 i0 t1 i1 : Expr} {ifs0 ifs1 : List Expr} {scope : Scope} {pos : Pos} {it acc : Value} {env : Env}
abbrev sc2 (elt t0 i0 t1 i1 : Expr) (ifs0 ifs1 : List Expr) (scope : Scope) (pos : Pos) : Expr := .SetComp elt [⟨t0, i0, ifs0, 0⟩, ⟨t1, i1, ifs1, 0⟩] scope pos
abbrev ErrR (prog : Program) (w : World) (A : Around) (env : Env) (R : Result → Shared → Prop) : Value → Shared → Prop := notedBy (model prog w) A env fun e s' => R (.error e) s'
abbrev tests (ifs : List Expr) (env : Env) : Sem Bool := forIn ifs true fun c r => if r = true then do let ok ← isTrue c env (eval c env); pure (ForInStep.yield ok) else pure (ForInStep.yield r)
theorem turn_first : compTurn (sc2 elt t0 i0 t1 i1 ifs0 ifs1 scope pos) 0 it acc env = (do
      standAt i0.pos
      match ← pyNext it with
      | none => pure (.done .next)
      | some v =>
        letOwnedTupleGo t0 it v
        assign t0 env v
        let mut ok := true
        for c in ifs0 do
          if ok then ok ← isTrue c env (eval c env)
        if ok then
          let x ← eval i1 env
          standAt i1.pos
          let x ← foldedSetIterable i1 env x
          let _ ← runOwn (.compStart (sc2 elt t0 i0 t1 i1 ifs0 ifs1 scope pos) 1 (← holding [x] (pyIter x)) acc env) env
        again (.compLoop (sc2 elt t0 i0 t1 i1 ifs0 ifs1 scope pos) 0 it acc env)) := by rfl
theorem turn_second : compTurn (sc2 elt t0 i0 t1 i1 ifs0 ifs1 scope pos) 1 it acc env = (do
      standAt i1.pos
      match ← pyNext it with
      | none => pure (.done .next)
      | some v =>
        letOwnedTupleGo t1 it v
        assign t1 env v
        let mut ok := true
        for c in ifs1 do
          if ok then ok ← isTrue c env (eval c env)
        if ok then
          (do let v ← eval elt env; standAt elt.pos; let _ ← call (.builtin "set.add") [acc, v])
        again (.compLoop (sc2 elt t0 i0 t1 i1 ifs0 ifs1 scope pos) 1 it acc env)) := by rfl
theorem loop_first (hs : ∀ x, foldedSetIterable i1 env x = pure x) (I : Nat → Shared → Prop)
    (turn : ∀ n s, I n s → wpAny (model prog w) A (pyNext it) (fun r s₁ => match r with
      | none => R (.ok .next) s₁
      | some v => wpAny (model prog w) A (letOwnedTupleGo t0 it v) (fun _ s₁' => wpAny (model prog w) A (assign t0 env v) (fun _ s₂ => wpAny (model prog w) A (tests ifs0 env) (fun ok s₃ =>
          if ok = true then wpAny (model prog w) A (eval i1 env) (fun x s₄ => wpAny (model prog w) A (pyIter x) (fun it1 s₅ => codeAny (model prog w) A (.compStart (sc2 elt t0 i0 t1 i1 ifs0 ifs1 scope pos) 1 it1 acc env) (fun r s' => match r with
                | .ok _ => ∃ m, m < n ∧ I m s'
                | .error _ => False) s₅) (ErrR prog w A env R) s₄) (ErrR prog w A env R) s₃
          else ∃ m, m < n ∧ I m s₃) (ErrR prog w A env R) s₂) (ErrR prog w A env R) s₁') (ErrR prog w A env R) s₁) (ErrR prog w A env R) s)
    (n : Nat) (h : I n s) : codeAny (model prog w) A (.compLoop (sc2 elt t0 i0 t1 i1 ifs0 ifs1 scope pos) 0 it acc env) R s := by
  refine codeAny_loop rfl I (fun n s hI => ?_) n h
  show wpAny _ A ((compTurn (sc2 elt t0 i0 t1 i1 ifs0 ifs1 scope pos) 0 it acc env).onRaise (fun x => do noteFrame x env; theTreesLotGoes x)) _ _ s
  refine wpAny_noted ?_
  rw [turn_first]
  refine wpAny_bind (wpAny_standAt (wpAny_bind (wpAny_mono (turn n s hI) (fun r s1 h1 => ?_) fun _ _ x => x)))
  cases r with
  | none => exact wpAny_pure h1
  | some v =>
    refine wpAny_bind (wpAny_mono h1 (fun _ s2 h2 => wpAny_bind (wpAny_mono h2 (fun _ s3 h3 => wpAny_bind (wpAny_mono h3 (fun ok s4 h4 => ?_) fun _ _ x => x)) fun _ _ x => x)) fun _ _ x => x)
    cases ok with
    | false => exact wpAny_pure ⟨rfl, h4⟩
    | true =>
      refine wpAny_bind (wpAny_mono h4 (fun x s5 h5 => wpAny_bind (wpAny_standAt (wpAny_bind (wpAny_of_eq (hs x) (wpAny_bind (wpAny_holding (wpAny_mono h5 (fun it1 s6 h6 => ?_) fun _ _ x => x))))))) fun _ _ x => x)
      refine wpAny_bind (wpAny_runOwn ?_)
      rw [Around.mark_none]
      refine codeAny_mono h6 fun r s7 hr => ?_
      cases r with
      | ok f => first | exact wpAny_pure ⟨rfl, hr⟩ | exact wpAny_bind (wpAny_pure (wpAny_pure ⟨rfl, hr⟩))
      | error e => exact hr.elim
theorem loop_second (I : Nat → Shared → Prop)
    (turn : ∀ n s, I n s → wpAny (model prog w) A (pyNext it) (fun r s₁ => match r with
      | none => R (.ok .next) s₁
      | some v => wpAny (model prog w) A (letOwnedTupleGo t1 it v) (fun _ s₁' => wpAny (model prog w) A (assign t1 env v) (fun _ s₂ => wpAny (model prog w) A (tests ifs1 env) (fun ok s₃ =>
          if ok = true then wpAny (model prog w) A (eval elt env) (fun x s₄ => wpAny (model prog w) A (call (.builtin "set.add") [acc, x]) (fun _ s₅ => ∃ m, m < n ∧ I m s₅) (ErrR prog w A env R) s₄) (ErrR prog w A env R) s₃
          else ∃ m, m < n ∧ I m s₃) (ErrR prog w A env R) s₂) (ErrR prog w A env R) s₁') (ErrR prog w A env R) s₁) (ErrR prog w A env R) s)
    (n : Nat) (h : I n s) : codeAny (model prog w) A (.compLoop (sc2 elt t0 i0 t1 i1 ifs0 ifs1 scope pos) 1 it acc env) R s := by
  refine codeAny_loop rfl I (fun n s hI => ?_) n h
  show wpAny _ A ((compTurn (sc2 elt t0 i0 t1 i1 ifs0 ifs1 scope pos) 1 it acc env).onRaise (fun x => do noteFrame x env; theTreesLotGoes x)) _ _ s
  refine wpAny_noted ?_
  rw [turn_second]
  refine wpAny_bind (wpAny_standAt (wpAny_bind (wpAny_mono (turn n s hI) (fun r s1 h1 => ?_) fun _ _ x => x)))
  cases r with
  | none => exact wpAny_pure h1
  | some v =>
    refine wpAny_bind (wpAny_mono h1 (fun _ s2 h2 => wpAny_bind (wpAny_mono h2 (fun _ s3 h3 => wpAny_bind (wpAny_mono h3 (fun ok s4 h4 => ?_) fun _ _ x => x)) fun _ _ x => x)) fun _ _ x => x)
    cases ok with
    | false => exact wpAny_pure ⟨rfl, h4⟩
    | true => exact wpAny_bind (wpAny_bind (wpAny_mono h4 (fun x s5 h5 => wpAny_bind (wpAny_standAt (wpAny_bind (wpAny_mono h5 (fun _ s6 h6 => wpAny_pure (wpAny_pure ⟨rfl, h6⟩)) fun _ _ x => x)))) fun _ _ x => x))
theorem start_second (h0 : codeAny (model prog w) A (.compLoop (sc2 elt t0 i0 t1 i1 ifs0 ifs1 scope pos) 1 it acc env) R s)
    (h : wpAny (model prog w) A (pyIter it) (fun it' s' => codeAny (model prog w) A (.compLoop (sc2 elt t0 i0 t1 i1 ifs0 ifs1 scope pos) 1 it' acc env) R s') (ErrR prog w A env R) s) :
    codeAny (model prog w) A (.compStart (sc2 elt t0 i0 t1 i1 ifs0 ifs1 scope pos) 1 it acc env) R s := by
  refine codeAny_of_tree ?_
  show wpAny _ _ ((compStart (sc2 elt t0 i0 t1 i1 ifs0 ifs1 scope pos) 1 it acc env).onRaise (fun x => do noteFrame x env; standAt theWindowsPlace)) _ _ s
  refine wpAny_notedAt ?_
  unfold compStart
  show wpAny _ _ (ask >>= _) _ _ s
  refine wpAny_bind (wpAny_askSetting (wpAny_ite ?_))
  split
  · first
      | exact wpAny_bind (wpAny_pure (wpAny_pure (And.intro rfl h0)))
      | exact wpAny_pure (And.intro rfl h0)
  · first
      | exact wpAny_bind (wpAny_rule (wpAny_bind (wpAny_standAt (wpAny_bind (wpAny_mono h (fun it' s' h' => wpAny_pure (And.intro rfl h')) fun _ _ x => x)))))
      | (refine wpAny_bind (wpAny_rule ?_); show wpAny _ _ (standAt i1.pos >>= _) _ _ s; exact wpAny_bind (wpAny_standAt (wpAny_bind (wpAny_mono h (fun it' s' h' => wpAny_pure (And.intro rfl h')) fun _ _ x => x))))
end
/-- {elt for tg in iter if .. for tg1 in iter1 if ..} -/
def tSc2 (P : Program) (w : World) (wi : TI) (g : TG) (tt : TT) (wi1 : TI) (g1 : TG) (tt1 : TT) (te : TE) (vs vs1 : List Nat) : TE := fun σ H Q => wi σ H fun J H1 => ∀ D, H1 D = none → ∃ W : Nat → Nat → Hp → Prop, (∃ m, W 0 m (upd H1 D (SetMO P w D []))) ∧ ∀ i m H, W i m H →
  (J.stop i H ∧ Q (.ref D) H) ∨ (J.go i H ∧ ∃ Nx : Hp → Prop, (∀ H', Nx H' → ∃ m', m' < m ∧ W (i + 1) m' H') ∧ ∀ x H', J.yld i H x H' → g x (L2.wipe σ vs) H' fun σ2 H2 => L2.wipe σ2 vs = L2.wipe σ vs ∧ tt σ2 H2 fun b H3 =>
    if b = true then wi1 σ2 H3 fun J1 H4 => ∃ W1 : Nat → Nat → Hp → Prop, (∃ m, W1 0 m H4) ∧ ∀ j k H, W1 j k H →
      (J1.stop j H ∧ Nx H) ∨ (J1.go j H ∧ ∃ Nx1 : Hp → Prop, (∀ H', Nx1 H' → ∃ k', k' < k ∧ W1 (j + 1) k' H') ∧ ∀ x H', J1.yld j H x H' → g1 x (L2.wipe σ2 vs1) H' fun σ3 H5 => L2.wipe σ3 vs1 = L2.wipe σ2 vs1 ∧ tt1 σ3 H5 fun b H6 =>
        if b = true then te σ3 H6 fun y H7 => ∃ (k : Key) (ks : List Key), y = kV k ∧ H7 D = some (SetMO P w D ks) ∧ ks.length + 1 < scanBound ∧ Nx1 (upd H7 D (SetMO P w D (insK ks k))) else Nx1 H6)
    else Nx H3)
section
variable {X : Cx} {elt tg iter tg1 iter1 : Expr} {ifs ifs1 : List Expr} {scope : Scope} {own : List (Str × Nat)} {pos : Pos} {wi wi1 : TI} {g g1 : TG} {tt tt1 : TT} {te : TE} {vs1 : List Nat}
theorem pe_sc2 (hc : X.calm = true) (hN : X.N.Nodup) (hi : PI X tg iter wi) (ok : BlkOk X.N X.env.scope scope own) (hv : ∀ i ∈ vs1, i ∈ own.map (·.2)) (hg : BlkP X scope fun Y => PG Y tg g) (ht : BlkP X scope fun Y => PTs Y ifs tt) (hi1 : BlkP X scope fun Y => PI Y tg1 iter1 wi1) (hg1 : BlkP X scope fun Y => PG Y tg1 g1) (ht1 : BlkP X scope fun Y => PTs Y ifs1 tt1)
    (he : BlkP X scope fun Y => PE Y elt te) (hs : ∀ x, foldedSetIterable iter X.env x = pure x := by intro _; rfl) (hs1 : ∀ env x, foldedSetIterable iter1 env x = pure x := by intro _ _; rfl) :
    PE X (.SetComp elt [⟨tg, iter, ifs, 0⟩, ⟨tg1, iter1, ifs1, 0⟩] scope pos) (tSc2 X.prog X.w wi g tt wi1 g1 tt1 te (own.map (·.2)) vs1) := by
  refine ⟨fun pins s σ H Q I h => ?_⟩
  rw [PpSet.eval_SetComp]
  refine set_block hc hN I hi ok hs h fun J H1 hR D hD s3 cl fp it tn Y hY hcl T fpk s4 I4 st4 n4 => ?_
  obtain ⟨W, ⟨m0, w0⟩, turn⟩ := hR D hD
  have pg : PG Y tg g := by rw [hY]; exact hg ..
  have pt : PTs Y ifs tt := by rw [hY]; exact ht ..
  have pe : PE Y elt te := by rw [hY]; exact he ..
  have pi1 : PI Y tg1 iter1 wi1 := by rw [hY]; exact hi1 ..
  have pg1 : PG Y tg1 g1 := by rw [hY]; exact hg1 ..
  have pt1 : PTs Y ifs1 tt1 := by rw [hY]; exact ht1 ..
  have y1 : Y.prog = X.prog := by rw [hY]
  have y2 : Y.w = X.w := by rw [hY]
  have y3 : Y.K = X.K := by rw [hY]
  have y4 : Y.A = X.A := by rw [hY]
  have y5 : Y.calm = true := by rw [hY]; exact hc
  have y6 : Y.xe = fun _ _ => False := by rw [hY]
  rw [← y1, ← y2, ← y3] at T
  rw [← y1, ← y2, ← y4]
  rw [← y1, ← y2] at w0 I4 turn n4
  clear hY hcl y1 y2 y3 y4 hi h
  refine loop_first (hs1 _) (fun n s' => ∃ i H', Inv Y [] (L2.wipe σ (own.map (·.2))) H' s' ∧ tn i s'.heap ∧ (∀ b ∈ fp, H' b = none) ∧ W i n H') ?_ m0 ⟨0, _, I4, st4, n4, w0⟩
  rintro n s5 ⟨i, H5, I5, st5, n5, w5⟩
  refine one_turn (Kk := fun ok s₃ => if ok = true then _ else _) y5 y6 T pg pt I5 st5 n5 (fun H' hn => fpk H' hn I5.ok) ?_
  rcases turn i n H5 w5 with ⟨stop, qq⟩ | ⟨go, Nx, hNx, step⟩
  · exact .inl ⟨stop, fun s' I' => ⟨H5, I', qq⟩⟩
  · refine .inr ⟨_, fun σ2 b H3 => _, go, step, fun σ2 b H3 pp s6 w2 c3 I6 back => ?_⟩
    have hl : (L2.wipe σ (own.map (·.2))).length = σ2.length := by rw [← w2, wipe_length]
    have hk : ∀ (j : Nat) v, (L2.wipe σ (own.map (·.2)))[j]? = some (some v) → σ2[j]? = some (some v) := fun j v e => by
      rw [← w2] at e
      exact (wipe_some e).1
    have hk1 : ∀ (j : Nat) v, (L2.wipe σ (own.map (·.2)))[j]? = some (some v) → (L2.wipe σ2 vs1)[j]? = some (some v) := fun j v e => by
      rw [← w2] at e
      obtain ⟨e1, e2⟩ := wipe_some e
      rw [wipe_out fun z => e2 (hv j z)]
      exact e1
    have fin : ∀ {σ' s' H'}, Inv Y ([] ++ pp) σ' H' s' → (L2.wipe σ (own.map (·.2))).length = σ'.length → (∀ (j : Nat) v, (L2.wipe σ (own.map (·.2)))[j]? = some (some v) → σ'[j]? = some (some v)) → Nx H' →
        ∃ m, m < n ∧ ∃ i H', Inv Y [] (L2.wipe σ (own.map (·.2))) H' s' ∧ tn i s'.heap ∧ (∀ b ∈ fp, H' b = none) ∧ W i m H' := fun {σ' s' H'} I' l' k' nx => by
      obtain ⟨m', hm, w'⟩ := hNx H' nx
      obtain ⟨b1, b2, b3⟩ := back _ _ _ I' l' k'
      exact ⟨m', hm, i + 1, H', b1, b2, b3, w'⟩
    cases b with
    | false =>
      simp only [Bool.false_eq_true, if_false] at c3 ⊢
      exact fin I6 hl hk c3
    | true =>
      simp only [if_true] at c3 ⊢
      have e6 := pi1.run _ s6 σ2 H3 _ I6 c3
      rw [y6] at e6
      refine thnF e6 fun xv s7 hx => thnF hx fun itv s8 ⟨it1, fp1, tn1, J1, H8, ei, I8, T1, st8, f8, W1, ⟨m1, w1⟩, turn1⟩ => ?_
      subst ei
      have loop1 : codeAny (model Y.prog Y.w) Y.A (.compLoop (sc2 elt tg iter tg1 iter1 ifs ifs1 scope pos) 1 (.ref it1) (.ref D) Y.env) (fun r s' => match r with
          | .ok _ => ∃ m, m < n ∧ ∃ i H', Inv Y [] (L2.wipe σ (own.map (·.2))) H' s' ∧ tn i s'.heap ∧ (∀ b ∈ fp, H' b = none) ∧ W i m H'
          | .error _ => False) s8 := by
        refine loop_second (fun k s' => ∃ j H', Inv Y ([] ++ pp) (L2.wipe σ2 vs1) H' s' ∧ tn1 j s'.heap ∧ (∀ b ∈ fp1, H' b = none) ∧ W1 j k H') ?_ m1 ⟨0, H8, I8.weak (wipe_length _ _) (fun j v e => (wipe_some e).1), st8, fun b hb => (f8 b hb).1, w1⟩
        rintro k s9 ⟨j, H9, I9, st9, n9, w9⟩
        refine one_turn (Kk := fun ok s₃ => if ok = true then _ else _) y5 y6 T1 pg1 pt1 I9 st9 n9 (fun H' hn b hb => ⟨hn b hb, (f8 b hb).2⟩) ?_
        rcases turn1 j k H9 w9 with ⟨stop1, nx1⟩ | ⟨go1, Nx1, hNx1, step1⟩
        · exact .inl ⟨stop1, fun s' I' => fin I' (hl.trans (wipe_length σ2 vs1).symm) hk1 nx1⟩
        · refine .inr ⟨_, fun σ3 b H3 => _, go1, step1, fun σ3 b1 Hb qq sb w3 cb Ib back1 => ?_⟩
          have fin1 : ∀ {s' H'}, Inv Y (([] ++ pp) ++ qq) σ3 H' s' → Nx1 H' → ∃ m, m < k ∧ ∃ j H', Inv Y ([] ++ pp) (L2.wipe σ2 vs1) H' s' ∧ tn1 j s'.heap ∧ (∀ b ∈ fp1, H' b = none) ∧ W1 j m H' := fun {s' H'} I' nx => by
            obtain ⟨m', hm, w'⟩ := hNx1 H' nx
            obtain ⟨b1, b2, b3⟩ := back1 _ _ _ I' (by rw [← w3, wipe_length]) fun j v e => by
              rw [← w3] at e
              exact (wipe_some e).1
            exact ⟨m', hm, j + 1, H', b1, b2, b3, w'⟩
          cases b1 with
          | false =>
            simp only [Bool.false_eq_true, if_false] at cb ⊢
            exact fin1 Ib cb
          | true =>
            simp only [if_true] at cb ⊢
            have ee := pe.run _ sb σ3 Hb _ Ib cb
            rw [y6] at ee
            refine thnF ee fun u sc ⟨v, Hc, Ic, rv, k', ks, ev, hDc, hz, nx⟩ => ?_
            subst ev
            exact addM_ok Ic hDc rv hz fun sd Id => fin1 Id nx
      exact start_second loop1 (T1.self Y.A 0 _ _ _ st8 loop1)
end
end DL


set_option Elab.async false
set_option linter.all false
set_option maxRecDepth 100000
set_option maxHeartbeats 8000000
namespace DL
open PySem PySem.Spec PyProof.Rows L2
/-! ### sorted -/
def srtI (ns : List Int) : List Int := ns.mergeSort fun a b => decide (a ≤ b)
theorem srtI_perm (ns : List Int) : (srtI ns).Perm ns := List.mergeSort_perm ..
theorem srtI_pw (ns : List Int) : (srtI ns).Pairwise (· ≤ ·) := by
  have h := List.pairwise_mergeSort (le := fun a b : Int => decide (a ≤ b)) (fun a b c h1 h2 => by simp only [decide_eq_true_eq] at *; omega) (fun a b => by simp only [Bool.or_eq_true, decide_eq_true_eq]; omega) ns
  exact h.imp fun h => of_decide_eq_true h
theorem srtI_eq {ms ns : List Int} (h : ms.Perm ns) (p : ms.Pairwise (· ≤ ·)) : ms = srtI ns :=
  List.Perm.eq_of_pairwise (fun x y _ _ h1 h2 => Int.le_antisymm h1 h2) p (srtI_pw ns) (h.trans (srtI_perm ns).symm)
def leS (a b : Str) : Prop := a.cps.toList ≤ b.cps.toList
instance (a b : Str) : Decidable (leS a b) := inferInstanceAs (Decidable (a.cps.toList ≤ b.cps.toList))
theorem leS_anti {a b : Str} (h : leS a b) (h' : leS b a) : a = b := by
  have e := List.le_antisymm h h'
  cases a; cases b
  simpa using e
def srtS (ns : List Str) : List Str := ns.mergeSort fun a b => decide (leS a b)
theorem srtS_perm (ns : List Str) : (srtS ns).Perm ns := List.mergeSort_perm ..
theorem srtS_pw (ns : List Str) : (srtS ns).Pairwise leS := by
  have h := List.pairwise_mergeSort (le := fun a b : Str => decide (leS a b)) (fun a b c h1 h2 => by simp only [decide_eq_true_eq] at *; exact List.le_trans h1 h2) (fun a b => by simp only [Bool.or_eq_true, decide_eq_true_eq]; exact List.le_total _ _) ns
  exact h.imp fun h => of_decide_eq_true h
theorem risingS_pw : ∀ (l : List Str) (p : Str), PyProof.Rows.risingS p l = true → (p :: l).Pairwise leS
  | [], p, _ => List.pairwise_singleton ..
  | x :: r, p, h => by
    have h' : (!ltCps x.cps.toList p.cps.toList && PyProof.Rows.risingS x r) = true := h
    rw [Bool.and_eq_true] at h'
    have h1 := risingS_pw r x h'.2
    have h0 : leS p x := by
      have z := h'.1
      rw [PyProof.Rows.ltCps_eq] at z
      simp only [Bool.not_eq_true', decide_eq_false_iff_not] at z
      exact List.not_lt.1 z
    refine List.pairwise_cons.2 ⟨fun y hy => ?_, h1⟩
    rcases List.mem_cons.1 hy with rfl | hy
    · exact h0
    · exact List.le_trans h0 ((List.pairwise_cons.1 h1).1 y hy)
theorem sortedS_pw : ∀ {l : List Str}, PyProof.Rows.sortedS l = true → l.Pairwise leS
  | [], _ => .nil
  | x :: r, h => risingS_pw r x h
theorem srtS_eq {ms ns : List Str} (h : ms.Perm ns) (p : PyProof.Rows.sortedS ms = true) : ms = srtS ns :=
  List.Perm.eq_of_pairwise (fun x y _ _ h1 h2 => leS_anti h1 h2) (sortedS_pw p) (srtS_pw ns) (h.trans (srtS_perm ns).symm)
/-! ### readings -/
def intsOf : List D → Option (List Int)
  | [] => some []
  | .int i :: r => (intsOf r).map (i :: ·)
  | _ => none
theorem ints_of {K : PySem.W.Frag} {I : Hp} : ∀ {xs : List D} {vs : List V} {ns : List Int}, RDs K I xs vs → intsOf xs = some ns → vs = ns.map V.int
  | _, _, _, .nil, h => by cases h; rfl
  | _, _, bs, .cons r t, h => by
    cases r <;> try cases h
    rename_i b
    have h' : (intsOf _).map (b :: ·) = some bs := h
    obtain ⟨cs, h1, h2⟩ := Option.map_eq_some_iff.mp h'
    subst h2
    rw [ints_of t h1]; rfl
theorem intsOf_map (ns : List Int) : intsOf (ns.map .int) = some ns := by
  induction ns with
  | nil => rfl
  | cons n ns ih => simp only [List.map_cons, intsOf, ih]; rfl
/-- the sorted list of these, all ints or all texts -/
def qSrt (xs : List D) (S : Sto) (Q : DK) : Prop := match intsOf xs with
  | some ns => Q (.lst ((srtI ns).map .int)) S
  | none => (match strsOf xs with
    | some zs => zs.length < 64 ∧ Q (.lst ((srtS zs).map .str)) S
    | none => False)
def gSorted (xs : List D) (S : Sto) (Q : DK) : Prop := match xs with
  | [x] => (match lsOf S x with
    | some ys => qSrt ys S Q
    | none => False)
  | _ => False
theorem rds_ints {K : PySem.W.Frag} {I : Hp} (ns : List Int) : RDs K I (ns.map D.int) (ns.map V.int) := by
  induction ns with
  | nil => exact .nil
  | cons n ns ih => exact .cons (.int n) ih
theorem rds_strs {K : PySem.W.Frag} {I : Hp} (ns : List Str) : RDs K I (ns.map D.str) (ns.map V.str) := by
  induction ns with
  | nil => exact .nil
  | cons n ns ih => exact .cons (.str n) ih
section
variable {X : Cx} {wi : Wi}
theorem cSorted : CallM X wi (.builtin "sorted") gSorted := by
  rintro pins s σ H vs us Q' I rv ⟨Ih, S, xs, Q, sim, rx, h, k⟩
  unfold gSorted at h
  split at h
  · split at h
    · rename_i ys e1
      cases rx with
      | cons r1 rx =>
        cases rx
        obtain ⟨a, ws, rfl, ha, r⟩ := lsOf_at sim r1 e1
        unfold qSrt at h
        split at h
        · rename_i ns e2
          have e3 := ints_of r e2
          subst e3
          refine cr_sortedI pins s σ H _ _ Q' I rv ⟨a, ns, rfl, SqL.of ha, fun ms p hp hw hn => ?_⟩
          rw [srtI_eq hp hw]
          exact k.newI sim hn (.lst upd_same (rds_ints _)) h
        · split at h
          · rename_i zs e2
            have e3 := strs_of r e2
            subst e3
            refine cr_sortedS pins s σ H _ _ Q' I rv ⟨a, zs, rfl, SqL.of ha, h.1, fun ms p hp hw hn => ?_⟩
            rw [srtS_eq hp hw]
            exact k.newI sim hn (.lst upd_same (rds_strs _)) h.2
          · exact h.elim
    · exact h.elim
  · exact h.elim
/-- max of two numbers -/
def gMax (xs : List D) (S : Sto) (Q : DK) : Prop := match xs with
  | [.int i, .int j] => Q (.int (if j > i then j else i)) S
  | _ => False
theorem cMax (hc : X.calm = true) : CallM X wi (.builtin "max") gMax := by
  rintro pins s σ H vs us Q' I rv ⟨Ih, S, xs, Q, sim, rx, h, k⟩
  unfold gMax at h
  split at h
  · cases rx with
    | cons r1 rx =>
      cases rx with
      | cons r2 rx =>
        cases rx; cases r1; cases r2
        exact call_max2 hc pins s σ H _ _ Q' I rv ⟨_, _, rfl, k _ _ _ _ _ .refl sim (.int _) h⟩
  · exact h.elim
/-- min of two numbers -/
def gMin (xs : List D) (S : Sto) (Q : DK) : Prop := match xs with
  | [.int i, .int j] => Q (.int (if j < i then j else i)) S
  | _ => False
theorem cMin (hc : X.calm = true) : CallM X wi (.builtin "min") gMin := by
  rintro pins s σ H vs us Q' I rv ⟨Ih, S, xs, Q, sim, rx, h, k⟩
  unfold gMin at h
  split at h
  · cases rx with
    | cons r1 rx =>
      cases rx with
      | cons r2 rx =>
        cases rx; cases r1; cases r2
        exact call_min2 hc pins s σ H _ _ Q' I rv ⟨_, _, rfl, k _ _ _ _ _ .refl sim (.int _) h⟩
  · exact h.elim
def gSum (xs : List D) (S : Sto) (Q : DK) : Prop := match xs with
  | [x] => (match (lsOf S x).bind intsOf with
    | some ns => Q (.int ns.sum) S
    | none => False)
  | _ => False
theorem cSum (hc : X.calm = true) : CallM X wi (.builtin "sum") gSum := by
  rintro pins s σ H vs us Q' I rv ⟨Ih, S, xs, Q, sim, rx, h, k⟩
  unfold gSum at h
  split at h
  · split at h
    · rename_i ns e
      obtain ⟨ys, e1, e2⟩ := Option.bind_eq_some_iff.mp e
      cases rx with
      | cons r1 rx =>
        cases rx
        obtain ⟨a, ws, rfl, ha, r⟩ := lsOf_at sim r1 e1
        have e3 := ints_of r e2
        subst e3
        exact cr_sum hc pins s σ H _ _ Q' I rv ⟨a, ns, rfl, SqL.of ha, k _ _ _ _ _ .refl sim (.int _) h⟩
    · exact h.elim
  · exact h.elim
/-- the greatest of a list -/
def gMaxL (xs : List D) (S : Sto) (Q : DK) : Prop := match xs with
  | [x] => (match (lsOf S x).bind intsOf with
    | some ns => ns ≠ [] ∧ ∀ m, m ∈ ns → (∀ y, y ∈ ns → y ≤ m) → Q (.int m) S
    | none => False)
  | _ => False
theorem cMaxL (hc : X.calm = true) : CallM X wi (.builtin "max") gMaxL := by
  rintro pins s σ H vs us Q' I rv ⟨Ih, S, xs, Q, sim, rx, h, k⟩
  unfold gMaxL at h
  split at h
  · split at h
    · rename_i ns e
      obtain ⟨ys, e1, e2⟩ := Option.bind_eq_some_iff.mp e
      cases rx with
      | cons r1 rx =>
        cases rx
        obtain ⟨a, ws, rfl, ha, r⟩ := lsOf_at sim r1 e1
        have e3 := ints_of r e2
        subst e3
        exact cr_max hc pins s σ H _ _ Q' I rv ⟨a, ns, rfl, SqL.of ha, List.length_pos_iff.2 h.1, fun m h1 h2 => k _ _ _ _ _ .refl sim (.int _) (h.2 m h1 h2)⟩
    · exact h.elim
  · exact h.elim
/-- a, b, c = x, y, z with plain names -/
def sPar3 (i j l : Nat) (t : DA) : DS := fun d env S => t env S fun ws S1 => match ws with
  | [u, v, w] => d.nx (((env.set i (some u)).set j (some v)).set l (some w)) S1
  | _ => False
theorem mPar3 (i j l : Nat) {x y z : Str} {a b c : Expr} {ta : DA} {px py pz pt pos : Pos} {kt k2 pt2} (hc : X.calm = true) (hN : X.N.Nodup) (ha : MA X wi [a, b, c] ta) (hi : X.N[i]? = some x := by rfl) (hj : X.N[j]? = some y := by rfl) (hl : X.N[l]? = some z := by rfl)
    (hij : i ≠ j := by decide) (hil : i ≠ l := by decide) (hjl : j ≠ l := by decide)
    (hx : X.env.scope.names.lookup x = some .local := by rfl) (hy : X.env.scope.names.lookup y = some .local := by rfl) (hz : X.env.scope.names.lookup z = some .local := by rfl)
    (hw : swappedStores [.Tuple [.Name x px, .Name y py, .Name z pz] kt pt] (.Tuple [a, b, c] k2 pt2) X.env = pure (some [x, y, z]) := by rfl)
    (hs : swapsWithSole [.Tuple [.Name x px, .Name y py, .Name z pz] kt pt] (.Tuple [a, b, c] k2 pt2) pos.line X.env = pure false := by rfl) :
    MS X wi (.Assign [.Tuple [.Name x px, .Name y py, .Name z pz] kt pt] (.Tuple [a, b, c] k2 pt2) pos) (sPar3 i j l ta) := PS.of (ps_par3 hc hN hi hj hl hij hil hjl hx hy hz ha hw hs) fun D σ H h => by
  obtain ⟨I, env, S, d, sim, er, h, k⟩ := h
  refine ⟨I, env, S, _, sim, er, h, fun I1 ws vs S1 H1 e1 s1 r1 h1 => ?_⟩
  cases r1 with
  | nil => exact h1.elim
  | cons ra r1 =>
    cases r1 with
    | nil => exact h1.elim
    | cons rb r1 =>
      cases r1 with
      | nil => exact h1.elim
      | cons rc r1 =>
        cases r1 with
        | cons _ _ => exact h1.elim
        | nil => exact ⟨_, _, _, rfl, k.nx I1 _ _ S1 H1 e1 s1 ((((er.le e1.le).set i ra).set j rb).set l rc) h1⟩

/-! ### sorted(set(xs)) -/
def keysIn : List D → Option (List Key)
  | [] => some []
  | x :: r => (match keyOf x, keysIn r with
    | some k, some l => some (k :: l)
    | _, _ => none)
theorem keys_in {K : PySem.W.Frag} {I : Hp} : ∀ {xs : List D} {vs : List V} {ks : List Key}, RDs K I xs vs → keysIn xs = some ks → vs = ks.map kV
  | _, _, _, .nil, h => by cases h; rfl
  | _, _, _, .cons r t, h => by
    unfold keysIn at h
    split at h
    · rename_i k l e1 e2
      cases h
      rw [r.key e1, keys_in t e2]; rfl
    · cases h
/-- the sorted list of a set's members -/
def ints? : List Key → Option (List Int)
  | [] => some []
  | .inl i :: r => (ints? r).map (i :: ·)
  | .inr _ :: _ => none
def strs? : List Key → Option (List Str)
  | [] => some []
  | .inr x :: r => (strs? r).map (x :: ·)
  | .inl _ :: _ => none
theorem ints?_eq : ∀ {ks : List Key} {ns : List Int}, ints? ks = some ns → ks = ns.map Sum.inl
  | [], _, h => by cases h; rfl
  | .inl i :: r, ns, h => by
    have h' : (ints? r).map (i :: ·) = some ns := h
    obtain ⟨cs, h1, h2⟩ := Option.map_eq_some_iff.mp h'
    subst h2
    rw [ints?_eq h1]; rfl
  | .inr _ :: _, _, h => by cases h
theorem strs?_eq : ∀ {ks : List Key} {ns : List Str}, strs? ks = some ns → ks = ns.map Sum.inr
  | [], _, h => by cases h; rfl
  | .inr i :: r, ns, h => by
    have h' : (strs? r).map (i :: ·) = some ns := h
    obtain ⟨cs, h1, h2⟩ := Option.map_eq_some_iff.mp h'
    subst h2
    rw [strs?_eq h1]; rfl
  | .inl _ :: _, _, h => by cases h
def qSet (ks : List Key) (S : Sto) (Q : DK) : Prop := match ints? ks with
  | some ns => Q (.lst ((srtI ns).map .int)) S
  | none => (match strs? ks with
    | some zs => zs.length < 64 ∧ Q (.lst ((srtS zs).map .str)) S
    | none => False)
def rSrtSet (P : Program) (w : World) : List V → Hp → VK → Prop := fun vs H Q => ∃ (a : Addr) (ks : List Key), vs = [V.ref a] ∧ H a = some (SetMO P w a ks) ∧ ((∃ ns : List Int, ks = ns.map Sum.inl ∧ ∀ p, H p = none → Q (.ref p) (upd H p (.lst ((srtI ns).map V.int)))) ∨
  ∃ ns : List Str, ks = ns.map Sum.inr ∧ ns.length < 64 ∧ ∀ p, H p = none → Q (.ref p) (upd H p (.lst ((srtS ns).map V.str))))
theorem cr_srtSet (hc : X.calm = true) : CallR X (.builtin "sorted") (rSrtSet X.prog X.w) := by
  rintro pins s σ H vs us Q I r ⟨a, ks, rfl, ha, ⟨ns, rfl, q⟩ | ⟨ns, rfl, h64, q⟩⟩
  · exact cr_sortSetI hc pins s σ H _ us Q I r ⟨a, ns, rfl, ha, fun ms p hp hw hn => by rw [srtI_eq hp hw]; exact q p hn⟩
  · exact cr_sortSetS hc pins s σ H _ us Q I r ⟨a, ns, rfl, ha, h64, fun ms p hp hw hn => by rw [srtS_eq hp hw]; exact q p hn⟩
theorem qSet_at {K : PySem.W.Frag} {P : Program} {w : World} {I1 H1 I2 H : Hp} {S1 S2 : Sto} {L : Addr} {ks : List Key} {Q : DK} {Q' : VK} (m : Mid K wi I1 S1 H1 L I2 S2 H (SetMO P w L ks)) (k : KQ K wi I1 S1 H1 Q Q') (h : qSet ks S2 Q) : rSrtSet P w [V.ref L] H Q' := by
  have kk : KQ K wi I2 S2 H Q Q' := k.ext m.ex
  refine ⟨L, ks, rfl, m.at_, ?_⟩
  unfold qSet at h
  split at h
  · rename_i ns e
    exact .inl ⟨ns, ints?_eq e, fun p hp => kk.newI m.sim hp (.lst upd_same (rds_ints _)) h⟩
  · split at h
    · rename_i zs e
      exact .inr ⟨zs, strs?_eq e, h.1, fun p hp => kk.newI m.sim hp (.lst upd_same (rds_strs _)) h.2⟩
    · exact h.elim
def gSrtSet (xs : List D) (S : Sto) (Q : DK) : Prop := match xs with
  | [x] => (match (itsOf S x).bind keysIn with
    | some js => js.length + 1 < scanBound ∧ qSet (insAll [] js) S Q
    | none => False)
  | _ => False
section
variable {e : Expr} {t : DA} {p p2 pos pos2 : Pos}
theorem mSrtSet (hc : X.calm = true) (hm : X.mg "sorted" = none) (hm2 : X.mg "set" = none) (he : MA X wi [e] t) (hg : Gl X "sorted" := by rfl) (hg2 : Gl X "set" := by rfl)
    (h1 : starEach [e] X.env = (false, eval e X.env) :: starEach [] X.env := by rfl) (h2 : starEach [.Call (.Name "set" p2) [e] [] pos2] X.env = (false, eval (.Call (.Name "set" p2) [e] [] pos2) X.env) :: starEach [] X.env := by rfl) :
    ME X wi (.Call (.Name "sorted" p) [.Call (.Name "set" p2) [e] [] pos2] [] pos) (dFn gSrtSet t) := by
  have ps := pe_callB (p := p) (pos := pos) (cr_srtSet hc) hg hm (by decide +kernel) (pa_cons (pe_callTy (p := p2) (pos := pos2) (cr_setOf hc) hg2 hm2 (by decide +kernel) he (by decide) (by decide) h1 (by rfl)) pa_nil h2) (by decide) (by decide) h2 (by rfl)
  refine PE.of ps fun σ H Q' h => ?_
  obtain ⟨I, env, S, Q, sim, er, h, k⟩ := h
  refine ⟨I, env, S, _, sim, er, h, fun I1 xs vs S1 H1 e1 s1 r1 h1 => ?_⟩
  unfold gSrtSet at h1
  split at h1
  · rename_i x
    split at h1
    · rename_i js ej
      obtain ⟨ys, e2, e3⟩ := Option.bind_eq_some_iff.mp ej
      cases r1 with
      | cons r1 rn =>
        cases rn
        obtain ⟨a, ws, rfl, hs, r⟩ := itsOf_at s1 r1 e2
        have e4 := keys_in r e3
        subst e4
        refine ⟨a, js, rfl, hs, h1.1, fun D hD => ?_⟩
        exact qSet_at (Mid.start s1 hD) (k.ext e1) h1.2
    · exact h1.elim
  · exact h1.elim
end
end
end DL


set_option Elab.async false
set_option linter.all false
set_option maxRecDepth 100000
set_option maxHeartbeats 8000000
namespace DL
open PySem PySem.Spec PyProof.Rows L2
/-! ### sorted({elt for ..}), one clause or two -/
def kPut (acc : List Key) (y : D) (Q : List Key → Prop) : Prop := match keyOf y with
  | some k => acc.length + 1 < scanBound ∧ Q (insK acc k)
  | none => False
def kLoop (g : DG) (tt : DT) (te : DE) (env : Env') (ok : Sto → Prop) (Q : List Key → Sto → Prop) : List D → List Key → Sto → Prop
  | [], acc, S => ok S ∧ Q acc S
  | x :: r, acc, S => ok S ∧ g x env S fun env2 S2 => tt env2 S2 fun b S3 => if b = true then te env2 S3 fun y S4 => kPut acc y fun acc' => kLoop g tt te env ok Q r acc' S4 else kLoop g tt te env ok Q r acc S3
def kLoop2 (g : DG) (tt : DT) (it1 : DI) (g1 : DG) (tt1 : DT) (te : DE) (vs1 : List Nat) (env : Env') (ok : Sto → Prop) (Q : List Key → Sto → Prop) : List D → List Key → Sto → Prop
  | [], acc, S => ok S ∧ Q acc S
  | x :: r, acc, S => ok S ∧ g x env S fun env2 S2 => tt env2 S2 fun b S3 => if b = true then it1 env2 S3 fun items1 ok1 S4 => kLoop g1 tt1 te (wipeD env2 vs1) ok1 (fun acc' S5 => kLoop2 g tt it1 g1 tt1 te vs1 env ok Q r acc' S5) items1 acc S4
    else kLoop2 g tt it1 g1 tt1 te vs1 env ok Q r acc S3
def dSrtC (it : DI) (g : DG) (tt : DT) (te : DE) (vs : List Nat) : DE := fun env S Q => it env S fun items ok S1 => kLoop g tt te (wipeD env vs) ok (fun ks S2 => qSet ks S2 Q) items [] S1
def dSrtC2 (it : DI) (g : DG) (tt : DT) (it1 : DI) (g1 : DG) (tt1 : DT) (te : DE) (vs vs1 : List Nat) : DE := fun env S Q => it env S fun items ok S1 => kLoop2 g tt it1 g1 tt1 te vs1 (wipeD env vs) ok (fun ks S2 => qSet ks S2 Q) items [] S1
section
variable {X : Cx} {wi : Wi} {elt tg iter tg1 iter1 : Expr} {ifs ifs1 : List Expr} {scope : Scope} {own : List (Str × Nat)} {it it1 : DI} {g g1 : DG} {tt tt1 : DT} {te : DE} {vs vs1 : List Nat} {pos pos2 p : Pos}
theorem kPut_at {K : PySem.W.Frag} {I : Hp} {acc : List Key} {y : D} {v : V} {Q : List Key → Prop} (r : RD K I y v) (h : kPut acc y Q) : ∃ k, v = kV k ∧ acc.length + 1 < scanBound ∧ Q (insK acc k) := by
  unfold kPut at h
  split at h
  · rename_i k e
    exact ⟨k, r.key e, h.1, h.2⟩
  · exact h.elim
theorem lift_sc1 {P : Program} {w : World} {K : PySem.W.Frag} {σ : L2.St} {H : Hp} {Q' : VK} (h : lift K wi (dSrtC it g tt te vs) σ H Q') :
    tSc1 P w (liftI K wi it) (liftG K wi vs g) (liftT K wi tt) (lift K wi te) vs σ H fun v H' => rSrtSet P w [v] H' Q' := by
  obtain ⟨I, env, S, Q, sim, er, h, k⟩ := h
  refine ⟨I, env, S, _, sim, er, h, fun I1 S1 H1 J items ok e1 s1 hit h1 => fun L hL => ?_⟩
  refine ⟨fun i m H => m = items.length - i ∧ i ≤ items.length ∧ ∃ I2 S2 acc, Mid K wi I1 S1 H1 L I2 S2 H (SetMO P w L acc) ∧ kLoop g tt te (wipeD env vs) ok (fun ks S2 => qSet ks S2 Q) (items.drop i) acc S2,
    ⟨items.length, by simp, Nat.zero_le _, I1, S1, [], .start s1 hL, h1⟩, ?_⟩
  rintro i m H ⟨rfl, hi, I2, S2, acc, md, h2⟩
  by_cases hlt : i < items.length
  · rw [show items.drop i = items[i] :: items.drop (i + 1) from List.drop_eq_getElem_cons hlt] at h2
    obtain ⟨o2, h2⟩ := h2
    refine .inr ⟨hit.go i I2 S2 H md.ex.le md.sim o2 hlt, fun H' => ∃ I3 S3 acc3, Mid K wi I1 S1 H1 L I3 S3 H' (SetMO P w L acc3) ∧ kLoop g tt te (wipeD env vs) ok (fun ks S2 => qSet ks S2 Q) (items.drop (i + 1)) acc3 S3,
      fun H' q => ⟨items.length - (i + 1), by omega, rfl, hlt, q⟩, fun x H' y => ?_⟩
    obtain ⟨I3, w', e3, s3, hw, rw'⟩ := hit.yl i I2 S2 H x H' md.ex.le md.sim o2 hlt y
    rw [List.getElem?_eq_getElem hlt] at hw
    cases hw
    refine ⟨I3, wipeD env vs, S2, items[i], _, s3, ((er.le e1.le).le (md.ex.le.trans e3.le)).wipe vs, rw', h2, fun I4 env4 σ4 S4 H4 e4 s4 er4 w4 h4 => ⟨w4.trans (wipe_idem σ vs), ?_⟩⟩
    refine ⟨I4, env4, S4, _, s4, er4, h4, fun I5 b S5 H5 e5 s5 h5 => ?_⟩
    have md5 := md.step ((e3.trans e4).trans e5) s5
    cases b with
    | false => exact ⟨I5, S5, acc, md5, h5⟩
    | true =>
      refine ⟨I5, env4, S5, _, s5, er4.le e5.le, h5, fun I6 y v S6 H6 e6 s6 r6 h6 => ?_⟩
      have md6 := md5.step e6 s6
      obtain ⟨key, ev, hz, q⟩ := kPut_at r6 h6
      exact ⟨key, acc, ev, md6.at_, hz, I6, S6, insK acc key, md6.put, q⟩
  · have ei : i = items.length := by omega
    subst ei
    rw [List.drop_length] at h2
    obtain ⟨o2, h2⟩ := h2
    exact .inl ⟨hit.st I2 S2 H md.ex.le md.sim o2, qSet_at md (k.ext e1) h2⟩
theorem lift_sc2 {P : Program} {w : World} {K : PySem.W.Frag} {σ : L2.St} {H : Hp} {Q' : VK} (h : lift K wi (dSrtC2 it g tt it1 g1 tt1 te vs vs1) σ H Q') :
    tSc2 P w (liftI K wi it) (liftG K wi vs g) (liftT K wi tt) (liftI K wi it1) (liftG K wi vs1 g1) (liftT K wi tt1) (lift K wi te) vs vs1 σ H fun v H' => rSrtSet P w [v] H' Q' := by
  obtain ⟨I, env, S, Q, sim, er, h, k⟩ := h
  generalize hE : (fun (ks : List Key) (S2 : Sto) => qSet ks S2 Q) = E
  have h : it env S fun items ok S1 => kLoop2 g tt it1 g1 tt1 te vs1 (wipeD env vs) ok E items [] S1 := by subst hE; exact h
  refine ⟨I, env, S, _, sim, er, h, fun I1 S1 H1 J items ok e1 s1 hit h1 => fun L hL => ?_⟩
  refine ⟨fun i m H => m = items.length - i ∧ i ≤ items.length ∧ ∃ I2 S2 acc, Mid K wi I1 S1 H1 L I2 S2 H (SetMO P w L acc) ∧ kLoop2 g tt it1 g1 tt1 te vs1 (wipeD env vs) ok E (items.drop i) acc S2,
    ⟨items.length, by simp, Nat.zero_le _, I1, S1, [], .start s1 hL, h1⟩, ?_⟩
  rintro i m H ⟨rfl, hi, I2, S2, acc, md, h2⟩
  by_cases hlt : i < items.length
  · rw [show items.drop i = items[i] :: items.drop (i + 1) from List.drop_eq_getElem_cons hlt] at h2
    obtain ⟨o2, h2⟩ := h2
    refine .inr ⟨hit.go i I2 S2 H md.ex.le md.sim o2 hlt, fun H' => ∃ I3 S3 acc3, Mid K wi I1 S1 H1 L I3 S3 H' (SetMO P w L acc3) ∧ kLoop2 g tt it1 g1 tt1 te vs1 (wipeD env vs) ok E (items.drop (i + 1)) acc3 S3,
      fun H' q => ⟨items.length - (i + 1), by omega, rfl, hlt, q⟩, fun x H' y => ?_⟩
    obtain ⟨I3, w', e3, s3, hw, rw'⟩ := hit.yl i I2 S2 H x H' md.ex.le md.sim o2 hlt y
    rw [List.getElem?_eq_getElem hlt] at hw
    cases hw
    refine ⟨I3, wipeD env vs, S2, items[i], _, s3, ((er.le e1.le).le (md.ex.le.trans e3.le)).wipe vs, rw', h2, fun I4 env4 σ4 S4 H4 e4 s4 er4 w4 h4 => ⟨w4.trans (wipe_idem σ vs), ?_⟩⟩
    refine ⟨I4, env4, S4, _, s4, er4, h4, fun I5 b S5 H5 e5 s5 h5 => ?_⟩
    have md5 := md.step ((e3.trans e4).trans e5) s5
    cases b with
    | false => exact ⟨I5, S5, acc, md5, h5⟩
    | true =>
      refine ⟨I5, env4, S5, _, s5, er4.le e5.le, h5, fun I6 S6 H6 J1 items1 ok1 e6 s6 hit1 h6 => ?_⟩
      have md6 := md5.step e6 s6
      have er6 : ER K I6 env4 σ4 := (er4.le e5.le).le e6.le
      refine ⟨fun j k H => k = items1.length - j ∧ j ≤ items1.length ∧ ∃ I7 S7 acc7, Le I6 I7 ∧ Mid K wi I1 S1 H1 L I7 S7 H (SetMO P w L acc7) ∧
          kLoop g1 tt1 te (wipeD env4 vs1) ok1 (fun acc' S5 => kLoop2 g tt it1 g1 tt1 te vs1 (wipeD env vs) ok E (items.drop (i + 1)) acc' S5) (items1.drop j) acc7 S7,
        ⟨items1.length, by simp, Nat.zero_le _, I6, S6, acc, .refl, md6, h6⟩, ?_⟩
      rintro j k H ⟨rfl, hj, I7, S7, acc7, l7, md7, h7⟩
      by_cases hlt1 : j < items1.length
      · rw [show items1.drop j = items1[j] :: items1.drop (j + 1) from List.drop_eq_getElem_cons hlt1] at h7
        obtain ⟨o7, h7⟩ := h7
        refine .inr ⟨hit1.go j I7 S7 H l7 md7.sim o7 hlt1, fun H' => ∃ I8 S8 acc8, Le I6 I8 ∧ Mid K wi I1 S1 H1 L I8 S8 H' (SetMO P w L acc8) ∧
            kLoop g1 tt1 te (wipeD env4 vs1) ok1 (fun acc' S5 => kLoop2 g tt it1 g1 tt1 te vs1 (wipeD env vs) ok E (items.drop (i + 1)) acc' S5) (items1.drop (j + 1)) acc8 S8,
          fun H' q => ⟨items1.length - (j + 1), by omega, rfl, hlt1, q⟩, fun x H' y => ?_⟩
        obtain ⟨I8, w1, e8, s8, hw1, rw1⟩ := hit1.yl j I7 S7 H x H' l7 md7.sim o7 hlt1 y
        rw [List.getElem?_eq_getElem hlt1] at hw1
        cases hw1
        refine ⟨I8, wipeD env4 vs1, S7, items1[j], _, s8, (er6.le (l7.trans e8.le)).wipe vs1, rw1, h7, fun I9 env9 σ9 S9 H9 e9 s9 er9 w9 h9 => ⟨w9.trans (wipe_idem σ4 vs1), ?_⟩⟩
        refine ⟨I9, env9, S9, _, s9, er9, h9, fun Ia ba Sa Ha ea sa ha => ?_⟩
        have e7a := (e8.trans e9).trans ea
        have mda := md7.step e7a sa
        cases ba with
        | false => exact ⟨Ia, Sa, acc7, l7.trans e7a.le, mda, ha⟩
        | true =>
          refine ⟨Ia, env9, Sa, _, sa, er9.le ea.le, ha, fun Ib yb vb Sb Hb eb sb rb hb => ?_⟩
          have mdb := mda.step eb sb
          obtain ⟨key, ev, hz, q⟩ := kPut_at rb hb
          exact ⟨key, acc7, ev, mdb.at_, hz, Ib, Sb, insK acc7 key, (l7.trans e7a.le).trans eb.le, mdb.put, q⟩
      · have ej : j = items1.length := by omega
        subst ej
        rw [List.drop_length] at h7
        obtain ⟨o7, h7⟩ := h7
        exact .inl ⟨hit1.st I7 S7 H l7 md7.sim o7, I7, S7, acc7, md7, h7⟩
  · have ei : i = items.length := by omega
    subst ei
    rw [List.drop_length] at h2
    obtain ⟨o2, h2⟩ := h2
    subst hE
    exact .inl ⟨hit.st I2 S2 H md.ex.le md.sim o2, qSet_at md (k.ext e1) h2⟩
theorem mSrtC (hc : X.calm = true) (hN : X.N.Nodup) (hm : X.mg "sorted" = none) (hi : MI X wi tg iter it) (ok : BlkOk X.N X.env.scope scope own) (hg : BlkG X scope fun Y => MG Y wi (own.map (·.2)) tg g) (ht : BlkG X scope fun Y => MTs Y wi ifs tt) (he : BlkG X scope fun Y => ME Y wi elt te)
    (hs : ∀ x, foldedSetIterable iter X.env x = pure x := by intro _; rfl) (hgl : Gl X "sorted" := by rfl)
    (h2 : starEach [.SetComp elt [⟨tg, iter, ifs, 0⟩] scope pos2] X.env = (false, eval (.SetComp elt [⟨tg, iter, ifs, 0⟩] scope pos2) X.env) :: starEach [] X.env := by rfl) :
    ME X wi (.Call (.Name "sorted" p) [.SetComp elt [⟨tg, iter, ifs, 0⟩] scope pos2] [] pos) (dSrtC it g tt te (own.map (·.2))) :=
  PE.of (pe_callB (p := p) (pos := pos) (cr_srtSet hc) hgl hm (by decide +kernel) (pa_cons (pe_sc1 (pos := pos2) hc hN hi ok hg ht he hs) pa_nil h2) (by decide) (by decide) h2 (by rfl)) fun σ H Q h => lift_sc1 h
theorem mSrtC2 (hc : X.calm = true) (hN : X.N.Nodup) (hm : X.mg "sorted" = none) (hi : MI X wi tg iter it) (ok : BlkOk X.N X.env.scope scope own) (hv : ∀ i ∈ vs1, i ∈ own.map (·.2)) (hg : BlkG X scope fun Y => MG Y wi (own.map (·.2)) tg g) (ht : BlkG X scope fun Y => MTs Y wi ifs tt)
    (hi1 : BlkG X scope fun Y => MI Y wi tg1 iter1 it1) (hg1 : BlkG X scope fun Y => MG Y wi vs1 tg1 g1) (ht1 : BlkG X scope fun Y => MTs Y wi ifs1 tt1) (he : BlkG X scope fun Y => ME Y wi elt te)
    (hs : ∀ x, foldedSetIterable iter X.env x = pure x := by intro _; rfl) (hs1 : ∀ env x, foldedSetIterable iter1 env x = pure x := by intro _ _; rfl) (hgl : Gl X "sorted" := by rfl)
    (h2 : starEach [.SetComp elt [⟨tg, iter, ifs, 0⟩, ⟨tg1, iter1, ifs1, 0⟩] scope pos2] X.env = (false, eval (.SetComp elt [⟨tg, iter, ifs, 0⟩, ⟨tg1, iter1, ifs1, 0⟩] scope pos2) X.env) :: starEach [] X.env := by rfl) :
    ME X wi (.Call (.Name "sorted" p) [.SetComp elt [⟨tg, iter, ifs, 0⟩, ⟨tg1, iter1, ifs1, 0⟩] scope pos2] [] pos) (dSrtC2 it g tt it1 g1 tt1 te (own.map (·.2)) vs1) :=
  PE.of (pe_callB (p := p) (pos := pos) (cr_srtSet hc) hgl hm (by decide +kernel) (pa_cons (pe_sc2 (pos := pos2) hc hN hi ok hv hg ht hi1 hg1 ht1 he hs hs1) pa_nil h2) (by decide) (by decide) h2 (by rfl)) fun σ H Q h => lift_sc2 h
end
end DL


set_option Elab.async false
set_option linter.all false
set_option maxRecDepth 100000
set_option maxHeartbeats 4000000
set_option exponentiation.threshold 4000
namespace DL
open PySem PySem.Spec PyProof.Rows L2
/-! ### further rows to rewrite by -/
theorem ofS_inj {a b : String} (h : Str.ofString a = Str.ofString b) : a = b := by
  rw [Str.ofString_eq_toList, Str.ofString_eq_toList] at h
  have h1 : (a.toList.map Char.toNat).toArray = (b.toList.map Char.toNat).toArray := congrArg Str.cps h
  have h2 : a.toList.map Char.toNat = b.toList.map Char.toNat := by simpa using h1
  have h3 : a.toList = b.toList := (List.map_inj_right (fun x y e => Char.ext (UInt32.toNat_inj.1 e))).1 h2
  exact String.toList_inj.1 h3
theorem ofS_eq (a b : String) : (Str.ofString a = Str.ofString b) = (a = b) := propext ⟨ofS_inj, fun h => by rw [h]⟩
section
variable {S : Sto} {Q : DK} {i j : Int} {x y z : Str} {xs ys : List D} {ns : List Int} {b c : Bool} {w u : D} {a : Addr} {env : Env'} {R : Env' → Sto → Prop} {t : DGs} {t1 : DG}
theorem gs_nil : gsNil xs env S R = (xs = [] ∧ R env S) := rfl
theorem gs_nil0 : gsNil [] env S R = R env S := propext ⟨fun h => h.2, fun h => ⟨rfl, h⟩⟩
theorem gs_cons : gsCons t1 t (w :: xs) env S R = t1 w env S (fun env' S' => t xs env' S' R) := rfl
theorem gTp_t {n : Nat} : gTp n t (.tup xs) env S R = (xs.length = n ∧ t xs env S R) := rfl
theorem gStar12 : gStar 1 2 t (.tup (w :: xs)) env S R = t [w, .lst xs] env S R := by
  show (2 ≤ (w :: xs).length + 1 ∧ t _ env S R) = _
  refine propext ⟨fun h => ?_, fun h => ⟨by simp, ?_⟩⟩
  · have := h.2
    simpa [List.take_of_length_le] using this
  · simpa [List.take_of_length_le] using h
theorem get2_dK {kvs : List (Key × D)} (hs : S a = some (.dK kvs)) : fGet (.ref a) (.str x) w S Q = Q ((dval kvs (.inr x)).getD w) S := by
  simp only [fGet, hs, keyOf]
theorem isDct_of {kvs : List (Key × D)} (hs : S a = some (.dK kvs)) : isDct (.ref a) S := by
  simp only [isDct, hs]
theorem gMax_ii : gMax [.int i, .int j] S Q = Q (.int (max i j)) S := by
  show Q (.int (if j > i then j else i)) S = _
  congr 2
  split <;> omega
theorem gMaxL_l (h : ns ≠ []) (q : ∀ m, m ∈ ns → (∀ y, y ∈ ns → y ≤ m) → Q (.int m) S) : gMaxL [.lst (ns.map .int)] S Q := by
  show (match (some (ns.map D.int)).bind intsOf with
    | some ns => ns ≠ [] ∧ ∀ m, m ∈ ns → (∀ y, y ∈ ns → y ≤ m) → Q (.int m) S
    | none => False)
  rw [Option.bind_some, intsOf_map]
  exact ⟨h, q⟩
theorem gSum_l : gSum [.lst (ns.map .int)] S Q = Q (.int ns.sum) S := by
  show (match (some (ns.map D.int)).bind intsOf with
    | some ns => Q (.int ns.sum) S
    | none => False) = _
  rw [Option.bind_some, intsOf_map]
theorem shp_ints : shp (.tup (ns.map .int)) = true := by
  show (pur (.tup (ns.map .int)) && decide (dep (.tup (ns.map .int)) ≤ 64)) = true
  rw [show pur (.tup (ns.map .int)) = purs (ns.map .int) from by simp only [pur], purs_ints]
  rw [show dep (.tup (ns.map .int)) = deps (ns.map .int) + 1 from by simp only [dep], deps_ints]
  rfl
theorem shp_intsL : shp (.lst (ns.map .int)) = true := by
  show (pur (.lst (ns.map .int)) && decide (dep (.lst (ns.map .int)) ≤ 64)) = true
  rw [show pur (.lst (ns.map .int)) = purs (ns.map .int) from by simp only [pur], purs_ints]
  rw [show dep (.lst (ns.map .int)) = deps (ns.map .int) + 1 from by simp only [dep], deps_ints]
  rfl
theorem rds_ints' : rds S (ns.map .int) = ns.map .int := by
  induction ns with
  | nil => rfl
  | cons n ns ih => simp only [List.map_cons, rds, ih]; rfl
theorem any_int : ((ns.map D.int).any fun z => deq z (.int i)) = decide (i ∈ ns) := by
  induction ns with
  | nil => rfl
  | cons n ns ih =>
    rw [List.map_cons, List.any_cons, ih, deq_int]
    simp only [List.mem_cons, Bool.decide_or]
    congr 1
    exact decide_eq_decide.2 eq_comm
theorem inB_t {R : Bool → Prop} : fInB (.int i) (.tup (ns.map .int)) S R = R (decide (i ∈ ns)) := by
  show ((shp (.int i) = true ∧ shp (rd S (.tup (ns.map .int))) = true) ∧ R ((rds S (ns.map .int)).any fun z => deq z (.int i))) = _
  rw [rds_ints', any_int, show rd S (.tup (ns.map .int)) = .tup (ns.map .int) from by rw [rd, rds_ints']]
  rw [shp_ints]
  exact propext ⟨fun h => h.2, fun h => ⟨⟨rfl, rfl⟩, h⟩⟩
theorem inB_l {R : Bool → Prop} : fInB (.int i) (.lst (ns.map .int)) S R = R (decide (i ∈ ns)) := by
  show ((shp (.int i) = true ∧ shp (.lst (ns.map .int)) = true) ∧ R ((ns.map .int).any fun z => deq z (.int i))) = _
  rw [any_int, shp_intsL]
  exact propext ⟨fun h => h.2, fun h => ⟨⟨rfl, rfl⟩, h⟩⟩
theorem inB_r {R : Bool → Prop} (hs : S a = some (.lst (ns.map .int))) : fInB (.int i) (.ref a) S R = R (decide (i ∈ ns)) := by
  refine Eq.trans (b := ((shp (rd S (.int i)) = true ∧ shp (.lst (ns.map .int)) = true) ∧ R ((ns.map D.int).any fun z => deq z (rd S (.int i))))) (by simp only [fInB, hs]) ?_
  rw [show rd S (.int i) = .int i from rfl, any_int]
  exact propext ⟨fun h => h.2, fun h => ⟨⟨rfl, shp_intsL⟩, h⟩⟩
theorem fIn_t : fIn (.int i) (.tup (ns.map .int)) S Q = Q (.bl (decide (i ∈ ns))) S := inB_t
theorem fNotIn_t : fNotIn (.int i) (.tup (ns.map .int)) S Q = Q (.bl (!decide (i ∈ ns))) S := inB_t
theorem fIn_l : fIn (.int i) (.lst (ns.map .int)) S Q = Q (.bl (decide (i ∈ ns))) S := inB_l
theorem fNotIn_l : fNotIn (.int i) (.lst (ns.map .int)) S Q = Q (.bl (!decide (i ∈ ns))) S := inB_l
/-- a text among texts -/
theorem fInB_s {zs : List Str} {R : Bool → Prop} (hx : PyData.strOk x = true) (hz : ∀ z ∈ zs, PyData.strOk z = true) : fInB (.str x) (.tup (zs.map .str)) S R = R (decide (x ∈ zs)) := by
  have h1 : rds S (zs.map .str) = zs.map .str := by
    clear hz
    induction zs with
    | nil => rfl
    | cons n ns ih => simp only [List.map_cons, rds, ih]; rfl
  have h2 : ((zs.map D.str).any fun z => deq z (.str x)) = decide (x ∈ zs) := by
    clear hz
    induction zs with
    | nil => rfl
    | cons n ns ih =>
      rw [List.map_cons, List.any_cons, ih (by simp only [List.map_cons, rds] at h1; injection h1), deq_str]
      simp only [List.mem_cons, Bool.decide_or]
      congr 1
      exact decide_eq_decide.2 eq_comm
  have h3 : shp (.tup (zs.map .str)) = true := by
    have hp : purs (zs.map .str) = true := purs_iff.2 fun y hy => by obtain ⟨z, h, rfl⟩ := List.mem_map.1 hy; exact hz z h
    have hd : deps (zs.map .str) = 0 := Nat.le_zero.1 (deps_iff.2 fun y hy => by obtain ⟨_, _, rfl⟩ := List.mem_map.1 hy; exact Nat.le_refl _)
    show (pur (.tup (zs.map .str)) && decide (dep (.tup (zs.map .str)) ≤ 64)) = true
    rw [show pur (.tup (zs.map .str)) = purs (zs.map .str) from by simp only [pur], hp]
    rw [show dep (.tup (zs.map .str)) = deps (zs.map .str) + 1 from by simp only [dep], hd]
    rfl
  show ((shp (.str x) = true ∧ shp (rd S (.tup (zs.map .str))) = true) ∧ R ((rds S (zs.map .str)).any fun z => deq z (.str x))) = _
  rw [show rd S (.tup (zs.map .str)) = .tup (zs.map .str) from by rw [rd, h1], h1, h2, h3]
  exact propext ⟨fun h => h.2, fun h => ⟨⟨by show (pur (.str x) && decide (dep (.str x) ≤ 64)) = true; rw [show pur (.str x) = true from hx]; rfl, rfl⟩, h⟩⟩
end
end DL


set_option Elab.async false
set_option linter.all false
set_option maxRecDepth 100000
set_option maxHeartbeats 4000000
set_option exponentiation.threshold 4000
namespace DL
open PySem PySem.Spec PyProof.Rows L2
local macro_rules | `(tactic| walk_at "rd") => `(tactic| simp only [startD, List.map_cons, List.map_nil, List.length_cons, List.length_nil, Nat.reduceAdd, Nat.reduceSub, List.replicate, List.cons_append, List.nil_append,
  sSeq, sNext, sAsg, sAsgG, sPar, sPar3, sRet, sRetN, sIf, sExpr, sFor, dVar, dC, dUn, dOp, dNil, dCons, dFn, dTst, dNot, dAnd, dOr, dIf, dAndV, dOrV, dNotV, dTup, dLst, dSl, dNoPart, dPart, dMt, dMt0, dCall, dChain, dRng1, dRng2, dLc, dIt, gNm, dGet2, dGet1,
  gs_nil0, gs_cons, gTp_t, gStar12, gMax_ii, gSum_l, fIn_t, fNotIn_t, fIn_l, fNotIn_l, ofS_eq, String.reduceEq, decide_true, decide_false, reduceCtorEq, List.getD_cons_zero, List.getD_cons_succ, dTrue,
  List.getElem?_cons_zero, List.getElem?_cons_succ, List.set_cons_zero, List.set_cons_succ,
  fAdd_ii, fAdd_bi, fAdd_ib, fSub_bi, fEq_bi, gStr_b, fAdd_ss, fAdd_tt, fAdd_ll, fSub_ii, fNeg_i, fDiv_ii, fMod_ii, fPow_ii, fMul_ii, fLt_ii, fLe_ii, fGt_ii, fGe_ii, fEq_ii, fNe_ii, fEq_ss, fNe_ss, fIx_t, fIx_l, fSl_t, fSl_l, fSl_s, fRv_t, fRv_l, gList_t, gList_l, gTuple_t, gTuple_l, gStr_i, gStr_s, gInt_b, gInt_i, gLen_lst, gLen_tup, gLen_str,
  isi_non_int, isi_non_bool, isi_non_str, isi_non_tuple, isi_non_list, isi_non_dict, isi_bl_int, isi_bl_bool, isi_bl_str, isi_bl_tuple, isi_bl_list, isi_bl_dict, isi_int_int, isi_int_bool, isi_int_str, isi_int_tuple, isi_int_list, isi_int_dict, isi_str_int, isi_str_bool, isi_str_str, isi_str_tuple, isi_str_list, isi_str_dict, isi_tup_int, isi_tup_bool, isi_tup_str, isi_tup_tuple, isi_tup_list, isi_tup_dict, isi_lst_int, isi_lst_bool, isi_lst_str, isi_lst_tuple, isi_lst_list, isi_lst_dict,
  if_true, if_false, Bool.false_eq_true, true_and, and_true, Bool.not_true, Bool.not_false, ite_true, ite_false])
/-! ### sums -/
inductive Op3 where
  | plus | minus | less
def Op3.str : Op3 → Str
  | .plus => "plus" | .minus => "minus" | .less => "less"
inductive Sm where
  | num (i : Int) | slot (x : Str) | bin (w : Op3) (a b : Sm)
def smD : Sm → D
  | .num i => .tup [.str "num", .int i]
  | .slot x => .tup [.str "slot", .str x]
  | .bin w a b => .tup [.str w.str, smD a, smD b]
def Sm.ht : Sm → Nat
  | .num _ => 0
  | .slot _ => 0
  | .bin _ a b => max a.ht b.ht + 1
def Op3.val : Op3 → Int → Int → Int
  | .plus, i, j => i + j
  | .minus, i, j => i - j
  | .less, i, j => b2 (decide (i < j))
def Sm.worth (g : Str → Int) : Sm → Int
  | .num i => i
  | .slot x => g x
  | .bin w a b => w.val (a.worth g) (b.worth g)
/-- what a dict of numbers gives -/
def gOf (kvs : List (Key × D)) (x : Str) : Int := match dval kvs (.inr x) with
  | some (.int i) => i
  | _ => 0
def IntsD (kvs : List (Key × D)) : Prop := ∀ x w, dval kvs (.inr x) = some w → ∃ i, w = .int i
theorem IntsD.get {kvs : List (Key × D)} (h : IntsD kvs) (x : Str) : (dval kvs (.inr x)).getD (.int 0) = .int (gOf kvs x) := by
  unfold gOf
  cases e : dval kvs (.inr x) with
  | none => rfl
  | some w =>
    obtain ⟨i, rfl⟩ := h x w e
    rfl
def rReck (reck : DSp) : DS :=
  (sSeq (sAsgG (dVar 0) (gStar 1 2 (gsCons (gNm 2) (gsCons (gNm 3) gsNil)))) (sSeq (sIf (dTst (dOp fEq (dVar 2) (dC (.str "num")))) (sRet (dOp fIx (dVar 3) (dC (.int 0)))) sNext) (sSeq (sIf (dTst (dOp fEq (dVar 2) (dC (.str "slot")))) (sRet (dGet2 (dVar 1) (dOp fIx (dVar 3) (dC (.int 0))) (dC (.int 0)))) sNext) (sSeq (sPar 4 5 (dCons (dCall reck 2 0 (fun xs _ => xs) E00 (dCons (dOp fIx (dVar 3) (dC (.int 0))) (dCons (dVar 1) dNil)) dNil) (dCons (dCall reck 2 0 (fun xs _ => xs) E00 (dCons (dOp fIx (dVar 3) (dC (.int 1))) (dCons (dVar 1) dNil)) dNil) dNil))) (sSeq (sIf (dTst (dOp fEq (dVar 2) (dC (.str "less")))) (sRet (dIf (dTst (dOp fLt (dVar 4) (dVar 5))) (dC (.int 1)) (dC (.int 0)))) sNext) (sRet (dIf (dTst (dOp fEq (dVar 2) (dC (.str "plus")))) (dOp fAdd (dVar 4) (dVar 5)) (dOp fSub (dVar 4) (dVar 5)))))))))
def spReck (n : Nat) : DSp := fun ws S Q _ => ∃ e a kvs, ws = [smD e, .ref a] ∧ e.ht < n ∧ S a = some (.dK kvs) ∧ IntsD kvs ∧ Q (.int (e.worth (gOf kvs))) S
theorem reck_ok {n : Nat} {ws : List D} {S : Sto} {Q : DK} {E : XD} (h : spReck (n + 1) ws S Q E) : rReck (spReck n) (endsD Q) (startD ["a", "b", "c", "d", "e", "f"] ws) S := by
  obtain ⟨e, a, kvs, rfl, hn, hs, hk, q⟩ := h
  unfold rReck
  cases e with
  | num i =>
    simp only [smD]
    walk_at "rd"
    exact ends_rt q
  | slot x =>
    simp only [smD]
    walk_at "rd"
    refine ⟨isDct_of hs, ?_⟩
    show fGet (.ref a) (.str x) (.int 0) S _
    rw [get2_dK hs, hk.get]
    exact ends_rt q
  | bin w x y =>
    simp only [smD]
    simp only [Sm.ht] at hn
    cases w <;> simp only [Op3.str] <;> walk_at "rd"
    all_goals
      refine ⟨x, a, kvs, rfl, by omega, hs, hk, y, a, kvs, rfl, by omega, hs, hk, ?_⟩
      walk_at "rd"
    · exact ends_rt q
    · exact ends_rt q
    · refine ite_by (fun h => ?_) fun h => ?_
      · have e : (Sm.bin .less x y).worth (gOf kvs) = 1 := by simp only [Sm.worth, Op3.val, h, b2, if_true]
        rw [e] at q
        exact ends_rt q
      · have e : (Sm.bin .less x y).worth (gOf kvs) = 0 := by simp only [Sm.worth, Op3.val, h, b2, Bool.false_eq_true, if_false]
        rw [e] at q
        exact ends_rt q
end DL


set_option Elab.async false
set_option linter.all false
set_option maxRecDepth 100000
set_option maxHeartbeats 4000000
set_option exponentiation.threshold 4000
namespace DL
open PySem PySem.Spec PyProof.Rows L2
local macro_rules | `(tactic| walk_at "rd") => `(tactic| simp only [startD, List.map_cons, List.map_nil, List.length_cons, List.length_nil, Nat.reduceAdd, Nat.reduceSub, List.replicate, List.cons_append, List.nil_append,
  sSeq, sNext, sAsg, sAsgG, sPar, sPar3, sRet, sRetN, sIf, sExpr, sFor, dVar, dC, dUn, dOp, dNil, dCons, dFn, dTst, dNot, dAnd, dOr, dIf, dAndV, dOrV, dNotV, dTup, dLst, dSl, dNoPart, dPart, dMt, dMt0, dCall, dChain, dRng1, dRng2, dLc, dIt, gNm, dGet2, dGet1,
  gs_nil0, gs_cons, gTp_t, gStar12, gMax_ii, gSum_l, fIn_t, fNotIn_t, fIn_l, fNotIn_l, ofS_eq, String.reduceEq, decide_true, decide_false, reduceCtorEq, List.getD_cons_zero, List.getD_cons_succ, dTrue,
  List.getElem?_cons_zero, List.getElem?_cons_succ, List.set_cons_zero, List.set_cons_succ,
  fAdd_ii, fAdd_bi, fAdd_ib, fSub_bi, fEq_bi, gStr_b, fAdd_ss, fAdd_tt, fAdd_ll, fSub_ii, fNeg_i, fDiv_ii, fMod_ii, fPow_ii, fMul_ii, fLt_ii, fLe_ii, fGt_ii, fGe_ii, fEq_ii, fNe_ii, fEq_ss, fNe_ss, fIx_t, fIx_l, fSl_t, fSl_l, fSl_s, fRv_t, fRv_l, gList_t, gList_l, gTuple_t, gTuple_l, gStr_i, gStr_s, gInt_b, gInt_i, gLen_lst, gLen_tup, gLen_str,
  isi_non_int, isi_non_bool, isi_non_str, isi_non_tuple, isi_non_list, isi_non_dict, isi_bl_int, isi_bl_bool, isi_bl_str, isi_bl_tuple, isi_bl_list, isi_bl_dict, isi_int_int, isi_int_bool, isi_int_str, isi_int_tuple, isi_int_list, isi_int_dict, isi_str_int, isi_str_bool, isi_str_str, isi_str_tuple, isi_str_list, isi_str_dict, isi_tup_int, isi_tup_bool, isi_tup_str, isi_tup_tuple, isi_tup_list, isi_tup_dict, isi_lst_int, isi_lst_bool, isi_lst_str, isi_lst_tuple, isi_lst_list, isi_lst_dict,
  if_true, if_false, Bool.false_eq_true, true_and, and_true, Bool.not_true, Bool.not_false, ite_true, ite_false])
/-! ### sets of numbers, as rising lists -/
def uniq : List Int → List Int → List Int
  | acc, [] => acc
  | acc, n :: ns => uniq (if n ∈ acc then acc else n :: acc) ns
theorem uniq_mem : ∀ (ns acc : List Int) (x : Int), x ∈ uniq acc ns ↔ x ∈ acc ∨ x ∈ ns
  | [], acc, x => by simp [uniq]
  | n :: ns, acc, x => by
    rw [uniq, uniq_mem ns]
    by_cases h : n ∈ acc
    · rw [if_pos h, List.mem_cons]
      constructor
      · rintro (h1 | h1)
        · exact .inl h1
        · exact .inr (.inr h1)
      · rintro (h1 | rfl | h1)
        · exact .inl h1
        · exact .inl h
        · exact .inr h1
    · rw [if_neg h, List.mem_cons, List.mem_cons]
      constructor
      · rintro ((rfl | h1) | h1)
        · exact .inr (.inl rfl)
        · exact .inl h1
        · exact .inr (.inr h1)
      · rintro (h1 | rfl | h1)
        · exact .inl (.inr h1)
        · exact .inl (.inl rfl)
        · exact .inr h1
theorem uniq_nodup : ∀ (ns acc : List Int), acc.Nodup → (uniq acc ns).Nodup
  | [], acc, h => h
  | n :: ns, acc, h => by
    rw [uniq]
    refine uniq_nodup ns _ ?_
    split
    · exact h
    · exact List.nodup_cons.2 ⟨by assumption, h⟩
theorem uniq_len : ∀ (ns acc : List Int), (uniq acc ns).length ≤ acc.length + ns.length
  | [], acc => Nat.le_refl _
  | n :: ns, acc => by
    rw [uniq]
    have := uniq_len ns (if n ∈ acc then acc else n :: acc)
    split at this
    · rw [List.length_cons]
      rename_i h; rw [if_pos h]; omega
    · rename_i h; rw [if_neg h]; simp only [List.length_cons] at *; omega
theorem uniq_keys : ∀ (ns acc : List Int), insAll (acc.map Sum.inl) (ns.map Sum.inl) = (uniq acc ns).map Sum.inl
  | [], acc => rfl
  | n :: ns, acc => by
    show insAll (insK (acc.map Sum.inl) (.inl n)) (ns.map Sum.inl) = _
    have e : insK (acc.map Sum.inl) (.inl n) = (if n ∈ acc then acc else n :: acc).map Sum.inl := by
      unfold insK
      have m : ((.inl n : Key) ∈ acc.map Sum.inl) ↔ n ∈ acc := by
        rw [List.mem_map]
        exact ⟨fun ⟨a, h, e⟩ => by cases e; exact h, fun h => ⟨n, h, rfl⟩⟩
      by_cases h : n ∈ acc
      · rw [if_pos (m.2 h), if_pos h]
      · rw [if_neg (fun z => h (m.1 z)), if_neg h]; rfl
    rw [e, uniq_keys ns, uniq]
/-- the rising list of the members -/
def setI (ns : List Int) : List Int := srtI (uniq [] ns)
theorem setI_mem {ns : List Int} {x : Int} : x ∈ setI ns ↔ x ∈ ns := by
  rw [setI, (srtI_perm _).mem_iff, uniq_mem]; simp
theorem setI_pw (ns : List Int) : (setI ns).Pairwise (· < ·) := by
  have h1 := srtI_pw (uniq [] ns)
  have h2 : (setI ns).Nodup := (srtI_perm _).nodup_iff.2 (uniq_nodup ns [] List.nodup_nil)
  exact (h1.and h2).imp fun ⟨a, b⟩ => by omega
theorem setI_len (ns : List Int) : (setI ns).length ≤ ns.length := by
  rw [setI, (srtI_perm _).length_eq]
  have := uniq_len ns []
  simpa using this
theorem rise_eq : ∀ {xs ys : List Int}, xs.Pairwise (· < ·) → ys.Pairwise (· < ·) → (∀ x, x ∈ xs ↔ x ∈ ys) → xs = ys
  | [], [], _, _, _ => rfl
  | [], y :: ys, _, _, h => by have := (h y).2 (List.mem_cons_self ..); cases this
  | x :: xs, [], _, _, h => by have := (h x).1 (List.mem_cons_self ..); cases this
  | x :: xs, y :: ys, h1, h2, h => by
    rw [List.pairwise_cons] at h1 h2
    have e : x = y := by
      rcases List.mem_cons.1 ((h x).1 (List.mem_cons_self ..)) with e | m
      · exact e
      · rcases List.mem_cons.1 ((h y).2 (List.mem_cons_self ..)) with e | m'
        · exact e.symm
        · have := h2.1 _ m; have := h1.1 _ m'; omega
    subst e
    rw [rise_eq h1.2 h2.2 fun z => ?_]
    constructor
    · intro hz
      rcases List.mem_cons.1 ((h z).1 (List.mem_cons_of_mem _ hz)) with e | m
      · subst e; exact absurd (h1.1 _ hz) (by omega)
      · exact m
    · intro hz
      rcases List.mem_cons.1 ((h z).2 (List.mem_cons_of_mem _ hz)) with e | m
      · subst e; exact absurd (h2.1 _ hz) (by omega)
      · exact m
theorem setI_eq {ns ms : List Int} (h : ∀ x, x ∈ ns ↔ x ∈ ms) : setI ns = setI ms := rise_eq (setI_pw _) (setI_pw _) fun x => by rw [setI_mem, setI_mem, h]
theorem setI_self {ns : List Int} (h : ns.Pairwise (· < ·)) : setI ns = ns := rise_eq (setI_pw _) h fun x => setI_mem
section
variable {S : Sto} {Q : DK} {ns acc : List Int} {env : Env'}
theorem ints_keys (ns : List Int) : ints? (ns.map Sum.inl) = some ns := by
  induction ns with
  | nil => rfl
  | cons n ns ih => show (ints? (ns.map Sum.inl)).map (n :: ·) = _; rw [ih]; rfl
theorem qSet_i : qSet (ns.map Sum.inl) S Q = Q (.lst ((srtI ns).map .int)) S := by
  unfold qSet
  rw [ints_keys]
theorem keysIn_i (ns : List Int) : keysIn (ns.map .int) = some (ns.map Sum.inl) := by
  induction ns with
  | nil => rfl
  | cons n ns ih => simp only [List.map_cons, keysIn, ih]; rfl
theorem gSrtSet_l : gSrtSet [.lst (ns.map .int)] S Q = (ns.length + 1 < scanBound ∧ Q (.lst ((setI ns).map .int)) S) := by
  show (match (some (ns.map D.int)).bind keysIn with
    | some js => js.length + 1 < scanBound ∧ qSet (insAll [] js) S Q
    | none => False) = _
  rw [Option.bind_some, keysIn_i]
  show ((ns.map Sum.inl).length + 1 < scanBound ∧ qSet (insAll (([] : List Int).map Sum.inl) (ns.map Sum.inl)) S Q) = _
  rw [uniq_keys, qSet_i, List.length_map]; rfl
theorem gSrtSet_t : gSrtSet [.tup (ns.map .int)] S Q = (ns.length + 1 < scanBound ∧ Q (.lst ((setI ns).map .int)) S) := gSrtSet_l
/-- the members of a comprehension of numbers by a plain name -/
theorem kLoop_i {i : Nat} {ok : Sto → Prop} {R : List Key → Sto → Prop} (hi : i < env.length) (hok : ok S) : ∀ (ns acc : List Int), acc.length + ns.length < scanBound → R ((uniq acc ns).map Sum.inl) S →
    kLoop (gNm i) dTrue (dVar i) env ok R (ns.map .int) (acc.map Sum.inl) S
  | [], acc, _, q => ⟨hok, q⟩
  | n :: ns, acc, hl, q => by
    refine ⟨hok, ?_⟩
    simp only [gNm, dTrue, if_true, dVar]
    rw [List.getElem?_set_self hi]
    show kPut (acc.map Sum.inl) (.int n) _
    unfold kPut
    simp only [keyOf, List.length_map]
    simp only [List.length_cons] at hl
    refine ⟨by omega, ?_⟩
    have e : insK (acc.map Sum.inl) (.inl n) = (if n ∈ acc then acc else n :: acc).map Sum.inl := uniq_keys [n] acc
    rw [e]
    refine kLoop_i hi hok ns _ ?_ q
    split
    · omega
    · simp only [List.length_cons]; omega
end
/-! ### kinds and what a cell has -/
inductive Vl where
  | n (i : Int) | t (ns : List Int)
def vlD : Vl → D
  | .n i => .int i
  | .t ns => .tup (ns.map .int)
inductive Kd where
  | plain | sum | most | set | list | own (e : Sm)
def kdD : Kd → D
  | .plain => .str "plain" | .sum => .str "sum" | .most => .str "most" | .set => .str "set" | .list => .str "list"
  | .own e => .tup [.str "own", smD e]
def Kd.ht : Kd → Nat
  | .own e => e.ht + 1
  | _ => 0
def Sm.Ok : Sm → Prop
  | .num _ => True
  | .slot x => PyData.strOk x = true
  | .bin _ a b => a.Ok ∧ b.Ok
def Kd.Ok : Kd → Prop
  | .own e => e.Ok ∧ e.ht ≤ 40
  | _ => True
theorem op3_ok (w : Op3) : PyData.strOk w.str = true := by cases w <;> exact strOk_of _
theorem sm_gd : ∀ (e : Sm), e.Ok → ∃ m b, Gd m (e.ht + 1) b (smD e)
  | .num i, _ => ⟨i.natAbs, _, gd_tup.2 (Gds.cons (b := 3) (gd_txt (Nat.le_refl _)) (gds1 (b := 0) (gd_int (Nat.le_refl _))))⟩
  | .slot x, h => ⟨0, _, gd_tup.2 (Gds.cons (b := 4) (gd_txt (Nat.le_refl _)) (gds1 (gd_str h (Nat.le_refl _))))⟩
  | .bin w a b, h => by
    obtain ⟨m, k, h1⟩ := sm_gd a h.1
    obtain ⟨m', k', h2⟩ := sm_gd b h.2
    have hw : Gd (max m m') (max (a.ht + 1) (b.ht + 1)) w.str.length (.str w.str) := gd_str (op3_ok w) (Nat.le_refl _)
    refine ⟨max m m', _, (gd_tup.2 (Gds.cons hw (Gds.cons (h1.le (Nat.le_max_left ..) (Nat.le_max_left ..) (Nat.le_refl _)) (gds1 (h2.le (Nat.le_max_right ..) (Nat.le_max_right ..) (Nat.le_refl _)))))).le (Nat.le_refl _) ?_ (Nat.le_refl _)⟩
    simp only [Sm.ht]; omega
theorem own_gd {e : Sm} (h : e.Ok) : ∃ m b, Gd m (e.ht + 2) b (kdD (.own e)) := by
  obtain ⟨m, b, h1⟩ := sm_gd e h
  exact ⟨m, _, gd_tup.2 (Gds.cons (b := 3) (gd_txt (Nat.le_refl _)) (gds1 h1))⟩
section
variable {S : Sto} {Q : DK}
theorem fEq_own {e : Sm} {z : String} (h : e.Ok) (hh : e.ht ≤ 40) : fEq (.tup [.str "own", smD e]) (.str (Str.ofString z)) S Q = Q (.bl false) S := by
  obtain ⟨m, b, g⟩ := own_gd h
  have g2 : Gd 0 0 z.length (.str (Str.ofString z)) := gd_txt (Nat.le_refl _)
  refine propext ⟨fun q => ?_, fun q => g.eq g2 (by omega) (by decide) q⟩
  have := q.2
  rw [show rd S (.tup [.str "own", smD e]) = _ from g.rd S, g2.rd S] at this
  exact this
end
/-- base, mine, theirs by their names -/
def g3 (b m t : Int) (x : Str) : Int := if x = Str.ofString "base" then b else if x = Str.ofString "mine" then m else if x = Str.ofString "theirs" then t else 0
def d3 (b m t : Int) : List (Key × D) := [(.inr (Str.ofString "base"), .int b), (.inr (Str.ofString "mine"), .int m), (.inr (Str.ofString "theirs"), .int t)]
theorem d3_val (b m t : Int) (x : Str) : dval (d3 b m t) (.inr x) = if x = Str.ofString "base" then some (.int b) else if x = Str.ofString "mine" then some (.int m) else if x = Str.ofString "theirs" then some (.int t) else none := by
  have e : ∀ z : Str, decide ((Sum.inr z : Key) = .inr x) = decide (x = z) := fun z => decide_eq_decide.2 ⟨fun h => by cases h; rfl, fun h => by rw [h]⟩
  unfold d3 dval
  simp only [List.find?, e]
  by_cases h1 : x = Str.ofString "base"
  · simp only [h1, decide_true, if_true]; rfl
  · simp only [h1, decide_false, if_false]
    by_cases h2 : x = Str.ofString "mine"
    · simp only [h2, decide_true, if_true]; rfl
    · simp only [h2, decide_false, if_false]
      by_cases h3 : x = Str.ofString "theirs"
      · simp only [h3, decide_true, if_true]; rfl
      · simp only [h3, decide_false, if_false]; rfl
theorem d3_ints (b m t : Int) : IntsD (d3 b m t) := fun x w h => by
  rw [d3_val] at h
  split at h
  · cases h; exact ⟨_, rfl⟩
  · split at h
    · cases h; exact ⟨_, rfl⟩
    · split at h
      · cases h; exact ⟨_, rfl⟩
      · cases h
theorem d3_g (b m t : Int) : gOf (d3 b m t) = g3 b m t := by
  funext x
  unfold gOf g3
  rw [d3_val]
  by_cases h1 : x = Str.ofString "base"
  · simp only [if_pos h1]
  · by_cases h2 : x = Str.ofString "mine"
    · simp only [if_neg h1, if_pos h2]
    · by_cases h3 : x = Str.ofString "theirs"
      · simp only [if_neg h1, if_neg h2, if_pos h3]
      · simp only [if_neg h1, if_neg h2, if_neg h3]
def mset (b m t : List Int) : List Int := setI (m.filter (fun x => decide (x ∈ t) || !decide (x ∈ b)) ++ t.filter fun x => !decide (x ∈ b))
def mergeV : Kd → Vl → Vl → Vl → Vl
  | .plain, _, _, t => t
  | .sum, .n b, .n m, .n t => .n (m + t - b)
  | .most, _, .n m, .n t => .n (max m t)
  | .set, .t b, .t m, .t t => .t (mset b m t)
  | .list, .t b, .t m, .t t => .t (m ++ t.drop b.length)
  | .own e, .n b, .n m, .n t => .n (e.worth (g3 b m t))
  | _, _, _, t => t
/-- it goes with the kind, at most L long -/
def Fit (L : Nat) : Kd → Vl → Prop
  | .set, .t ns => ns.length ≤ L ∧ ns.Pairwise (· < ·)
  | .list, .t ns => ns.length ≤ L
  | .set, .n _ => False
  | .list, .n _ => False
  | _, .n _ => True
  | _, .t _ => False
def rMset : DS :=
  (sSeq (sAsg (dLc (dIt (dVar 1)) (gNm 4) (dOr (dTst (dOp fIn (dVar 4) (dVar 2))) (dTst (dOp fNotIn (dVar 4) (dVar 0)))) (dVar 4) [4]) 3) (sRet (dFn gTuple (dCons (dSrtC2 (dIt (dTup (dCons (dVar 3) (dCons (dLc (dIt (dVar 2)) (gNm 4) (dTst (dOp fNotIn (dVar 4) (dVar 0))) (dVar 4) [4]) dNil)))) (gNm 5) dTrue (dIt (dVar 5)) (gNm 4) dTrue (dVar 4) [5, 4] [4]) dNil))))
def spMset : DSp := fun ws S Q _ => ∃ b m t : List Int, ws = [.tup (b.map .int), .tup (m.map .int), .tup (t.map .int)] ∧ (m.length ≤ 2000 ∧ t.length ≤ 2000) ∧ Q (.tup ((mset b m t).map .int)) S
/-- a comprehension that keeps the numbers of a sort -/
theorem cLoop_keep {g : DG} {tt : DT} {te : DE} {env : Env'} {Q : List D → Sto → Prop} {S : Sto} (p : Int → Bool) {ns : List Int} (hl : ns.length ≤ sizeLine)
    (step : ∀ n ∈ ns, ∀ (R1 : D → Sto → Prop) (R2 : Sto → Prop), (p n = true → R1 (.int n) S) → (p n = false → R2 S) → g (.int n) env S fun env2 S2 => tt env2 S2 fun b S3 => if b = true then te env2 S3 R1 else R2 S3)
    (q : Q ((ns.filter p).map .int) S) : cLoop g tt te env (fun _ => True) Q (ns.map .int) [] S := by
  refine cLoop_filter (fun x => match x with | .int n => p n | _ => false) id trivial (by rw [List.length_map]; exact hl) (fun x hx R1 R2 r1 r2 => ?_) ?_
  · obtain ⟨n, hn, rfl⟩ := List.mem_map.1 hx
    exact step n hn R1 R2 r1 r2
  · rw [List.map_id, List.filter_map]
    exact q
theorem mset_ok {ws : List D} {S : Sto} {Q : DK} {E : XD} (h : spMset ws S Q E) : rMset (endsD Q) (startD ["a", "b", "c", "d", "e", "f"] ws) S := by
  obtain ⟨b, m, t, rfl, ⟨hm, ht⟩, q⟩ := h
  have hsz : sizeLine = 16777216 := rfl
  unfold rMset
  walk_at "rd"
  refine cLoop_keep (fun x => decide (x ∈ t) || !decide (x ∈ b)) (by omega) (fun n hn R1 R2 r1 r2 => ?_) ?_
  · simp only [wipeD]
    walk_at "rd"
    cases h1 : decide (n ∈ t)
    · walk_at "rd"
      cases h2 : decide (n ∈ b)
      · exact r1 (by rw [h1, h2]; rfl)
      · exact r2 (by rw [h1, h2]; rfl)
    · exact r1 (by rw [h1]; rfl)
  simp only [dSrtC2]
  walk_at "rd"
  refine cLoop_keep (fun x => !decide (x ∈ b)) (by omega) (fun n hn R1 R2 r1 r2 => ?_) ?_
  · simp only [wipeD]
    walk_at "rd"
    cases h2 : decide (n ∈ b)
    · exact r1 (by rw [h2]; rfl)
    · exact r2 (by rw [h2]; rfl)
  have l1 := List.length_filter_le (fun x => decide (x ∈ t) || !decide (x ∈ b)) m
  have l2 := List.length_filter_le (fun x => !decide (x ∈ b)) t
  have hsb : scanBound = 4096 := rfl
  refine ⟨by decide, ?_⟩
  simp only [wipeD, kLoop2]
  walk_at "rd"
  refine kLoop_i (by simp) trivial _ [] (by simp only [List.length_nil]; omega) ?_
  refine kLoop_i (by simp) trivial _ _ (by have := uniq_len (m.filter fun x => decide (x ∈ t) || !decide (x ∈ b)) []; simp only [List.length_nil] at this; omega) ?_
  rw [qSet_i]
  walk_at "rd"
  refine ends_rt ?_
  have e : ∀ (xs ys acc : List Int), uniq (uniq acc xs) ys = uniq acc (xs ++ ys) := by
    intro xs
    induction xs with
    | nil => intro ys acc; rfl
    | cons x xs ih => intro ys acc; rw [List.cons_append, uniq, uniq, ih]
  rw [e]
  exact q
def rMerged (mset reck : DSp) : DS :=
  (sSeq (sIf (dTst (dOp fEq (dVar 0) (dC (.str "plain")))) (sRet (dVar 3)) sNext) (sSeq (sIf (dTst (dOp fEq (dVar 0) (dC (.str "sum")))) (sRet (dOp fSub (dOp fAdd (dVar 2) (dVar 3)) (dVar 1))) sNext) (sSeq (sIf (dTst (dOp fEq (dVar 0) (dC (.str "most")))) (sRet (dFn gMax (dCons (dVar 2) (dCons (dVar 3) dNil)))) sNext) (sSeq (sIf (dTst (dOp fEq (dVar 0) (dC (.str "set")))) (sRet (dCall mset 3 0 (fun xs _ => xs) E00 (dCons (dVar 1) (dCons (dVar 2) (dCons (dVar 3) dNil))) dNil)) sNext) (sSeq (sIf (dTst (dOp fEq (dVar 0) (dC (.str "list")))) (sRet (dOp fAdd (dVar 2) (dSl (dVar 3) (dPart (dFn gLen (dCons (dVar 1) dNil))) dNoPart))) sNext) (sRet (dCall reck 2 0 (fun xs _ => xs) E00 (dCons (dOp fIx (dVar 0) (dC (.int 1))) (dCons (dDisp [((dC (.str "base")), (dVar 1)), ((dC (.str "mine")), (dVar 2)), ((dC (.str "theirs")), (dVar 3))]) dNil)) dNil)))))))
def spMerged (n : Nat) : DSp := fun ws S Q _ => ∃ k b m t, ws = [kdD k, vlD b, vlD m, vlD t] ∧ k.Ok ∧ k.ht ≤ n ∧ (Fit 2000 k b ∧ Fit 2000 k m ∧ Fit 2000 k t) ∧ Q (vlD (mergeV k b m t)) S
theorem merged_ok {n : Nat} {ws : List D} {S : Sto} {Q : DK} {E : XD} (h : spMerged n ws S Q E) : rMerged spMset (spReck n) (endsD Q) (startD ["a", "b", "c", "d"] ws) S := by
  obtain ⟨k, b, m, t, rfl, hk, hn, ⟨hb, hm, ht⟩, q⟩ := h
  have hsz : sizeLine = 16777216 := rfl
  unfold rMerged
  cases k with
  | plain => simp only [kdD]; walk_at "rd"; exact ends_rt q
  | sum =>
    cases b <;> cases m <;> cases t <;> try exact hb.elim
    all_goals try exact hm.elim
    all_goals try exact ht.elim
    simp only [kdD, vlD]; walk_at "rd"; exact ends_rt q
  | most =>
    cases b <;> cases m <;> cases t <;> try exact hb.elim
    all_goals try exact hm.elim
    all_goals try exact ht.elim
    simp only [kdD, vlD]; walk_at "rd"; exact ends_rt q
  | set =>
    cases b <;> cases m <;> cases t <;> try exact hb.elim
    all_goals try exact hm.elim
    all_goals try exact ht.elim
    simp only [kdD, vlD]; walk_at "rd"; exact ⟨_, _, _, rfl, ⟨hm.1, ht.1⟩, ends_rt q⟩
  | list =>
    cases b <;> cases m <;> cases t <;> try exact hb.elim
    all_goals try exact hm.elim
    all_goals try exact ht.elim
    rename_i b m t
    simp only [kdD, vlD]; walk_at "rd"
    have e : cut (t.map D.int) (some ((b.map D.int).length : Int)) none = (t.drop b.length).map .int := by
      rw [cut_from (by omega), List.length_map, Int.toNat_natCast, List.map_drop]
    rw [e]
    have hm' : m.length ≤ 2000 := hm
    have ht' : t.length ≤ 2000 := ht
    refine ⟨by simp only [List.length_map, List.length_drop]; omega, ends_rt ?_⟩
    rw [← List.map_append]
    exact q
  | own e =>
    cases b <;> cases m <;> cases t <;> try exact hb.elim
    all_goals try exact hm.elim
    all_goals try exact ht.elim
    rename_i b m t
    simp only [kdD, vlD]; walk_at "rd"
    simp only [fEq_own hk.1 hk.2]
    walk_at "rd"
    simp only [dDisp, dPairs]
    walk_at "rd"
    simp only [keysOf, keyOf]
    refine ⟨(show 3 ≤ 15 by decide), fun p hp => ⟨e, p, d3 b m t, rfl, by simp only [Kd.ht] at hn; omega, by rw [su_same]; rfl, d3_ints b m t, ?_⟩⟩
    refine ⟨S, Sub.new hp, ?_⟩
    rw [d3_g]
    exact q
end DL


set_option Elab.async false
set_option linter.all false
set_option maxRecDepth 100000
set_option maxHeartbeats 4000000
set_option exponentiation.threshold 4000
namespace DL
open PySem PySem.Spec PyProof.Rows L2
local macro_rules | `(tactic| walk_at "rd") => `(tactic| simp only [startD, List.map_cons, List.map_nil, List.length_cons, List.length_nil, Nat.reduceAdd, Nat.reduceSub, List.replicate, List.cons_append, List.nil_append,
  sSeq, sNext, sAsg, sAsgG, sPar, sPar3, sRet, sRetN, sIf, sExpr, sFor, dVar, dC, dUn, dOp, dNil, dCons, dFn, dTst, dNot, dAnd, dOr, dIf, dAndV, dOrV, dNotV, dTup, dLst, dSl, dNoPart, dPart, dMt, dMt0, dCall, dChain, dRng1, dRng2, dLc, dIt, gNm, dGet2, dGet1,
  gs_nil0, gs_cons, gTp_t, gStar12, gMax_ii, gSum_l, fIn_t, fNotIn_t, fIn_l, fNotIn_l, ofS_eq, String.reduceEq, decide_true, decide_false, reduceCtorEq, List.getD_cons_zero, List.getD_cons_succ, dTrue,
  List.getElem?_cons_zero, List.getElem?_cons_succ, List.set_cons_zero, List.set_cons_succ,
  fAdd_ii, fAdd_bi, fAdd_ib, fSub_bi, fEq_bi, gStr_b, fAdd_ss, fAdd_tt, fAdd_ll, fSub_ii, fNeg_i, fDiv_ii, fMod_ii, fPow_ii, fMul_ii, fLt_ii, fLe_ii, fGt_ii, fGe_ii, fEq_ii, fNe_ii, fEq_ss, fNe_ss, fIx_t, fIx_l, fSl_t, fSl_l, fSl_s, fRv_t, fRv_l, gList_t, gList_l, gTuple_t, gTuple_l, gStr_i, gStr_s, gInt_b, gInt_i, gLen_lst, gLen_tup, gLen_str,
  isi_non_int, isi_non_bool, isi_non_str, isi_non_tuple, isi_non_list, isi_non_dict, isi_bl_int, isi_bl_bool, isi_bl_str, isi_bl_tuple, isi_bl_list, isi_bl_dict, isi_int_int, isi_int_bool, isi_int_str, isi_int_tuple, isi_int_list, isi_int_dict, isi_str_int, isi_str_bool, isi_str_str, isi_str_tuple, isi_str_list, isi_str_dict, isi_tup_int, isi_tup_bool, isi_tup_str, isi_tup_tuple, isi_tup_list, isi_tup_dict, isi_lst_int, isi_lst_bool, isi_lst_str, isi_lst_tuple, isi_lst_list, isi_lst_dict,
  if_true, if_false, Bool.false_eq_true, true_and, and_true, Bool.not_true, Bool.not_false, ite_true, ite_false])
/-! ### what the laws draw: numbers, what a cell has, joins -/
def NB : Nat := 10 ^ 60
/-- a comprehension that leaves the store alone: each thing is of P -/
theorem cLoop_each {g : DG} {te : DE} {env : Env'} {Q : List D → Sto → Prop} (P : D → Prop) {S : Sto} {items : List D} (hl : items.length ≤ sizeLine)
    (step : ∀ x ∈ items, ∀ R : DK, (∀ y, P y → R y S) → g x env S fun env2 S2 => te env2 S2 R)
    (q : ∀ acc, acc.length = items.length → (∀ y ∈ acc, P y) → Q acc S) : cLoop g dTrue te env (fun _ => True) Q items [] S := by
  refine cLoop_all (fun pre acc S' => acc.length = pre.length ∧ (∀ y ∈ acc, P y) ∧ S' = S) (fun _ _ _ _ => trivial) items [] [] _ (by simpa using hl) (fun x hx pre acc S' ⟨e1, h1, e2⟩ R1 R2 h _ => ?_) ⟨rfl, fun _ h => (List.not_mem_nil h).elim, rfl⟩ fun acc' S' _ ⟨e1, h1, e2⟩ => ?_
  · subst e2
    exact step x hx _ fun y hy => h y _ ⟨by simp only [List.length_append, e1, List.length_cons, List.length_nil], fun z hz => (List.mem_append.1 hz).elim (h1 z) fun hz => by rw [List.mem_singleton.1 hz]; exact hy, rfl⟩
  · subst e2
    exact q acc' (by simpa using e1) h1
theorem enD_mem : ∀ {n : Nat} {xs : List D} {w : D}, w ∈ enD n xs → ∃ i x, w = .tup [.int ((n + i : Nat) : Int), x] ∧ i < xs.length ∧ x ∈ xs
  | n, [], w, h => by cases h
  | n, x :: r, w, h => by
    rcases List.mem_cons.1 h with e | h
    · exact ⟨0, x, e, Nat.succ_pos _, List.mem_cons_self ..⟩
    · obtain ⟨i, y, e, hi, hy⟩ := enD_mem h
      refine ⟨i + 1, y, ?_, Nat.succ_lt_succ hi, List.mem_cons_of_mem _ hy⟩
      rw [e, show n + 1 + i = n + (i + 1) by omega]
def rNum (draw : DSp) : DS :=
  (sSeq (sPar 1 2 (dCons (dCall draw 2 0 (fun xs _ => xs) E00 (dCons (dVar 0) (dCons (dC (.int 4)) dNil)) dNil) (dCons (dOp fSub (dCall draw 2 0 (fun xs _ => xs) E00 (dCons (dVar 0) (dCons (dC (.int 400)) dNil)) dNil) (dC (.int 100))) dNil))) (sSeq (sAsg (dOp fMul (dOp fIx (dLst (dCons (dOp fSub (dOp fPow (dC (.int 10)) (dC (.int 6))) (dVar 1)) (dCons (dOp fAdd (dOp fPow (dC (.int 10)) (dC (.int 59))) (dVar 1)) dNil))) (dCall draw 2 0 (fun xs _ => xs) E00 (dCons (dVar 0) (dCons (dC (.int 2)) dNil)) dNil)) (dOp fIx (dLst (dCons (dC (.int 1)) (dCons (dUn fNeg (dC (.int 1))) dNil))) (dCall draw 2 0 (fun xs _ => xs) E00 (dCons (dVar 0) (dCons (dC (.int 2)) dNil)) dNil))) 3) (sRet (dOp fIx (dLst (dCons (dVar 1) (dCons (dOp fSub (dVar 1) (dC (.int 1))) (dCons (dVar 2) (dCons (dVar 1) (dCons (dOp fSub (dVar 1) (dC (.int 2))) (dCons (dVar 2) (dCons (dC (.int 0)) (dCons (dVar 3) dNil))))))))) (dCall draw 2 0 (fun xs _ => xs) E00 (dCons (dVar 0) (dCons (dC (.int 8)) dNil)) dNil)))))
def spNum : DSp := fun ws S Q _ => ∃ a o, ws = [.ref a] ∧ S a = some o ∧ FeedO o ∧ ∀ (i : Int) o', i.natAbs ≤ NB → FeedO o' → Q (.int i) (su S a o')
theorem num_su {a : Addr} {o : O} {S : Sto} {Q : DK} {E : XD} (ho : FeedO o) (q : ∀ (i : Int) o', i.natAbs ≤ NB → FeedO o' → Q (.int i) (su S a o')) : spNum [.ref a] (su S a o) Q E :=
  ⟨a, o, rfl, su_same, ho, fun x o' h1 h2 => by rw [su_su]; exact q x o' h1 h2⟩
theorem num_ok {ws : List D} {S : Sto} {Q : DK} {E : XD} (h : spNum ws S Q E) : rNum spDraw (endsD Q) (startD ["a", "b", "c", "d"] ws) S := by
  obtain ⟨a, o, rfl, hs, ho, q⟩ := h
  rw [← su_self hs]
  unfold rNum
  have nb : (NB : Int) = 10 ^ 60 := by decide +kernel
  have nb2 : (10 : Int) ^ (Int.toNat 59) + 10 < 10 ^ 60 ∧ (0 : Int) ≤ 10 ^ (Int.toNat 59) ∧ (10 : Int) ^ (Int.toNat 6) = 1000000 ∧ (2000000 : Int) < 10 ^ 60 := by decide +kernel
  rw [← nb] at nb2
  clear hs nb
  walk_at "rd"
  refine draw_su ho (by decide) (by decide) fun few o hf0 hf1 ho => ?_
  refine draw_su ho (by decide) (by decide) fun some o hs0 hs1 ho => ?_
  walk_at "rd"
  refine ⟨⟨by decide, by decide, by decide⟩, ⟨by decide, by decide, by decide⟩, by decide, ?_⟩
  generalize (10 : Int) ^ (Int.toNat 59) = B at *
  generalize (10 : Int) ^ (Int.toNat 6) = C at *
  refine draw_su ho (by decide) (by decide) fun r o h0 h1 ho => ?_
  walk_at "rd"
  refine ix_P (fun w => ∃ i : Int, w = .int i ∧ i.natAbs ≤ NB) h0 (by simpa using h1) ?_ fun w ⟨i, e, hi⟩ => ?_
  · simp only [List.forall_mem_cons]
    exact ⟨⟨_, rfl, by omega⟩, ⟨_, rfl, by omega⟩, fun _ h => nomatch h⟩
  subst e
  refine ⟨by decide, draw_su ho (by decide) (by decide) fun r o h0 h1 ho => ?_⟩
  walk_at "rd"
  refine ix_P (fun w => ∃ s : Int, w = .int s ∧ (s = 1 ∨ s = -1)) h0 (by simpa using h1) ?_ fun w ⟨s, e, hs⟩ => ?_
  · simp only [List.forall_mem_cons]
    exact ⟨⟨_, rfl, .inl rfl⟩, ⟨_, rfl, .inr rfl⟩, fun _ h => nomatch h⟩
  subst e
  walk_at "rd"
  refine ⟨by rcases hs with rfl | rfl <;> exact .inr (by decide), ?_⟩
  have hm : (i * s).natAbs ≤ NB := by rcases hs with rfl | rfl <;> omega
  refine ⟨by decide, draw_su ho (by decide) (by decide) fun r o h0 h1 ho => ?_⟩
  walk_at "rd"
  refine ix_all h0 (by simpa using h1) ?_
  simp only [List.forall_mem_cons]
  refine ⟨ends_rt (q _ _ ?_ ho), ends_rt (q _ _ ?_ ho), ends_rt (q _ _ ?_ ho), ends_rt (q _ _ ?_ ho), ends_rt (q _ _ ?_ ho), ends_rt (q _ _ ?_ ho), ends_rt (q _ _ ?_ ho), ends_rt (q _ _ hm ho), fun _ h => nomatch h⟩
  all_goals omega
def Sml (B : Nat) : Vl → Prop
  | .n i => i.natAbs ≤ B
  | .t ns => ∀ i ∈ ns, i.natAbs ≤ B
def Kd.row : Kd → Bool
  | .set => true
  | .list => true
  | _ => false
section
variable {S : Sto} {Q : DK}
theorem ownIn {e : Sm} (h : e.Ok) (hh : e.ht ≤ 40) {zs : List String} {R : Bool → Prop} : fInB (kdD (.own e)) (.tup (zs.map fun z => .str (Str.ofString z))) S R = R false := by
  obtain ⟨m, b, g⟩ := own_gd h
  have g2 : Gds 0 1 (bks (zs.map fun z => D.str (Str.ofString z))) (zs.map fun z => .str (Str.ofString z)) := ⟨fun x hx => by obtain ⟨z, _, rfl⟩ := List.mem_map.1 hx; exact strOk_of z, fun x hx => by obtain ⟨z, _, rfl⟩ := List.mem_map.1 hx; exact Nat.zero_le _, Nat.le_refl _⟩
  have g3 := gd_tup.2 g2
  have e1 : rds S (zs.map fun z => D.str (Str.ofString z)) = zs.map fun z => .str (Str.ofString z) := by
    have := g3.rd S
    rw [rd] at this
    injection this
  show ((shp (rd S (kdD (.own e))) = true ∧ shp (rd S (.tup (zs.map fun z => D.str (Str.ofString z)))) = true) ∧ R ((rds S (zs.map fun z => D.str (Str.ofString z))).any fun z => deq z (rd S (kdD (.own e))))) = _
  rw [g.rd S, g3.rd S, e1]
  have e2 : ((zs.map fun z => D.str (Str.ofString z)).any fun z => deq z (kdD (.own e))) = false := by
    rw [List.any_eq_false]
    intro x hx
    obtain ⟨z, _, rfl⟩ := List.mem_map.1 hx
    show ¬ (false = true)
    exact fun h => nomatch h
  rw [e2]
  exact propext ⟨fun q => q.2, fun q => ⟨⟨g.shp (by omega), g3.shp (by decide)⟩, q⟩⟩
theorem strIn {z : String} {zs : List String} {R : Bool → Prop} : fInB (.str (Str.ofString z)) (.tup (zs.map fun z => .str (Str.ofString z))) S R = R (decide (z ∈ zs)) := by
  have e := fInB_s (S := S) (R := R) (x := Str.ofString z) (zs := zs.map Str.ofString) (strOk_of z) (fun y hy => by obtain ⟨u, _, rfl⟩ := List.mem_map.1 hy; exact strOk_of u)
  rw [List.map_map] at e
  refine e.trans ?_
  congr 1
  refine decide_eq_decide.2 ?_
  rw [List.mem_map]
  exact ⟨fun ⟨u, h, e⟩ => by rw [← ofS_inj e]; exact h, fun h => ⟨z, h, rfl⟩⟩
def Kd.name : Kd → String
  | .plain => "plain" | .sum => "sum" | .most => "most" | .set => "set" | .list => "list" | .own _ => "own"
def Kd.isOwn : Kd → Bool
  | .own _ => true
  | _ => false
/-- a kind among words -/
theorem kdIn {k : Kd} (hk : k.Ok) (zs : List String) {R : Bool → Prop} : fInB (kdD k) (.tup (zs.map fun z => .str (Str.ofString z))) S R = R (!k.isOwn && decide (k.name ∈ zs)) := by
  cases k with
  | own e => exact (ownIn hk.1 hk.2).trans rfl
  | _ => exact strIn.trans rfl
theorem kdEq {k : Kd} (hk : k.Ok) (z : String) : fEq (kdD k) (.str (Str.ofString z)) S Q = Q (.bl (!k.isOwn && decide (k.name = z))) S := by
  cases k with
  | own e => exact (fEq_own hk.1 hk.2).trans rfl
  | _ => simp only [kdD, fEq_ss, ofS_eq]; rfl
theorem kdNe {k : Kd} (hk : k.Ok) (z : String) : fNe (kdD k) (.str (Str.ofString z)) S Q = Q (.bl (!(!k.isOwn && decide (k.name = z)))) S := by
  cases k with
  | own e =>
    obtain ⟨m, b, g⟩ := own_gd hk.1
    have g2 : Gd 0 0 z.length (.str (Str.ofString z)) := gd_txt (Nat.le_refl _)
    refine propext ⟨fun q => ?_, fun q => g.ne g2 (by have := hk.2; omega) (by decide) q⟩
    have := q.2
    rw [g.rd S, g2.rd S] at this
    exact this
  | _ => simp only [kdD, fNe_ss, ofS_eq]; rfl
theorem kdRow (k : Kd) (hk : k.Ok) : fNotIn (kdD k) (.tup [.str (Str.ofString "set"), .str (Str.ofString "list")]) S Q = Q (.bl (!k.row)) S := by
  have e := kdIn (S := S) hk ["set", "list"] (R := fun b => Q (.bl (!b)) S)
  refine e.trans ?_
  cases k <;> rfl
theorem kdRow' (k : Kd) (hk : k.Ok) : fIn (kdD k) (.tup [.str (Str.ofString "set"), .str (Str.ofString "list")]) S Q = Q (.bl k.row) S := by
  have e := kdIn (S := S) hk ["set", "list"] (R := fun b => Q (.bl b) S)
  refine e.trans ?_
  cases k <;> rfl
end
def rHas (num draw : DSp) : DS :=
  (sSeq (sIf (dTst (dOp fNotIn (dVar 1) (dTup (dCons (dC (.str "set")) (dCons (dC (.str "list")) dNil))))) (sRet (dCall num 1 0 (fun xs _ => xs) E00 (dCons (dVar 0) dNil) dNil)) sNext) (sSeq (sAsg (dLst (dCons (dCall draw 2 0 (fun xs _ => xs) E00 (dCons (dVar 0) (dCons (dC (.int 5)) dNil)) dNil) (dCons (dCall draw 2 0 (fun xs _ => xs) E00 (dCons (dVar 0) (dCons (dC (.int 5)) dNil)) dNil) (dCons (dC (.int 40)) dNil)))) 2) (sSeq (sAsg (dLc (dRng1 (dCons (dOp fIx (dVar 2) (dOp fDiv (dCall draw 2 0 (fun xs _ => xs) E00 (dCons (dVar 0) (dCons (dC (.int 9)) dNil)) dNil) (dC (.int 4)))) dNil)) (gNm 4) dTrue (dOp fSub (dCall draw 2 0 (fun xs _ => xs) E00 (dCons (dVar 0) (dCons (dC (.int 6)) dNil)) dNil) (dC (.int 1))) [4]) 3) (sSeq (sAsg (dLc (dEnum (dCons (dVar 3) dNil)) (gTp 2 (gsCons (gNm 4) (gsCons (gNm 5) gsNil))) dTrue (dOp fAdd (dVar 5) (dOp fMul (dOp fDiv (dVar 4) (dC (.int 6))) (dFn gInt (dCons (dOp fGt (dFn gLen (dCons (dVar 3) dNil)) (dC (.int 9))) dNil)))) [4, 5]) 3) (sRet (dIf (dTst (dOp fEq (dVar 1) (dC (.str "list")))) (dFn gTuple (dCons (dVar 3) dNil)) (dFn gTuple (dCons (dFn gSrtSet (dCons (dVar 3) dNil)) dNil))))))))
def spHas : DSp := fun ws S Q _ => ∃ a o k, ws = [.ref a, kdD k] ∧ k.Ok ∧ S a = some o ∧ FeedO o ∧ ∀ v o', Fit 40 k v → Sml NB v → FeedO o' → Q (vlD v) (su S a o')
theorem has_su {a : Addr} {o : O} {k : Kd} {S : Sto} {Q : DK} {E : XD} (hk : k.Ok) (ho : FeedO o) (q : ∀ v o', Fit 40 k v → Sml NB v → FeedO o' → Q (vlD v) (su S a o')) : spHas [.ref a, kdD k] (su S a o) Q E :=
  ⟨a, o, k, rfl, hk, su_same, ho, fun x o' h1 h2 h3 => by rw [su_su]; exact q x o' h1 h2 h3⟩
theorem has_ok {ws : List D} {S : Sto} {Q : DK} {E : XD} (h : spHas ws S Q E) : rHas spNum spDraw (endsD Q) (startD ["a", "b", "c", "d", "e", "f"] ws) S := by
  obtain ⟨a, o, k, rfl, hk, hs, ho, q⟩ := h
  rw [← su_self hs]
  unfold rHas
  have hsz : sizeLine = 16777216 := rfl
  have hsb : scanBound = 4096 := rfl
  have nb : 100 ≤ NB := by decide +kernel
  walk_at "rd"
  refine ⟨by decide, ?_⟩
  rw [kdRow k hk]
  walk_at "rd"
  cases hr : k.row with
  | false =>
    walk_at "rd"
    refine num_su ho fun i o hi ho => ends_rt (q (.n i) o ?_ hi ho)
    cases k <;> first | exact trivial | cases hr
  | true =>
    walk_at "rd"
    refine draw_su ho (by decide) (by decide) fun m1 o hm1 hm1' ho => draw_su ho (by decide) (by decide) fun m2 o hm2 hm2' ho => ⟨by decide, ?_⟩
    refine draw_su ho (by decide) (by decide) fun r o h0 h1 ho => ?_
    walk_at "rd"
    refine ⟨by decide, ?_⟩
    refine ix_P (fun w => ∃ i : Int, w = .int i ∧ 0 ≤ i ∧ i ≤ 40) (by omega) (by simp only [List.length_cons, List.length_nil]; omega) ?_ fun w ⟨n, e, hn0, hn1⟩ => ?_
    · simp only [List.forall_mem_cons]
      exact ⟨⟨_, rfl, by omega, by omega⟩, ⟨_, rfl, by omega, by omega⟩, ⟨_, rfl, by omega, by omega⟩, fun _ h => nomatch h⟩
    subst e
    refine ⟨⟨by omega, by omega⟩, ?_⟩
    refine cLoop_feed (fun w => ∃ i : Int, w = .int i ∧ (-1 ≤ i ∧ i ≤ 4)) ho (by simp only [List.length_map, List.length_range]; omega) (fun x hx o ho R q => ?_) fun acc o hacc hP ho => ?_
    · simp only [wipeD]
      walk_at "rd"
      refine draw_su ho (by decide) (by decide) fun r o h0 h1 ho => ?_
      walk_at "rd"
      exact q _ _ ⟨_, rfl, by omega, by omega⟩ ho
    obtain ⟨ns, e, hns⟩ := exists_map hP
    subst e
    simp only [List.length_map, List.length_range] at hacc
    simp only [dEnum]
    walk_at "rd"
    refine cLoop_each (fun w => ∃ i : Int, w = .int i ∧ (-1 ≤ i ∧ i ≤ 10)) (by rw [enD_len, List.length_map]; omega) (fun x hx R q => ?_) fun acc hacc2 hP => ?_
    · obtain ⟨i, y, e, hi, hy⟩ := enD_mem hx
      obtain ⟨z, hz, rfl⟩ := List.mem_map.1 hy
      subst e
      have hz2 := hns z hz
      rw [List.length_map] at hi
      simp only [wipeD]
      walk_at "rd"
      have hb := b2_le (decide (9 < ((List.map D.int ns).length : Int)))
      refine ⟨by decide, .inr ⟨by omega, by omega⟩, q _ ⟨_, rfl, ?_⟩⟩
      have hb' : b2 (decide (9 < ((List.map D.int ns).length : Int))) = 0 ∨ b2 (decide (9 < ((List.map D.int ns).length : Int))) = 1 := by omega
      rcases hb' with e | e <;> rw [e] <;> omega
    obtain ⟨ms, e, hms⟩ := exists_map hP
    subst e
    have hml : ms.length ≤ 40 := by rw [List.length_map, enD_len, List.length_map] at hacc2; omega
    have sml : ∀ i ∈ ms, i.natAbs ≤ NB := fun i hi => by have := hms i hi; omega
    cases k <;> first | (cases hr; done) | skip
    · simp only [kdD]
      walk_at "rd"
      simp only [gSrtSet_l]
      walk_at "rd"
      have hsl := setI_len ms
      exact ⟨by omega, ends_rt (q (.t (setI ms)) o ⟨by omega, setI_pw ms⟩ (fun i hi => sml i (setI_mem.1 hi)) ho)⟩
    · simp only [kdD]
      walk_at "rd"
      exact ends_rt (q (.t ms) o hml sml ho)
end DL


set_option Elab.async false
set_option linter.all false
set_option maxRecDepth 100000
set_option maxHeartbeats 4000000
set_option exponentiation.threshold 4000
namespace DL
open PySem PySem.Spec PyProof.Rows L2
local macro_rules | `(tactic| walk_at "rd") => `(tactic| simp only [startD, List.map_cons, List.map_nil, List.length_cons, List.length_nil, Nat.reduceAdd, Nat.reduceSub, List.replicate, List.cons_append, List.nil_append,
  sSeq, sNext, sAsg, sAsgG, sPar, sPar3, sRet, sRetN, sIf, sExpr, sFor, dVar, dC, dUn, dOp, dNil, dCons, dFn, dTst, dNot, dAnd, dOr, dIf, dAndV, dOrV, dNotV, dTup, dLst, dSl, dNoPart, dPart, dMt, dMt0, dCall, dChain, dRng1, dRng2, dLc, dIt, gNm, dGet2, dGet1,
  gs_nil0, gs_cons, gTp_t, gStar12, gMax_ii, gSum_l, fIn_t, fNotIn_t, fIn_l, fNotIn_l, ofS_eq, String.reduceEq, decide_true, decide_false, reduceCtorEq, List.getD_cons_zero, List.getD_cons_succ, dTrue,
  List.getElem?_cons_zero, List.getElem?_cons_succ, List.set_cons_zero, List.set_cons_succ,
  fAdd_ii, fAdd_bi, fAdd_ib, fSub_bi, fEq_bi, gStr_b, fAdd_ss, fAdd_tt, fAdd_ll, fSub_ii, fNeg_i, fDiv_ii, fMod_ii, fPow_ii, fMul_ii, fLt_ii, fLe_ii, fGt_ii, fGe_ii, fEq_ii, fNe_ii, fEq_ss, fNe_ss, fIx_t, fIx_l, fSl_t, fSl_l, fSl_s, fRv_t, fRv_l, gList_t, gList_l, gTuple_t, gTuple_l, gStr_i, gStr_s, gInt_b, gInt_i, gLen_lst, gLen_tup, gLen_str,
  isi_non_int, isi_non_bool, isi_non_str, isi_non_tuple, isi_non_list, isi_non_dict, isi_bl_int, isi_bl_bool, isi_bl_str, isi_bl_tuple, isi_bl_list, isi_bl_dict, isi_int_int, isi_int_bool, isi_int_str, isi_int_tuple, isi_int_list, isi_int_dict, isi_str_int, isi_str_bool, isi_str_str, isi_str_tuple, isi_str_list, isi_str_dict, isi_tup_int, isi_tup_bool, isi_tup_str, isi_tup_tuple, isi_tup_list, isi_tup_dict, isi_lst_int, isi_lst_bool, isi_lst_str, isi_lst_tuple, isi_lst_list, isi_lst_dict,
  dTru, truOf, Bool.and_true, Bool.true_and, Bool.and_false, Bool.false_and, if_true, if_false, Bool.false_eq_true, true_and, and_true, Bool.not_true, Bool.not_false, ite_true, ite_false])
/-! ### joins one behind another -/
def jD (j : Vl × Vl) : D := .tup [vlD j.1, vlD j.2]
def goV (k : Kd) (m : Vl) (js : List (Vl × Vl)) : Vl := js.foldl (fun h j => mergeV k j.1 h j.2) m
theorem Fit.le {L L' : Nat} {k : Kd} {v : Vl} (h : Fit L k v) (hl : L ≤ L') : Fit L' k v := by
  cases k <;> cases v <;> first | exact h.elim | exact h | exact ⟨Nat.le_trans h.1 hl, h.2⟩ | exact Nat.le_trans h hl
theorem mset_len (b m t : List Int) : (mset b m t).length ≤ m.length + t.length := by
  have := setI_len (m.filter (fun x => decide (x ∈ t) || !decide (x ∈ b)) ++ t.filter fun x => !decide (x ∈ b))
  rw [List.length_append] at this
  have := List.length_filter_le (fun x => decide (x ∈ t) || !decide (x ∈ b)) m
  have := List.length_filter_le (fun x => !decide (x ∈ b)) t
  unfold mset; omega
theorem merge_fit {L L1 L2 : Nat} {k : Kd} {b m t : Vl} (hb : Fit L1 k b) (hm : Fit L k m) (ht : Fit L2 k t) : Fit (L + L2) k (mergeV k b m t) := by
  cases k <;> cases b <;> cases m <;> cases t <;> try exact hb.elim
  all_goals try exact hm.elim
  all_goals try exact ht.elim
  all_goals try exact trivial
  · exact ⟨Nat.le_trans (mset_len ..) (Nat.add_le_add hm.1 ht.1), setI_pw _⟩
  · rename_i b m t
    show (m ++ t.drop b.length).length ≤ _
    rw [List.length_append, List.length_drop]
    have h1 : m.length ≤ L := hm
    have h2 : t.length ≤ L2 := ht
    omega
structure FitJ (L : Nat) (k : Kd) (j : Vl × Vl) : Prop where
  b : Fit L k j.1
  t : Fit L k j.2
theorem go_fit {L1 : Nat} {k : Kd} : ∀ {js : List (Vl × Vl)} {m : Vl} {L : Nat}, Fit L k m → (∀ j ∈ js, FitJ L1 k j) → Fit (L + js.length * L1) k (goV k m js)
  | [], m, L, hm, _ => by simpa [goV] using hm
  | j :: js, m, L, hm, h => by
    have hj := h j (List.mem_cons_self ..)
    have := go_fit (js := js) (merge_fit hj.b hm hj.t) fun x hx => h x (List.mem_cons_of_mem _ hx)
    refine Fit.le (show Fit _ k (goV k m (j :: js)) from this) ?_
    rw [List.length_cons, Nat.succ_mul]; omega
def rOrd (merged : DSp) : DS :=
  (sSeq (sAsg (dVar 1) 3) (sSeq (sFor (dIt (dVar 2)) (gTp 2 (gsCons (gNm 4) (gsCons (gNm 5) gsNil))) (sAsg (dCall merged 1 3 (fun xs ys => [xs.getD 0 .non, ys.getD 0 .non, ys.getD 1 .non, ys.getD 2 .non]) E00 (dCons (dVar 0) dNil) (dCons (dVar 4) (dCons (dVar 3) (dCons (dVar 5) dNil)))) 3)) (sRet (dVar 3))))
def spOrd (n : Nat) : DSp := fun ws S Q _ => ∃ k m js L L1, ws = [kdD k, vlD m, .tup (js.map jD)] ∧ k.Ok ∧ k.ht ≤ n ∧ Fit L k m ∧ (∀ j ∈ js, FitJ L1 k j) ∧ L + js.length * L1 ≤ 2000 ∧ L1 ≤ 2000 ∧ Q (vlD (goV k m js)) S
theorem ord_ok {n : Nat} {ws : List D} {S : Sto} {Q : DK} {E : XD} (h : spOrd n ws S Q E) : rOrd (spMerged n) (endsD Q) (startD ["a", "b", "c", "d", "e", "f"] ws) S := by
  obtain ⟨k, m, js, L, L1, rfl, hk, hn, hm, hj, hL, hL1, q⟩ := h
  unfold rOrd
  walk_at "rd"
  refine sLoop_n (fun i env S' => ∃ x y, env = [some (kdD k), some (vlD m), some (.tup (js.map jD)), some (vlD (goV k m (js.take i))), x, y] ∧ S' = S) (fun _ _ _ _ _ => trivial) ⟨none, none, by simp [goV], rfl⟩ (fun i w hw hi env S' ⟨x, y, e1, e2⟩ R q => ?_) fun env S' ⟨x, y, e1, e2⟩ => ?_
  · subst e1 e2
    rw [List.getElem?_map] at hw
    obtain ⟨j, hji, rfl⟩ := Option.map_eq_some_iff.1 hw
    rw [List.length_map] at hi
    have hjm := hj j (List.mem_of_getElem? hji)
    rw [show jD j = .tup [vlD j.1, vlD j.2] from rfl]
    walk_at "rd"
    have hft : Fit 2000 k (goV k m (js.take i)) := (go_fit hm fun x hx => hj x (List.mem_of_mem_take hx)).le (by
      have : (js.take i).length * L1 ≤ js.length * L1 := Nat.mul_le_mul_right _ (by rw [List.length_take]; omega)
      omega)
    refine ⟨k, j.1, _, j.2, rfl, hk, hn, ⟨hjm.b.le hL1, hft, hjm.t.le hL1⟩, q _ _ ⟨some (vlD j.1), some (vlD j.2), ?_, rfl⟩⟩
    rw [show goV k m (js.take (i + 1)) = mergeV k j.1 (goV k m (js.take i)) j.2 from by
      unfold goV
      rw [List.take_succ, hji, List.foldl_append]; rfl]
  · subst e1 e2
    walk_at "rd"
    rw [List.length_map, List.take_of_length_le (Nat.le_refl _)]
    exact ends_rt q
/-! ### drawn joins -/
def rTailJ (draw : DSp) : DS :=
  (sSeq (sIf (dTst (dOp fEq (dVar 1) (dC (.str "list")))) (sAsg (dSl (dOp fAdd (dVar 4) (dVar 7)) dNoPart (dPart (dC (.int 40)))) 7) sNext) (sSeq (sIf (dAnd (dTst (dOp fEq (dVar 1) (dC (.str "set")))) (dTst (dOp fEq (dCall draw 2 0 (fun xs _ => xs) E00 (dCons (dVar 0) (dCons (dC (.int 2)) dNil)) dNil) (dC (.int 0))))) (sAsg (dFn gTuple (dCons (dFn gSrtSet (dCons (dOp fAdd (dVar 4) (dVar 7)) dNil)) dNil)) 7) sNext) (sExpr (dMt "list" gAppend (dVar 5) (dCons (dTup (dCons (dVar 4) (dCons (dVar 7) dNil))) dNil)))))
def rJoins (has draw : DSp) : DS :=
  (sSeq (sAsg (dCall has 2 0 (fun xs _ => xs) E00 (dCons (dVar 0) (dCons (dVar 1) dNil)) dNil) 4) (sSeq (sAsg (dLstR dNil) 5) (sSeq (sFor (dRng1 (dCons (dVar 2) dNil)) (gNm 6) (sSeq (sAsg (dIf (dTru (dVar 3)) (dVar 4) (dCall has 2 0 (fun xs _ => xs) E00 (dCons (dVar 0) (dCons (dVar 1) dNil)) dNil)) 4) (sSeq (sAsg (dCall has 2 0 (fun xs _ => xs) E00 (dCons (dVar 0) (dCons (dVar 1) dNil)) dNil) 7) (rTailJ draw)))) (sRet (dFn gTuple (dCons (dVar 5) dNil))))))
/-- drawn joins: each goes with the kind, of one base where they are of like base -/
structure JsOk (k : Kd) (same : Bool) (js : List (Vl × Vl)) : Prop where
  fit : ∀ j ∈ js, FitJ 80 k j
  sml : ∀ j ∈ js, Sml NB j.1 ∧ Sml NB j.2
  one : same = true → ∃ b, ∀ j ∈ js, j.1 = b
def spJoins : DSp := fun ws S Q _ => ∃ a o k many same, ws = [.ref a, kdD k, .int many, .bl same] ∧ k.Ok ∧ (0 ≤ many ∧ many ≤ 100) ∧ S a = some o ∧ FeedO o ∧ ∀ js o', js.length = many.toNat → JsOk k same js → FeedO o' → Q (.tup (js.map jD)) (su S a o')
theorem tailJ {k : Kd} (hk : k.Ok) {a p : Addr} {o : O} {S : Sto} {d : DEnds} {many z : D} {same : Bool} {b v : Vl} (hap : p ≠ a) {xs : List D} (hp : S p = some (.lst xs)) (ho : FeedO o) (hb : Fit 40 k b) (hbs : Sml NB b) (hv : Fit 40 k v) (hvs : Sml NB v)
    (q : ∀ v' o', FeedO o' → Fit 80 k v' → Sml NB v' → gAppend (.ref p) [.tup [vlD b, vlD v']] (su S a o') fun _ S' => d.nx [some (.ref a), some (kdD k), some many, some (.bl same), some (vlD b), some (.ref p), some z, some (vlD v')] S') :
    rTailJ spDraw d [some (.ref a), some (kdD k), some many, some (.bl same), some (vlD b), some (.ref p), some z, some (vlD v)] (su S a o) := by
  have hsz : sizeLine = 16777216 := rfl
  have hsb : scanBound = 4096 := rfl
  have ty : ∀ o', tyD "list" (.ref p) (su S a o') := fun o' => ty_lst (xs := xs) (by rw [su_ne hap]; exact hp)
  unfold rTailJ
  walk_at "rd"
  simp only [kdEq hk]
  cases k <;> cases b <;> cases v <;> try exact hb.elim
  all_goals try exact hv.elim
  all_goals simp only [Kd.isOwn, Kd.name, vlD, kdD]
  all_goals walk_at "rd"
  all_goals try exact ⟨ty _, by decide, q _ _ ho (hv.le (by decide)) hvs⟩
  · rename_i b v
    refine draw_su ho (by decide) (by decide) fun r o h0 h1 ho => ?_
    walk_at "rd"
    refine ite_by (fun _ => ?_) fun _ => ⟨ty _, by decide, q (.t v) _ ho (hv.le (by decide)) hvs⟩
    have l1 := hb.1
    have l2 := hv.1
    refine ⟨by simp only [List.length_map]; omega, ?_⟩
    rw [← List.map_append, gSrtSet_t]
    walk_at "rd"
    refine ⟨by simp only [List.length_append]; omega, ty _, by decide, q (.t (setI (b ++ v))) _ ho ⟨?_, setI_pw _⟩ fun i hi => ?_⟩
    · have := setI_len (b ++ v); rw [List.length_append] at this; omega
    · rcases List.mem_append.1 (setI_mem.1 hi) with hi | hi
      · exact hbs i hi
      · exact hvs i hi
  · rename_i b v
    have l1 : b.length ≤ 40 := hb
    have l2 : v.length ≤ 40 := hv
    refine ⟨by simp only [List.length_map]; omega, ?_⟩
    have e : cut (b.map D.int ++ v.map D.int) none (some 40) = ((b ++ v).take 40).map .int := by
      unfold cut
      rw [← List.map_append, ← List.map_drop, ← List.map_take]
      simp only [HT.sIx]
      rw [List.drop_zero, if_neg (by decide), Nat.sub_zero, List.length_map]
      congr 1
      rw [show (40 : Int).toNat = 40 from rfl]
      by_cases h : 40 ≤ (b ++ v).length
      · rw [Nat.min_eq_left h]
      · rw [Nat.min_eq_right (by omega), List.take_of_length_le (Nat.le_refl _), List.take_of_length_le (by omega)]
    rw [e]
    refine ⟨ty _, by decide, q (.t ((b ++ v).take 40)) _ ho ?_ fun i hi => ?_⟩
    · show ((b ++ v).take 40).length ≤ 80
      rw [List.length_take]; omega
    · rcases List.mem_append.1 (List.mem_of_mem_take hi) with hi | hi
      · exact hbs i hi
      · exact hvs i hi
theorem joins_ok {ws : List D} {S : Sto} {Q : DK} {E : XD} (h : spJoins ws S Q E) : rJoins spHas spDraw (endsD Q) (startD ["a", "b", "c", "d", "e", "f", "g", "h"] ws) S := by
  obtain ⟨a, o, k, many, same, rfl, hk, ⟨hm0, hm1⟩, hs, ho, q⟩ := h
  rw [← su_self hs]
  unfold rJoins
  have hsz : sizeLine = 16777216 := rfl
  walk_at "rd"
  refine has_su hk ho fun b o hb hbs ho => ?_
  simp only [dLstR, dNil]
  refine ⟨by decide, fun p hp => ⟨⟨by omega, by omega⟩, ?_⟩⟩
  have hap : p ≠ a := by rintro rfl; rw [su_same] at hp; cases hp
  refine sLoop_n (fun i env S' => ∃ b x y js o, env = [some (.ref a), some (kdD k), some (.int many), some (.bl same), some (vlD b), some (.ref p), x, y] ∧ S' = su (su S p (.lst (js.map jD))) a o ∧ FeedO o ∧ Fit 40 k b ∧ Sml NB b ∧ js.length = i ∧ JsOk k false js ∧ (same = true → ∀ j ∈ js, j.1 = b)) (fun _ _ _ _ _ => trivial)
    ⟨b, none, none, [], o, rfl, by rw [su_comm hap]; rfl, ho, hb, hbs, rfl, ⟨fun _ h => (nomatch h), fun _ h => (nomatch h), fun h => (nomatch h)⟩, fun _ _ h => (nomatch h)⟩ (fun i w hw hi env S' ⟨b, x, y, js, o, e1, e2, ho, hb, hbs, hl, hj, h1⟩ R q => ?_) fun env S' ⟨b, x, y, js, o, e1, e2, ho, hb, hbs, hl, hj, h1⟩ => ?_
  · subst e1 e2
    rw [List.length_map, List.length_range] at hi
    clear hw
    walk_at "rd"
    have fin : ∀ (b v : Vl) (o : O) (z : D), FeedO o → Fit 40 k b → Sml NB b → Fit 80 k v → Sml NB v → (same = true → ∀ j ∈ js, j.1 = b) →
        gAppend (.ref p) [.tup [vlD b, vlD v]] (su (su S p (.lst (js.map jD))) a o) (fun x S1 => R [some (.ref a), some (kdD k), some (.int many), some (.bl same), some (vlD b), some (.ref p), some z, some (vlD v)] S1) := by
      intro b v o z ho hb hbs hv hvs h1
      simp only [gAppend, su_ne hap, su_same]
      refine ⟨by rw [List.length_map]; omega, q _ _ ⟨b, _, _, js ++ [(b, v)], o, rfl, ?_, ho, hb, hbs, by rw [List.length_append, hl]; rfl, ⟨fun j hj' => ?_, fun j hj' => ?_, fun h => (nomatch h)⟩, fun hs j hj' => ?_⟩⟩
      · rw [su_comm (Ne.symm hap), su_su, List.map_append]; rfl
      all_goals rcases List.mem_append.1 hj' with hj' | hj'
      · exact hj.fit j hj'
      · rw [List.mem_singleton.1 hj']; exact ⟨hb.le (by decide), hv⟩
      · exact hj.sml j hj'
      · rw [List.mem_singleton.1 hj']; exact ⟨hbs, hvs⟩
      · exact h1 hs j hj'
      · rw [List.mem_singleton.1 hj']
    cases same with
    | true =>
      rw [if_pos rfl]
      refine has_su hk ho fun v o hv hvs ho => ?_
      exact tailJ hk hap (xs := js.map jD) su_same ho hb hbs hv hvs fun v' o' ho' hv' hvs' => fin _ _ _ _ ho' hb hbs hv' hvs' h1
    | false =>
      rw [if_neg (by decide)]
      refine has_su hk ho fun b o hb hbs ho => ?_
      refine has_su hk ho fun v o hv hvs ho => ?_
      exact tailJ hk hap (xs := js.map jD) su_same ho hb hbs hv hvs fun v' o' ho' hv' hvs' => fin _ _ _ _ ho' hb hbs hv' hvs' fun h => (nomatch h)
  · subst e1 e2
    rw [List.length_map, List.length_range] at hl
    walk_at "rd"
    have e : itsOf (su (su S p (.lst (js.map jD))) a o) (.ref p) = some (js.map jD) := by
      simp only [itsOf, su_ne hap, su_same]
    show gTuple [.ref p] (su (su S p (.lst (js.map jD))) a o) _
    have z : (endsD Q).rt (.tup (js.map jD)) (su (su S p (.lst (js.map jD))) a o) := by
      refine ⟨su S a o, ?_, q js o hl ⟨hj.fit, hj.sml, fun hs => ⟨b, h1 hs⟩⟩ ho⟩
      rw [su_comm hap]
      refine Sub.new ?_
      rw [su_ne hap] at hp ⊢
      exact hp
    show (match itsOf (su (su S p (.lst (js.map jD))) a o) (.ref p) with | some ys => (endsD Q).rt (.tup ys) (su (su S p (.lst (js.map jD))) a o) | none => False)
    rw [e]
    exact z
end DL


set_option Elab.async false
set_option linter.all false
set_option maxRecDepth 100000
set_option maxHeartbeats 4000000
namespace DL
open PySem PySem.Spec PyProof.Rows L2
/-! ### loops over lists of written things -/
section
variable {α : Type} {g : DG} {tt : DT} {te : DE} {env : Env'} {ok : Sto → Prop} {Q : List D → Sto → Prop} {S : Sto}
theorem cLoop_mapA (enc out : α → D) {l : List α} (hok : ok S) (hl : l.length ≤ sizeLine) (step : ∀ x ∈ l, ∀ R : D → Sto → Prop, R (out x) S → g (enc x) env S fun env2 S2 => te env2 S2 R) (q : Q (l.map out) S) : cLoop g dTrue te env ok Q (l.map enc) [] S := by
  suffices h : ∀ (l : List α) (acc : List D), acc.length + l.length ≤ sizeLine → (∀ x ∈ l, ∀ R : D → Sto → Prop, R (out x) S → g (enc x) env S fun env2 S2 => te env2 S2 R) → Q (acc ++ l.map out) S → cLoop g dTrue te env ok Q (l.map enc) acc S from
    h l [] (by simpa using hl) step (by simpa using q)
  intro l
  induction l with
  | nil => intro acc _ _ q; exact ⟨hok, by simpa using q⟩
  | cons x r ih =>
    intro acc hl st q
    refine ⟨hok, ?_⟩
    show g (enc x) env S fun env2 S2 => te env2 S2 fun y S4 => acc.length < sizeLine ∧ _
    refine st x (List.mem_cons_self ..) _ ⟨?_, ih _ ?_ (fun y hy => st y (List.mem_cons_of_mem _ hy)) (by rw [List.append_assoc]; exact q)⟩
    · simp only [List.length_cons] at hl; omega
    · simp only [List.length_cons, List.length_append, List.length_nil] at *; omega
theorem cLoop_filterA (enc out : α → D) (p : α → Bool) {l : List α} (hok : ok S) (hl : l.length ≤ sizeLine)
    (step : ∀ x ∈ l, ∀ (R1 : D → Sto → Prop) (R2 : Sto → Prop), (p x = true → R1 (out x) S) → (p x = false → R2 S) → g (enc x) env S fun env2 S2 => tt env2 S2 fun b S3 => if b = true then te env2 S3 R1 else R2 S3)
    (q : Q ((l.filter p).map out) S) : cLoop g tt te env ok Q (l.map enc) [] S := by
  suffices h : ∀ (l : List α) (acc : List D), acc.length + l.length ≤ sizeLine → (∀ x ∈ l, ∀ (R1 : D → Sto → Prop) (R2 : Sto → Prop), (p x = true → R1 (out x) S) → (p x = false → R2 S) → g (enc x) env S fun env2 S2 => tt env2 S2 fun b S3 => if b = true then te env2 S3 R1 else R2 S3) → Q (acc ++ (l.filter p).map out) S → cLoop g tt te env ok Q (l.map enc) acc S from
    h l [] (by simpa using hl) step (by simpa using q)
  intro l
  induction l with
  | nil => intro acc _ _ q; exact ⟨hok, by simpa using q⟩
  | cons x r ih =>
    intro acc hl st q
    refine ⟨hok, ?_⟩
    refine st x (List.mem_cons_self ..) _ _ (fun hp => ⟨?_, ih _ ?_ (fun y hy => st y (List.mem_cons_of_mem _ hy)) ?_⟩) fun hp => ih _ ?_ (fun y hy => st y (List.mem_cons_of_mem _ hy)) ?_
    · simp only [List.length_cons] at hl; omega
    · simp only [List.length_cons, List.length_append, List.length_nil] at *; omega
    · rw [List.filter_cons, if_pos hp] at q; rw [List.append_assoc]; exact q
    · simp only [List.length_cons] at *; omega
    · rw [List.filter_cons, if_neg (by rw [hp]; exact Bool.false_ne_true)] at q; exact q
end
section
variable {α : Type} {g : DG} {body : DS} {d : DEnds} {ok : Sto → Prop}
/-- a for over written things: J tells of those gone through -/
theorem sLoop_A (enc : α → D) (J : List α → Env' → Sto → Prop) {l : List α} {env : Env'} {S : Sto} (hok : ∀ pre env S, J pre env S → ok S) (j : J [] env S)
    (step : ∀ pre x post, l = pre ++ x :: post → ∀ env S, J pre env S → ∀ R : Env' → Sto → Prop, (∀ env' S', J (pre ++ [x]) env' S' → R env' S') → g (enc x) env S fun env2 S2 => body { d with nx := R, ct := R, bk := d.nx } env2 S2)
    (q : ∀ env' S', J l env' S' → d.nx env' S') : sLoop g body d ok (l.map enc) env S := by
  suffices h : ∀ (post pre : List α) (env : Env') (S : Sto), l = pre ++ post → J pre env S → sLoop g body d ok (post.map enc) env S from h l [] env S rfl j
  intro post
  induction post with
  | nil => intro pre env S e j; rw [List.append_nil] at e; subst e; exact ⟨hok _ _ _ j, q _ _ j⟩
  | cons x r ih =>
    intro pre env S e j
    refine ⟨hok _ _ _ j, ?_⟩
    refine step pre x r e env S j _ fun env' S' j' => ih (pre ++ [x]) env' S' (by rw [List.append_assoc]; exact e) j'
end
/-! ### plain things: numbers, rows, joins -/
theorem bks_ints : ∀ ns : List Int, bks (ns.map .int) = ns.length
  | [] => rfl
  | n :: ns => by simp only [List.map_cons, bks, bk, bks_ints ns, List.length_cons]; omega
theorem gds_ints {B d L : Nat} {ns : List Int} (h : ∀ i ∈ ns, i.natAbs ≤ B) (hl : ns.length ≤ L) : Gds B d L (ns.map .int) :=
  ⟨fun x hx => by obtain ⟨i, hi, rfl⟩ := List.mem_map.1 hx; exact (gd_int (d := 0) (b := 0) (h i hi)).ok, fun x hx => by obtain ⟨i, hi, rfl⟩ := List.mem_map.1 hx; exact Nat.zero_le _, by rw [bks_ints]; exact hl⟩
theorem vl_gd {B L : Nat} {k : Kd} {v : Vl} (h : Fit L k v) (hs : Sml B v) : Gd B 1 L (vlD v) := by
  cases v with
  | n i => exact gd_int hs
  | t ns =>
    have hl : ns.length ≤ L := by cases k <;> first | exact h.1 | exact h | exact h.elim
    exact gd_tup.2 (gds_ints hs hl)
theorem jD_gd {B L : Nat} {k : Kd} {j : Vl × Vl} (h : FitJ L k j) (h1 : Sml B j.1) (h2 : Sml B j.2) : Gd B 2 (2 * L + 2) (jD j) :=
  gd_tup.2 ((Gds.cons (vl_gd h.b h1) (gds1 (vl_gd h.t h2))).le (Nat.le_refl _) (Nat.le_refl _) (by omega))
theorem gds_map {α : Type} {f : α → D} {m d b : Nat} : ∀ {l : List α}, (∀ x ∈ l, Gd m d b (f x)) → Gds m d (l.length * (b + 1)) (l.map f)
  | [], _ => gds_nil
  | x :: r, h => (Gds.cons (h x (List.mem_cons_self ..)) (gds_map fun y hy => h y (List.mem_cons_of_mem _ hy))).le (Nat.le_refl _) (Nat.le_refl _) (by rw [List.length_cons, Nat.add_mul]; omega)
/-- two repr of the same -/
theorem ne_same {m d b : Nat} {x y : D} {S : Sto} {Q : DK} (h : Gd m d b x) (hm : m < 10 ^ 570) (hd : d ≤ 60) (hb : b ≤ 29000) (e : x = y) (q : Q (.bl false) S) :
    gRepr [x] S fun u S1 => gRepr [y] S1 fun v S2 => fNe u v S2 Q := by
  subst e
  refine h.repr hm hd hb (h.repr hm hd hb (ne_str ?_))
  rw [decide_eq_true rfl]
  exact q
theorem atI_nat {α : Type} {xs : List α} {n : Nat} {x : α} (h : xs[n]? = some x) : atI xs (n : Int) = some x := by
  have hl : n < xs.length := by
    by_cases hl : n < xs.length
    · exact hl
    · rw [List.getElem?_eq_none (by omega)] at h; cases h
  obtain ⟨y, e1, e2⟩ := atI_lt (xs := xs) (i := (n : Int)) (by omega) (by omega)
  rw [Int.toNat_natCast, h] at e1
  rw [e2, e1]
theorem atI_0 {α : Type} {x : α} {xs : List α} : atI (x :: xs) 0 = some x := atI_nat (n := 0) rfl
theorem atI_1 {α : Type} {x y : α} {xs : List α} : atI (x :: y :: xs) 1 = some y := atI_nat (n := 1) rfl
theorem atI_2 {α : Type} {x y z : α} {xs : List α} : atI (x :: y :: z :: xs) 2 = some z := atI_nat (n := 2) rfl
theorem atI_3 {α : Type} {x y z u : α} {xs : List α} : atI (x :: y :: z :: u :: xs) 3 = some u := atI_nat (n := 3) rfl
theorem sz1 : sizeLine = 16777216 := rfl
theorem qOpt_s {x : D} {S : Sto} {Q : DK} : qOpt (some x) S Q = Q x S := rfl
/-! ### how far numbers go -/
theorem Sml.le {B C : Nat} (h : B ≤ C) : ∀ {v : Vl}, Sml B v → Sml C v
  | .n _, s => Nat.le_trans s h
  | .t _, s => fun i hi => Nat.le_trans (s i hi) h
/-- the numbers written in a sum -/
def Sm.Lit (B : Nat) : Sm → Prop
  | .num i => i.natAbs ≤ B
  | .slot _ => True
  | .bin _ a b => a.Lit B ∧ b.Lit B
theorem Sm.Lit.le {B C : Nat} (h : B ≤ C) : ∀ {e : Sm}, e.Lit B → e.Lit C
  | .num _, s => Nat.le_trans s h
  | .slot _, _ => trivial
  | .bin _ _ _, s => ⟨s.1.le h, s.2.le h⟩
def Kd.Lit (B : Nat) : Kd → Prop
  | .own e => e.Lit B
  | _ => True
theorem worth_le {B : Nat} {g : Str → Int} (hB : 1 ≤ B) (hg : ∀ x, (g x).natAbs ≤ B) : ∀ e : Sm, e.Lit B → (e.worth g).natAbs ≤ 2 ^ e.ht * B
  | .num i, h => by show i.natAbs ≤ 2 ^ 0 * B; rw [Nat.pow_zero, Nat.one_mul]; exact h
  | .slot x, h => by show (g x).natAbs ≤ 2 ^ 0 * B; rw [Nat.pow_zero, Nat.one_mul]; exact hg x
  | .bin w a b, h => by
    have h1 := worth_le hB hg a h.1
    have h2 := worth_le hB hg b h.2
    have p1 : 2 ^ a.ht * B ≤ 2 ^ (max a.ht b.ht) * B := Nat.mul_le_mul_right _ (Nat.pow_le_pow_right (by decide) (by omega))
    have p2 : 2 ^ b.ht * B ≤ 2 ^ (max a.ht b.ht) * B := Nat.mul_le_mul_right _ (Nat.pow_le_pow_right (by decide) (by omega))
    have e : 2 ^ (Sm.bin w a b).ht * B = 2 ^ (max a.ht b.ht) * B + 2 ^ (max a.ht b.ht) * B := by
      show 2 ^ (max a.ht b.ht + 1) * B = _
      rw [Nat.pow_succ, Nat.mul_two, Nat.add_mul]
    have p3 : 1 ≤ 2 ^ (max a.ht b.ht) * B := Nat.mul_pos (Nat.pow_pos (by decide)) hB
    rw [e]
    generalize 2 ^ (max a.ht b.ht) * B = M at *
    show (w.val (a.worth g) (b.worth g)).natAbs ≤ _
    cases w
    · show (a.worth g + b.worth g).natAbs ≤ _; omega
    · show (a.worth g - b.worth g).natAbs ≤ _; omega
    · show (b2 (decide (a.worth g < b.worth g))).natAbs ≤ _
      have := b2_le (decide (a.worth g < b.worth g))
      omega
theorem g3_le {B : Nat} {b m t : Int} (h1 : b.natAbs ≤ B) (h2 : m.natAbs ≤ B) (h3 : t.natAbs ≤ B) (x : Str) : (g3 b m t x).natAbs ≤ B := by
  unfold g3
  split
  · exact h1
  · split
    · exact h2
    · split
      · exact h3
      · exact Nat.zero_le _
theorem merge_sml {B L : Nat} {k : Kd} {b m t : Vl} (hB : 1 ≤ B) (hl : k.Lit B) (fb : Fit L k b) (fm : Fit L k m) (ft : Fit L k t) (sb : Sml B b) (sm : Sml B m) (st : Sml B t) : Sml ((3 + 2 ^ k.ht) * B) (mergeV k b m t) := by
  have e : (3 + 2 ^ k.ht) * B = 3 * B + 2 ^ k.ht * B := Nat.add_mul ..
  have p : 1 * B ≤ 2 ^ k.ht * B := Nat.mul_le_mul_right _ (Nat.pow_pos (by decide))
  rw [e]
  have hx : ∀ {x : Vl}, Sml B x → Sml (3 * B + 2 ^ k.ht * B) x := fun h => h.le (by omega)
  cases k with
  | plain => exact hx st
  | sum =>
    cases b <;> cases m <;> cases t <;> first | exact fb.elim | exact fm.elim | exact ft.elim | skip
    have s1 : _ ≤ _ := sb
    have s2 : _ ≤ _ := sm
    have s3 : _ ≤ _ := st
    show Int.natAbs (_ + _ - _) ≤ _
    omega
  | most =>
    cases m <;> cases t <;> first | exact fm.elim | exact ft.elim | skip
    have s2 : _ ≤ _ := sm
    have s3 : _ ≤ _ := st
    show Int.natAbs (max _ _) ≤ _
    omega
  | set =>
    cases b <;> cases m <;> cases t <;> first | exact fb.elim | exact fm.elim | exact ft.elim | skip
    intro i hi
    unfold mset at hi
    rw [setI_mem, List.mem_append, List.mem_filter, List.mem_filter] at hi
    rcases hi with hi | hi
    · exact hx sm i hi.1
    · exact hx st i hi.1
  | list =>
    cases b <;> cases m <;> cases t <;> first | exact fb.elim | exact fm.elim | exact ft.elim | skip
    intro i hi
    rcases List.mem_append.1 hi with hi | hi
    · exact hx sm i hi
    · exact hx st i (List.mem_of_mem_drop hi)
  | own ex =>
    cases b <;> cases m <;> cases t <;> first | exact fb.elim | exact fm.elim | exact ft.elim | skip
    have := worth_le hB (g3_le sb sm st) ex hl
    have p2 : 2 ^ ex.ht * B ≤ 2 ^ (Kd.own ex).ht * B := Nat.mul_le_mul_right _ (Nat.pow_le_pow_right (by decide) (Nat.le_succ _))
    show (ex.worth _).natAbs ≤ _
    omega
theorem go_sml {B L L1 : Nat} {k : Kd} (hB : 1 ≤ B) (hl : k.Lit B) : ∀ (js : List (Vl × Vl)) (m : Vl) (c : Nat), Fit L k m → (∀ j ∈ js, FitJ L1 k j) → Sml ((3 + 2 ^ k.ht) ^ c * B) m → (∀ j ∈ js, Sml B j.1 ∧ Sml B j.2) → Sml ((3 + 2 ^ k.ht) ^ (c + js.length) * B) (goV k m js)
  | [], m, c, _, _, h, _ => h
  | j :: js, m, c, hf, hj, h, hs => by
    have hj1 := hj j (List.mem_cons_self ..)
    have hs1 := hs j (List.mem_cons_self ..)
    have p1 : 1 * B ≤ (3 + 2 ^ k.ht) ^ c * B := Nat.mul_le_mul_right _ (Nat.pow_pos (Nat.lt_of_lt_of_le (by decide : 0 < 3) (Nat.le_add_right ..)))
    have hm : Sml ((3 + 2 ^ k.ht) ^ (c + 1) * B) (mergeV k j.1 m j.2) := by
      have := merge_sml (L := L + L1) (B := (3 + 2 ^ k.ht) ^ c * B) (k := k) (b := j.1) (m := m) (t := j.2) (by omega) ?_ (hj1.b.le (by omega)) (hf.le (by omega)) (hj1.t.le (by omega)) (hs1.1.le (by omega)) h (hs1.2.le (by omega))
      · rw [Nat.pow_succ, Nat.mul_comm ((3 + 2 ^ k.ht) ^ c), Nat.mul_assoc]; exact this
      · cases k <;> first | trivial | exact Sm.Lit.le (by omega) hl
    have := go_sml hB hl js (mergeV k j.1 m j.2) (c + 1) (merge_fit hj1.b hf hj1.t) (fun x hx => hj x (List.mem_cons_of_mem _ hx)) hm fun x hx => hs x (List.mem_cons_of_mem _ hx)
    rw [List.length_cons, show c + (js.length + 1) = c + 1 + js.length by omega]
    exact this
end DL


set_option Elab.async false
set_option linter.all false
set_option maxRecDepth 100000
set_option maxHeartbeats 4000000
namespace DL
open PySem PySem.Spec PyProof.Rows L2 PySem.AutoSeq1
theorem ext_tup (l : Addr) (items : Array Value) (n : Nat) (b : Addr) (items2 : Array Value) (n2 : Nat) (sl : Array (Option Value)) (hs0 : ¬(!items.isEmpty && Builtin.List.listTooLong (items.size + items2.size)) = true) (hs1 : items.size ≤ sizeLine) (hs2 : items.size + items2.size ≤ sizeLine + 1) :
    Meets (Builtin.«list.extend» ⟨[.ref l, .ref b], []⟩) (fun _ R s => s.heap.get? l = some { cls := .type "list", dict := none, data := .seq items n, slots := #[] } ∧ s.heap.get? b = some { cls := .type "tuple", dict := none, data := .seq items2 n2, slots := sl } ∧ R (.ok (.ret Value.none)) { s with heap := s.heap.update l (Obj.mapSeq fun x => x ++ items2), toks := s.toks }) :=
  .of_wp fun prog w A R s h => by
    obtain ⟨hp, g, d, tk, os⟩ := s; obtain ⟨hl, hb, h⟩ := h; have f1 := PySem.AutoSeq1.idx_int; have f2 := PySem.AutoSeq1.sub_tuple_tuple; have f3 := PySem.AutoSeq1.sub_list_list; have f4 := PySem.AutoSeq1.sub_tuple_list; have f5 := PySem.AutoSeq1.sub_list_tuple;
    have hz' : (items ++ items2).size ≤ sizeLine + 1 := by rw [Array.size_append]; exact hs2
    wp_walk using (wpAny_updateSeq hl rfl (hz := hs1) (_hz' := hz')), wpAny_loadPart' hl, wpAny_loadPart' hb; exact ⟨_, rfl, h⟩
section
variable {X : Cx} {wi : Wi}
/-- what a list may be lengthened by -/
def extOf (S : Sto) : D → Option (List D)
  | .tup xs => some xs
  | x => lsOf S x
def gExt (x : D) (ys : List D) (S : Sto) (Q : DK) : Prop :=
  match x, ys with
  | .ref a, [y] => (match S a, extOf S y with
    | some (.lst xs), some zs => xs.length + zs.length ≤ sizeLine ∧ Q .non (su S a (.lst (xs ++ zs)))
    | _, _ => False)
  | _, _ => False
theorem tExt : MtD X wi "list.extend" gExt := by
  intro pins s σ H v vs vv us Q' I rv rvs ⟨Ih, S, x, ys, Q, sim, rx, rys, h, k⟩
  unfold gExt at h
  split at h
  · rename_i a y
    split at h
    · rename_i xs zs e e2
      by_cases ht : ∃ ts, y = .tup ts
      · obtain ⟨ts, rfl⟩ := ht
        have e2' : some ts = some zs := e2
        cases e2'
        cases rx
        cases rys with
        | cons ry rn =>
          cases rn
          cases ry with
          | @tup b _ ws g rr =>
            obtain ⟨u, rfl, ru⟩ := vals1 rvs
            cases ru
            cases rv
            obtain ⟨vs1, ha, r1⟩ := st_lst sim e
            obtain ⟨z, its, n, r, hl, e0⟩ := I.lstM ha
            obtain ⟨jts, r2, p2, hz2⟩ := I.tuple (SqT.le sim.im g.sq)
            obtain ⟨⟨oc, od, odt, osl⟩, n2, ho, hc, hd, hdt⟩ := tup_plain I sim.im g p2
            simp only at hc hd hdt
            subst hc hd hdt
            have l1 := r.length
            have l2 := r2.length
            have l3 := r1.length
            have l4 := rr.length
            have hsz : its.toArray.size + jts.toArray.size ≤ sizeLine := by rw [List.size_toArray, List.size_toArray]; omega
            have hlong : ¬ (!its.toArray.isEmpty && Builtin.List.listTooLong (its.toArray.size + jts.toArray.size)) = true := by
              rw [notLongL hsz, Bool.and_false]
              exact Bool.false_ne_true
            refine call_meets PySem.F.slot_list_extend ⟨_, e0, rfl⟩ PySem.F.entry_list_extend (PySem.F.args_list_extend_2 _ _)
              (ext_tup a its.toArray n b jts.toArray n2 osl hlong (by rw [List.size_toArray]; omega) (by omega)) ⟨e0, ho, ?_⟩
            obtain ⟨s2, e2⟩ := sim.wr (o := .lst (xs ++ zs)) (u := .lst (vs1 ++ ws)) e (show RDs X.K Ih _ _ from r1.append rr)
            refine ⟨.non, _, I.lset (its' := its ++ jts) ha e0 (by simp) (r.append r2) ?_, rfl, k _ _ _ _ _ e2 s2 .non h.2⟩
            rw [List.length_append]
            omega
      · have e3 : lsOf S y = some zs := by
          cases y <;> first | exact e2 | exact absurd ⟨_, rfl⟩ ht
        refine tExtend pins s σ H v vs vv us Q' I rv rvs ⟨Ih, S, _, _, Q, sim, rx, rys, ?_, k⟩
        simp only [gExtend, e, e3]
        exact h
    · exact h.elim
  · exact h.elim
theorem gExt_l {a : Addr} {xs ys : List D} {S : Sto} {Q : DK} (h : S a = some (.lst xs)) : gExt (.ref a) [.lst ys] S Q = (xs.length + ys.length ≤ sizeLine ∧ Q .non (su S a (.lst (xs ++ ys)))) := by
  simp only [gExt, h, extOf, lsOf]
theorem gExt_t {a : Addr} {xs ys : List D} {S : Sto} {Q : DK} (h : S a = some (.lst xs)) : gExt (.ref a) [.tup ys] S Q = (xs.length + ys.length ≤ sizeLine ∧ Q .non (su S a (.lst (xs ++ ys)))) := by
  simp only [gExt, h, extOf]
theorem gApp_l {a : Addr} {xs : List D} {y : D} {S : Sto} {Q : DK} (h : S a = some (.lst xs)) : gAppend (.ref a) [y] S Q = (xs.length < sizeLine ∧ Q .non (su S a (.lst (xs ++ [y])))) := by
  simp only [gAppend, h]
end
end DL


set_option Elab.async false
set_option linter.all false
set_option maxRecDepth 100000
set_option maxHeartbeats 4000000
namespace DL
open PySem PySem.Spec PyProof.Rows L2
/-! ### list(range(..)), tuple(range(..)) -/
def rgD (a b : Int) : List D := (List.range (b - a).toNat).map fun i => .int (a + (i : Nat))
abbrev DR := Env' → Sto → (Int → Int → Sto → Prop) → Prop
def liftR (K : PySem.W.Frag) (wi : Wi) (t : DR) : L2.St → Hp → (Int → Int → Hp → Prop) → Prop := fun σ H Q' => ∃ I env S Q, Sim K wi I S H ∧ ER K I env σ ∧ t env S Q ∧ ∀ I' a b S' H', Ext I S H I' S' H' → Sim K wi I' S' H' → Q a b S' → Q' a b H'
abbrev MR (X : Cx) (wi : Wi) (e : Expr) (t : DR) : Prop := PRg X e (liftR X.K wi t)
theorem PRg.of {X : Cx} {e : Expr} {t t' : L2.St → Hp → (Int → Int → Hp → Prop) → Prop} (h : PRg X e t) (i : ∀ σ H Q, t' σ H Q → t σ H Q) : PRg X e t' := fun pins s σ H Q I hw => h pins s σ H Q I (i σ H Q hw)
def dR1 (ta : DE) : DR := fun env S Q => ta env S fun w S1 => match w with
  | .int n => Q 0 n S1
  | _ => False
def dR2 (ta tb : DE) : DR := fun env S Q => ta env S fun w S1 => match w with
  | .int i => tb env S1 fun u S2 => (match u with
    | .int j => Q i j S2
    | _ => False)
  | _ => False
def dLstRg (t : DR) : DE := fun env S Q => t env S fun a b S1 => RgOk a b ∧ Q (.lst (rgD a b)) S1
def dLstRgR (t : DR) : DE := fun env S Q => t env S fun a b S1 => RgOk a b ∧ ∀ p, S1 p = none → Q (.ref p) (su S1 p (.lst (rgD a b)))
def dTupRg (t : DR) : DE := fun env S Q => t env S fun a b S1 => RgOk a b ∧ Q (.tup (rgD a b)) S1
theorem rds_rg {K : PySem.W.Frag} {I : Hp} (a b : Int) : RDs K I (rgD a b) (rgV a b) := by
  unfold rgD rgV
  generalize List.range (b - a).toNat = l
  induction l with
  | nil => exact .nil
  | cons x r ih => exact .cons (.int _) ih
section
variable {X : Cx} {wi : Wi} {a b e : Expr} {ta tb : DE} {t : DR} {p pos : Pos}
theorem mR1 (hm : X.mg "range" = none) (ha : ME X wi a ta) (hg : Gl X "range" := by rfl) (na : starEach [a] X.env = (false, eval a X.env) :: starEach [] X.env := by rfl) : MR X wi (.Call (.Name "range" p) [a] [] pos) (dR1 ta) := by
  refine PRg.of (prg_1 hg hm ha na) fun σ H Q' h => ?_
  obtain ⟨I, env, S, Q, sim, er, h, k⟩ := h
  refine ⟨I, env, S, _, sim, er, h, fun I1 w1 v1 S1 H1 e1 s1 r1 h1 => ?_⟩
  cases w1 <;> try exact h1.elim
  cases r1
  exact ⟨_, rfl, k I1 _ _ S1 H1 e1 s1 h1⟩
theorem mR2 (hm : X.mg "range" = none) (ha : ME X wi a ta) (hb : ME X wi b tb) (hg : Gl X "range" := by rfl) (na : starEach [a, b] X.env = (false, eval a X.env) :: starEach [b] X.env := by rfl)
    (nb : starEach [b] X.env = (false, eval b X.env) :: starEach [] X.env := by rfl) (hp : (backTo pos (starEach [b] X.env)).any (·.1) = false := by rfl) : MR X wi (.Call (.Name "range" p) [a, b] [] pos) (dR2 ta tb) := by
  refine PRg.of (prg_2 hg hm ha hb na nb hp) fun σ H Q' h => ?_
  obtain ⟨I, env, S, Q, sim, er, h, k⟩ := h
  refine ⟨I, env, S, _, sim, er, h, fun I1 w1 v1 S1 H1 e1 s1 r1 h1 => ?_⟩
  cases w1 <;> try exact h1.elim
  cases r1
  refine ⟨I1, env, S1, _, s1, er.le e1.le, h1, fun I2 w2 v2 S2 H2 e2 s2 r2 h2 => ?_⟩
  cases w2 <;> try exact h2.elim
  cases r2
  exact ⟨_, _, rfl, rfl, k I2 _ _ S2 H2 (e1.trans e2) s2 h2⟩
theorem mLstRg (hc : X.calm = true) (hm : X.mg "list" = none) (he : MR X wi e t) (hg : Gl X "list" := by rfl) (na : starEach [e] X.env = (false, eval e X.env) :: starEach [] X.env := by rfl) : ME X wi (.Call (.Name "list" p) [e] [] pos) (dLstRg t) := by
  refine PE.of (pe_listRg hc hg hm he na) fun σ H Q' h => ?_
  obtain ⟨I, env, S, Q, sim, er, h, k⟩ := h
  refine ⟨I, env, S, _, sim, er, h, fun I1 a b S1 H1 e1 s1 h1 => ⟨h1.1, fun p hp => ?_⟩⟩
  exact (k.ext e1).newI s1 hp (.lst upd_same ((rds_rg a b).newI (s1.free hp))) h1.2
theorem mLstRgR (hc : X.calm = true) (hm : X.mg "list" = none) (he : MR X wi e t) (hg : Gl X "list" := by rfl) (na : starEach [e] X.env = (false, eval e X.env) :: starEach [] X.env := by rfl) : ME X wi (.Call (.Name "list" p) [e] [] pos) (dLstRgR t) := by
  refine PE.of (pe_listRg hc hg hm he na) fun σ H Q' h => ?_
  obtain ⟨I, env, S, Q, sim, er, h, k⟩ := h
  refine ⟨I, env, S, _, sim, er, h, fun I1 a b S1 H1 e1 s1 h1 => ⟨h1.1, fun p hp => ?_⟩⟩
  exact (k.ext e1).newS s1 hp (show RO X.K I1 (.lst (rgD a b)) (.lst (rgV a b)) from rds_rg a b) h1.2
theorem pe_tupRgF {te} (hc : X.calm = true) (hg : Gl X "tuple") (hm : X.mg "tuple" = none) (he : PRg X e te) (na : starEach [e] X.env = (false, eval e X.env) :: starEach [] X.env := by rfl) : PE X (.Call (.Name "tuple" p) [e] [] pos) (fun σ H Q => te σ H fun a b H1 => RgOk a b ∧ QT Q H1 (rgV a b)) := by
  refine ⟨fun pins s σ H Q I h => ?_⟩
  refine Call_ (ld_blt I hg hm boot_tuple (PyProof.Rows.callWith_type1 (args_cons (thn (he pins s σ H _ I h) fun x s1 ⟨r, a, b, t, u, v, H1, ex, hr, I1, ok, q⟩ => args_nil ?_) na) na))
  subst ex
  obtain ⟨b1, b2, b3, b4, b5⟩ := ok
  refine call_tuple_range (n := (b - a).toNat) (I1.ok.hd hc) hr (small_one b1 b2 b3 b4) (rangeSize_nat a b) b5 fun h' tk acc hk hi => ?_
  have I2 : Inv X pins σ H1 { s1 with heap := h', toks := tk } := I1.kept hk
  have hv := vals_rg hi
  have I3 : Inv X pins σ H1 { s1 with heap := h' } := I1.kept (t' := s1.toks) hk
  obtain ⟨J, hn⟩ := laid_tup (s := s1) (h' := h') (tk := tk) I2 hv (by rw [rgV_length, sizeLine_eq]; omega)
  rw [show acc = acc.toList.toArray from by simp]
  exact ⟨.ref h'.objs.size, _, J, rfl, q _ _ tob_nd hn⟩
theorem mTupRg (hc : X.calm = true) (hm : X.mg "tuple" = none) (he : MR X wi e t) (hg : Gl X "tuple" := by rfl) (na : starEach [e] X.env = (false, eval e X.env) :: starEach [] X.env := by rfl) : ME X wi (.Call (.Name "tuple" p) [e] [] pos) (dTupRg t) := by
  refine PE.of (pe_tupRgF hc hg hm he na) fun σ H Q' h => ?_
  obtain ⟨I, env, S, Q, sim, er, h, k⟩ := h
  refine ⟨I, env, S, _, sim, er, h, fun I1 a b S1 H1 e1 s1 h1 => ⟨h1.1, (k.ext e1).newT s1 (rds_rg a b) h1.2⟩⟩
end
end DL


set_option Elab.async false
set_option linter.all false
set_option maxRecDepth 100000
set_option maxHeartbeats 4000000
namespace DL
open PySem PySem.Spec PyProof.Rows L2
/-! ### what is no more looked at is forgotten: names, and what stands in the store -/
def sFgt (vs : List Nat) (t : DS) : DS := fun d env S => t { d with nx := fun env' S' => ∃ S0, Sub S0 S' ∧ d.nx (wipeD env' vs) S0, ct := fun env' S' => ∃ S0, Sub S0 S' ∧ d.ct (wipeD env' vs) S0, bk := fun env' S' => ∃ S0, Sub S0 S' ∧ d.bk (wipeD env' vs) S0 } env S
def sWp (vs : List Nat) (t : DS) : DS := fun d env S => t d (wipeD env vs) S
theorem er_wipe {K : PySem.W.Frag} {I : Hp} {env : Env'} {σ : L2.St} (h : ER K I env σ) : ∀ vs : List Nat, ER K I (wipeD env vs) σ
  | [] => h
  | v :: vs => by
    have ih := er_wipe h vs
    refine ⟨by show ((wipeD env vs).set v none).length = σ.length; rw [List.length_set]; exact ih.len, fun j x e => ?_⟩
    have e' : ((wipeD env vs).set v none)[j]? = some (some x) := e
    by_cases hj : v = j
    · subst hj
      by_cases hl : v < (wipeD env vs).length
      · rw [List.getElem?_set_self hl] at e'; cases e'
      · rw [List.getElem?_eq_none (by simpa using hl)] at e'; cases e'
    · rw [List.getElem?_set_ne hj] at e'; exact ih.at' j x e'
theorem KN.fgt {K : PySem.W.Frag} {wi : Wi} {I H : Hp} {S : Sto} {Q : Env' → Sto → Prop} {Q' : L2.St → Hp → Prop} (k : KN K wi I S H Q Q') (vs : List Nat) : KN K wi I S H (fun env' S' => ∃ S0, Sub S0 S' ∧ Q (wipeD env' vs) S0) Q' :=
  fun I' env σ S' H' e s er ⟨S0, hs, q⟩ => k I' _ σ S0 H' (e.sub hs) (s.sub hs) (er_wipe er vs) q
section
variable {X : Cx} {wi : Wi}
theorem mFgt (vs : List Nat) {b : List Stmt} {t : DS} (h : MSs X wi b t) : MSs X wi b (sFgt vs t) := PSs.of h fun D σ H q => by
  obtain ⟨I, env, S, d, sim, er, q, k⟩ := q
  exact ⟨I, env, S, _, sim, er, q, ⟨k.nx.fgt vs, k.rt, k.bk.fgt vs, k.ct.fgt vs⟩⟩
theorem mWp (vs : List Nat) {b : Stmt} {t : DS} (h : MS X wi b t) : MS X wi b (sWp vs t) := PS.of h fun D σ H q => by
  obtain ⟨I, env, S, d, sim, er, q, k⟩ := q
  exact ⟨I, _, S, d, sim, er_wipe er vs, q, k⟩
end
/-! ### loops over written things, the names exactly known -/
section
variable {α : Type} {g : DG} {body : DS} {d : DEnds} {ok : Sto → Prop}
/-- a for whose names and store are told by what was gone through -/
theorem fLoop (enc : α → D) (st : List α → Env' × Sto) (I : List α → Prop) {l : List α} {env : Env'} {S : Sto} (hok : ∀ S, ok S) (h0 : (env, S) = st []) (i0 : I [])
    (step : ∀ pre x post, l = pre ++ x :: post → I pre → ∀ R : Env' → Sto → Prop, (I (pre ++ [x]) → R (st (pre ++ [x])).1 (st (pre ++ [x])).2) → g (enc x) (st pre).1 (st pre).2 fun env2 S2 => body { d with nx := R, ct := R, bk := d.nx } env2 S2)
    (q : I l → d.nx (st l).1 (st l).2) : sLoop g body d ok (l.map enc) env S := by
  have key : ∀ (post pre : List α), l = pre ++ post → I pre → sLoop g body d ok (post.map enc) (st pre).1 (st pre).2 := by
    intro post
    induction post with
    | nil => intro pre e hi; rw [List.append_nil] at e; subst e; exact ⟨hok _, q hi⟩
    | cons x r ih => intro pre e hi; exact ⟨hok _, step pre x r e hi _ fun h2 => ih (pre ++ [x]) (by rw [List.append_assoc]; exact e) h2⟩
  have e1 : env = (st []).1 := by rw [← h0]
  have e2 : S = (st []).2 := by rw [← h0]
  rw [e1, e2]
  exact key l [] rfl i0
end
end DL


set_option Elab.async false
set_option linter.all false
set_option maxRecDepth 100000
set_option maxHeartbeats 4000000
namespace DL
open PySem PySem.Spec PyProof.Rows L2
/-! ### + and * of lists whose answer is changed later -/
def fAddR (x y : D) (S : Sto) (Q : DK) : Prop := match lsOf S x, lsOf S y with
  | some xs, some ys => xs.length + ys.length ≤ sizeLine ∧ ∀ p, S p = none → Q (.ref p) (su S p (.lst (xs ++ ys)))
  | _, _ => False
def fMulR (x y : D) (S : Sto) (Q : DK) : Prop := match lsOf S x, y with
  | some xs, .int k => (-(2 ^ 63) ≤ k ∧ k < 2 ^ 63 ∧ xs.length * k.toNat ≤ sizeLine) ∧ ∀ p, S p = none → Q (.ref p) (su S p (.lst (List.replicate k.toNat xs).flatten))
  | _, _ => False
section
variable {X : Cx} {wi : Wi}
theorem oAddR : OpM X wi (binaryOp .Add) fAddR := by
  intro pins s σ H v u vv uu Q' I rv ru ⟨Ih, S, x, y, Q, sim, rx, ry, h, k⟩
  unfold fAddR at h
  split at h
  · rename_i xs ys e1 e2
    obtain ⟨a, vs, rfl, h1, r1⟩ := lsOf_at sim rx e1
    obtain ⟨b, us, rfl, h2, r2⟩ := lsOf_at sim ry e2
    refine op_cat pins s σ H _ _ _ _ Q' I rv ru ⟨a, b, vs, us, rfl, rfl, h1, h2, by rw [← r1.length, ← r2.length]; exact h.1, fun p hp => ?_⟩
    exact k.newS sim hp (show RO X.K Ih (.lst (xs ++ ys)) (.lst (vs ++ us)) from r1.append r2) h.2
  · exact h.elim
theorem oMulR : OpM X wi (binaryOp .Mult) fMulR := by
  intro pins s σ H v u vv uu Q' I rv ru ⟨Ih, S, x, y, Q, sim, rx, ry, h, k⟩
  unfold fMulR at h
  split at h
  · rename_i xs j e1
    obtain ⟨a, vs, rfl, h1, r1⟩ := lsOf_at sim rx e1
    cases ry
    refine op_rep pins s σ H _ _ _ _ Q' I rv ru ⟨a, _, vs, rfl, rfl, h1, h.1.1, h.1.2.1, by rw [← r1.length]; exact h.1.2.2, fun p hp => ?_⟩
    exact k.newS sim hp (show RO X.K Ih (.lst (List.replicate j.toNat xs).flatten) (.lst (List.replicate j.toNat vs).flatten) from r1.rep _) h.2
  · exact h.elim
end
section
variable {S : Sto} {Q : DK} {a b : Addr} {xs ys : List D}
theorem fAddR_rl (h : S a = some (.lst xs)) : fAddR (.ref a) (.lst ys) S Q = (xs.length + ys.length ≤ sizeLine ∧ ∀ p, S p = none → Q (.ref p) (su S p (.lst (xs ++ ys)))) := by simp only [fAddR, lsOf, h]
theorem fAddR_ll : fAddR (.lst xs) (.lst ys) S Q = (xs.length + ys.length ≤ sizeLine ∧ ∀ p, S p = none → Q (.ref p) (su S p (.lst (xs ++ ys)))) := rfl
theorem fAdd_lr (h : S a = some (.lst xs)) : fAdd (.lst ys) (.ref a) S Q = (ys.length + xs.length ≤ sizeLine ∧ Q (.lst (ys ++ xs)) S) := by simp only [fAdd, lsOf, h]
theorem gTuple_r (h : S a = some (.lst xs)) : gTuple [.ref a] S Q = Q (.tup xs) S := by simp only [gTuple, itsOf, h]
theorem gList_r (h : S a = some (.lst xs)) : gList [.ref a] S Q = Q (.lst xs) S := by simp only [gList, itsOf, h]
theorem gListR_l : gListR [.lst xs] S Q = ∀ p, S p = none → Q (.ref p) (su S p (.lst xs)) := rfl
theorem gListR_t : gListR [.tup xs] S Q = ∀ p, S p = none → Q (.ref p) (su S p (.lst xs)) := rfl
theorem gListR_r (h : S a = some (.lst xs)) : gListR [.ref a] S Q = ∀ p, S p = none → Q (.ref p) (su S p (.lst xs)) := by simp only [gListR, itsOf, h]
theorem gLen_r (h : S a = some (.lst xs)) : gLen [.ref a] S Q = Q (.int xs.length) S := by simp only [gLen, itsOf, h]
theorem fIx_r {i : Int} (h : S a = some (.lst xs)) : fIx (.ref a) (.int i) S Q = qOpt (atI xs i) S Q := by simp only [fIx, h]
end
end DL


set_option Elab.async false
set_option linter.all false
set_option maxRecDepth 100000
set_option maxHeartbeats 4000000
namespace DL
open PySem PySem.Spec PyProof.Rows L2
/-! ### a dict while it is walked -/
def keyD : Key → D
  | .inl i => .int i
  | .inr x => .str x
theorem rd_key {K : PySem.W.Frag} {I : Hp} : ∀ k : Key, RD K I (keyD k) (kV k)
  | .inl i => .int i
  | .inr x => .str x
def lkEnds (a : Addr) (od : Obj) (u : HO) (kvs : List (Key × D)) (d : DEnds) : DEnds where
  nx := fun env S => S a = some (.lkK od u kvs) ∧ d.nx env (su S a (.dK kvs))
  rt := fun w S => S a = some (.lkK od u kvs) ∧ d.rt w (su S a (.dK kvs))
  bk := fun env S => S a = some (.lkK od u kvs) ∧ d.bk env (su S a (.dK kvs))
  ct := fun env S => S a = some (.lkK od u kvs) ∧ d.ct env (su S a (.dK kvs))
def sLk (t : DS) : DS := fun d env S => ∃ a kvs, S a = some (.dK kvs) ∧ ∀ od u, t (lkEnds a od u kvs d) env (su S a (.lkK od u kvs))
def dLk (t : DE) : DE := fun env S Q => ∃ a kvs, S a = some (.dK kvs) ∧ ∀ od u, t env (su S a (.lkK od u kvs)) fun w S1 => S1 a = some (.lkK od u kvs) ∧ Q w (su S1 a (.dK kvs))
section
variable {X : Cx} {wi : Wi} {pos : Pos}
theorem Sim.unlk {K : PySem.W.Frag} {I H : Hp} {S : Sto} {a : Addr} {od : Obj} {u : HO} {kvs : List (Key × D)} (s : Sim K wi I S H) (e : S a = some (.lkK od u kvs)) :
    H a = some (.frz od u) ∧ Sim K wi I (su S a (.dK kvs)) (upd H a u) ∧ Ext I S H I (su S a (.dK kvs)) (upd H a u) := by
  obtain ⟨_, w, r, hu⟩ := s.st a _ e
  obtain ⟨rfl, us, rfl, h⟩ := r
  have := s.wr e (o := .dK kvs) (u := .dK us) h
  exact ⟨hu, this.1, this.2⟩
theorem Sim.lk {K : PySem.W.Frag} {I H : Hp} {S : Sto} {a : Addr} {kvs : List (Key × D)} (s : Sim K wi I S H) (e : S a = some (.dK kvs)) :
    ∃ us, H a = some (.dK us) ∧ ∀ od, Sim K wi I (su S a (.lkK od (.dK us) kvs)) (upd H a (.frz od (.dK us))) ∧ Ext I S H I (su S a (.lkK od (.dK us) kvs)) (upd H a (.frz od (.dK us))) := by
  obtain ⟨us, ha, r⟩ := st_dK s e
  exact ⟨us, ha, fun od => s.wr e (o := .lkK od (.dK us) kvs) (u := .frz od (.dK us)) ⟨rfl, us, rfl, r⟩⟩
theorem mLk {st : Stmt} {t : DS} (h : MS X wi st t) : MS X wi st (sLk t) := PS.of (ps_lock h) fun D σ H q => by
  obtain ⟨I, env, S, d, sim, er, ⟨a, kvs, e, q⟩, k⟩ := q
  obtain ⟨us, ha, z⟩ := sim.lk e
  refine ⟨a, _, ha, trivial, fun od => ?_⟩
  obtain ⟨sim1, ex1⟩ := z od
  have nn : ∀ {N : Env' → Sto → Prop} {N' : L2.St → Hp → Prop}, KN X.K wi I S H N N' → KN X.K wi I (su S a (.lkK od (.dK us) kvs)) (upd H a (.frz od (.dK us))) (fun env S => S a = some (.lkK od (.dK us) kvs) ∧ N env (su S a (.dK kvs))) (fun σ' H' => H' a = some (.frz od (.dK us)) ∧ N' σ' (upd H' a (.dK us))) := fun kk I' env' σ' S' H' x s r ⟨e1, n⟩ => by
    obtain ⟨hh, s2, x2⟩ := s.unlk e1
    exact ⟨hh, kk I' env' σ' _ _ ((ex1.trans x).trans x2) s2 r n⟩
  refine ⟨I, env, _, _, sim1, er, q od (.dK us), ⟨nn k.nx, fun I' w v S' H' x s r ⟨e1, n⟩ => ?_, nn k.bk, nn k.ct⟩⟩
  obtain ⟨hh, s2, x2⟩ := s.unlk e1
  exact ⟨hh, k.rt I' w v _ _ ((ex1.trans x).trans x2) s2 r n⟩
theorem mLkE {e : Expr} {t : DE} (h : ME X wi e t) : ME X wi e (dLk t) := PE.of (pe_lock h) fun σ H Q' q => by
  obtain ⟨I, env, S, Q, sim, er, ⟨a, kvs, e, q⟩, k⟩ := q
  obtain ⟨us, ha, z⟩ := sim.lk e
  refine ⟨a, _, ha, trivial, fun od => ?_⟩
  obtain ⟨sim1, ex1⟩ := z od
  refine ⟨I, env, _, _, sim1, er, q od (.dK us), fun I' w v S' H' x s r ⟨e1, n⟩ => ?_⟩
  obtain ⟨hh, s2, x2⟩ := s.unlk e1
  exact ⟨hh, k I' w v _ _ ((ex1.trans x).trans x2) s2 r n⟩

/-! ### its keys, values, pairs -/
def lkOf (S : Sto) : D → Option (Addr × Obj × HO × List (Key × D))
  | .ref a => (match S a with
    | some (.lkK od u kvs) => some (a, od, u, kvs)
    | _ => none)
  | _ => none
def dItW (f : Key × D → D) (t : DE) : DI := fun env S Q => t env S fun w S1 => match lkOf S1 w with
  | some (a, od, u, kvs) => Q (kvs.map f) (fun S => S a = some (.lkK od u kvs)) S1
  | none => False
abbrev dItK : DE → DI := dItW fun p => keyD p.1
abbrev dItV : DE → DI := dItW fun p => p.2
abbrev dItI : DE → DI := dItW fun p => .tup [keyD p.1, p.2]
theorem lkOf_at {K : PySem.W.Frag} {I H : Hp} {S : Sto} {w : D} {v : V} {a : Addr} {od : Obj} {u : HO} {kvs : List (Key × D)} (s : Sim K wi I S H) (r : RD K I w v) (h : lkOf S w = some (a, od, u, kvs)) :
    v = .ref a ∧ S a = some (.lkK od u kvs) ∧ ∃ us, u = .dK us ∧ H a = some (.frz od (.dK us)) ∧ RKV K I kvs us := by
  cases r with
  | ref b =>
    have h' : (match S b with | some (.lkK od u kvs) => some (b, od, u, kvs) | _ => none) = some (a, od, u, kvs) := h
    split at h'
    · rename_i e
      cases h'
      obtain ⟨us, h1, h2, h3⟩ := st_lk s e
      exact ⟨rfl, e, us, h2, h1, h3⟩
    · cases h'
  | _ => cases h
theorem rkv_get {K : PySem.W.Frag} {I : Hp} : ∀ {kvs : List (Key × D)} {us : List (Key × V)} {i : Nat} {k : Key} {v : V}, RKV K I kvs us → us[i]? = some (k, v) → ∃ w, kvs[i]? = some (k, w) ∧ RD K I w v
  | _, _, _, _, _, .nil, e => by simp at e
  | (k0, w0) :: _, (k1, v1) :: _, 0, k, v, .cons ⟨e0, r⟩ _, e => by
    simp at e
    obtain ⟨rfl, rfl⟩ := e
    cases e0
    exact ⟨w0, rfl, r⟩
  | _ :: _, _ :: _, i + 1, k, v, .cons _ t, e => by
    obtain ⟨w, h1, h2⟩ := rkv_get (i := i) t (by simpa using e)
    exact ⟨w, by simpa using h1, h2⟩
theorem itd_lk {K : PySem.W.Frag} {I0 : Hp} {a : Addr} {od : Obj} {us : List (Key × V)} {kvs : List (Key × D)} {f : Key × D → D} {J : It}
    (hg : ∀ i H, H a = some (.frz od (.dK us)) → i < us.length → J.go i H) (hs : ∀ i H, H a = some (.frz od (.dK us)) → us.length ≤ i → J.stop i H)
    (hy : ∀ i I S H x H', Sim K wi I S H → RKV K I kvs us → H a = some (.frz od (.dK us)) → J.yld i H x H' → ∃ I' w, Ext I S H I' S H' ∧ Sim K wi I' S H' ∧ (kvs.map f)[i]? = some w ∧ RD K I' w x) :
    ItD K wi I0 J (kvs.map f) (fun S => S a = some (.lkK od (.dK us) kvs)) where
  go := fun i I S H l sim o hi => by
    obtain ⟨us', h1, h2, h3⟩ := st_lk sim o
    cases h2
    rw [List.length_map] at hi
    have hl : kvs.length = us.length := Paired.length h3
    exact hg i H h1 (by omega)
  yl := fun i I S H x H' l sim o hi y => by
    obtain ⟨us', h1, h2, h3⟩ := st_lk sim o
    cases h2
    exact hy i I S H x H' sim h3 h1 y
  st := fun I S H l sim o => by
    obtain ⟨us', h1, h2, h3⟩ := st_lk sim o
    cases h2
    have hl : kvs.length = us.length := Paired.length h3
    exact hs _ H h1 (by rw [List.length_map]; omega)
theorem mItK {tg e : Expr} {te : DE} (he : ME X wi e te) : MI X wi tg e (dItK te) := PI.of (pi_keys he) fun σ H R h => by
  obtain ⟨I, env, S, Q, sim, er, h, k⟩ := h
  refine ⟨I, env, S, _, sim, er, h, fun I1 w v S1 H1 e1 s1 r1 h1 => ?_⟩
  split at h1
  · rename_i a od u kvs e
    obtain ⟨rfl, hS, us, rfl, hH, _⟩ := lkOf_at s1 r1 e
    refine ⟨a, od, rfl, .inl ⟨us, hH, k _ _ _ _ _ _ e1 s1 (itd_lk (fun i H h hi => ⟨h, hi⟩) (fun i H h hi => ⟨h, hi⟩) fun i I S H x H' sm rk hh y => ?_) h1⟩⟩
    obtain ⟨rfl, key, v, e2, rfl⟩ := y
    obtain ⟨w, e3, _⟩ := rkv_get rk e2
    exact ⟨I, keyD key, .refl, sm, by rw [List.getElem?_map, e3]; rfl, rd_key key⟩
  · exact h1.elim
theorem mItV {tg e : Expr} {te : DE} {apos cpos : Pos} (he : ME X wi e te) (hbase : attributeBase e "values" X.env (eval e X.env) = eval e X.env := by rfl) (hline : (apos.endLine == cpos.line) = true := by rfl) :
    MI X wi tg (.Call (.Attribute e "values" apos) [] [] cpos) (dItV te) := PI.of (pi_values he hbase hline) fun σ H R h => by
  obtain ⟨I, env, S, Q, sim, er, h, k⟩ := h
  refine ⟨I, env, S, _, sim, er, h, fun I1 w v S1 H1 e1 s1 r1 h1 => ?_⟩
  split at h1
  · rename_i a od u kvs e
    obtain ⟨rfl, hS, us, rfl, hH, _⟩ := lkOf_at s1 r1 e
    refine ⟨a, od, us, rfl, hH, k _ _ _ _ _ _ e1 s1 (itd_lk (fun i H h hi => ⟨h, hi⟩) (fun i H h hi => ⟨h, hi⟩) fun i I S H x H' sm rk hh y => ?_) h1⟩
    obtain ⟨rfl, key, e2⟩ := y
    obtain ⟨w, e3, r⟩ := rkv_get rk e2
    exact ⟨I, w, .refl, sm, by rw [List.getElem?_map, e3]; rfl, r⟩
  · exact h1.elim
end
/-! pairs that are plain tuples -/
section
variable {P : Program} {w : World} {K : PySem.W.Frag} {d : Addr} {o : Obj} {es : Array DictEntry} {ep : Nat}
def ItiF (d : Addr) (o : Obj) (kvs : List (Key × V)) : It :=
  ⟨fun i H => H d = some (.frz o (.dK kvs)) ∧ i < kvs.length, fun i H x H' => ∃ T ob k v, kvs[i]? = some (k, v) ∧ x = .ref T ∧ ob.dict = none ∧ H T = none ∧ H' = upd H T (.frz ob (.tup [kV k, v])), fun i H => H d = some (.frz o (.dK kvs)) ∧ kvs.length ≤ i⟩
theorem turn_itemsF {kvs : List (Key × V)} {elts : List Expr} {kk : Nat} {tpos : Pos} (it : Addr) (hod : o.data = .dict es ep) :
    Turn P w K (.Tuple elts kk tpos) (ItiF d o kvs) [it] it (fun i h => ∃ ok ov, IsItemIter h it d i kvs.length ep ok ov) where
  mem := by simp
  obj := (turn_items (P := P) (w := w) (K := K) (kvs := kvs) (elts := elts) (kk := kk) (tpos := tpos) (d := d) it hod).obj
  keep := (turn_items (P := P) (w := w) (K := K) (kvs := kvs) (elts := elts) (kk := kk) (tpos := tpos) (d := d) it hod).keep
  done := (turn_items (P := P) (w := w) (K := K) (kvs := kvs) (elts := elts) (kk := kk) (tpos := tpos) (d := d) it hod).done
  self := (turn_items (P := P) (w := w) (K := K) (kvs := kvs) (elts := elts) (kk := kk) (tpos := tpos) (d := d) it hod).self
  item := by
    intro X hP hw hK hc i pins s σ H E I hf st hg
    subst hP hw hK
    obtain ⟨hd, hi⟩ := hg
    obtain ⟨hs, hgd, hx, es', ep', vs, hdt, hsz, kv, hm⟩ := I.frzK hd
    obtain ⟨rfl, rfl⟩ := dict_ep hod hdt
    obtain ⟨⟨k, v⟩, hkv⟩ : ∃ p, kvs[i]? = some p := ⟨kvs[i], List.getElem?_eq_getElem hi⟩
    obtain ⟨u, hu, ru⟩ := kv_get kv hkv
    have hl : kvs.length = vs.length := Paired.length kv
    obtain ⟨ok, ov, he⟩ := st
    rw [hl] at he
    have hlt : it < s.heap.objs.size := Heap.lt_size he
    refine wpAny_pyNext_items_item he hm hu fun key h' hkey ho hT hz hk => ?_
    refine ⟨_, rfl, wpAny_letOwnedTupleGo_items (s := { s with heap := h' }) ho fun h'' he' sb => ?_⟩
    have hT2 : h''.get? s.heap.objs.size = some (tob [key, u]) := (sb.2 _ (Nat.ne_of_gt hlt)).trans hT
    have I1 := fr_ok (s := s) (h' := h'') (t' := s.toks) (xs := [kV k, v]) (us := [key, u]) (ch := [it]) I (fun b ob hb e => (sb.2 b (by simpa using hb)).trans (hk b ob (by simpa using hb) e)) hf (.cons (relV_key (show keyIs k key = true from hkey)) (.cons ru .nil)) (by show 2 ≤ sizeLine; decide) hT2
    refine ⟨.ref s.heap.objs.size, _, I1, rfl, ⟨_, _, k, v, hkv, rfl, rfl, I.hok.fresh (Nat.le_refl _), rfl⟩, ⟨key, u, ?_⟩, fun b hb => ?_⟩
    · rw [hl]; exact he'
    · have e : b = it := by simpa using hb
      rw [e, upd_ne (Nat.ne_of_lt hlt)]
      exact (hf it (by simp)).1
end
section
variable {X : Cx} {wi : Wi} {e : Expr} {td : TE} {apos cpos tpos : Pos} {elts : List Expr} {kk : Nat}
def iItemsF (td : TE) : TI := fun σ H R => td σ H fun x H1 => ∃ d o kvs, x = .ref d ∧ H1 d = some (.frz o (.dK kvs)) ∧ R (ItiF d o kvs) H1
theorem pi_itemsF (he : PE X e td) (hbase : attributeBase e "items" X.env (eval e X.env) = eval e X.env := by rfl) (hline : (apos.endLine == cpos.line) = true := by rfl) :
    PI X (.Tuple elts kk tpos) (.Call (.Attribute e "items" apos) [] [] cpos) (iItemsF td) := by
  refine ⟨fun pins s σ H R I h => ?_⟩
  refine wpAny_Call_method (T := "dict") (id := "dict.items") hbase rfl hline F.plainAttrs_dict F.slot_dict_items F.type_dict_items (thn (he.run pins s σ H _ I h) fun u s1 ⟨x, H1, I1, rx, d, o, kvs, ex, hd, q⟩ => ?_)
  subst ex
  obtain rfl : u = Value.ref d := rx
  obtain ⟨hs, hgd, hx, es, ep, vs, hdt, hsz, kv, hm⟩ := I1.frzK hd
  have hl : kvs.length = vs.length := Paired.length kv
  refine ⟨hm.dictOf.typeIs, hm.dictOf.mapOf.noDict, ?_⟩
  have I2 : Inv X pins σ H1 { s1 with heap := s1.heap.push { cls := .type "dict_items", data := .fields #[.ref d] } } := I1.kept (t' := s1.toks) fun b ob q => Heap.get?_push_of_some _ q
  have fin : wpAny (model X.prog X.w) X.A (pyIter (.ref s1.heap.objs.size)) (PIE X pins σ (.Tuple elts kk tpos) R) X.xe { s1 with heap := s1.heap.push { cls := .type "dict_items", data := .fields #[.ref d] } } := by
    refine wpAny_pyIter_items (d := d) (knd := mixKind X.prog X.w) ⟨_, Heap.get?_push_size _ rfl, rfl, rfl⟩ (hm.push _) (pi_one (tk := s1.toks) I2 _ (turn_itemsF _ hdt) ⟨.none, .none, ?_⟩ q)
    rw [hl]
    exact Heap.get?_push_size _ rfl
  show wpAny _ _ (callWith cpos (.builtin "dict.items") [.ref d] [] []) _ X.xe s1
  exact method_meetsIn F.slot_dict_items F.entry_dict_items rfl (PySem.evalArgs_none ⟨rfl, hm.dictOf.typeIs, F.args_dict_items_1 _, _, meets_dict_items (mixKind X.prog X.w) d hs, ⟨vs, hm.dictOf⟩, fin⟩)
theorem mItI {te : DE} (he : ME X wi e te) (hbase : attributeBase e "items" X.env (eval e X.env) = eval e X.env := by rfl) (hline : (apos.endLine == cpos.line) = true := by rfl) :
    MI X wi (.Tuple elts kk tpos) (.Call (.Attribute e "items" apos) [] [] cpos) (dItI te) := PI.of (pi_itemsF he hbase hline) fun σ H R h => by
  obtain ⟨I, env, S, Q, sim, er, h, k⟩ := h
  refine ⟨I, env, S, _, sim, er, h, fun I1 w v S1 H1 e1 s1 r1 h1 => ?_⟩
  split at h1
  · rename_i a od u kvs e
    obtain ⟨rfl, hS, us, rfl, hH, _⟩ := lkOf_at s1 r1 e
    refine ⟨a, od, us, rfl, hH, k _ _ _ _ _ _ e1 s1 (itd_lk (fun i H h hi => ⟨h, hi⟩) (fun i H h hi => ⟨h, hi⟩) fun i I S H x H' sm rk hh y => ?_) h1⟩
    obtain ⟨T, ob, key, v, e2, rfl, hob, hT, rfl⟩ := y
    obtain ⟨w, e3, r⟩ := rkv_get rk e2
    obtain ⟨sm2, x2⟩ := sm.newI (u := .frz ob (.tup [kV key, v])) hT
    refine ⟨_, .tup [keyD key, w], x2, sm2, by rw [List.getElem?_map, e3]; rfl, ?_⟩
    exact .tup (TpA.new hob) (.cons ((rd_key key).le x2.le) (.cons (r.le x2.le) .nil))
  · exact h1.elim
end
/-! ### rows to rewrite by -/
theorem sLk_at (t : DS) (d : DEnds) (env : Env') (S : Sto) : sLk t d env S = (∃ a kvs, S a = some (.dK kvs) ∧ ∀ od u, t (lkEnds a od u kvs d) env (su S a (.lkK od u kvs))) := Eq.trans rfl rfl
theorem dLk_at (t : DE) (env : Env') (S : Sto) (Q : DK) : dLk t env S Q = (∃ a kvs, S a = some (.dK kvs) ∧ ∀ od u, t env (su S a (.lkK od u kvs)) fun w S1 => S1 a = some (.lkK od u kvs) ∧ Q w (su S1 a (.dK kvs))) := Eq.trans rfl rfl
theorem dItW_at (f : Key × D → D) (t : DE) (env : Env') (S : Sto) (Q : List D → (Sto → Prop) → Sto → Prop) : dItW f t env S Q = (t env S fun w S1 => match lkOf S1 w with
  | some (a, od, u, kvs) => Q (kvs.map f) (fun S => S a = some (.lkK od u kvs)) S1
  | none => False) := Eq.trans rfl rfl
section
variable {S : Sto} {Q : DK} {R : Bool → Prop} {a : Addr} {od : Obj} {u : HO} {kvs : List (Key × D)} {x : Str} {i : Int} {w : D}
theorem lkOf_s : lkOf (su S a (.lkK od u kvs)) (.ref a) = some (a, od, u, kvs) := by simp only [lkOf, su_same]
theorem lkOf_r (h : S a = some (.lkK od u kvs)) : lkOf S (.ref a) = some (a, od, u, kvs) := by simp only [lkOf, h]
theorem fIx_kr (h : S a = some (.dK kvs)) : fIx (.ref a) (.int i) S Q = qOpt (dval kvs (.inl i)) S Q := by simp only [fIx, h, keyOf]
theorem fIx_kt (h : S a = some (.dK kvs)) : fIx (.ref a) (.str x) S Q = qOpt (dval kvs (.inr x)) S Q := by simp only [fIx, h, keyOf]
theorem fIx_lr (h : S a = some (.lkK od u kvs)) : fIx (.ref a) (.int i) S Q = qOpt (dval kvs (.inl i)) S Q := by simp only [fIx, h, keyOf]
theorem fIx_lt (h : S a = some (.lkK od u kvs)) : fIx (.ref a) (.str x) S Q = qOpt (dval kvs (.inr x)) S Q := by simp only [fIx, h, keyOf]
theorem inB_kr (h : S a = some (.dK kvs)) : fInB (.int i) (.ref a) S R = R (dval kvs (.inl i)).isSome := by simp only [fInB, h, keyOf]
theorem inB_kt (h : S a = some (.dK kvs)) : fInB (.str x) (.ref a) S R = R (dval kvs (.inr x)).isSome := by simp only [fInB, h, keyOf]
theorem inB_lr (h : S a = some (.lkK od u kvs)) : fInB (.int i) (.ref a) S R = R (dval kvs (.inl i)).isSome := by simp only [fInB, h, keyOf]
theorem inB_lt (h : S a = some (.lkK od u kvs)) : fInB (.str x) (.ref a) S R = R (dval kvs (.inr x)).isSome := by simp only [fInB, h, keyOf]
end
end DL


set_option Elab.async false
set_option linter.all false
set_option maxRecDepth 100000
set_option maxHeartbeats 4000000
namespace DL
open PySem PySem.Spec PyProof.Rows L2
section
variable {X : Cx} {wi : Wi} {o e f : Expr} {to ty tz : DE} {apos cpos pos : Pos}
theorem RDs.eraseIdx {K : PySem.W.Frag} {I : Hp} : ∀ {xs : List D} {vs : List V}, RDs K I xs vs → ∀ k : Nat, RDs K I (xs.eraseIdx k) (vs.eraseIdx k)
  | _, _, .nil, _ => .nil
  | _, _, .cons _ t, 0 => t
  | _, _, .cons r t, k + 1 => .cons r (RDs.eraseIdx t k)
/-! ### list.pop(i) -/
def gPopAt (x : D) (ys : List D) (S : Sto) (Q : DK) : Prop :=
  match x, ys with
  | .ref a, [.int i] => (match S a with
    | some (.lst xs) => (-(2 ^ 63) ≤ i ∧ i < 2 ^ 63) ∧ (match ixN xs.length i with
      | some k => qOpt xs[k]? (su S a (.lst (xs.eraseIdx k))) Q
      | none => False)
    | _ => False)
  | _, _ => False
theorem tPopAt : MtD X wi "list.pop" gPopAt := by
  intro pins s σ H v vs vv us Q' I rv rvs ⟨Ih, S, x, ys, Q, sim, rx, rys, h, k⟩
  unfold gPopAt at h
  split at h
  · rename_i a i
    cases rx
    cases rys with
    | cons ry rn =>
      cases rn
      cases ry
      split at h
      · rename_i xs e
        obtain ⟨⟨h1, h2⟩, h⟩ := h
        obtain ⟨ws, ha, r1⟩ := st_lst sim e
        split at h
        · rename_i j hj
          unfold qOpt at h
          split at h
          · rename_i y hy
            obtain ⟨w, hw, rw'⟩ := r1.get hy
            refine mt_popAt pins s σ H _ _ _ _ Q' I rv rvs ⟨a, ws, i, j, w, rfl, rfl, ha, h1, h2, by rw [← r1.length]; exact (ixN_seq hj).1, hw, ?_⟩
            obtain ⟨s2, e2⟩ := sim.wr (o := .lst (xs.eraseIdx j)) (u := .lst (ws.eraseIdx j)) e (show RDs X.K Ih _ _ from r1.eraseIdx j)
            exact k _ _ _ _ _ e2 s2 rw' h
          · exact h.elim
        · exact h.elim
      · exact h.elim
  · exact h.elim
/-! ### list.remove(text) -/
def eqS (k : Str) (v : Value) : Bool := match v with
  | .str x _ => x.cps.toList == k.cps.toList
  | _ => false
theorem vals_strs : ∀ {zs : List Str} {us : List Value}, Vals (zs.map V.str) us → (∀ (t : Tok) (k : Str), ∀ y ∈ us, MeetsSeq.EqGives y (.str k t) (eqS k y)) ∧ ∀ (i : Nat) (z : Str), zs[i]? = some z → ∃ t, us[i]? = some (.str z t)
  | [], _, .nil => ⟨fun _ _ y hy => (by cases hy), fun i z h => (by cases i <;> cases h)⟩
  | z :: zs, _, .cons r t => by
    obtain ⟨tk, rfl⟩ := r
    obtain ⟨h1, h2⟩ := vals_strs t
    refine ⟨fun t k y hy => ?_, fun i z' h => ?_⟩
    · rcases List.mem_cons.1 hy with rfl | hy
      · exact SeqRoads2.EqGives.str z k tk t
      · exact h1 t k y hy
    · cases i with
      | zero => simp at h; subst h; exact ⟨tk, rfl⟩
      | succ i => obtain ⟨t', h'⟩ := h2 i z' (by simpa using h); exact ⟨t', by simpa using h'⟩
def gRemS (x : D) (ys : List D) (S : Sto) (Q : DK) : Prop :=
  match x, ys with
  | .ref a, [.str z] => ∃ (zs : List Str) (j : Nat), S a = some (.lst (zs.map .str)) ∧ zs[j]? = some z ∧ (∀ m : Nat, m < j → zs[m]? ≠ some z) ∧ Q .non (su S a (.lst ((zs.eraseIdx j).map .str)))
  | _, _ => False
theorem erase_mapS {α β : Type} (f : α → β) : ∀ (l : List α) (j : Nat), (l.map f).eraseIdx j = (l.eraseIdx j).map f
  | [], j => by simp
  | a :: r, 0 => by simp
  | a :: r, j + 1 => by simp [erase_mapS f r j]
theorem rds_strs' {K : PySem.W.Frag} {I : Hp} : ∀ {zs : List Str} {vs : List V}, RDs K I (zs.map .str) vs → vs = zs.map V.str
  | [], _, .nil => rfl
  | z :: zs, _, .cons r t => by cases r; rw [rds_strs' t]; rfl
theorem tRemS : MtD X wi "list.remove" gRemS := by
  intro pins s σ H v vs vv us Q' I rv rvs ⟨Ih, S, x, ys, Q, sim, rx, rys, h, k⟩
  unfold gRemS at h
  split at h
  · rename_i l z
    obtain ⟨zs, j, hS, hj, hno, q⟩ := h
    cases rx
    cases rys with
    | cons ry rn =>
      cases rn
      cases ry
      obtain ⟨ws, hH, r1⟩ := st_lst sim hS
      have ews := rds_strs' r1
      subst ews
      cases rv
      obtain ⟨u, rfl, ru⟩ := rvs.one
      obtain ⟨t, rfl⟩ := ru
      obtain ⟨zl, its, n, r, hl, e⟩ := I.lstM hH
      obtain ⟨hi1, hi2⟩ := vals_strs r
      rw [List.length_map] at hl zl
      have hjn : j < zs.length := (List.getElem?_eq_some_iff.mp hj).1
      have hjl : j < its.toArray.size := by rw [List.size_toArray]; omega
      refine call_meets PySem.F.slot_list_remove ⟨_, e, rfl⟩ PySem.F.entry_list_remove (PySem.F.args_list_remove_2 _ _)
        (MeetsSeq.list_remove l its.toArray n (.str z t) (eqS z) (fun y hy => hi1 t z y (by simpa using hy)) j hjl ?_ ?_ (by rw [List.size_toArray]; omega)) ⟨e, ?_⟩
      · obtain ⟨tj, hjt⟩ := hi2 j z hj
        obtain ⟨h1, h2⟩ := List.getElem?_eq_some_iff.mp hjt
        have e1 : its.toArray[j] = .str z tj := by simpa using h2
        rw [e1]
        exact beq_self_eq_true _
      · intro m hm hmj
        have hmn : m < zs.length := by omega
        obtain ⟨tm, hmt⟩ := hi2 m _ (List.getElem?_eq_getElem hmn)
        obtain ⟨h1, h2⟩ := List.getElem?_eq_some_iff.mp hmt
        have e1 : its.toArray[m] = .str zs[m] tm := by simpa using h2
        rw [e1]
        refine beq_eq_false_iff_ne.mpr fun e2 => hno m hmj ?_
        rw [List.getElem?_eq_getElem hmn]
        have : zs[m] = z := by
          cases h3 : zs[m] with
          | mk a => cases z with
            | mk b => rw [h3] at e2; exact congrArg Str.mk (Array.toList_inj.1 e2)
        rw [this]
      · have rr := r.eraseIdx j
        rw [erase_mapS] at rr
        obtain ⟨s2, e2⟩ := sim.wr (o := .lst ((zs.eraseIdx j).map .str)) (u := .lst ((zs.eraseIdx j).map V.str)) hS (rds_strs _)
        refine ⟨.non, _, I.lset (its' := its.eraseIdx j) (t' := s.toks) hH e ?_ rr ?_, rfl, k _ _ _ _ _ e2 s2 .non q⟩
        · show its.toArray.eraseIdxIfInBounds j = (its.eraseIdx j).toArray
          rw [List.eraseIdxIfInBounds_toArray]
        · have z2 := len_erase zs j
          rw [List.length_map]
          omega
  · exact h.elim
/-! ### dict.update(dict) -/
def gUpd (x : D) (ys : List D) (S : Sto) (Q : DK) : Prop :=
  match x, ys with
  | .ref a, [.ref b] => a ≠ b ∧ (match S a, S b with
    | some (.dK kvs), some (.dK more) => kvs.length + more.length ≤ sizeLine ∧ Q .non (su S a (.dK (dmerge kvs more)))
    | _, _ => False)
  | _, _ => False
theorem tUpd : MtD X wi "dict.update" gUpd := by
  intro pins s σ H v vs vv us Q' I rv rvs ⟨Ih, S, x, ys, Q, sim, rx, rys, h, k⟩
  unfold gUpd at h
  split at h
  · rename_i a b
    obtain ⟨hne, h⟩ := h
    cases rx
    cases rys with
    | cons ry rn =>
      cases rn
      cases ry
      split at h
      · rename_i kvs more e1 e2
        obtain ⟨hl, h⟩ := h
        obtain ⟨us1, ha, r1⟩ := st_dK sim e1
        obtain ⟨us2, hb, r2⟩ := st_dK sim e2
        cases rv
        obtain ⟨u, rfl, ru⟩ := rvs.one
        cases ru
        obtain ⟨z1, hd1, vs1, rel1, dd1⟩ := dk_rd I.hok (.inl ha)
        obtain ⟨z2, hd2, vs2, rel2, dd2⟩ := dk_rd I.hok (.inl hb)
        have l1 : kvs.length = us1.length := Paired.length r1
        have l2 : more.length = us2.length := Paired.length r2
        have l3 : us1.length = vs1.length := Paired.length rel1
        have l4 : us2.length = vs2.length := Paired.length rel2
        refine call_meetsIn PySem.F.slot_dict_update dd1.typeIs PySem.F.entry_dict_update (PySem.F.args_dict_update_2 _ _) (meets_dict_update (mixKind X.prog X.w) a b hne hd2) ⟨vs1, vs2, dd1, dd2, by omega, fun h' dd' _ hs => ?_⟩
        have he : ∃ q, h'.get? a = some q := let ⟨q, _, _, hq, _⟩ := dd'; ⟨q, hq⟩
        have lm := Paired.length (KV.merge rel2 rel1)
        have ll := merged_length_le vs1 vs2
        obtain ⟨s2, x2⟩ := sim.wr (o := .dK (dmerge kvs more)) (u := .dK (mergeK us1 us2)) e1 (show RKV X.K Ih _ _ from RKV.merge r2 r1)
        exact ⟨.non, _, d_write I (by rw [ha]; exact True.intro) hs he (dk_new (by omega) hd1 (KV.merge rel2 rel1) dd'), rfl, k _ _ _ _ _ x2 s2 .non h⟩
      · exact h.elim
  · exact h.elim
/-! ### dict.pop(k), dict.pop(k, d) -/
def fPop1 (x y : D) (S : Sto) (Q : DK) : Prop := match x with
  | .ref a => (match S a, keyOf y with
    | some (.dK kvs), some k => qOpt (dval kvs k) (su S a (.dK (ddrop kvs k))) Q
    | _, _ => False)
  | _ => False
def fPop2 (x y z : D) (S : Sto) (Q : DK) : Prop := match x with
  | .ref a => (match S a, keyOf y with
    | some (.dK kvs), some k => (match dval kvs k with
      | some v => Q v (su S a (.dK (ddrop kvs k)))
      | none => Q z S)
    | _, _ => False)
  | _ => False
def dPop1 (to ty : DE) : DE := fun env S Q => to env S fun x S1 => isDct x S1 ∧ ty env S1 fun y S2 => fPop1 x y S2 Q
def dPop2 (to ty tz : DE) : DE := fun env S Q => to env S fun x S1 => isDct x S1 ∧ ty env S1 fun y S2 => tz env S2 fun z S3 => fPop2 x y z S3 Q
theorem RKV.drop {κ : Type} [DecidableEq κ] {K : PySem.W.Frag} {I : Hp} (k : κ) : ∀ {xs : List (κ × D)} {ys : List (κ × V)}, RKV K I xs ys → RKV K I (ddrop xs k) (dropK ys k)
  | _, _, .nil => .nil
  | (k1, x) :: xs, (k2, y) :: ys, .cons ⟨e, r⟩ t => by
    have e : k1 = k2 := e
    subst e
    have ih := RKV.drop k t
    unfold ddrop dropK at ih ⊢
    by_cases h : k1 = k
    · simp only [List.filter_cons, h]
      simpa using ih
    · simp only [List.filter_cons]
      rw [if_pos (by simpa using h), if_pos (by simpa using h)]
      exact .cons ⟨rfl, r⟩ ih
theorem mPop1 (ho : ME X wi o to) (he : ME X wi e ty) (m : M1 X o "pop" apos e cpos := by exact ⟨rfl, rfl, rfl, rfl⟩) : ME X wi (.Call (.Attribute o "pop" apos) [e] [] cpos) (dPop1 to ty) := by
  refine PE.of (pe_dpop1 ho he m) fun σ H Q' h => ?_
  obtain ⟨I, env, S, Q, sim, er, h, k⟩ := h
  refine ⟨I, env, S, _, sim, er, h, fun I1 x v S1 H1 e1 s1 r1 h1 => ?_⟩
  obtain ⟨a, ea, da⟩ := isDct_at s1 r1 h1.1
  refine ⟨a, ea, da, I1, env, S1, _, s1, er.le e1.le, h1.2, fun I2 y u S2 H2 e2 s2 r2 h2 => ?_⟩
  cases r1 <;> try exact h2.elim
  cases ea
  unfold fPop1 at h2
  dsimp only at h2
  split at h2
  · rename_i kvs key eS ek
    obtain ⟨us, ha, rk⟩ := st_dK s2 eS
    unfold qOpt at h2
    split at h2
    · rename_i w ew
      obtain ⟨w', e3, r3⟩ := rk.val ew
      obtain ⟨s3, x3⟩ := s2.wr (o := .dK (ddrop kvs key)) (u := .dK (dropK us key)) eS (show RKV X.K I2 _ _ from RKV.drop key rk)
      exact ⟨us, key, w', ha, r2.key ek, e3, k _ _ _ _ _ ((e1.trans e2).trans x3) s3 r3 h2⟩
    · exact h2.elim
  · exact h2.elim
theorem mPop2 (ho : ME X wi o to) (he : ME X wi e ty) (hf : ME X wi f tz) (m : M2 X o "pop" apos e f cpos := by exact ⟨rfl, rfl, rfl, rfl⟩) : ME X wi (.Call (.Attribute o "pop" apos) [e, f] [] cpos) (dPop2 to ty tz) := by
  refine PE.of (pe_dpop2 ho he hf m) fun σ H Q' h => ?_
  obtain ⟨I, env, S, Q, sim, er, h, k⟩ := h
  refine ⟨I, env, S, _, sim, er, h, fun I1 x v S1 H1 e1 s1 r1 h1 => ?_⟩
  obtain ⟨a, ea, da⟩ := isDct_at s1 r1 h1.1
  refine ⟨a, ea, da, I1, env, S1, _, s1, er.le e1.le, h1.2, fun I2 y u S2 H2 e2 s2 r2 h2 => ?_⟩
  refine ⟨I2, env, S2, _, s2, (er.le e1.le).le e2.le, h2, fun I3 z t S3 H3 e3 s3 r3 h3 => ?_⟩
  cases r1 <;> try exact h3.elim
  cases ea
  unfold fPop2 at h3
  dsimp only at h3
  split at h3
  · rename_i kvs key eS ek
    obtain ⟨us, ha, rk⟩ := st_dK s3 eS
    refine ⟨us, key, ha, (r2.le e3.le).key ek, fun w' ew' => ?_, fun ew' => ?_⟩
    · cases ew : dval kvs key with
      | none => rw [RKV.none rk ew] at ew'; cases ew'
      | some w =>
        rw [ew] at h3
        obtain ⟨w2, e4, r4⟩ := rk.val ew
        rw [ew'] at e4
        cases e4
        obtain ⟨s4, x4⟩ := s3.wr (o := .dK (ddrop kvs key)) (u := .dK (dropK us key)) eS (show RKV X.K I3 _ _ from RKV.drop key rk)
        exact k _ _ _ _ _ (((e1.trans e2).trans e3).trans x4) s4 r4 h3
    · cases ew : dval kvs key with
      | none => rw [ew] at h3; exact k _ _ _ _ _ ((e1.trans e2).trans e3) s3 r3 h3
      | some w => obtain ⟨w2, e4, _⟩ := rk.val ew; rw [ew'] at e4; cases e4
  · exact h3.elim
end
/-! ### rows to rewrite by -/
theorem dPop1_at (to ty : DE) (env : Env') (S : Sto) (Q : DK) : dPop1 to ty env S Q = (to env S fun x S1 => isDct x S1 ∧ ty env S1 fun y S2 => fPop1 x y S2 Q) := Eq.trans rfl rfl
theorem dPop2_at (to ty tz : DE) (env : Env') (S : Sto) (Q : DK) : dPop2 to ty tz env S Q = (to env S fun x S1 => isDct x S1 ∧ ty env S1 fun y S2 => tz env S2 fun z S3 => fPop2 x y z S3 Q) := Eq.trans rfl rfl
section
variable {S : Sto} {Q : DK} {a b : Addr} {xs : List D} {i : Int} {kvs more : List (Key × D)}
theorem gPopAt_r {k : Nat} {y : D} (h : S a = some (.lst xs)) (h1 : -(2 ^ 63) ≤ i ∧ i < 2 ^ 63) (hk : ixN xs.length i = some k) (hy : xs[k]? = some y) (q : Q y (su S a (.lst (xs.eraseIdx k)))) : gPopAt (.ref a) [.int i] S Q := by
  unfold gPopAt
  simp only [h, hk, hy, qOpt]
  exact ⟨h1, q⟩
theorem ixN_of {n : Nat} {i : Int} (h0 : 0 ≤ i) (h : i < n) : ixN n i = some i.toNat := by unfold ixN; rw [if_pos h0, if_pos h]
theorem ty_dK (h : S a = some (.dK kvs)) : tyD "dict" (.ref a) S := by simp only [tyD, h]
theorem gUpd_r (hne : a ≠ b) (h1 : S a = some (.dK kvs)) (h2 : S b = some (.dK more)) (hl : kvs.length + more.length ≤ sizeLine) (q : Q .non (su S a (.dK (dmerge kvs more)))) : gUpd (.ref a) [.ref b] S Q := by
  unfold gUpd
  simp only [h1, h2]
  exact ⟨hne, hl, q⟩
end
end DL


set_option Elab.async false
set_option linter.all false
set_option maxRecDepth 100000
set_option maxHeartbeats 4000000
namespace DL
open PySem PySem.Spec PyProof.Rows L2
/-! ### tables of the module: dicts with text keys that are never changed -/
def tval (kvs : List (Str × D)) (z : Str) : Option D := (kvs.find? fun q => decide (q.1 = z)).map (·.2)
structure TabAt (K : PySem.W.Frag) (w : World) (a : Addr) (kvs : List (Str × D)) : Prop where
  kd : ∃ es n, K.lookup a = some ⟨.type "dict", none, .dict es n, #[]⟩ ∧ PySem.W.KeysLit w.params es.toList
  lo : (a == sysModules) = false
  some : ∀ z d, tval kvs z = .some d → ∃ u v, PySem.W.nsIn K a z = .some (.some u) ∧ RelV v u ∧ ∀ I, RD K I d v
  none : ∀ z, tval kvs z = .none → PySem.W.nsIn K a z = .some .none
def TabOk (K : PySem.W.Frag) (w : World) (mg : Str → Option Value) (x : Str) (kvs : List (Str × D)) : Prop := ∃ a, mg x = .some (.ref a) ∧ TabAt K w a kvs
section
variable {X : Cx} {wi : Wi} {x : Str} {kvs : List (Str × D)} {b e f : Expr} {tb tz : DE} {p pos apos cpos : Pos}
def dTabIx (kvs : List (Str × D)) (tb : DE) : DE := fun env S Q => tb env S fun y S1 => match y with
  | .str z => qOpt (tval kvs z) S1 Q
  | _ => False
def dTabIn (kvs : List (Str × D)) (neg : Bool) (tb : DE) : DE := fun env S Q => tb env S fun y S1 => match y with
  | .str z => Q (.bl (neg ^^ (tval kvs z).isSome)) S1
  | _ => False
def dTabGet1 (kvs : List (Str × D)) (tb : DE) : DE := fun env S Q => tb env S fun y S1 => match y with
  | .str z => Q ((tval kvs z).getD .non) S1
  | _ => False
def dTabGet2 (kvs : List (Str × D)) (tb tz : DE) : DE := fun env S Q => tb env S fun y S1 => tz env S1 fun d S2 => match y with
  | .str z => Q ((tval kvs z).getD d) S2
  | _ => False
theorem pe_tab (h : X.mg x = .some (.ref p')) (hg : Gl X x) (hd : (x == ("__debug__" : Str)) = false := by decide) : PE X (.Name x p) (tC (.ref p')) := pe_glob hg h rfl hd
theorem mTabIx (h : TabOk X.K X.w X.mg x kvs) (hg : Gl X x) (hb : ME X wi b tb) (hs : PlainIx b := by intro _ _; rfl) (hd : (x == ("__debug__" : Str)) = false := by decide) : ME X wi (.Subscript (.Name x p) b pos) (dTabIx kvs tb) := by
  obtain ⟨a, hm, t⟩ := h
  refine PE.of (pe_ix ix_kdict (pe_tab hm hg hd) hb hs) fun σ H Q' h => ?_
  obtain ⟨I, env, S, Q, sim, er, h, k⟩ := h
  refine ⟨I, env, S, _, sim, er, h, fun I1 y v S1 H1 e1 s1 r1 h1 => ?_⟩
  cases r1 <;> try exact h1.elim
  rename_i z
  have h1 : qOpt (tval kvs z) S1 Q := h1
  unfold qOpt at h1
  split at h1
  · rename_i d ed
    obtain ⟨u, v, n1, r, rd⟩ := t.some z d ed
    obtain ⟨es, n, kl, kk⟩ := t.kd
    exact ⟨a, z, v, rfl, rfl, ⟨es, n, u, kl, kk, n1, r⟩, k _ _ _ _ _ e1 s1 (rd _) h1⟩
  · exact h1.elim
theorem op_tab (neg : Bool) {a : Addr} (t : TabAt X.K X.w a kvs) : OpR X (compareOp (if neg = true then .NotIn else .In)) (fun x y H Q => ∃ z, x = .str z ∧ y = .ref a ∧ Q (.bl (neg ^^ (tval kvs z).isSome)) H) := by
  intro pins s σ H x y v u Q I rx ry ⟨z, e1, e2, q⟩
  subst e1 e2
  obtain ⟨tk, rfl⟩ := rx
  cases ry
  obtain ⟨es, n, kl, kk⟩ := t.kd
  have hm := PySem.W.mapOf_K (prog := X.prog) (w := X.w) I.kIn kl kk
  have e : (findBy Value.isStrOf es z).isSome = (tval kvs z).isSome := by
    cases hv : tval kvs z with
    | none => rw [PySem.W.find_K kl (t.none z hv)]; rfl
    | some d => obtain ⟨u, v, n1, _⟩ := t.some z d hv; rw [PySem.W.find_K kl n1]; rfl
  cases neg
  · exact wpAny_in_of (strKind_is X.prog X.w z tk) t.lo hm ⟨.bl _, H, I.tok _, rfl, by rw [e]; simpa using q⟩
  · exact wpAny_notIn_of (strKind_is X.prog X.w z tk) t.lo hm ⟨.bl _, H, I.tok _, rfl, by rw [e]; simpa using q⟩
theorem lift_tab {K : PySem.W.Frag} {neg : Bool} {a : Addr} {σ : L2.St} {H : Hp} {Q' : VK} (h : lift K wi (dTabIn kvs neg tb) σ H Q') : tOp (fun x y H Q => ∃ z, x = .str z ∧ y = .ref a ∧ Q (.bl (neg ^^ (tval kvs z).isSome)) H) (lift K wi tb) (tC (.ref a)) σ H Q' := by
  obtain ⟨I, env, S, Q, sim, er, h, k⟩ := h
  refine ⟨I, env, S, _, sim, er, h, fun I1 y v S1 H1 e1 s1 r1 h1 => ?_⟩
  cases r1 <;> try exact h1.elim
  exact ⟨_, rfl, rfl, k _ _ _ _ _ e1 s1 (.bl _) h1⟩
theorem mTabIn (neg : Bool) (h : TabOk X.K X.w X.mg x kvs) (hg : Gl X x) (hb : ME X wi b tb) (hm : behindInMarks (if neg = true then .NotIn else .In) (.Name x p) = false := by first | exact nomark _ | rfl) (hd : (x == ("__debug__" : Str)) = false := by decide) :
    ME X wi (.Compare b [if neg = true then .NotIn else .In] [.Name x p] pos) (dTabIn kvs neg tb) := by
  obtain ⟨a, hx, t⟩ := h
  exact PE.of (pe_cmpR (op_tab neg t) hb (pe_tab hx hg hd) hm) fun _ _ _ => lift_tab
theorem mTabInT (neg : Bool) (h : TabOk X.K X.w X.mg x kvs) (hg : Gl X x) (hb : ME X wi b tb) (hm : behindInMarks (if neg = true then .NotIn else .In) (.Name x p) = false := by first | exact nomark _ | rfl) (hd : (x == ("__debug__" : Str)) = false := by decide) :
    MT X wi (.Compare b [if neg = true then .NotIn else .In] [.Name x p] pos) (dTst (dTabIn kvs neg tb)) := by
  obtain ⟨a, hx, t⟩ := h
  refine PT.of (pt_cmpR (op_tab neg t) hb (pe_tab hx hg hd) hm) fun σ H Q h => ?_
  obtain ⟨I, env, S, Qd, sim, er, h, k⟩ := lift_tst h
  exact lift_tab ⟨I, env, S, Qd, sim, er, h, k⟩
theorem mTabIn0 (h : TabOk X.K X.w X.mg x kvs) (hg : Gl X x) (hb : ME X wi b tb) (hm : behindInMarks .In (.Name x p) = false := by first | exact nomark _ | rfl) (hd : (x == ("__debug__" : Str)) = false := by decide) : ME X wi (.Compare b [.In] [.Name x p] pos) (dTabIn kvs false tb) := mTabIn false h hg hb hm hd
theorem mTabIn1 (h : TabOk X.K X.w X.mg x kvs) (hg : Gl X x) (hb : ME X wi b tb) (hm : behindInMarks .NotIn (.Name x p) = false := by first | exact nomark _ | rfl) (hd : (x == ("__debug__" : Str)) = false := by decide) : ME X wi (.Compare b [.NotIn] [.Name x p] pos) (dTabIn kvs true tb) := mTabIn true h hg hb hm hd
theorem mTabInT0 (h : TabOk X.K X.w X.mg x kvs) (hg : Gl X x) (hb : ME X wi b tb) (hm : behindInMarks .In (.Name x p) = false := by first | exact nomark _ | rfl) (hd : (x == ("__debug__" : Str)) = false := by decide) : MT X wi (.Compare b [.In] [.Name x p] pos) (dTst (dTabIn kvs false tb)) := mTabInT false h hg hb hm hd
theorem mTabInT1 (h : TabOk X.K X.w X.mg x kvs) (hg : Gl X x) (hb : ME X wi b tb) (hm : behindInMarks .NotIn (.Name x p) = false := by first | exact nomark _ | rfl) (hd : (x == ("__debug__" : Str)) = false := by decide) : MT X wi (.Compare b [.NotIn] [.Name x p] pos) (dTst (dTabIn kvs true tb)) := mTabInT true h hg hb hm hd
/-- what get finds -/
theorem TabAt.find {a : Addr} (t : TabAt X.K X.w a kvs) {pins : List (Addr × Obj)} {σ : L2.St} {H : Hp} {s : Shared} (I : Inv X pins σ H s) : ∃ f : Str → Option Value, s.heap.MapOf (strKind X.prog X.w) a f ∧ s.TypeIs (.ref a) "dict" ∧ (∀ b, Value.ref a = .ref b → ∃ ob, s.heap.get? b = .some ob ∧ ob.dict = .none) ∧
    (∀ z d, tval kvs z = .some d → ∃ u v, f z = .some u ∧ RelV v u ∧ ∀ I, RD X.K I d v) ∧ ∀ z, tval kvs z = .none → f z = .none := by
  obtain ⟨es, n, kl, kk⟩ := t.kd
  have hm := PySem.W.mapOf_K (prog := X.prog) (w := X.w) I.kIn kl kk
  refine ⟨_, hm, hm.typeIs, hm.noDict, fun z d hz => ?_, fun z hz => PySem.W.find_K kl (t.none z hz)⟩
  obtain ⟨u, v, n1, r, rd⟩ := t.some z d hz
  exact ⟨u, v, PySem.W.find_K kl n1, r, rd⟩
theorem mTabGet1 (h : TabOk X.K X.w X.mg x kvs) (hg : Gl X x) (he : ME X wi e tb) (m : M1 X (.Name x p) "get" apos e cpos := by exact ⟨rfl, rfl, rfl, rfl⟩) (hd : (x == ("__debug__" : Str)) = false := by decide) : ME X wi (.Call (.Attribute (.Name x p) "get" apos) [e] [] cpos) (dTabGet1 kvs tb) := by
  obtain ⟨a, hx, t⟩ := h
  refine ⟨fun pins s σ H Q' I h => ?_⟩
  obtain ⟨Ih, env, S, Q, sim, er, h, k⟩ := h
  refine wpAny_Call_method m.base m.few m.line PySem.F.plainAttrs_dict PySem.F.slot_dict_get PySem.F.type_dict_get (thn ((pe_tab hx hg hd).run pins s σ H (fun v H' => v = .ref a ∧ H' = H) I ⟨rfl, rfl⟩) fun u s1 ⟨x1, H1, I1, rx, ex, eh⟩ => ?_)
  subst ex eh
  obtain rfl : u = Value.ref a := rx
  obtain ⟨fm, hm, ty, nd, hs, hn⟩ := t.find I1
  refine ⟨ty, nd, ?_⟩
  rw [m.trees]
  refine Calls.callWith_builtin rfl (Calls.evalArgs_plain (Calls.spliced_cons (thn (he.run pins s1 σ H1 _ I1 ⟨Ih, env, S, _, sim, er, h, fun I1 y v S1 H1 e1 s1 r1 h1 => (show ∃ z, v = .str z ∧ ∀ v, (∃ d, tval kvs z = .some d ∧ (∀ I, RD X.K I d v)) ∨ (tval kvs z = .none ∧ v = .non) → Q' v H1 from ?_)⟩) fun iv s2 ⟨y, H2, I2, ry, q2⟩ => Calls.spliced_nil ?_)))
  · cases r1 <;> try exact h1.elim
    rename_i z
    refine ⟨z, rfl, fun v hv => ?_⟩
    rcases hv with ⟨d, hd, rd⟩ | ⟨hn, rfl⟩
    · have h1 : Q ((tval kvs z).getD .non) S1 := h1
      rw [hd] at h1
      exact k _ _ _ _ _ e1 s1 (rd _) h1
    · have h1 : Q ((tval kvs z).getD .non) S1 := h1
      rw [hn] at h1
      exact k _ _ _ _ _ e1 s1 .non h1
  · obtain ⟨z, ez, q2⟩ := q2
    subst ez
    obtain ⟨tk, rfl⟩ := ry
    obtain ⟨fm, hm, ty, nd, hs, hn⟩ := t.find I2
    refine call_meetsIn PySem.F.slot_dict_get hm.typeIs PySem.F.entry_dict_get (PySem.F.args_dict_get_2 _ _) (meets_dict_get (strKind X.prog X.w) a (strKind_is X.prog X.w z tk) t.lo) ⟨_, hm, ?_⟩
    cases hv : tval kvs z with
    | none => rw [hn z hv]; exact ⟨.non, H2, I2.tok _, rfl, q2 _ (.inr ⟨hv, rfl⟩)⟩
    | some d => obtain ⟨u, v, e1, r, rd⟩ := hs z d hv; rw [e1]; exact ⟨v, H2, I2.tok _, r, q2 _ (.inl ⟨d, hv, rd⟩)⟩
theorem mTabGet2 (h : TabOk X.K X.w X.mg x kvs) (hg : Gl X x) (he : ME X wi e tb) (hf : ME X wi f tz) (m : M2 X (.Name x p) "get" apos e f cpos := by exact ⟨rfl, rfl, rfl, rfl⟩) (hd : (x == ("__debug__" : Str)) = false := by decide) : ME X wi (.Call (.Attribute (.Name x p) "get" apos) [e, f] [] cpos) (dTabGet2 kvs tb tz) := by
  obtain ⟨a, hx, t⟩ := h
  refine ⟨fun pins s σ H Q' I h => ?_⟩
  obtain ⟨Ih, env, S, Q, sim, er, h, k⟩ := h
  refine wpAny_Call_method m.base m.few m.line PySem.F.plainAttrs_dict PySem.F.slot_dict_get PySem.F.type_dict_get (thn ((pe_tab hx hg hd).run pins s σ H (fun v H' => v = .ref a ∧ H' = H) I ⟨rfl, rfl⟩) fun u s1 ⟨x1, H1, I1, rx, ex, eh⟩ => ?_)
  subst ex eh
  obtain rfl : u = Value.ref a := rx
  obtain ⟨fm, hm, ty, nd, hs, hn⟩ := t.find I1
  refine ⟨ty, nd, ?_⟩
  rw [m.trees]
  refine Calls.callWith_builtin rfl (Calls.evalArgs_plain (Calls.spliced_cons (thn (he.run pins s1 σ H1 (fun v H2 => ∃ I2 y S2, Ext Ih S H1 I2 S2 H2 ∧ Sim X.K wi I2 S2 H2 ∧ RD X.K I2 y v ∧ tz env S2 fun d S3 => match y with
    | .str z => Q ((tval kvs z).getD d) S3
    | _ => False) I1 ⟨Ih, env, S, _, sim, er, h, fun I1 y v S1 H1 e1 s1 r1 h1 => ⟨I1, y, S1, e1, s1, r1, h1⟩⟩) fun iv s2 ⟨v, H2, J2, rv, I2, y, S2, x2, sm2, ry, h2⟩ =>
    Calls.spliced_cons (thn (hf.run pins s2 σ H2 (fun u H3 => ∃ z, v = .str z ∧ ∀ r, (∃ d, tval kvs z = .some d ∧ (∀ I, RD X.K I d r)) ∨ (tval kvs z = .none ∧ r = u) → Q' r H3) J2 ⟨I2, env, S2, _, sm2, er.le x2.le, h2, fun I3 d u S3 H3 e3 s3 r3 h3 => ?_⟩) fun fv s3 ⟨u, H3, J3, ru, q3⟩ => Calls.spliced_nil ?_))))
  · cases ry <;> try exact h3.elim
    rename_i z
    refine ⟨z, rfl, fun r hr => ?_⟩
    have h3 : Q ((tval kvs z).getD d) S3 := h3
    rcases hr with ⟨d', hd', rd⟩ | ⟨hn, rfl⟩
    · rw [hd'] at h3
      exact k _ _ _ _ _ (x2.trans e3) s3 (rd _) h3
    · rw [hn] at h3
      exact k _ _ _ _ _ (x2.trans e3) s3 r3 h3
  · obtain ⟨z, ez, q3⟩ := q3
    subst ez
    obtain ⟨tk, rfl⟩ := rv
    obtain ⟨fm, hm, ty, nd, hs, hn⟩ := t.find J3
    refine call_meetsIn PySem.F.slot_dict_get hm.typeIs PySem.F.entry_dict_get (PySem.F.args_dict_get_3 _ _ _) (meets_dict_get_default (strKind X.prog X.w) a (strKind_is X.prog X.w z tk) t.lo fv) ⟨_, hm, ?_⟩
    cases hv : tval kvs z with
    | none => rw [hn z hv]; exact ⟨u, H3, J3.tok _, ru, q3 _ (.inr ⟨hv, rfl⟩)⟩
    | some d => obtain ⟨u, v, e1, r, rd⟩ := hs z d hv; rw [e1]; exact ⟨v, H3, J3.tok _, r, q3 _ (.inl ⟨d, hv, rd⟩)⟩
end
/-! ### calls of a table's functions: TABLE[k](..) -/
/-- the functions of a table, with their promises -/
inductive FnTab (X : Cx) (CX : CXT) (k n : Nat) : List (Str × D) → List (Str × DSp) → Prop
  | nil : FnTab X CX k n [] []
  | cons {z : Str} {f : Addr} {fd : FuncData} {ps : List Str} {sp : DSp} {j : Nat} {fs : List (Str × D)} {sps : List (Str × DSp)} : FnG X.prog X.w X.K X.mg X.base CX j f fd ps sp → j ≤ k → Bnd X.K fd ps n [] (fun xs _ => xs) → PySem.W.keepIn X.K (.ref f) = true → FnTab X CX k n fs sps → FnTab X CX k n ((z, .val (.ref f)) :: fs) ((z, sp) :: sps)
def spval (sps : List (Str × DSp)) (z : Str) : Option DSp := (sps.find? fun q => decide (q.1 = z)).map (·.2)
theorem FnTab.at' {X : Cx} {CX : CXT} {k n : Nat} : ∀ {fs : List (Str × D)} {sps : List (Str × DSp)} {z : Str} {sp : DSp}, FnTab X CX k n fs sps → spval sps z = some sp → ∃ f fd ps, tval fs z = some (.val (.ref f)) ∧ FnG X.prog X.w X.K X.mg X.base CX k f fd ps sp ∧ Bnd X.K fd ps n [] (fun xs _ => xs) ∧ PySem.W.keepIn X.K (.ref f) = true
  | _, _, _, _, .nil, h => by cases h
  | (z0, _) :: fs, _ :: sps, z, sp, .cons (f := f) F hj hb hk t, h => by
    by_cases hz : z0 = z
    · refine ⟨f, _, _, ?_, ?_, hb, hk⟩
      · unfold tval; rw [List.find?_cons, show decide (z0 = z) = true from decide_eq_true hz]; rfl
      · unfold spval at h
        rw [List.find?_cons, show decide (z0 = z) = true from decide_eq_true hz] at h
        cases h
        exact F.mono hj
    · have h' : spval sps z = some sp := by
        unfold spval at h ⊢
        rw [List.find?_cons, show decide (z0 = z) = false from decide_eq_false hz] at h
        exact h
      obtain ⟨f', fd, ps, h1, h2, h3, h4⟩ := FnTab.at' t h'
      refine ⟨f', fd, ps, ?_, h2, h3, h4⟩
      unfold tval at h1 ⊢
      rw [List.find?_cons, show decide (z0 = z) = false from decide_eq_false hz]
      exact h1
section
variable {X : Cx} {wi : Wi} {CX : CXT} {k n : Nat} {x : Str} {fs : List (Str × D)} {sps : List (Str × DSp)} {b e : Expr} {es : List Expr} {tb : DE} {t : DA} {p pos spos : Pos} {E : XK} {E' : XD}
def dTabCall (sps : List (Str × DSp)) (n : Nat) (E : XD) (tb : DE) (t : DA) : DE := fun env S Q => tb env S fun y S1 => match y with
  | .str z => (match spval sps z with
    | some sp => t env S1 fun xs S2 => xs.length = n ∧ sp xs S2 Q E
    | none => False)
  | _ => False
theorem mTabCall (ft : FnTab X CX k n fs sps) (hr : Room k X.A) (hG : X.A.guards = some []) (h : TabOk X.K X.w X.mg x fs) (hg : Gl X x) (hx : XPass CX X wi E' E) (hb : ME X wi b tb) (ha : MA X wi (e :: es) t)
    (hs : PlainIx b := by intro _ _; rfl) (hd : (x == ("__debug__" : Str)) = false := by decide)
    (ht : eval (.Call (.Subscript (.Name x p) b spos) (e :: es) [] pos) X.env = (do callWith pos (← eval (.Subscript (.Name x p) b spos) X.env) [] (backTo pos (starEach (e :: es) X.env)) (backToKw pos (keywordEach [] X.env))) := by rfl)
    (he : starEach (e :: es) X.env = (false, eval e X.env) :: starEach es X.env := by rfl) (hpl : (backTo pos (starEach es X.env)).any (·.1) = false := by rfl) :
    ME X wi (.Call (.Subscript (.Name x p) b spos) (e :: es) [] pos) (dTabCall sps n E' tb t) := by
  refine ⟨fun pins s σ H Q' I h' => ?_⟩
  obtain ⟨Ih, env, S, Q, sim, er, h', kq⟩ := h'
  obtain ⟨a, hmx, tt⟩ := h
  have hix := (pe_ix (pos := spos) ix_kdict (pe_tab (p := p) hmx hg hd) hb hs).run pins s σ H (fun v H1 => ∃ f fd ps sp, v = .ref f ∧ FnG X.prog X.w X.K X.mg X.base CX k f fd ps sp ∧ Bnd X.K fd ps n [] (fun xs _ => xs) ∧ PySem.W.keepIn X.K (.ref f) = true ∧ ∃ I1 S1, Ext Ih S H I1 S1 H1 ∧ Sim X.K wi I1 S1 H1 ∧ t env S1 fun xs S2 => xs.length = n ∧ sp xs S2 Q E') I
    ⟨Ih, env, S, _, sim, er, h', fun I1 y v S1 H1 e1 s1 r1 h1 => ?_⟩
  · refine Call_ (thn hix fun u s1 ⟨v, H1, J1, ru, f, fd, ps, sp, ev, F, hbn, hk, I1, S1, x1, sm1, h1⟩ => ?_) ht
    subst ev
    obtain rfl : u = Value.ref f := ru
    refine PySem.W.callWith_K (h₀ := X.base) I.ok.mod.kin hk (thn (ha.run pos pins s1 σ H1 _ J1 ⟨I1, env, S1, _, sm1, er.le x1.le, h1, fun I2 xs vs S2 H2 e2 s2 r2 h2 => (show ∃ I2 xs S2, Ext Ih S H I2 S2 H2 ∧ Sim X.K wi I2 S2 H2 ∧ RDs X.K I2 xs vs ∧ xs.length = n ∧ sp xs S2 Q E' from ⟨I2, xs, S2, x1.trans e2, s2, r2, h2⟩)⟩) fun us s2 ⟨vs, H2, J2, r2, I2, xs, S2, x2, sm2, rd2, hl, q⟩ => ⟨J2.kIn, ?_⟩) he hpl
    exact run_g (wi := wi) (ws := []) (zs := []) (ys := []) F hr hG hbn hx J2 r2 .nil sm2 rd2 .nil hl rfl q (kq.ext x2)
  · cases r1 <;> try exact h1.elim
    rename_i z
    have h1 : (match spval sps z with
      | some sp => t env S1 fun xs S2 => xs.length = n ∧ sp xs S2 Q E'
      | none => False) := h1
    split at h1
    · rename_i sp esp
      obtain ⟨f, fd, ps, h2, h3, h4, h5⟩ := ft.at' esp
      obtain ⟨u, v, n1, r, rd⟩ := tt.some z _ h2
      obtain ⟨es', n', kl, kk⟩ := tt.kd
      have rv := rd (fun _ => none)
      cases rv
      exact ⟨a, z, _, rfl, rfl, ⟨es', n', u, kl, kk, n1, r⟩, f, fd, ps, sp, rfl, h3, h4, h5, I1, S1, e1, s1, h1⟩
    · exact h1.elim
end
/-! ### a local name that holds a function of a table -/
section
variable {X : Cx} {wi : Wi} {CX : CXT} {k n : Nat} {x : Str} {fs : List (Str × D)} {sps : List (Str × DSp)} {e : Expr} {es : List Expr} {t : DA} {p pos : Pos} {E : XK} {E' : XD}
def dCallV (fs : List (Str × D)) (sps : List (Str × DSp)) (i n : Nat) (E : XD) (t : DA) : DE := fun env S Q => ∃ z d sp, env[i]? = some (some d) ∧ tval fs z = some d ∧ spval sps z = some sp ∧ t env S fun xs S2 => xs.length = n ∧ sp xs S2 Q E
theorem mCallV (i : Nat) (ft : FnTab X CX k n fs sps) (hr : Room k X.A) (hG : X.A.guards = some []) (hx : XPass CX X wi E' E) (ha : MA X wi (e :: es) t)
    (hN : X.N[i]? = some x := by rfl) (hv : Vis X.env.scope x := by first | exact Or.inl rfl | exact Or.inr (Or.inl rfl) | exact Or.inr (Or.inr rfl)) (hd : (x == ("__debug__" : Str)) = false := by decide) (hcd : (x == ("__classdict__" : Str)) = false := by decide)
    (ht : eval (.Call (.Name x p) (e :: es) [] pos) X.env = (do callWith pos (← eval (.Name x p) X.env) [] (backTo pos (starEach (e :: es) X.env)) (backToKw pos (keywordEach [] X.env))) := by rfl)
    (he : starEach (e :: es) X.env = (false, eval e X.env) :: starEach es X.env := by rfl) (hpl : (backTo pos (starEach es X.env)).any (·.1) = false := by rfl) :
    ME X wi (.Call (.Name x p) (e :: es) [] pos) (dCallV fs sps i n E' t) := by
  refine ⟨fun pins s σ H Q' I h' => ?_⟩
  obtain ⟨Ih, env, S, Q, sim, er, ⟨z, d, sp, e1, e2, e3, h'⟩, kq⟩ := h'
  obtain ⟨f, fd, ps, h2, F, hbn, hk⟩ := ft.at' e3
  rw [e2] at h2
  cases h2
  obtain ⟨v, hv2, rv⟩ := er.at' i _ e1
  cases rv
  have hix := (pe_var (X := X) (pos := p) hN hv hd hcd).run pins s σ H (fun v H1 => v = .ref f ∧ H1 = H) I ⟨_, hv2, rfl, rfl⟩
  refine Call_ (thn hix fun u s1 ⟨v, H1, J1, ru, ev, eh⟩ => ?_) ht
  subst ev eh
  obtain rfl : u = Value.ref f := ru
  refine PySem.W.callWith_K (h₀ := X.base) I.ok.mod.kin hk (thn (ha.run pos pins s1 σ H1 _ J1 ⟨Ih, env, S, _, sim, er, h', fun I2 xs vs S2 H2 e2 s2 r2 h2 => (show ∃ I2 xs S2, Ext Ih S H1 I2 S2 H2 ∧ Sim X.K wi I2 S2 H2 ∧ RDs X.K I2 xs vs ∧ xs.length = n ∧ sp xs S2 Q E' from ⟨I2, xs, S2, e2, s2, r2, h2⟩)⟩) fun us s2 ⟨vs, H2, J2, r2, I2, xs, S2, x2, sm2, rd2, hl, q⟩ => ⟨J2.kIn, ?_⟩) he hpl
  exact run_g (wi := wi) (ws := []) (zs := []) (ys := []) F hr hG hbn hx J2 r2 .nil sm2 rd2 .nil hl rfl q (kq.ext x2)
end
/-! ### the head's facts of tables -/
def tabX (K : PySem.W.Frag) (x : Str) (kvs : List (Str × D)) : Bool := (match PySem.W.nsIn K mainGlobals x with
  | some (some (.ref a)) => decide (a = He.ga K x)
  | _ => false) && kvs.all fun q => match PySem.W.nsIn K (He.ga K x) q.1 with
  | some (some u) => (match q.2 with
    | .val v => He.relB v u
    | d => vD K d u)
  | _ => false
theorem tval_mem {kvs : List (Str × D)} {z : Str} {d : D} (h : tval kvs z = some d) : (z, d) ∈ kvs := by
  unfold tval at h
  obtain ⟨q, hq, rfl⟩ := Option.map_eq_some_iff.1 h
  have h1 := List.mem_of_find?_eq_some hq
  have h2 : q.1 = z := by simpa using List.find?_some hq
  rw [← h2]; exact h1
theorem nsIn_none {K : PySem.W.Frag} {w : World} {a : Addr} {es : Array DictEntry} {n : Nat} {z : Str} {ks : List Str} (kl : K.lookup a = some ⟨.type "dict", none, .dict es n, #[]⟩) (ek : es.toList.map He.keyOf = He.keysIn w.params ks) (hz : z ∉ ks) : PySem.W.nsIn K a z = some none := by
  have key : ∀ {l : List DictEntry} {ks : List Str}, l.map He.keyOf = He.keysIn w.params ks → z ∉ ks → l.find? (·.key.isStr z) = none ∧ l.any (·.refKey) = false := by
    intro l
    induction l with
    | nil => intro ks _ _; exact ⟨rfl, rfl⟩
    | cons e l ih =>
      intro ks h hz
      cases ks with
      | nil => cases h
      | cons k ks =>
        have h : He.keyOf e :: l.map He.keyOf = some (k, PyData.keyHash w.params k) :: He.keysIn w.params ks := h
        injection h with h1 h2
        obtain ⟨i1, i2⟩ := ih h2 fun m => hz (List.mem_cons_of_mem _ m)
        unfold He.keyOf at h1
        split at h1
        · rename_i x t ex
          have h3 : x = k := (Prod.mk.inj (Option.some.inj h1)).1
          subst h3
          have hne : ¬ x = z := fun e => hz (e ▸ List.mem_cons_self ..)
          refine ⟨?_, ?_⟩
          · rw [List.find?_cons, ex]
            have : (Value.str x t).isStr z = false := by
              rw [PySem.W.isStr_of]
              unfold Value.isStrOf
              simpa using hne
            rw [this]
            exact i1
          · rw [List.any_cons, i2]
            have : e.refKey = false := by unfold DictEntry.refKey; rw [ex]
            rw [this]; rfl
        · cases h1
  obtain ⟨h1, h2⟩ := key ek hz
  unfold PySem.W.nsIn
  rw [kl]
  dsimp only
  rw [h1]
  dsimp only
  rw [h2]; rfl
theorem tab_of {K : PySem.W.Frag} {w : World} {h : Heap} {mg : Str → Option Value} {x : Str} {kvs : List (Str × D)} (X : K.In h) (G : h.Ns mainGlobals mg) (kd : He.dicW K (He.ga K x) = some (He.keysIn w.params (kvs.map (·.1)))) (c : tabX K x kvs = true) : TabOk K w mg x kvs := by
  unfold tabX at c
  rw [Bool.and_eq_true] at c
  obtain ⟨c1, c2⟩ := c
  have hm : mg x = some (.ref (He.ga K x)) := by
    split at c1
    · rename_i a e
      rw [of_decide_eq_true c1] at e
      exact PySem.W.mg_of X G e
    · cases c1
  obtain ⟨es, n, k⟩ := He.dicW_ok kd
  refine ⟨_, hm, ⟨es, n, k.1, k.2⟩, k.3, fun z d hz => ?_, fun z hz => ?_⟩
  · have h2 := List.all_eq_true.mp c2 _ (tval_mem hz)
    dsimp only at h2
    split at h2
    · rename_i u e
      refine ⟨u, ?_⟩
      split at h2
      · rename_i v
        exact ⟨v, e, He.relB_ok h2, fun I => .val v⟩
      · obtain ⟨v, r, rd⟩ := vD_ok _ u h2
        exact ⟨v, e, r, rd⟩
    · cases h2
  · refine nsIn_none (w := w) (ks := kvs.map (·.1)) k.1 ?_ fun hm => ?_
    · have h1 := kd
      unfold He.dicW at h1
      rw [k.1] at h1
      have h2 : (match decide (("dict" : String) = "dict") && ((#[] : Array (Option Value)).isEmpty && !(He.ga K x == sysModules)) with
        | true => some (es.toList.map He.keyOf)
        | false => none) = some (He.keysIn w.params (kvs.map (·.1))) := h1
      rw [k.3] at h2
      exact Option.some.inj h2
    · obtain ⟨q, hq, rfl⟩ := List.mem_map.1 hm
      unfold tval at hz
      rw [Option.map_eq_none_iff, List.find?_eq_none] at hz
      exact hz q hq (decide_eq_true rfl)
/-- the head's hook with facts of one's own and tables -/
abbrev TabK : Type := Str × List Str
def hookY (n : Nat) (fa : List He.Fa) (fn : List He.DefD) (xt : PySem.W.Frag → Bool) (ts : List TabK) : PySem.W.Hook where
  α := (He.AlD × Bool) × List (Option (List (Option (Str × Int))))
  obs := fun s => ((He.obsDG n fa fn s.heap.get?, xt (He.frG s.heap.get? (He.asD s.heap.get? n))), ts.map fun t => He.dicW (He.frG s.heap.get? (He.asD s.heap.get? n)) (He.ga (He.frG s.heap.get? (He.asD s.heap.get? n)) t.1))
  val := fun w => ((He.valD fn, true), ts.map fun t => some (He.keysIn w.params t.2))
  says := fun w h => ∃ K, K.In h ∧ He.SaysD fa fn K ∧ xt K = true ∧ ts.map (fun t => He.dicW K (He.ga K t.1)) = ts.map fun t => some (He.keysIn w.params t.2)
  of := fun w s e => ⟨He.frG s.heap.get? (He.asD s.heap.get? n), He.frG_in, congrArg (fun z : (He.AlD × Bool) × List (Option (List (Option (Str × Int)))) => z.1.1) e, congrArg (fun z : (He.AlD × Bool) × List (Option (List (Option (Str × Int)))) => z.1.2) e, congrArg (fun z : (He.AlD × Bool) × List (Option (List (Option (Str × Int)))) => z.2) e⟩
  keeps := fun w h h' ⟨K, i, c⟩ hk => ⟨K, fun b o e => hk b o (i b o e), c⟩
def obY (n : Nat) (fa : List He.Fa) (fn : List He.DefD) (xt : PySem.W.Frag → Bool) (ts : List TabK) (s : PySem.W.SharedT) : (He.AlD × Bool) × List (Option (List (Option (Str × Int)))) :=
  ((He.obsDG n fa fn (HandSHeadRun.getT s), xt (He.frG (HandSHeadRun.getT s) (He.asD (HandSHeadRun.getT s) n))), ts.map fun t => He.dicW (He.frG (HandSHeadRun.getT s) (He.asD (HandSHeadRun.getT s) n)) (He.ga (He.frG (HandSHeadRun.getT s) (He.asD (HandSHeadRun.getT s) n)) t.1))
theorem obY_eq {n : Nat} {fa : List He.Fa} {fn : List He.DefD} {xt : PySem.W.Frag → Bool} {ts : List TabK} (s : PySem.W.SharedT) : obY n fa fn xt ts s = (hookY n fa fn xt ts).obs s.abs := by
  have e : HandSHeadRun.getT s = s.abs.heap.get? := funext (HandSHeadRun.getT_eq s)
  unfold obY
  rw [e]
  rfl
theorem tab_at {K : PySem.W.Frag} {w : World} {ts : List TabK} (e : ts.map (fun t => He.dicW K (He.ga K t.1)) = ts.map fun t => some (He.keysIn w.params t.2)) (i : Nat) {t : TabK} (h : ts[i]? = some t := by rfl) : He.dicW K (He.ga K t.1) = some (He.keysIn w.params t.2) := by
  have e2 : (ts.map fun t => He.dicW K (He.ga K t.1))[i]? = (ts.map fun t => some (He.keysIn w.params t.2))[i]? := by rw [e]
  rw [List.getElem?_map, List.getElem?_map, h] at e2
  exact Option.some.inj e2
/-! ### rows to rewrite by -/
theorem dTabIx_at (kvs : List (Str × D)) (tb : DE) (env : Env') (S : Sto) (Q : DK) : dTabIx kvs tb env S Q = (tb env S fun y S1 => match y with
  | .str z => qOpt (tval kvs z) S1 Q
  | _ => False) := Eq.trans rfl rfl
theorem dTabIn_at (kvs : List (Str × D)) (neg : Bool) (tb : DE) (env : Env') (S : Sto) (Q : DK) : dTabIn kvs neg tb env S Q = (tb env S fun y S1 => match y with
  | .str z => Q (.bl (neg ^^ (tval kvs z).isSome)) S1
  | _ => False) := Eq.trans rfl rfl
theorem dTabGet1_at (kvs : List (Str × D)) (tb : DE) (env : Env') (S : Sto) (Q : DK) : dTabGet1 kvs tb env S Q = (tb env S fun y S1 => match y with
  | .str z => Q ((tval kvs z).getD .non) S1
  | _ => False) := Eq.trans rfl rfl
theorem dTabGet2_at (kvs : List (Str × D)) (tb tz : DE) (env : Env') (S : Sto) (Q : DK) : dTabGet2 kvs tb tz env S Q = (tb env S fun y S1 => tz env S1 fun d S2 => match y with
  | .str z => Q ((tval kvs z).getD d) S2
  | _ => False) := Eq.trans rfl rfl
theorem dTabCall_at (sps : List (Str × DSp)) (n : Nat) (E : XD) (tb : DE) (t : DA) (env : Env') (S : Sto) (Q : DK) : dTabCall sps n E tb t env S Q = (tb env S fun y S1 => match y with
  | .str z => (match spval sps z with
    | some sp => t env S1 fun xs S2 => xs.length = n ∧ sp xs S2 Q E
    | none => False)
  | _ => False) := Eq.trans rfl rfl
theorem dCallV_at (fs : List (Str × D)) (sps : List (Str × DSp)) (i n : Nat) (E : XD) (t : DA) (env : Env') (S : Sto) (Q : DK) : dCallV fs sps i n E t env S Q = (∃ z d sp, env[i]? = some (some d) ∧ tval fs z = some d ∧ spval sps z = some sp ∧ t env S fun xs S2 => xs.length = n ∧ sp xs S2 Q E) := Eq.trans rfl rfl
theorem tval_n {z : Str} : tval [] z = none := rfl
theorem tval_c {a b : String} {d : D} {r : List (Str × D)} : tval ((Str.ofString a, d) :: r) (Str.ofString b) = if a = b then some d else tval r (Str.ofString b) := by
  unfold tval
  rw [List.find?_cons]
  by_cases h : a = b
  · rw [if_pos h, show decide ((Str.ofString a, d).1 = Str.ofString b) = true from decide_eq_true (by rw [h])]; rfl
  · rw [if_neg h, show decide ((Str.ofString a, d).1 = Str.ofString b) = false from decide_eq_false fun e => h (ofS_inj e)]
theorem spval_n {z : Str} : spval [] z = none := rfl
theorem spval_c {a b : String} {d : DSp} {r : List (Str × DSp)} : spval ((Str.ofString a, d) :: r) (Str.ofString b) = if a = b then some d else spval r (Str.ofString b) := by
  unfold spval
  rw [List.find?_cons]
  by_cases h : a = b
  · rw [if_pos h, show decide ((Str.ofString a, d).1 = Str.ofString b) = true from decide_eq_true (by rw [h])]; rfl
  · rw [if_neg h, show decide ((Str.ofString a, d).1 = Str.ofString b) = false from decide_eq_false fun e => h (ofS_inj e)]
end DL


set_option Elab.async false
set_option linter.all false
set_option maxRecDepth 100000
set_option maxHeartbeats 4000000
namespace DL
open PySem PySem.Spec PyProof.Rows L2
/-! ### zip of two lists, tuples or texts -/
inductive SK where
  | tup | lst | str
/-- what is to be walked: how it is found in the heap -/
inductive Sq3 (K : PySem.W.Frag) (H : Hp) : SK → V → List V → Prop
  | tup {a : Addr} {vs : List V} : SqT K H a vs → Sq3 K H .tup (.ref a) vs
  | lst {a : Addr} {vs : List V} : SqL K H a vs → Sq3 K H .lst (.ref a) vs
  | str (x : Str) : Sq3 K H .str (.str x) (x.cps.toList.map fun c => .str ⟨#[c]⟩)
def SK.ty : SK → Value → String
  | .tup, _ => "tuple_iterator"
  | .lst, _ => "list_iterator"
  | .str, .str x _ => if x.cps.all (· < 128) = true then "str_ascii_iterator" else "str_iterator"
  | .str, _ => "str_iterator"
/-- an iterator that has gone i steps -/
def ItSt (ty : String) (v : Value) (it : Addr) (i : Nat) (h : Heap) : Prop := ∃ o, h.get? it = some o ∧ o.cls = .type ty ∧ o.data = .fields #[v, .int i 0]
def itob (ty : String) (v : Value) : Obj := { cls := .type ty, data := .fields #[v, .int 0 0] }
/-- what the walk reads, of the heap alone -/
def SqH (h : Heap) : SK → Value → List Value → Prop
  | .tup, .ref a, us => h.IsTuple a us.toArray
  | .lst, .ref a, us => h.IsList a us.toArray
  | .str, .str x t, us => True
  | _, _, _ => False
theorem Draws.tuple {prog : Program} {w : World} {A : Around} (hh : A.handled = none) (it l : Addr) (hne : l ≠ it) (items : Array Value) :
    Draws prog w A it [it, l] items.size (fun i v => items[i]? = some v) (fun i h => h.IsTupleIter it l i ∧ h.IsTuple l items) where
  live := fun _ _ st => let ⟨o, ho, _⟩ := st.1; ⟨o, ho⟩
  frame := fun _ _ _ st hk => ⟨st.1.at fun o e => hk it (by simp) o e, let ⟨o, ho, r⟩ := st.2; ⟨o, hk l (by simp) o ho, r⟩⟩
  item := fun i s Q E hi st hQ => by
    refine RZ.nextOf_tuple_item st.1 st.2 (x := items[i]) (by simp [hi]) fun h' hit' hs' => ?_
    exact hQ _ h' s.toks (by simp [hi]) ⟨hit', st.2.extBut hs'.extBut hne⟩ hs'
  done := fun s Q E st hE => RZ.nextOf_tuple_end hh st.1 st.2 (by simp) hE
/-- the address of a walked thing -/
def adV : V → List Addr
  | .ref a => [a]
  | _ => []
section
variable {X : Cx} {pins : List (Addr × Obj)} {σ : L2.St} {H : Hp} {s : Shared}
theorem vals_get' : ∀ {xs : List V} {us : List Value} {i : Nat} {u : Value}, Vals xs us → us[i]? = some u → ∃ x, xs[i]? = some x ∧ RelV x u
  | _, _, _, _, .nil, e => by simp at e
  | _, _, 0, _, .cons r _, e => by simp at e; subst e; exact ⟨_, rfl, r⟩
  | _, _, i + 1, u, .cons _ t, e => by
    obtain ⟨v, h1, h2⟩ := vals_get' (i := i) (u := u) t (by simpa using e)
    exact ⟨v, by simpa using h1, h2⟩
/-- one iterator's draws, as long as the thing stands -/
theorem draws3 {k : SK} {v : V} {u : Value} {vs : List V} {it : Addr} (I : Inv X pins σ H s) (hA : X.A.handled = none) (q : Sq3 X.K H k v vs) (r : RelV v u) (hne : ∀ a ∈ adV v, a ≠ it) :
    ∃ (fp : List Addr) (P : Nat → Value → Prop) (St : Nat → Heap → Prop), Draws X.prog X.w X.A.in1 it fp vs.length P St ∧ (∀ b, b ∈ fp → b = it ∨ b ∈ adV v) ∧ it ∈ fp ∧ (∀ i h, St i h → ItSt (k.ty u) u it i h) ∧ (∀ i, ItSt (k.ty u) u it i s.heap → St i s.heap) ∧ ∀ i x, P i x → ∃ y, vs[i]? = some y ∧ RelV y x := by
  have hh : X.A.in1.handled = none := hA
  cases q with
  | @tup a _ hq =>
    cases r
    obtain ⟨its, rv, p, _⟩ := I.tuple hq
    refine ⟨[it, a], fun i v => its.toArray[i]? = some v, fun i h => h.IsTupleIter it a i ∧ h.IsTuple a its.toArray, by rw [rv.length, ← List.size_toArray]; exact Draws.tuple hh it a (hne a (List.mem_singleton.2 rfl)) its.toArray, fun b hb => ?_, List.mem_cons_self .., fun i h st => ?_, fun i st => ⟨?_, p⟩, fun i x hx => ?_⟩
    · rcases List.mem_cons.1 hb with e | e
      · exact .inl e
      · exact .inr e
    · obtain ⟨o, h1, h2, h3⟩ := st.1
      exact ⟨o, h1, h2, h3⟩
    · obtain ⟨o, h1, h2, h3⟩ := st
      exact ⟨o, h1, h2, h3⟩
    · exact vals_get' (i := i) rv (by simpa using hx)
  | @lst a _ hq =>
    cases r
    obtain ⟨its, rv, p, _⟩ := I.list hq
    refine ⟨[it, a], fun i v => its.toArray[i]? = some v, fun i h => h.IsListIter it a i ∧ h.IsList a its.toArray, by rw [rv.length, ← List.size_toArray]; exact Draws.list hh it a (hne a (List.mem_singleton.2 rfl)) its.toArray, fun b hb => ?_, List.mem_cons_self .., fun i h st => ?_, fun i st => ⟨?_, p.isList⟩, fun i x hx => ?_⟩
    · rcases List.mem_cons.1 hb with e | e
      · exact .inl e
      · exact .inr e
    · obtain ⟨o, h1, h2, h3⟩ := st.1
      exact ⟨o, h1, h2, h3⟩
    · obtain ⟨o, h1, h2, h3⟩ := st
      exact ⟨o, h1, h2, h3⟩
    · exact vals_get' (i := i) rv (by simpa using hx)
  | str x =>
    obtain ⟨t, rfl⟩ := r
    have hl : (x.cps.toList.map fun c => V.str ⟨#[c]⟩).length = x.cps.size := by simp
    have hP : ∀ i v, (∃ c u, x.cps[i]? = some c ∧ v = Value.str ⟨#[c]⟩ u) → ∃ y, (x.cps.toList.map fun c => V.str ⟨#[c]⟩)[i]? = some y ∧ RelV y v := fun i v hv => by
      obtain ⟨c, u, h1, h2⟩ := hv
      subst h2
      exact ⟨.str ⟨#[c]⟩, by rw [List.getElem?_map, Array.getElem?_toList, h1]; rfl, u, rfl⟩
    cases ha : x.cps.all (· < 128) with
    | true =>
      have et : SK.ty .str (.str x t) = "str_ascii_iterator" := by simp only [SK.ty]; rw [ha]; rfl
      refine ⟨_, _, _, by rw [hl]; exact Draws.strAscii hh it x t, fun b hb => .inl (List.mem_singleton.1 hb), List.mem_singleton.2 rfl, fun i h st => ?_, fun i st => ?_, hP⟩
      · rw [et]; exact st
      · rw [et] at st; exact st
    | false =>
      have et : SK.ty .str (.str x t) = "str_iterator" := by simp only [SK.ty]; rw [ha]; rfl
      refine ⟨_, _, _, by rw [hl]; exact Draws.strWide hh it x t, fun b hb => .inl (List.mem_singleton.1 hb), List.mem_singleton.2 rfl, fun i h st => ?_, fun i st => ?_, hP⟩
      · rw [et]; exact st
      · rw [et] at st; exact st
end
section
variable {P : Program} {w : World} {K : PySem.W.Frag} {elts : List Expr} {kk : Nat} {tpos : Pos}
theorem Sq3.inj {X : Cx} {pins : List (Addr × Obj)} {σ : L2.St} {H : Hp} {s : Shared} {k : SK} {v : V} {xs ys : List V} (I : Inv X pins σ H s) (h : Sq3 X.K H k v xs) (h' : Sq3 X.K H k v ys) : xs = ys := by
  cases h <;> cases h'
  · exact I.tuple_inj ‹_› ‹_›
  · exact I.list_inj ‹_› ‹_›
  · rfl
def Itz3 (K : PySem.W.Frag) (k1 k2 : SK) (v1 v2 : V) : It :=
  ⟨fun i H => ∃ xs ys x y, Sq3 K H k1 v1 xs ∧ Sq3 K H k2 v2 ys ∧ xs[i]? = some x ∧ ys[i]? = some y,
   fun i H v H' => ∃ T ob x y, v = .ref T ∧ ob.dict = none ∧ H T = none ∧ H' = upd H T (.frz ob (.tup [x, y])) ∧ (∀ xs, Sq3 K H k1 v1 xs → xs[i]? = some x) ∧ ∀ ys, Sq3 K H k2 v2 ys → ys[i]? = some y,
   fun i H => ∃ xs ys, Sq3 K H k1 v1 xs ∧ Sq3 K H k2 v2 ys ∧ (i = xs.length ∨ i = ys.length) ∧ i ≤ xs.length ∧ i ≤ ys.length⟩
/-- the cells of the zip lie apart, and from what is walked -/
structure Zap (z TI TO i1 i2 : Addr) (v1 v2 : V) : Prop where
  TIz : TI ≠ z
  TOz : TO ≠ z
  TITO : TI ≠ TO
  TIi1 : TI ≠ i1
  TIi2 : TI ≠ i2
  zi1 : z ≠ i1
  zi2 : z ≠ i2
  Ti1 : TO ≠ i1
  Ti2 : TO ≠ i2
  i12 : i1 ≠ i2
  a1 : ∀ a ∈ adV v1, a ≠ z ∧ a ≠ TI ∧ a ≠ TO ∧ a ≠ i1 ∧ a ≠ i2
  a2 : ∀ a ∈ adV v2, a ≠ z ∧ a ≠ TI ∧ a ≠ TO ∧ a ≠ i1 ∧ a ≠ i2
theorem Zap.sep {z TI TO i1 i2 : Addr} {v1 v2 : V} (D : Zap z TI TO i1 i2 v1 v2) {fp1 fp2 : List Addr} (h1 : ∀ b, b ∈ fp1 → b = i1 ∨ b ∈ adV v1) (h2 : ∀ b, b ∈ fp2 → b = i2 ∨ b ∈ adV v2) (m1 : i1 ∈ fp1) (m2 : i2 ∈ fp2) : ZipSep2 z TI TO i1 i2 fp1 fp2 where
  TIz := D.TIz
  TOz := D.TOz
  TITO := D.TITO
  TIi1 := D.TIi1
  mem1 := m1
  zf1 := fun m => by rcases h1 _ m with e | e; exact D.zi1 e; exact (D.a1 _ e).1 rfl
  Tf1 := fun m => by rcases h1 _ m with e | e; exact D.Ti1 e; exact (D.a1 _ e).2.2.1 rfl
  TIi2 := D.TIi2
  mem2 := m2
  zf2 := fun m => by rcases h2 _ m with e | e; exact D.zi2 e; exact (D.a2 _ e).1 rfl
  Tf2 := fun m => by rcases h2 _ m with e | e; exact D.Ti2 e; exact (D.a2 _ e).2.2.1 rfl
  sep1_2 := fun m => by rcases h2 _ m with e | e; exact D.i12 e; exact (D.a2 _ e).2.2.2.1 rfl
  sep2_1 := fun m => by rcases h1 _ m with e | e; exact D.i12 e.symm; exact (D.a1 _ e).2.2.2.2 rfl
theorem turn_zip3 {k1 k2 : SK} {v1 v2 : V} {u1 u2 : Value} {z TI TO i1 i2 : Addr} (D : Zap z TI TO i1 i2 v1 v2) (r1 : RelV v1 u1) (r2 : RelV v2 u2) :
    Turn P w K (.Tuple elts kk tpos) (Itz3 K k1 k2 v1 v2) [z, TI, TO, i1, i2] z (fun i h => IsZip h z TI TO .none ∧ IsTupOf2 h TI (.ref i1) (.ref i2) ∧ (∃ x y, IsTupOf2 h TO x y) ∧ ItSt (k1.ty u1) u1 i1 i h ∧ ItSt (k2.ty u2) u2 i2 i h) where
  mem := by simp
  obj := fun i h ⟨hz, hTI, ⟨x, y, hTO⟩, ⟨o1, e1, _, d1⟩, ⟨o2, e2, _, d2⟩⟩ b hb => by
    rcases (by simpa using hb : b = z ∨ b = TI ∨ b = TO ∨ b = i1 ∨ b = i2) with e | e | e | e | e <;> subst e
    · exact ⟨_, hz, fun v q => by cases q⟩
    · exact ⟨_, hTI, fun v q => by cases q⟩
    · exact ⟨_, hTO, fun v q => by cases q⟩
    · exact ⟨o1, e1, fun v q => by rw [d1] at q; cases q⟩
    · exact ⟨o2, e2, fun v q => by rw [d2] at q; cases q⟩
  keep := fun i h h' ⟨hz, hTI, ⟨x, y, hTO⟩, ⟨o1, e1, s1⟩, ⟨o2, e2, s2⟩⟩ hk =>
    ⟨hk z (by simp) _ hz, hk TI (by simp) _ hTI, ⟨x, y, hk TO (by simp) _ hTO⟩, ⟨o1, hk i1 (by simp) _ e1, s1⟩, ⟨o2, hk i2 (by simp) _ e2, s2⟩⟩
  item := by
    rintro X rfl rfl rfl hc i pins s σ H E I hf ⟨hz, hTI, ⟨x0, y0, hTO⟩, h1, h2⟩ ⟨xs, ys, x, y, hqx, hqy, hx, hy⟩
    obtain ⟨fp1, P1, St1, D1, f1, m1, b1, c1, p1⟩ := draws3 (it := i1) I (I.ok.hd hc) hqx r1 (fun a ha => (D.a1 a ha).2.2.2.1)
    obtain ⟨fp2, P2, St2, D2, f2, m2, b2, c2, p2⟩ := draws3 (it := i2) I (I.ok.hd hc) hqy r2 (fun a ha => (D.a2 a ha).2.2.2.2)
    have Z := D.sep f1 f2 m1 m2
    have zl : z < s.heap.objs.size := Heap.lt_size hz
    refine wpAny_pyNext_zipD2_item Z D1 D2 hz hTI hTO (c1 i h1) (c2 i h2) (List.getElem?_eq_some_iff.mp hx).1 (List.getElem?_eq_some_iff.mp hy).1 fun x1 x2 h' tk y1 y2 z' TO' st1 st2 hT _ hk => ⟨_, rfl, wpAny_letOwnedTupleGo_zip (s := { s with heap := h', toks := tk }) z' fun h'' z'' sb => ?_⟩
    obtain ⟨w1, e1, q1⟩ := p1 i x1 y1
    obtain ⟨w2, e2, q2⟩ := p2 i x2 y2
    have out : ∀ {c : Addr}, c ∉ [z, TI, TO, i1, i2] → c ≠ z ∧ c ≠ TI ∧ c ≠ TO ∧ c ≠ i1 ∧ c ≠ i2 := fun q => by simpa using q
    refine ⟨.ref s.heap.objs.size, _, fr_ok (s := s) (h' := h'') (t' := tk) (xs := [w1, w2]) (us := [x1, x2]) (ch := [z, TI, TO, i1, i2]) I (fun c o hb q => (sb.2 c (out hb).1).trans (hk c o (out hb).1 (out hb).2.2.1 (out hb).2.2.2.1 (out hb).2.2.2.2 q)) hf (.cons q1 (.cons q2 .nil)) (by show 2 ≤ sizeLine; decide) ((sb.2 _ (Nat.ne_of_gt zl)).trans hT), rfl,
      ⟨_, _, _, _, rfl, rfl, I.hok.fresh (Nat.le_refl _), rfl, fun l hl => by rw [Sq3.inj I hl hqx]; exact e1, fun l hl => by rw [Sq3.inj I hl hqy]; exact e2⟩, ⟨z'', ?_, ⟨x1, x2, ?_⟩, ?_, ?_⟩, fun c hcm => ?_⟩
    · exact (sb.2 _ D.TIz).trans (hk _ _ D.TIz D.TITO D.TIi1 D.TIi2 hTI)
    · exact (sb.2 _ D.TOz).trans TO'
    · obtain ⟨o, q, r⟩ := b1 _ _ st1
      exact ⟨o, (sb.2 _ D.zi1.symm).trans q, r⟩
    · obtain ⟨o, q, r⟩ := b2 _ _ st2
      exact ⟨o, (sb.2 _ D.zi2.symm).trans q, r⟩
    · have hlt : c < s.heap.objs.size := by
        rcases (by simpa using hcm : c = z ∨ c = TI ∨ c = TO ∨ c = i1 ∨ c = i2) with q | q | q | q | q <;> rw [q]
        · exact zl
        · exact Heap.lt_size hTI
        · exact Heap.lt_size hTO
        · obtain ⟨_, e1, _⟩ := h1; exact Heap.lt_size e1
        · obtain ⟨_, e2, _⟩ := h2; exact Heap.lt_size e2
      rw [upd_ne (Nat.ne_of_lt hlt)]
      exact (hf c hcm).1
  done := by
    rintro X rfl rfl rfl hc i pins s σ H E I hf ⟨hz, hTI, ⟨x0, y0, hTO⟩, h1, h2⟩ ⟨xs, ys, hqx, hqy, he, l1, l2⟩
    obtain ⟨fp1, P1, St1, D1, f1, m1, b1, c1, p1⟩ := draws3 (it := i1) I (I.ok.hd hc) hqx r1 (fun a ha => (D.a1 a ha).2.2.2.1)
    obtain ⟨fp2, P2, St2, D2, f2, m2, b2, c2, p2⟩ := draws3 (it := i2) I (I.ok.hd hc) hqy r2 (fun a ha => (D.a2 a ha).2.2.2.2)
    have Z := D.sep f1 f2 m1 m2
    refine wpAny_pyNext_zipD2_end Z D1 D2 hz hTI hTO (c1 i h1) (c2 i h2) l1 l2 he fun h' tk hk => ⟨rfl, I.turnedL (t' := tk) (ch := [z, TI, TO, i1, i2]) (fun c o hb q => hk c o (fun e => hb (by simp [e])) (fun e => hb (by simp [e])) (fun e => hb (by simp [e])) (fun e => hb (by simp [e])) q) hf⟩
  self := fun A i s Q E st h => wpAny_pyIter_zip st.1 h
end
/-! ### the call -/
/-- iter(v) lays the object o, in every heap that goes on from h0 -/
def PyS (h0 : Heap) (v : Value) (o : Obj) : Prop := ∀ (prog : Program) (w : World) (A : Around) (E : Value → Shared → Prop) (s : Shared) (Q : Value → Shared → Prop), (∀ b ob, h0.get? b = some ob → s.heap.get? b = some ob) → Q (.ref s.heap.objs.size) { s with heap := s.heap.push o } → wpAny (model prog w) A (pyIter v) Q E s
theorem pys_of {X : Cx} {pins : List (Addr × Obj)} {σ : L2.St} {H : Hp} {s : Shared} {k : SK} {v : V} {u : Value} {vs : List V} (I : Inv X pins σ H s) (q : Sq3 X.K H k v vs) (r : RelV v u) : PyS s.heap u (itob (k.ty u) u) := by
  intro prog w A E s1 Q hk h
  cases q with
  | @tup a _ hq =>
    cases r
    obtain ⟨its, rv, ⟨o, h1, h2⟩, _⟩ := I.tuple hq
    exact wpAny_pyIter_tuple (s := s1) (items := its.toArray) ⟨o, hk _ _ h1, h2⟩ h
  | @lst a _ hq =>
    cases r
    obtain ⟨its, rv, p, _⟩ := I.list hq
    obtain ⟨o, h1, h2⟩ := p.isList
    exact wpAny_pyIter_list (s := s1) (items := its.toArray) ⟨o, hk _ _ h1, h2⟩ h
  | str x =>
    obtain ⟨t, rfl⟩ := r
    cases ha : x.cps.all (· < 128) with
    | true =>
      have et : SK.ty .str (.str x t) = "str_ascii_iterator" := by simp only [SK.ty]; rw [ha]; rfl
      rw [et] at h
      exact wpAny_pyIter_ascii ha h
    | false =>
      have et : SK.ty .str (.str x t) = "str_iterator" := by simp only [SK.ty]; rw [ha]; rfl
      rw [et] at h
      exact wpAny_pyIter_wide ha h
abbrev zH1 (h : Heap) (o1 : Obj) : Heap := h.push o1
abbrev zH2 (h : Heap) (o1 o2 : Obj) : Heap := (zH1 h o1).push o2
abbrev zH3 (h : Heap) (o1 o2 : Obj) : Heap := (zH2 h o1 o2).push { cls := .type "tuple", data := .seq #[.ref h.objs.size, .ref (zH1 h o1).objs.size] }
abbrev zH4 (h : Heap) (o1 o2 : Obj) : Heap := (zH3 h o1 o2).push { cls := .type "tuple", data := .seq #[.none, .none] }
abbrev zH5 (h : Heap) (o1 o2 : Obj) : Heap := (zH4 h o1 o2).push { cls := .type "zip", data := .fields #[.none, .bool false, .bool false, .ref (zH2 h o1 o2).objs.size, .ref (zH3 h o1 o2).objs.size] }
theorem meets_zip_new3 (v1 v2 : Value) (o1 o2 : Obj) :
    Meets (Builtin.«zip.__new__» ⟨[.type "zip", v1, v2], []⟩) (fun _ R s => PyS s.heap v1 o1 ∧ PyS s.heap v2 o2 ∧ R (.ok (.ret (.ref (zH4 s.heap o1 o2).objs.size))) { s with heap := zH5 s.heap o1 o2 }) :=
  .of_wp fun prog w A R s h => by
    obtain ⟨hp, g, d, tk, os⟩ := s; obtain ⟨hl1, hl2, h⟩ := h
    have hsub := sub_zip
    have hL1 : ∀ {A : Around} {E : Value → Shared → Prop} {Q : Value → Shared → Prop}, Q (.ref hp.objs.size) ⟨hp.push o1, g, d, tk, os⟩ → wpAny (model prog w) A (pyIter v1) Q E ⟨hp, g, d, tk, os⟩ := fun {A E Q} q => hl1 prog w A E ⟨hp, g, d, tk, os⟩ Q (fun _ _ e => e) q
    have hL2 : ∀ {A : Around} {E : Value → Shared → Prop} {Q : Value → Shared → Prop}, Q (.ref (hp.push o1).objs.size) ⟨(hp.push o1).push o2, g, d, tk, os⟩ → wpAny (model prog w) A (pyIter v2) Q E ⟨hp.push o1, g, d, tk, os⟩ := fun {A E Q} q => hl2 prog w A E ⟨hp.push o1, g, d, tk, os⟩ Q (fun _ _ e => Heap.get?_push_of_some _ e) q
    wp_walk using hL1, hL2
    exact ⟨_, rfl, h⟩
section
variable {prog : Program} {w : World} {A : Around} {E : Value → Shared → Prop} {s : Shared}
theorem call_zip3 {v1 v2 : Value} {ty1 ty2 : String} {Q : Value → Shared → Prop} (hl1 : PyS s.heap v1 (itob ty1 v1)) (hl2 : PyS s.heap v2 (itob ty2 v2))
    (h : ∀ h', IsZip h' (s.heap.objs.size + 4) (s.heap.objs.size + 2) (s.heap.objs.size + 3) .none → IsTupOf2 h' (s.heap.objs.size + 2) (.ref s.heap.objs.size) (.ref (s.heap.objs.size + 1)) →
      IsTupOf2 h' (s.heap.objs.size + 3) .none .none → ItSt ty1 v1 s.heap.objs.size 0 h' → ItSt ty2 v2 (s.heap.objs.size + 1) 0 h' → h'.objs.size = s.heap.objs.size + 5 →
      (∀ c o, s.heap.get? c = some o → h'.get? c = some o) → Q (.ref (s.heap.objs.size + 4)) { s with heap := h' }) :
    wpAny (model prog w) A (call (.type "zip") [v1, v2]) Q E s := by
  refine callType_new F.called_zip (by decide) (F.typeCall_zip_2 _ _) (F.newCall_zip_2 _ _) (fun obj => F.args_object_init_3 obj _ _) F.entry_zip_new
    (meets_zip_new3 v1 v2 (itob ty1 v1) (itob ty2 v2)) ⟨hl1, hl2, ?_⟩
  generalize ho1 : itob ty1 v1 = o1
  generalize ho2 : itob ty2 v2 = o2
  have z1 : (zH1 s.heap o1).objs.size = s.heap.objs.size + 1 := Heap.size_push ..
  have z2 : (zH2 s.heap o1 o2).objs.size = s.heap.objs.size + 2 := by rw [Heap.size_push, z1]
  have z3 : (zH3 s.heap o1 o2).objs.size = s.heap.objs.size + 3 := by rw [Heap.size_push, z2]
  have z4 : (zH4 s.heap o1 o2).objs.size = s.heap.objs.size + 4 := by rw [Heap.size_push, z3]
  have z5 : (zH5 s.heap o1 o2).objs.size = s.heap.objs.size + 5 := by rw [Heap.size_push, z4]
  have g5 : (zH5 s.heap o1 o2).get? (zH4 s.heap o1 o2).objs.size = some _ := Heap.get?_push_size _ rfl
  have g4 : (zH5 s.heap o1 o2).get? (zH3 s.heap o1 o2).objs.size = some _ := Heap.get?_push_of_some _ (Heap.get?_push_size _ rfl)
  have g3 : (zH5 s.heap o1 o2).get? (zH2 s.heap o1 o2).objs.size = some _ := Heap.get?_push_of_some _ (Heap.get?_push_of_some _ (Heap.get?_push_size _ rfl))
  have g2 : (zH5 s.heap o1 o2).get? (zH1 s.heap o1).objs.size = some o2 := Heap.get?_push_of_some _ (Heap.get?_push_of_some _ (Heap.get?_push_of_some _ (Heap.get?_push_size _ (by subst ho2; rfl))))
  have g1 : (zH5 s.heap o1 o2).get? s.heap.objs.size = some o1 := Heap.get?_push_of_some _ (Heap.get?_push_of_some _ (Heap.get?_push_of_some _ (Heap.get?_push_of_some _ (Heap.get?_push_size _ (by subst ho1; rfl)))))
  show _ ∧ _
  rw [z2, z3, z4] at g5
  rw [z1, z2] at g3
  rw [z3] at g4
  rw [z1] at g2
  rw [z4]
  subst ho1 ho2
  exact ⟨⟨_, g5, rfl⟩, h _ g5 g3 g4 ⟨_, g1, rfl, rfl⟩ ⟨_, g2, rfl, rfl⟩ z5 fun c o x =>
    Heap.get?_push_of_some _ (Heap.get?_push_of_some _ (Heap.get?_push_of_some _ (Heap.get?_push_of_some _ (Heap.get?_push_of_some _ x))))⟩
end
section
variable {X : Cx} {wi : Wi} {e e2 : Expr} {ta : TA} {t : DA} {p pos tpos : Pos} {elts : List Expr} {kk : Nat}
theorem zap_new (n : Nat) {v1 v2 : V} (h1 : ∀ a ∈ adV v1, (show Nat from a) < n) (h2 : ∀ a ∈ adV v2, (show Nat from a) < n) : Zap (n + 4 : Nat) (n + 2 : Nat) (n + 3 : Nat) (show Nat from n) (n + 1 : Nat) v1 v2 where
  TIz := (by omega : (n + 2 : Nat) ≠ n + 4)
  TOz := (by omega : (n + 3 : Nat) ≠ n + 4)
  TITO := (by omega : (n + 2 : Nat) ≠ n + 3)
  TIi1 := (by omega : (n + 2 : Nat) ≠ n)
  TIi2 := (by omega : (n + 2 : Nat) ≠ n + 1)
  zi1 := (by omega : (n + 4 : Nat) ≠ n)
  zi2 := (by omega : (n + 4 : Nat) ≠ n + 1)
  Ti1 := (by omega : (n + 3 : Nat) ≠ n)
  Ti2 := (by omega : (n + 3 : Nat) ≠ n + 1)
  i12 := (by omega : (n : Nat) ≠ n + 1)
  a1 := fun a ha => have h := h1 a ha; ⟨(by omega : (show Nat from a) ≠ n + 4), (by omega : (show Nat from a) ≠ n + 2), (by omega : (show Nat from a) ≠ n + 3), (by omega : (show Nat from a) ≠ n), (by omega : (show Nat from a) ≠ n + 1)⟩
  a2 := fun a ha => have h := h2 a ha; ⟨(by omega : (show Nat from a) ≠ n + 4), (by omega : (show Nat from a) ≠ n + 2), (by omega : (show Nat from a) ≠ n + 3), (by omega : (show Nat from a) ≠ n), (by omega : (show Nat from a) ≠ n + 1)⟩
def iZip3 (K : PySem.W.Frag) (ta : TA) : TI := fun σ H R => ta σ H fun vs H1 => ∃ k1 k2 v1 v2 xs ys, vs = [v1, v2] ∧ Sq3 K H1 k1 v1 xs ∧ Sq3 K H1 k2 v2 ys ∧ R (Itz3 K k1 k2 v1 v2) H1
theorem pi_zip3 (hg : Gl X "zip") (hm : X.mg "zip" = none) (ha : PA X [e, e2] ta)
    (hs : starEach [e, e2] X.env = (false, eval e X.env) :: starEach [e2] X.env := by rfl) (hpl : (backTo pos (starEach [e2] X.env)).any (·.1) = false := by rfl) :
    PI X (.Tuple elts kk tpos) (.Call (.Name "zip" p) [e, e2] [] pos) (iZip3 X.K ta) := by
  refine ⟨fun pins s σ H R I h => Call_ (ld_blt I hg hm PyProof.Rows.boot_zip (PyProof.Rows.callWith_type1 (thn (ha.run pos pins s σ H _ I h) fun us s1 ⟨vs, H1, I1, r1, k1, k2, v1, v2, xs, ys, ex, hqx, hqy, q⟩ => ?_) hs hpl))⟩
  subst ex
  cases r1 with
  | cons r rr =>
    obtain ⟨u2, rfl, r'⟩ := vals1 rr
    rename_i u1
    have lt : ∀ {k : SK} {v : V} {xs : List V}, Sq3 X.K H1 k v xs → ∀ a ∈ adV v, a < s1.heap.objs.size := fun {k v xs} hq a ha => by
      cases hq with
      | tup hq => obtain ⟨its, rv, ⟨o, h1, _⟩, _⟩ := I1.tuple hq; rw [List.mem_singleton.1 ha]; exact Heap.lt_size h1
      | lst hq => obtain ⟨its, rv, p, _⟩ := I1.list hq; obtain ⟨o, h1, _⟩ := p.isList; rw [List.mem_singleton.1 ha]; exact Heap.lt_size h1
      | str x => exact nomatch ha
    have D : Zap (s1.heap.objs.size + 4) (s1.heap.objs.size + 2) (s1.heap.objs.size + 3) s1.heap.objs.size (s1.heap.objs.size + 1) v1 v2 :=
      zap_new _ (fun a ha => lt hqx a ha) (fun a ha => lt hqy a ha)
    refine call_zip3 (pys_of I1 hqx r) (pys_of I1 hqy r') fun h' hz hTI hTO h1 h2 _ hk => wpAny_pyIter_zip hz ?_
    refine ⟨s1.heap.objs.size + 4, [s1.heap.objs.size + 4, s1.heap.objs.size + 2, s1.heap.objs.size + 3, s1.heap.objs.size, s1.heap.objs.size + 1], _, _, H1, rfl, I1.kept (t' := s1.toks) hk, turn_zip3 D r r', ⟨hz, hTI, ⟨_, _, hTO⟩, h1, h2⟩, fun c hcm => ?_, q⟩
    have hle : s1.heap.objs.size ≤ c := by
      rcases (by simpa using hcm : c = s1.heap.objs.size + 4 ∨ c = s1.heap.objs.size + 2 ∨ c = s1.heap.objs.size + 3 ∨ c = s1.heap.objs.size ∨ c = s1.heap.objs.size + 1) with z | z | z | z | z <;> rw [z]
      all_goals first | exact Nat.le_add_right _ _ | exact Nat.le_refl _
    exact I1.fpOk hle (I1.hok.fresh hle)
/-- what zip walks -/
def seqD : D → Option (List D)
  | .tup xs => some xs
  | .lst xs => some xs
  | .scr xs => some xs
  | .str z => some (z.cps.toList.map fun c => .str ⟨#[c]⟩)
  | _ => none
theorem rds_chars {K : PySem.W.Frag} {I : Hp} : ∀ l : List Nat, RDs K I (l.map fun c => .str ⟨#[c]⟩) (l.map fun c => V.str ⟨#[c]⟩)
  | [] => .nil
  | c :: l => .cons (.str _) (rds_chars l)
theorem seqD_at {K : PySem.W.Frag} {I : Hp} {x : D} {v : V} {xs : List D} (r : RD K I x v) (h : seqD x = some xs) : ∃ k vs, RDs K I xs vs ∧ ∀ I' H, Le I I' → Le I' H → Sq3 K H k v vs := by
  cases r <;> try cases h
  · exact ⟨.str, _, rds_chars _, fun _ _ _ _ => .str _⟩
  · rename_i h2 r
    exact ⟨.tup, _, r, fun I' H l l' => .tup (SqT.le (l.trans l') h2.sq)⟩
  · rename_i h2 r
    exact ⟨.lst, _, r, fun I' H l l' => .lst (SqL.of (l' _ _ (l _ _ h2)))⟩
  · rename_i h2 r
    exact ⟨.lst, _, r, fun I' H l l' => .lst (SqL.le (l.trans l') h2)⟩
def dZip3 (t : DA) : DI := fun env S Q => t env S fun xs S1 => match xs with
  | [x, y] => (match seqD x, seqD y with
    | some xs, some ys => Q (zpD xs ys) (fun _ => True) S1
    | _, _ => False)
  | _ => False
theorem mZip3 (hm : X.mg "zip" = none) (ha : MA X wi [e, e2] t) (hg : Gl X "zip" := by rfl)
    (hs : starEach [e, e2] X.env = (false, eval e X.env) :: starEach [e2] X.env := by rfl) (hpl : (backTo pos (starEach [e2] X.env)).any (·.1) = false := by rfl) :
    MI X wi (.Tuple elts kk tpos) (.Call (.Name "zip" p) [e, e2] [] pos) (dZip3 t) := PI.of (pi_zip3 hg hm ha hs hpl) fun σ H R h => by
  obtain ⟨I, env, S, Q, sim, er, h, k⟩ := h
  refine ⟨I, env, S, _, sim, er, h, fun I1 ws vs S1 H1 e1 s1 r1 h1 => ?_⟩
  split at h1
  · cases r1 with
    | cons r1 rn =>
      cases rn with
      | cons r2 rn =>
        cases rn
        split at h1
        · rename_i xs ys ex ey
          obtain ⟨k1, vs1, q1, z1⟩ := seqD_at r1 ex
          obtain ⟨k2, vs2, q2, z2⟩ := seqD_at r2 ey
          refine ⟨k1, k2, _, _, vs1, vs2, rfl, z1 _ _ .refl s1.im, z2 _ _ .refl s1.im, k _ _ _ _ _ _ e1 s1 ⟨fun i I S H l sim o hi => ?_, fun i I S H x H' l sim o hi y => ?_, fun I S H l sim o => ?_⟩ h1⟩
          · rw [zpD_len] at hi
            obtain ⟨v, hv, _⟩ := q1.get (List.getElem?_eq_getElem (show i < xs.length by omega))
            obtain ⟨u, hu, _⟩ := q2.get (List.getElem?_eq_getElem (show i < ys.length by omega))
            exact ⟨vs1, vs2, v, u, z1 _ _ l sim.im, z2 _ _ l sim.im, hv, hu⟩
          · obtain ⟨T, ob, z, z', rfl, nd, hn, rfl, y1, y2⟩ := y
            obtain ⟨w, hw, rw'⟩ := q1.get' (y1 vs1 (z1 _ _ l sim.im))
            obtain ⟨w2, hw2, rw2⟩ := q2.get' (y2 vs2 (z2 _ _ l sim.im))
            obtain ⟨s2, e2⟩ := sim.newI (u := .frz ob (.tup [z, z'])) hn
            exact ⟨_, .tup [w, w2], e2, s2, zpD_get i xs ys _ _ hw hw2, .tup (TpA.new nd) (.cons ((rw'.le l).le e2.le) (.cons ((rw2.le l).le e2.le) .nil))⟩
          · refine ⟨vs1, vs2, z1 _ _ l sim.im, z2 _ _ l sim.im, ?_⟩
            rw [zpD_len, q1.length, q2.length]; omega
        · exact h1.elim
  · exact h1.elim
end
theorem dZip3_at (t : DA) (env : Env') (S : Sto) (Q : List D → (Sto → Prop) → Sto → Prop) : dZip3 t env S Q = (t env S fun xs S1 => match xs with
  | [x, y] => (match seqD x, seqD y with
    | some xs, some ys => Q (zpD xs ys) (fun _ => True) S1
    | _, _ => False)
  | _ => False) := Eq.trans rfl rfl
end DL


set_option Elab.async false
set_option linter.all false
set_option maxRecDepth 100000
set_option maxHeartbeats 4000000
namespace DL
open PySem PySem.Spec PyProof.Rows L2
/-! ### a, *b, c = a tuple or a list -/
section
variable {prog : Program} {w : World} {A : Around} {E : Value → Shared → Prop} {s : Shared}
theorem starItemsL {t : Addr} {items : List Value} {i n : Nat} {Q : List Value → Shared → Prop} (hh : A.handled = none) (ht : s.heap.IsList t items.toArray) (hi : i < n) (hn : n ≤ items.length + 1) (hz : items.length ≤ sizeLine)
    (hQ : ∀ (h' : Heap) (tk : Nat), (∀ b o, s.heap.get? b = some o → h'.get? b = some o) →
      Q (items.take i ++ [.ref h'.objs.size] ++ items.drop (items.length + 1 - (n - i))) { s with heap := h'.push { cls := .type "list", data := .seq ((items.drop i).take (items.length + 1 - n)).toArray }, toks := tk }) : wpAny (model prog w) A (unpackItems (.ref t) n (some i)) Q E s := by
  have hlt : t ≠ s.heap.objs.size := by obtain ⟨o, ho, _⟩ := ht; exact Nat.ne_of_lt (Heap.lt_size ho)
  unfold unpackItems
  refine wpAny_bind ?_
  unfold notIterableAtAll
  refine wpAny_bind (wpAny_specialOf ht.typeIs slot_list_iter.lookup (wpAny_pure ?_))
  rw [if_neg Bool.false_ne_true]
  refine wpAny_bind (wpAny_holding (wpAny_pyIter_list ht (wpAny_bind (wpAny_holding ?_))))
  refine PySem.W.kun_draw hlt i 0 _ _ ⟨_, Heap.get?_push_size _ rfl, rfl, rfl⟩ (ht.push _) (by simp; omega) fun h1 it1 sb1 => ?_
  rw [Nat.zero_add] at it1
  rw [List.drop_zero]
  have len1 : (List.take i items.toArray.toList).length = i := by simp; omega
  rw [if_neg (by rw [len1]; exact Nat.lt_irrefl i)]
  have ht1 : h1.IsList t items.toArray := (ht.push _).extBut sb1.extBut hlt
  have W := (walk_from (Walks.list (prog := prog) (w := w) (A := A.in1) hh s.heap.objs.size t hlt items.toArray) (k := i) (by simp; omega)).toS
  refine wpAny_bind (wpAny_holding (wpAny_collect_iter (.inr (.inr (.inl rfl))) W (fun j s' st => ?_) ⟨?_, ?_⟩ ?_ (List.mem_cons_self ..) (fun s' acc mv io => ?_) (by simp; omega)))
  · exact st.1.typeIs
  · exact it1
  · exact ht1
  · intro b hb
    rcases List.mem_cons.1 hb with rfl | hb
    · obtain ⟨o, ho, _⟩ := it1
      exact Heap.lt_size ho
    · rw [List.mem_singleton.1 hb]
      obtain ⟨o, ho, _⟩ := ht1
      exact Heap.lt_size ho
  · have er : acc.toList = items.drop i := got_eq (by omega) io
    have hlen : acc.toList.length = items.length - i := by rw [er, List.length_drop]
    show wpAny (model prog w) A (if acc.toList.length < n - 1 - i then _ else _) Q E s'
    rw [if_neg (by omega), er]
    have hm : (items.drop i).length - (n - 1 - i) = items.length + 1 - n := by rw [List.length_drop]; omega
    refine wpAny_bind ?_
    show wpAny (model prog w) A (newList ((items.drop i).take ((items.drop i).length - (n - 1 - i)))) _ E s'
    rw [hm]
    refine wpAny_newList (wpAny_pure ?_) (by rw [List.length_take, List.length_drop]; omega)
    obtain ⟨hp, gs, dr, tk, os⟩ := s'
    obtain ⟨m1, m2, m3, m4, m5⟩ := mv
    cases m2; cases m3; cases m4
    have q := hQ hp tk fun b o e => m1 b o (by
      simp only [List.mem_singleton]
      exact Nat.ne_of_lt (Heap.lt_size e)) ((sb1.2 b (Nat.ne_of_lt (Heap.lt_size e))).trans (Heap.get?_push_of_some _ e))
    rw [List.drop_drop]
    rw [show items.length + 1 - (n - i) = i + (items.length + 1 - n) by omega] at q
    exact q
end
section
variable {X : Cx} {wi : Wi} {pos : Pos}
def gTpL (n : Nat) (t : DGs) : DG := fun x env S Q => match x with
  | .tup xs => xs.length = n ∧ t xs env S Q
  | .lst xs => xs.length = n ∧ t xs env S Q
  | _ => False
theorem mgTL {vs : List Nat} {es : List Expr} {k : Nat} {t : DGs} {n : Nat} (hc : X.calm = true) (h : MGs X wi vs es t)
    (hn : (assignEach es X.env).length = n := by rfl) (hst : (assignEach es X.env).findIdx? (·.1) = none := by rfl) : MG X wi vs (.Tuple es k pos) (gTpL n t) := by
  refine ⟨fun pins s σ H v u Q I r hw => ?_⟩
  obtain ⟨Ih, env, S, x, Qd, sim, er, rx, hq, kq⟩ := hw
  cases rx with
  | tup h1 r1 => exact (mgT hc h hn hst).run pins s σ H _ u Q I r ⟨Ih, env, S, _, Qd, sim, er, .tup h1 r1, hq, kq⟩
  | lst h1 r1 =>
    cases r
    obtain ⟨hl, hq⟩ := hq
    obtain ⟨its, rv, hp, hz⟩ := I.list (SqL.of (sim.im _ _ h1))
    have l1 := rv.length
    have l2 := r1.length
    have e : n = its.toArray.size := by rw [List.size_toArray]; omega
    rw [assign_Tuple]
    refine wpAny_bind (wpAny_standAt ?_)
    unfold unpack
    rw [hn, hst, e]
    refine wpAny_bind (wpAny_holding (PySem.W.kun_itemsOf (I.ok.hd hc) hp.isList fun h' ext => ?_))
    have I1 : Inv X pins σ H { s with heap := h' } := I.kept (t' := s.toks) fun b o e => ext b o (Nat.ne_of_lt (Heap.lt_size e)) e
    exact h.run pins _ σ H _ _ Q I1 (by simpa using rv) ⟨_, env, S, _, Qd, sim, er, r1, hq, kq⟩
  | _ => exact hq.elim
def gStarL (i n : Nat) (t : DGs) : DG := fun x env S Q => match x with
  | .tup xs => n ≤ xs.length + 1 ∧ t (xs.take i ++ [.lst ((xs.drop i).take (xs.length + 1 - n))] ++ xs.drop (xs.length + 1 - (n - i))) env S Q
  | .lst xs => n ≤ xs.length + 1 ∧ t (xs.take i ++ [.lst ((xs.drop i).take (xs.length + 1 - n))] ++ xs.drop (xs.length + 1 - (n - i))) env S Q
  | _ => False
theorem mgStarL {vs : List Nat} {es : List Expr} {k : Nat} {t : DGs} {n i : Nat} (hc : X.calm = true) (h : MGs X wi vs es t)
    (hi : i < n := by decide) (hn : (assignEach es X.env).length = n := by rfl) (hst : (assignEach es X.env).findIdx? (·.1) = some i := by rfl) : MG X wi vs (.Tuple es k pos) (gStarL i n t) := by
  refine ⟨fun pins s σ H v u Q I r hw => ?_⟩
  obtain ⟨Ih, env, S, x, Qd, sim, er, rx, hq, kq⟩ := hw
  cases rx with
  | tup h1 r1 => exact (mgStar hc h hi hn hst).run pins s σ H _ u Q I r ⟨Ih, env, S, _, Qd, sim, er, .tup h1 r1, hq, kq⟩
  | @lst a xs ws h1 r1 =>
    cases r
    obtain ⟨hl, hq⟩ := hq
    obtain ⟨its, rv, hp, hz⟩ := I.list (SqL.of (sim.im _ _ h1))
    have l1 := rv.length
    have l2 := r1.length
    rw [assign_Tuple]
    refine wpAny_bind (wpAny_standAt ?_)
    unfold unpack
    rw [hn, hst]
    refine wpAny_bind (wpAny_holding (starItemsL (I.ok.hd hc) hp.isList hi (by omega) (by omega) fun h' tk ext => ?_))
    have I1 : Inv X pins σ H { s with heap := h', toks := tk } := I.kept fun b o e => ext b o e
    have hp : H h'.objs.size = none := I1.hok.fresh (Nat.le_refl _)
    obtain ⟨s2, e2⟩ := sim.newI (u := .lst ((ws.drop i).take (its.length + 1 - n))) hp
    have I2 : Inv X pins σ (upd H h'.objs.size (.lst ((ws.drop i).take (its.length + 1 - n)))) { s with heap := h'.push { cls := .type "list", data := .seq ((its.drop i).take (its.length + 1 - n)).toArray }, toks := tk } :=
      I1.laid (t' := tk) (o := .lst ((ws.drop i).take (its.length + 1 - n))) (fun b ob q => Heap.get?_push_of_some _ q) (Nat.le_refl _) ⟨by rw [List.length_take, List.length_drop]; omega, _, 0, vals_take (vals_drop rv i) _, Heap.get?_push_size _ rfl⟩
    have r2 : RDs X.K (upd Ih h'.objs.size (.lst ((ws.drop i).take (its.length + 1 - n)))) xs ws := r1.newI (sim.free hp)
    refine h.run pins _ σ _ (ws.take i ++ [.ref h'.objs.size] ++ ws.drop (its.length + 1 - (n - i))) _ Q I2 (vals_app (vals_app (vals_take rv i) (.cons (show RelV (V.ref h'.objs.size) (.ref h'.objs.size) from rfl) .nil)) (vals_drop rv _)) ?_
    refine ⟨_, env, S, _, Qd, s2, er.le e2.le, ?_, hq, fun I' env' σ' S' H' e3 s3 er3 w3 q3 => kq I' env' σ' S' H' (e2.trans e3) s3 er3 w3 q3⟩
    have e4 : xs.length = its.length := by omega
    rw [e4]
    exact ((r2.take i).append (.cons (.lst upd_same ((r2.drop i).take _)) .nil)).append (r2.drop _)
  | _ => exact hq.elim
end
section
variable {env : Env'} {S : Sto} {R : Env' → Sto → Prop} {t : DGs} {n : Nat} {xs : List D}
theorem gTpL_t : gTpL n t (.tup xs) env S R = (xs.length = n ∧ t xs env S R) := rfl
theorem gTpL_l : gTpL n t (.lst xs) env S R = (xs.length = n ∧ t xs env S R) := rfl
theorem gStarL12_t {x : D} : gStarL 1 2 t (.tup (x :: xs)) env S R = t [x, .lst xs] env S R := by
  have e : (xs.take (xs.length + 1 + 1 - 2)) = xs := List.take_of_length_le (by omega)
  show (2 ≤ xs.length + 1 + 1 ∧ t ([x] ++ [.lst (xs.take (xs.length + 1 + 1 - 2))] ++ (x :: xs).drop (xs.length + 1 + 1 - (2 - 1))) env S R) = _
  rw [e, List.drop_of_length_le (by simp)]
  exact propext ⟨fun h => h.2, fun h => ⟨by omega, h⟩⟩
theorem gStarL12_l {x : D} : gStarL 1 2 t (.lst (x :: xs)) env S R = t [x, .lst xs] env S R := gStarL12_t
theorem gStarL23_t {x y : D} : gStarL 2 3 t (.tup (x :: y :: xs)) env S R = t [x, y, .lst xs] env S R := by
  have e : (xs.take (xs.length + 1 + 1 + 1 - 3)) = xs := List.take_of_length_le (by omega)
  show (3 ≤ xs.length + 1 + 1 + 1 ∧ t ([x, y] ++ [.lst (xs.take (xs.length + 1 + 1 + 1 - 3))] ++ (x :: y :: xs).drop (xs.length + 1 + 1 + 1 - (3 - 2))) env S R) = _
  rw [e, List.drop_of_length_le (by simp)]
  exact propext ⟨fun h => h.2, fun h => ⟨by omega, h⟩⟩
theorem gStarL23_l {x y : D} : gStarL 2 3 t (.lst (x :: y :: xs)) env S R = t [x, y, .lst xs] env S R := gStarL23_t
end
end DL


set_option Elab.async false
set_option linter.all false
set_option maxRecDepth 100000
set_option maxHeartbeats 4000000
namespace DL
open PySem PySem.Spec PyProof.Rows L2
/-! ### sorted(a dict) -/
def gSrtD (xs : List D) (S : Sto) (Q : DK) : Prop := match xs with
  | [.ref a] => (match S a with
    | some (.dK kvs) => (match ints? (kvs.map (·.1)) with
      | some ns => ns.length < 64 ∧ Q (.lst ((srtI ns).map .int)) S
      | none => (match strs? (kvs.map (·.1)) with
        | some zs => zs.length < 64 ∧ Q (.lst ((srtS zs).map .str)) S
        | none => False))
    | _ => False)
  | _ => False
section
variable {X : Cx} {wi : Wi}
theorem rkv_keys {K : PySem.W.Frag} {I : Hp} : ∀ {xs : List (Key × D)} {ys : List (Key × V)}, RKV K I xs ys → ys.map (·.1) = xs.map (·.1)
  | _, _, .nil => rfl
  | _, _, .cons h t => by rw [List.map_cons, List.map_cons, rkv_keys t, h.1]
theorem cSrtD (hc : X.calm = true) : CallM X wi (.builtin "sorted") gSrtD := by
  rintro pins s σ H vs us Q' I rv ⟨Ih, S, xs, Q, sim, rx, h, k⟩
  unfold gSrtD at h
  split at h
  · rename_i a
    cases rx with
    | cons r1 rx =>
      cases rx
      cases r1
      split at h
      · rename_i kvs e1
        obtain ⟨us1, ha, r1⟩ := st_dK sim e1
        have ek := rkv_keys r1
        split at h
        · rename_i ns e2
          refine call_sortedDI hc pins s σ H _ _ Q' I rv ⟨a, us1, ns, rfl, .inl ha, by rw [ek, ints?_eq e2], h.1, fun ms p hp hw hn => ?_⟩
          rw [srtI_eq hp hw]
          exact k.newI sim hn (.lst upd_same (rds_ints _)) h.2
        · split at h
          · rename_i zs e2
            refine call_sortedD hc pins s σ H _ _ Q' I rv ⟨a, us1, zs, rfl, .inl ha, by rw [ek, strs?_eq e2], h.1, fun ms p hp hw hn => ?_⟩
            rw [srtS_eq hp hw]
            exact k.newI sim hn (.lst upd_same (rds_strs _)) h.2
          · exact h.elim
      · exact h.elim
  · exact h.elim
end
section
variable {S : Sto} {Q : DK} {a : Addr} {kvs : List (Key × D)} {ns : List Int}
theorem gSrtD_i (h : S a = some (.dK kvs)) (hk : ints? (kvs.map (·.1)) = some ns) (hl : ns.length < 64) (q : Q (.lst ((srtI ns).map .int)) S) : gSrtD [.ref a] S Q := by
  unfold gSrtD
  simp only [h, hk]
  exact ⟨hl, q⟩
theorem ints?_map : ∀ ns : List Int, ints? (ns.map .inl) = some ns
  | [] => rfl
  | n :: ns => by rw [List.map_cons, ints?, ints?_map ns]; rfl
end
end DL


set_option Elab.async false
set_option linter.all false
set_option maxRecDepth 100000
set_option maxHeartbeats 4000000
namespace DL
open PySem PySem.Spec PyProof.Rows L2
/-! ### the program's exceptions -/
inductive EN where
  | join | paper | run | text | noPaper | noRevision | noStep | noBack | noText | noLine
  deriving DecidableEq
def EN.nm : EN → Str
  | .join => "JoinError" | .paper => "PaperError" | .run => "RunError" | .text => "TextError"
  | .noPaper => "NoPaper" | .noRevision => "NoRevision" | .noStep => "NoStep" | .noBack => "NoBack" | .noText => "NoText" | .noLine => "NoLine"
def EN.fam : EN → EN
  | .join => .join | .paper => .paper | .run => .run | .text => .text
  | .noPaper => .paper | .noRevision => .run | .noStep => .run | .noBack => .run | .noText => .text | .noLine => .text
/-- x is y or stands below it -/
def EN.le (x y : EN) : Bool := x == y || y == .join || x.fam == y
structure Ecs (K : PySem.W.Frag) (ea : EN → Addr) (us : List EN) (fl : List Str) : Prop where
  kit : ∀ a ∈ us, ∀ b ∈ us, PySem.W.kitOne K (.ref (ea a)) (.ref (ea b)) = some (a.le b)
  exm : ∀ a ∈ us, ∀ b ∈ us, PySem.W.exmOne K (.ref (ea a)) (.ref (ea b)) = some (a.le b)
  kve : ∀ a ∈ us, PySem.W.kitOne K (.ref (ea a)) (.type "ValueError") = some true
  xf : ∀ a ∈ us, XfC K (ea a)
  cl : ∀ a ∈ us, (PySem.W.clsIn K (ea a)).isSome = true
  cc : ∀ a ∈ us, PySem.W.findIn K (.ref (ea a)) "__class__" = some (some (.builtin "object.__class__"))
  mo : ∀ a ∈ us, PySem.W.mroIn K (ea a) (.type "object") = some true
  oc : PySem.W.specialIn K (.builtin "object.__class__") "__get__" = some (some (.builtin "getset_descriptor.__get__"))
  ot : PySem.W.takesIn K (.builtin "object.__class__") = some true
  nof : ∀ a ∈ us, ∀ f ∈ fl, PySem.W.findIn K (.ref (ea a)) f = some none
def ecsB (K : PySem.W.Frag) (ea : EN → Addr) (us : List EN) (fl : List Str) : Bool :=
  us.all (fun a => us.all (fun b => decide (PySem.W.kitOne K (.ref (ea a)) (.ref (ea b)) = some (a.le b)) && decide (PySem.W.exmOne K (.ref (ea a)) (.ref (ea b)) = some (a.le b))) &&
    (decide (PySem.W.kitOne K (.ref (ea a)) (.type "ValueError") = some true) && (xfB K (ea a) && ((PySem.W.clsIn K (ea a)).isSome && (decide (PySem.W.findIn K (.ref (ea a)) "__class__" = some (some (.builtin "object.__class__"))) &&
      (decide (PySem.W.mroIn K (ea a) (.type "object") = some true) && fl.all fun f => decide (PySem.W.findIn K (.ref (ea a)) f = some none))))))) &&
  (decide (PySem.W.specialIn K (.builtin "object.__class__") "__get__" = some (some (.builtin "getset_descriptor.__get__"))) && decide (PySem.W.takesIn K (.builtin "object.__class__") = some true))
theorem ecs_of {K : PySem.W.Frag} {ea : EN → Addr} {us : List EN} {fl : List Str} (h : ecsB K ea us fl = true) : Ecs K ea us fl := by
  simp only [ecsB, Bool.and_eq_true, List.all_eq_true, decide_eq_true_eq] at h
  obtain ⟨h1, h2, h3⟩ := h
  exact ⟨fun a ha b hb => ((h1 a ha).1 b hb).1, fun a ha b hb => ((h1 a ha).1 b hb).2, fun a ha => (h1 a ha).2.1, fun a ha => xfB_ok (h1 a ha).2.2.1, fun a ha => (h1 a ha).2.2.2.1, fun a ha => (h1 a ha).2.2.2.2.1, fun a ha => (h1 a ha).2.2.2.2.2.1, h2, h3,
    fun a ha f hf => (h1 a ha).2.2.2.2.2.2 f hf⟩
/-- a class that has its own __init__ -/
def oexB (K : PySem.W.Frag) (C : Addr) : Bool := (match K.lookup C with
  | some ⟨.type "type", _, .cls cd, sl⟩ => (match cd.mro, sl.toList with
    | .ref C' :: bm, [_, _, _, _, some (.builtin n), _] => decide (C' = C) && (decide (n = "ValueError.__new__") && (!cd.hasDel && (cd.hasDict && PySem.HandSPX.refsVE bm)))
    | _, _ => false)
  | _ => false) && (decide (PySem.W.findIn K (.ref C) "__setattr__" = some (some (.builtin "object.__setattr__"))) && (decide (PySem.W.subIn K (.ref C) (.type "BaseException") = some true) &&
    (decide (PySem.W.typeIn K (.ref C) = some (.type "type")) && PySem.W.keepIn K (.ref C))))
theorem oex_of {K : PySem.W.Frag} {C : Addr} (h : oexB K C = true) : OexC K C := by
  unfold oexB at h
  simp only [Bool.and_eq_true, decide_eq_true_eq] at h
  obtain ⟨q, h1, h2, h3, h4⟩ := h
  refine ⟨?_, h1, h2, h3, h4⟩
  split at q
  · rename_i dd cd sl ho
    split at q
    · rename_i C' bm k0 k1 k2 k3 n k5 hm hs
      simp only [Bool.and_eq_true, decide_eq_true_eq, Bool.not_eq_true'] at q
      obtain ⟨rfl, rfl, hdel, hdc, hr⟩ := q
      obtain ⟨nm, bs, mro, ns, qn, hd, sn, sub, ab, col, del⟩ := cd
      dsimp only at hm hdel hdc
      subst hm hdel hdc
      have hsl : sl = #[k0, k1, k2, k3, some (.builtin "ValueError.__new__"), k5] := by
        obtain ⟨l⟩ := sl
        simp only at hs
        rw [hs]
      subst hsl
      exact ⟨nm, qn, ns, bs, bm, sn, sub, ab, col, dd, k0, k1, k2, k3, k5, ho, hr⟩
    · cases q
  · cases q
/-- a class whose __init__ is ValueError's -/
structure BsC (K : PySem.W.Frag) (B : Addr) : Prop where
  ga : PySem.W.specialIn K (.ref B) "__getattribute__" = some (some (.builtin "type.__getattribute__"))
  ty : PySem.W.typeIn K (.ref B) = some (.type "type")
  rd : PySem.W.readsIn K B (.type "type") = true
  fi : PySem.W.findCls K (.ref B) (.type "type") "__init__" = some (.val (.builtin "ValueError.__init__"))
def bsB (K : PySem.W.Frag) (B : Addr) : Bool := decide (PySem.W.specialIn K (.ref B) "__getattribute__" = some (some (.builtin "type.__getattribute__"))) && (decide (PySem.W.typeIn K (.ref B) = some (.type "type")) && (PySem.W.readsIn K B (.type "type") &&
  (match PySem.W.findCls K (.ref B) (.type "type") "__init__" with | some (.val (.builtin s)) => decide (s = "ValueError.__init__") | _ => false)))
theorem bs_of {K : PySem.W.Frag} {B : Addr} (h : bsB K B = true) : BsC K B := by
  unfold bsB at h
  simp only [Bool.and_eq_true, decide_eq_true_eq] at h
  obtain ⟨h1, h2, h3, h4⟩ := h
  refine ⟨h1, h2, h3, ?_⟩
  split at h4
  · rename_i s e
    rw [e, of_decide_eq_true h4]
  · cases h4
section
variable {X : Cx} {o e : Expr} {es : List Expr} {ta : TA} {p1 p2 pos : Pos} {bn : Str}
/-- B.__init__(self, ..), B a class of the text without one of its own -/
theorem pe_ownInit {B : Addr} {pl : Sem Bool} (T : BsC X.K B) (hg : Gl X bn) (hm : X.mg bn = some (.ref B)) (ha : PA X (e :: es) ta) (hdb : (bn == ("__debug__" : Str)) = false := by decide)
    (hc : eval (.Call (.Attribute (.Name bn p1) "__init__" p2) (e :: es) [] pos) X.env = (do
      let ov ← eval (.Name bn p1) X.env
      standAt p2.atName
      let (f, first) ← holding [ov] (getMethod ov "__init__" pl)
      callWith pos f first (backTo pos (starEach (e :: es) X.env)) (backToKw pos (keywordEach [] X.env))) := by rfl)
    (he : starEach (e :: es) X.env = (false, eval e X.env) :: starEach es X.env := by rfl) (hpl : (backTo pos (starEach es X.env)).any (·.1) = false := by rfl) :
    PE X (.Call (.Attribute (.Name bn p1) "__init__" p2) (e :: es) [] pos) (tVeI X.K ta) := by
  refine ⟨fun pins s σ H Q I h => ?_⟩
  refine PySem.W.methodCall_KW (ld_glob I hg hm ?_ hdb) hc
  obtain ⟨m, fr⟩ := I.fr
  refine PySem.W.method_of_cls fr I.ok.mod.kin T.ga (PySem.W.cls_val fr I.ok.mod.kin T.ty T.rd T.fi (by decide +kernel) ?_)
  show wpAny _ _ (callWith pos (Value.builtin "ValueError.__init__") [] (backTo pos (starEach (e :: es) X.env)) []) _ _ _
  refine PyProof.Rows.callWith_method1 (thn (ha.run pos pins _ σ H _ (I.tok _) h) fun us s1 ⟨vs, H1, I1, r1, a, C, ws, ev, hl, T, ea, q⟩ => ?_) he hpl
  subst ev
  cases r1 with
  | @cons _ u0 _ ur ra rw' =>
    obtain rfl : u0 = Value.ref a := ra
    have hlen : ur.length ≤ sizeLine := by
      rw [← Paired.length rw', sizeLine_eq]
      omega
    exact oinit_ok T I1 ea hlen fun s' J => ⟨.non, H1, J, rfl, q⟩
end
/-! ### raise -/
/-- what an own __init__ keeps: its fields -/
def spI (K : PySem.W.Frag) (fl : List Str) : Sp := fun vs H Q _ => ∃ (a C : Addr) (ys : List V), vs = .ref a :: ys ∧ ys.length = fl.length ∧ OexC K C ∧ (∀ f ∈ fl, PySem.W.findIn K (.ref C) f = some none) ∧ H a = some (exo a C none) ∧
  ∀ dx, H dx = none → dx ≠ a → Q .non (upd (upd H dx (exd dx (fl.zip ys).reverse)) a (exo a C (some dx)))
theorem spI_len {K : PySem.W.Frag} {fl : List Str} (vs : List V) (H : Hp) (Q : VK) (E : XK) (h : spI K fl vs H Q E) : vs.length = (("self" : Str) :: fl).length := by
  obtain ⟨a, C, ys, rfl, h, _⟩ := h
  rw [List.length_cons, List.length_cons, h]
/-- a class that may be raised, its own __init__ -/
structure Emk (P : Program) (w : World) (K : PySem.W.Frag) (mg : Str → Option Value) (base : Heap) (k : Nat) (C : Addr) (fl : List Str) : Prop where
  T : OexC K C
  nf : ∀ f ∈ fl, PySem.W.findIn K (.ref C) f = some none
  ini : ∃ (fI : Addr) (fd : FuncData), PySem.W.findIn K (.ref C) "__init__" = some (some (.ref fI)) ∧ PySem.W.typeIn K (.ref fI) = some (.type "function") ∧ FnOk P w K mg base CX0 k fI fd ("self" :: fl) (spI K fl) ∧ Binds K fd ("self" :: fl) []
def sRaise (C : Addr) (fl : List Str) (t : DA) (E : XD) : DS := fun _ env S => t env S fun xs S1 => xs.length = fl.length ∧ E C (fl.zip xs).reverse S1
theorem rkv_zip {K : PySem.W.Frag} {I : Hp} : ∀ (fl : List Str) {xs : List D} {vs : List V}, RDs K I xs vs → RKV K I (fl.zip xs) (fl.zip vs)
  | [], _, _, _ => by rw [List.zip_nil_left, List.zip_nil_left]; exact .nil
  | _ :: _, _, _, .nil => .nil
  | f :: fl, _, _, .cons r t => .cons ⟨rfl, r⟩ (rkv_zip fl t)
theorem paired_app {α β : Type} {R : α → β → Prop} : ∀ {xs ys : List α} {us vs : List β}, Paired R xs us → Paired R ys vs → Paired R (xs ++ ys) (us ++ vs)
  | _, _, _, _, .nil, h => h
  | _, _, _, _, .cons a t, h => .cons a (paired_app t h)
theorem paired_rev {α β : Type} {R : α → β → Prop} : ∀ {xs : List α} {us : List β}, Paired R xs us → Paired R xs.reverse us.reverse
  | _, _, .nil => .nil
  | _, _, .cons a t => by rw [List.reverse_cons, List.reverse_cons]; exact paired_app (paired_rev t) (.cons a .nil)
abbrev TkD (X : Cx) (wi : Wi) : Prop := Takes X (fun cls d _ H => wi.E' cls d H)
section
variable {X : Cx} {wi : Wi} {e : Expr} {es : List Expr} {t : DA} {p pos pos2 : Pos} {x : Str} {C : Addr} {fl : List Str} {k : Nat}
theorem mRaise (hc : X.calm = true) (tk : TkD X wi) (M : Emk X.prog X.w X.K X.mg X.base k C fl) (hr : Room (k + 1) X.A) (hm : X.mg x = some (.ref C)) (ha : MA X wi (e :: es) t) (hg : Gl X x := by rfl)
    (hl : fl.length ≤ 1000 := by decide) (hdb : (x == ("__debug__" : Str)) = false := by decide) (he : starEach (e :: es) X.env = (false, eval e X.env) :: starEach es X.env := by rfl) (hpl : (backTo pos (starEach es X.env)).any (·.1) = false := by rfl) :
    MS X wi (.Raise (some (.Call (.Name x p) (e :: es) [] pos)) none pos2) (sRaise C fl t wi.E) := by
  obtain ⟨fI, fd, iC, tI, F1, hb⟩ := M.ini
  refine PS.of (ps_raise hc tk (pmk_oex M.T iC tI F1 hr hb .nil (fun _ _ _ _ _ _ _ h => h.elim) hg hm ha hdb he hpl)) fun D σ H h => ?_
  obtain ⟨I, env, S, d, sim, er, h, kd⟩ := h
  refine ⟨I, env, S, _, sim, er, h, fun I1 xs vs S1 H1 e1 s1 r1 h1 => ?_⟩
  obtain ⟨hn, hE⟩ := h1
  have hvl : vs.length = fl.length := by rw [← r1.length]; exact hn
  refine ⟨by omega, fun a ha => ⟨a, C, vs, by rw [List.append_nil], hvl, M.T, M.nf, upd_same, fun dx hd hda => ?_⟩⟩
  rw [upd_ne hda] at hd
  refine ⟨rfl, dx, (fl.zip vs).reverse, upd_same, by rw [upd_ne hda, upd_same], hd, ?_⟩
  have hh : upd (del (upd (upd (upd H1 a (exo a C none)) dx (exd dx (fl.zip vs).reverse)) a (exo a C (some dx))) a) dx (.xd (fl.zip vs).reverse) = upd H1 dx (.xd (fl.zip vs).reverse) := by
    funext b
    by_cases hb : b = dx
    · subst hb; rw [upd_same, upd_same]
    · rw [upd_ne hb, upd_ne hb]
      by_cases hba : b = a
      · subst hba; rw [del_same, ha]
      · rw [del_ne hba, upd_ne hba, upd_ne hb, upd_ne hba]
  rw [hh]
  have hI : I1 dx = none := s1.free hd
  have hS : S1 dx = none := by
    cases q : S1 dx with
    | none => rfl
    | some u =>
      obtain ⟨_, u2, _, h3⟩ := s1.st _ _ q
      rw [hd] at h3; cases h3
  refine s1.kx.e I1 S1 _ C dx _ _ ⟨.refl, fun b o q z => ⟨by rw [upd_ne (ne_of_none q hd)]; exact q, z, rfl⟩⟩ ⟨fun b o q => ?_, fun b o q => ?_⟩ (paired_rev (rkv_zip fl r1)) upd_same hS hI hE
  · rw [upd_ne (ne_of_none q hI)]; exact s1.im b o q
  · obtain ⟨z1, u, z2, z3⟩ := s1.st b o q
    exact ⟨z1, u, z2, by rw [upd_ne (ne_of_none z3 hd)]; exact z3⟩
/-- a callee that lets nothing out here -/
theorem xpassN {P : Program} {w : World} : XPass (L2.CX P w) X wi E00 E0 := ⟨fun _ _ _ _ _ _ _ h => by
  obtain ⟨_, _, _, _, _, _, _, _, _, _, _, _, z⟩ := h
  exact z.elim, fun _ _ _ _ _ _ _ _ _ _ _ _ _ _ _ _ _ z => z.elim⟩
/-- what a callee lets out goes on -/
theorem xpassE (tk : TkD X wi) : XPass (L2.CX X.prog X.w) X wi wi.E wi.E' := ⟨passes_call tk fun _ _ _ _ h => h, fun _ _ _ k => k.e⟩
end
end DL
namespace DL
open PySem PySem.Spec PyProof.Rows L2
theorem upd_swp {H : Hp} {a d : Addr} {x e x' : HO} (h : d ≠ a) : upd (upd (upd H d x) a e) d x' = upd (upd H d x') a e := by
  funext b
  by_cases hd : b = d
  · subst hd; rw [upd_same, upd_ne h, upd_same]
  · rw [upd_ne hd]
    by_cases hb : b = a
    · subst hb; rw [upd_same, upd_same]
    · rw [upd_ne hb, upd_ne hb, upd_ne hd, upd_ne hd]
end DL


set_option Elab.async false
set_option linter.all false
set_option maxRecDepth 100000
set_option maxHeartbeats 4000000
namespace DL
open PySem PySem.Spec PyProof.Rows L2
/-! ### in a try's body: the slots are as at its start where something is raised -/
def ZP (wi : Wi) (W : WX) (σ : L2.St) : Prop := ∀ cls d H, wi.E' cls d H → W cls d σ H
abbrev MEz (X : Cx) (W : WX) (wi : Wi) (e : Expr) (t : DE) : Prop := PE X e (fun σ H Q => ZP wi W σ ∧ lift X.K wi t σ H Q)
abbrev MAz (X : Cx) (W : WX) (wi : Wi) (es : List Expr) (t : DA) : Prop := PA X es (fun σ H Q => ZP wi W σ ∧ liftA X.K wi t σ H Q)
structure KDz (K : PySem.W.Frag) (wi : Wi) (W : WX) (I : Hp) (S : Sto) (H : Hp) (d : DEnds) (D' : Ends) : Prop where
  nx : ∀ I' env σ S' H', ZP wi W σ → Ext I S H I' S' H' → Sim K wi I' S' H' → ER K I' env σ → d.nx env S' → D'.nx σ H'
  rt : KQ K wi I S H d.rt D'.rt
  bk : KN K wi I S H d.bk D'.bk
  ct : KN K wi I S H d.ct D'.ct
def liftSz (K : PySem.W.Frag) (wi : Wi) (W : WX) (t : DS) : TS := fun D' σ H => ∃ I env S d, ZP wi W σ ∧ Sim K wi I S H ∧ ER K I env σ ∧ t d env S ∧ KDz K wi W I S H d D'
/-- a statement behind which no slot is another one -/
abbrev MSk (X : Cx) (W : WX) (wi : Wi) (st : Stmt) (t : DS) : Prop := PS X st (liftSz X.K wi W t)
abbrev MSsk (X : Cx) (W : WX) (wi : Wi) (st : List Stmt) (t : DS) : Prop := PSs X st (liftSz X.K wi W t)
abbrev MSz (X : Cx) (W : WX) (wi : Wi) (st : Stmt) (t : DS) : Prop := PS X st (fun D σ H => ZP wi W σ ∧ liftS X.K wi t D σ H)
abbrev MSsz (X : Cx) (W : WX) (wi : Wi) (st : List Stmt) (t : DS) : Prop := PSs X st (fun D σ H => ZP wi W σ ∧ liftS X.K wi t D σ H)
theorem KD.z {K : PySem.W.Frag} {wi : Wi} {W : WX} {I H : Hp} {S : Sto} {d : DEnds} {D' : Ends} (k : KD K wi I S H d D') : KDz K wi W I S H d D' := ⟨fun I' env σ S' H' _ => k.nx I' env σ S' H', k.rt, k.bk, k.ct⟩
theorem KDz.ext {K : PySem.W.Frag} {wi : Wi} {W : WX} {I H I1 H1 : Hp} {S S1 : Sto} {d : DEnds} {D' : Ends} (e : Ext I S H I1 S1 H1) (k : KDz K wi W I S H d D') : KDz K wi W I1 S1 H1 d D' :=
  ⟨fun I' env σ S' H' z x => k.nx I' env σ S' H' z (e.trans x), k.rt.ext e, k.bk.ext e, k.ct.ext e⟩
section
variable {X : Cx} {W : WX} {wi : Wi} {e a b c : Expr} {es : List Expr} {ta tb te : DE} {t tk : DA} {tA : DT} {pos p : Pos}
theorem zE (h : ME X wi e te) : MEz X W wi e te := PE.of h fun _ _ _ q => q.2
theorem zA (h : MA X wi es t) : MAz X W wi es t := PA.of h fun _ _ _ q => q.2
theorem zCons (ha : MEz X W wi e ta) (hr : MAz X W wi es t) (hs : starEach (e :: es) X.env = (false, eval e X.env) :: starEach es X.env := by rfl) : MAz X W wi (e :: es) (dCons ta t) := by
  refine PA.of (pa_cons ha hr hs) fun σ H Q ⟨z, h⟩ => ?_
  obtain ⟨I, env, S, Qd, sim, er, h, k⟩ := h
  refine ⟨z, I, env, S, _, sim, er, h, fun I1 w1 v1 S1 H1 e1 s1 r1 h1 => ?_⟩
  refine ⟨z, I1, env, S1, _, s1, er.le e1.le, h1, fun I2 ws vs S2 H2 e2 s2 r2 h2 => ?_⟩
  exact k I2 _ _ S2 H2 (e1.trans e2) s2 (.cons (r1.le e2.le) r2) h2
theorem zTup {x1} (h : MAz X W wi es t) : MEz X W wi (.Tuple es x1 pos) (dTup t) := by
  refine PE.of (pe_tupF h) fun σ H Q ⟨z, h⟩ => ?_
  obtain ⟨I, env, S, Qd, sim, er, h, k⟩ := h
  exact ⟨z, I, env, S, _, sim, er, h, fun I1 ws vs S1 H1 e1 s1 r1 h1 => ⟨by rw [← r1.length]; exact h1.1, (k.ext e1).newT s1 r1 h1.2⟩⟩
theorem zIfE (hc : MT X wi c tA) (ha : MEz X W wi a ta) (hb : MEz X W wi b tb) : MEz X W wi (.IfExp c a b pos) (dIf tA ta tb) := by
  refine PE.of (pe_ifExp hc ha hb) fun σ H Q ⟨z, h⟩ => ?_
  obtain ⟨I, env, S, Qd, sim, er, h, k⟩ := h
  refine ⟨I, env, S, _, sim, er, h, fun I1 d S1 H1 e1 s1 h1 => ?_⟩
  cases d
  · exact ⟨z, I1, env, S1, Qd, s1, er.le e1.le, h1, k.ext e1⟩
  · exact ⟨z, I1, env, S1, Qd, s1, er.le e1.le, h1, k.ext e1⟩
/-! calls that may raise -/
variable {k n : Nat} {f : Addr} {fd : FuncData} {ps ks : List Str} {sp : DSp} {x : Str} {kws : List Keyword} {gD : List D → List D → List D}
theorem run_gz {pins : List (Addr × Obj)} {σ : L2.St} {H : Hp} {s : Shared} {Q' : VK} {us ws : List Value} {vs zs : List V} (F : FnG X.prog X.w X.K X.mg X.base (L2.CX X.prog X.w) k f fd ps sp) (hr : Room k X.A) (hG : X.A.guards = some []) (hb : Bnd X.K fd ps n ks gD) (tkW : Takes X W) (hz : ZP wi W σ)
    (I : Inv X pins σ H s) (r : Vals vs us) (rz : Vals zs ws) {Ih : Hp} {S : Sto} {xs ys : List D} {Q : DK} (sim : Sim X.K wi Ih S H) (rx : RDs X.K Ih xs vs) (ry : RDs X.K Ih ys zs) (hn : xs.length = n) (hm : ys.length = ks.length) (h : sp (gD xs ys) S Q wi.E) (k : KQ X.K wi Ih S H Q Q') :
    wpAny (model X.prog X.w) X.A (call (.ref f) us (ks.zip ws)) (EP X pins σ Q') X.xe s := by
  obtain ⟨g, gV, hbn, hgd⟩ := hb
  have r2 := hbn.rel r rz
  have k2 : KQ X.K (wi2 wi.E wi.E') Ih S H Q Q' := fun I' w v S' H' e s' r q => k I' w v S' H' e (s'.wish (sim.kx.ext e)) r q
  refine wpAny_call (codeAny_mono (F.run X.A X.stack s H ⟨us, ks.zip ws⟩ (g us ws) (gV vs zs) Q' wi.E' hr hG I.env0 (hbn.to s us ws I.kIn (by rw [← r.length, ← rx.length]; exact hn) (by rw [← rz.length, ← ry.length]; exact hm)) r2 ⟨Ih, S, _, Q, wi.E, sim.wish ⟨sim.kx.e, fun _ z => nomatch z⟩, hgd _ _ _ _ _ rx ry, h, k2⟩) fun r s' hq => ?_)
  cases r with
  | error e => exact tkW _ _ (XE.of_call I (fun cls d H' q => hz cls d H' q) hq)
  | ok fl =>
    cases fl with
    | ret u => exact I.after hq
    | next => exact False.elim hq
    | brk => exact False.elim hq
    | cont => exact False.elim hq
theorem zCall (F : FnG X.prog X.w X.K X.mg X.base (L2.CX X.prog X.w) k f fd ps sp) (hr : Room k X.A) (hG : X.A.guards = some []) (hm : X.mg x = some (.ref f)) (hk : PySem.W.keepIn X.K (.ref f) = true) (hb : Bnd X.K fd ps n ks gD) (tkW : Takes X W)
    (ha : MA X wi (e :: es) t) (hkw : MK X wi kws tk) (hg : Gl X x := by rfl) (hall : (backToKw pos (keywordEach kws X.env)).all (·.1.isSome) = true := by rfl) (hks : (backToKw pos (keywordEach kws X.env)).filterMap (·.1) = ks := by rfl)
    (hdb : (x == ("__debug__" : Str)) = false := by decide) (he : starEach (e :: es) X.env = (false, eval e X.env) :: starEach es X.env := by rfl)
    (hpl : ((backTo pos (starEach (e :: es) X.env)).any (·.1) || (backToKw pos (keywordEach kws X.env)).any (·.1.isNone)) = false := by rfl) :
    MEz X W wi (.Call (.Name x p) (e :: es) kws pos) (dCall sp n ks.length gD wi.E t tk) := by
  refine ⟨fun pins s σ H Q' I ⟨hz, h⟩ => ?_⟩
  obtain ⟨Ih, env, S, Q, sim, er, h, k⟩ := h
  refine wpAny_Call_Name_kw (ld_glob I hg hm ?_ hdb)
  refine PySem.W.callWith_KW (h₀ := X.base) I.ok.mod.kin hk hall (thn (ha.run pos pins s σ H (fun vs H1 => ∃ I1 xs S1, Ext Ih S H I1 S1 H1 ∧ Sim X.K wi I1 S1 H1 ∧ RDs X.K I1 xs vs ∧ tk env S1 fun ys S2 => xs.length = n ∧ ys.length = ks.length ∧ sp (gD xs ys) S2 Q wi.E) I
    ⟨Ih, env, S, _, sim, er, h, fun I1 xs vs S1 H1 e1 s1 r1 h1 => ⟨I1, xs, S1, e1, s1, r1, h1⟩⟩) fun us s1 ⟨vs, H1, J1, r, I1, xs, S1, e1, sm1, r1, h1⟩ => ?_) hpl he
  refine thn (hkw.run pos pins s1 σ H1 (fun zs H2 => ∃ I2 ys S2, Ext Ih S H I2 S2 H2 ∧ Sim X.K wi I2 S2 H2 ∧ RDs X.K I2 xs vs ∧ RDs X.K I2 ys zs ∧ xs.length = n ∧ ys.length = ks.length ∧ sp (gD xs ys) S2 Q wi.E) J1
    ⟨I1, env, S1, _, sm1, er.le e1.le, h1, fun I2 ys zs S2 H2 e2 s2 r2 h2 => ⟨I2, ys, S2, e1.trans e2, s2, r1.le e2.le, r2, h2⟩⟩) fun ws s2 ⟨zs, H2, J2, rz, I2, ys, S2, e2, sm2, rx, ry, hn, hm2, h2⟩ => ⟨J2.kIn, ?_⟩
  rw [hks]
  exact run_gz F hr hG hb tkW hz J2 r rz sm2 rx ry hn hm2 h2 (k.ext e2)
theorem zCallN (F : FnG X.prog X.w X.K X.mg X.base (L2.CX X.prog X.w) k f fd ps sp) (hr : Room k X.A) (hG : X.A.guards = some []) (hm : X.mg x = some (.ref f)) (hk : PySem.W.keepIn X.K (.ref f) = true) (hb : Bnd X.K fd ps 0 ks gD) (tkW : Takes X W)
    (hkw : MK X wi kws tk) (hg : Gl X x := by rfl) (hall : (backToKw pos (keywordEach kws X.env)).all (·.1.isSome) = true := by rfl) (hks : (backToKw pos (keywordEach kws X.env)).filterMap (·.1) = ks := by rfl)
    (hdb : (x == ("__debug__" : Str)) = false := by decide) (hpl : ((backTo pos (starEach [] X.env)).any (·.1) || (backToKw pos (keywordEach kws X.env)).any (·.1.isNone)) = false := by rfl) :
    MEz X W wi (.Call (.Name x p) [] kws pos) (dCall sp 0 ks.length gD wi.E dNil tk) := by
  refine ⟨fun pins s σ H Q' I ⟨hz, h⟩ => ?_⟩
  obtain ⟨Ih, env, S, Q, sim, er, h, k⟩ := h
  refine wpAny_Call_Name_kw (ld_glob I hg hm ?_ hdb)
  refine PySem.W.callWith_KW0 (h₀ := X.base) I.ok.mod.kin hk hall (thn (hkw.run pos pins s σ H (fun zs H2 => ∃ I2 ys S2, Ext Ih S H I2 S2 H2 ∧ Sim X.K wi I2 S2 H2 ∧ RDs X.K I2 ys zs ∧ (0 : Nat) = 0 ∧ ys.length = ks.length ∧ sp (gD [] ys) S2 Q wi.E) I
    ⟨Ih, env, S, _, sim, er, h, fun I2 ys zs S2 H2 e2 s2 r2 h2 => ⟨I2, ys, S2, e2, s2, r2, h2⟩⟩) fun ws s2 ⟨zs, H2, J2, rz, I2, ys, S2, e2, sm2, ry, _, hm2, h2⟩ => ⟨J2.kIn, ?_⟩) hpl
  rw [hks]
  exact run_gz F hr hG hb tkW hz J2 .nil rz sm2 .nil ry rfl hm2 h2 (k.ext e2)
end
section
variable {X : Cx} {W : WX} {wi : Wi} {e : Expr} {te : DE} {c : Expr} {tA : DT} {st : Stmt} {body orelse : List Stmt} {t u : DS} {pos : Pos}
theorem zOf (h : MSk X W wi st t) : MSz X W wi st t := PS.of h fun D σ H ⟨z, I, env, S, d, sim, er, h, k⟩ => ⟨I, env, S, d, z, sim, er, h, k.z⟩
theorem zRet (h : MEz X W wi e te) : MSk X W wi (.Return (some e) pos) (sRet te) := by
  refine PS.of (ps_ret h) fun D σ H ⟨I, env, S, d, z, sim, er, h, k⟩ => ?_
  exact ⟨z, I, env, S, _, sim, er, h, k.rt⟩
theorem zExpr (h : MEz X W wi e te) (hs : swapsWith e none pos.line X.env = pure false := by rfl) : MSk X W wi (.Expr e pos) (sExpr te) := by
  refine PS.of (ps_expr h hs) fun D σ H ⟨I, env, S, d, z, sim, er, h, k⟩ => ?_
  exact ⟨z, I, env, S, _, sim, er, h, fun I1 w v S1 H1 e1 s1 r1 h1 => k.nx I1 env σ S1 H1 z e1 s1 (er.le e1.le) h1⟩
theorem zNil : MSsk X W wi [] sNext := PSs.of pss_nil fun D σ H ⟨I, env, S, d, z, sim, er, h, k⟩ => k.nx I env σ S H z .refl sim er h
theorem zOne (h : MSz X W wi st t) : MSsz X W wi [st] t := pss_one h
theorem zOnek (h : MSk X W wi st t) : MSsk X W wi [st] t := pss_one h
theorem zIf (hc : MT X wi c tA) (ha : MSsk X W wi body t) (hb : MSsk X W wi orelse u) : MSk X W wi (.If c body orelse pos) (sIf tA t u) := by
  refine PS.of (ps_if hc ha hb) fun D σ H ⟨I, env, S, d, z, sim, er, h, k⟩ => ?_
  refine ⟨I, env, S, _, sim, er, h, fun I1 b S1 H1 e1 s1 h1 => ?_⟩
  cases b
  · exact ⟨I1, env, S1, d, z, s1, er.le e1.le, h1, k.ext e1⟩
  · exact ⟨I1, env, S1, d, z, s1, er.le e1.le, h1, k.ext e1⟩
theorem zSeq {s' : Stmt} {rest : List Stmt} (ha : MSk X W wi st t) (hb : MSsz X W wi (s' :: rest) u) : MSsz X W wi (st :: s' :: rest) (sSeq t u) := by
  refine PSs.of (pss_cons ha hb) fun D σ H ⟨z, I, env, S, d, sim, er, h, k⟩ => ?_
  exact ⟨I, env, S, _, z, sim, er, h, ⟨fun I1 env1 σ1 S1 H1 z1 e1 s1 er1 h1 => ⟨z1, I1, env1, S1, d, s1, er1, h1, k.ext e1⟩, k.rt, k.bk, k.ct⟩⟩
theorem zSet (i : Nat) {x : Str} {pos' : Pos} (hN : X.N.Nodup) (he : MEz X W wi e te) (hi : X.N[i]? = some x := by rfl) (hx : Loc X.env.scope x := by first | exact Or.inl rfl | exact Or.inr rfl) (hs : swapsWith e (some (.Name x pos')) pos.line X.env = pure false := by rfl) (hf : X.fn x = true ∨ X.env.scope.names.lookup x = some .local := by first | exact .inl rfl | exact .inr rfl | assumption) :
    MSz X W wi (.Assign [.Name x pos'] e pos) (sAsg te i) := by
  refine PS.of (ps_set hN hi hx he hs hf) fun D σ H ⟨z, I, env, S, d, sim, er, h, k⟩ => ?_
  exact ⟨z, I, env, S, _, sim, er, h, fun I1 w v S1 H1 e1 s1 r1 h1 => k.nx I1 _ _ S1 H1 e1 s1 ((er.le e1.le).set i r1) h1⟩
end
/-! ### except -/
/-- what a clause says of an exception: x the class that it names -/
def wCl (ea : EN → Addr) (us : List EN) (cx : EN) (ts : EN → Addr → Addr → List (Str × D) → Sto → Prop) (Eo : XD) : XD := fun C fs S => ∃ x, C = ea x ∧ x ∈ us ∧ (x.le cx = true → ∀ a dd, ts x a dd fs S) ∧ (x.le cx = false → Eo C fs S)
def sTry (ea : EN → Addr) (us : List EN) (cx : EN) (tb : XD → DS) (ts : EN → Addr → Addr → List (Str × D) → DS) (Eo : XD) : DS := fun d env S => tb (wCl ea us cx (fun x a dd fs S' => ts x a dd fs d env S') Eo) d env S
def sTryAs (ea : EN → Addr) (us : List EN) (cx : EN) (i : Nat) (tb : XD → DS) (ts : EN → Addr → Addr → List (Str × D) → DS) (Eo : XD) : DS := fun d env S =>
  tb (wCl ea us cx (fun x a dd fs S' => ts x a dd fs { nx := fun e s => d.nx (e.set i none) s, rt := d.rt, bk := fun e s => d.bk (e.set i none) s, ct := fun e s => d.ct (e.set i none) s } (env.set i (some (.val (.ref a)))) S') Eo) d env S
/-- what is wished of an exception that no clause takes -/
structure Outw (X : Cx) (wi : Wi) (Eo : XD) (Wo : WX) : Prop where
  tk : Takes X Wo
  kx : ∀ I S H, KX X.K I S H wi → ∀ I' S' H' C d fs gs, Ext I S H I' S' H' → Sim0 X.K I' S' H' → RKV X.K I' fs gs → H' d = some (.xd gs) → S' d = none → I' d = none → Eo C fs S' → ∀ σ, Wo (.ref C) (some d) σ H'
theorem outw0 {X : Cx} {wi : Wi} : Outw X wi E00 (fun _ _ _ _ => False) := ⟨takes0, fun _ _ _ _ _ _ _ _ _ _ _ _ _ _ _ _ _ z => z.elim⟩
theorem outwE {X : Cx} {wi : Wi} (tk : TkD X wi) : Outw X wi wi.E (fun cls d _ H => wi.E' cls d H) := ⟨tk, fun _ _ _ k I' S' H' C d fs gs a b c e f g h _ => k.e I' S' H' C d fs gs a b c e f g h⟩
theorem ER.unset {K : PySem.W.Frag} {I : Hp} {env : Env'} {σ : L2.St} (h : ER K I env σ) (i : Nat) : ER K I (env.set i none) (σ.set i none) := by
  refine ⟨by rw [List.length_set, List.length_set]; exact h.len, fun j x e => ?_⟩
  by_cases hj : i = j
  · subst hj
    by_cases hl : i < env.length
    · rw [List.getElem?_set_self hl] at e; cases e
    · rw [List.getElem?_eq_none (by simpa using hl)] at e; cases e
  · rw [List.getElem?_set_ne hj] at e
    rw [List.getElem?_set_ne hj]
    exact h.at' j x e
section
variable {X : Cx} {wi : Wi} {x n : Str} {i : Nat} {body suite : List Stmt} {b₀ : Stmt} {np pos pos' : Pos} {ea : EN → Addr} {us : List EN} {fl : List Str} {cx : EN} {Eo : XD} {Wo : WX} {tb : XD → DS} {ts : EN → Addr → Addr → List (Str × D) → DS}
/-- the body's reading, lifted, for any wish of exceptions -/
def tbT (K : PySem.W.Frag) (tb : XD → DS) (W : WX) : TS := fun D' σ H => ∃ I env S d E1 E1', ZP (wi2 E1 E1') W σ ∧ Sim K (wi2 E1 E1') I S H ∧ ER K I env σ ∧ tb E1 d env S ∧ KD K (wi2 E1 E1') I S H d D'
theorem tbT_of {X : Cx} {W : WX} (h : ∀ wi1 : Wi, MSsz X W wi1 body (tb wi1.E)) : PSs X body (tbT X.K tb W) := ⟨fun pins s σ H D I ⟨Ih, env, S, d, E1, E1', z, sim, er, h2, k⟩ => (h (wi2 E1 E1')).run pins s σ H D I ⟨z, Ih, env, S, d, sim, er, h2, k⟩⟩
/-- the suite's reading, lifted -/
def tsT (K : PySem.W.Frag) (ea : EN → Addr) (us : List EN) (ts : EN → Addr → Addr → List (Str × D) → DS) (a : Addr) (cls : Value) (d : Option Addr) : TS := fun D' σ H => ∃ x dd fs, x ∈ us ∧ cls = .ref (ea x) ∧ d = some dd ∧ liftS K ⟨E00, E0, [(dd, fs)]⟩ (ts x a dd fs) D' σ H
/-- an exception of the body as the clause has it -/
def xkT (K : PySem.W.Frag) (I : Hp) (S : Sto) (H : Hp) (E1 : XD) : XK := fun cls dx H' => ∃ C dd I' S' fs gs, cls = .ref C ∧ dx = some dd ∧ Ext I S H I' S' H' ∧ Sim0 K I' S' H' ∧ RKV K I' fs gs ∧ H' dd = some (.xd gs) ∧ S' dd = none ∧ I' dd = none ∧ E1 C fs S'
theorem xkT_kx {K : PySem.W.Frag} {I H : Hp} {S : Sto} {E1 : XD} : KXe K I S H E1 (xkT K I S H E1) := fun I' S' H' C d fs gs a b c e f g h => ⟨C, d, I', S', fs, gs, rfl, rfl, a, b, c, e, f, g, h⟩
theorem KX.held {K : PySem.W.Frag} {I H : Hp} {S : Sto} {dd : Addr} {fs : List (Str × D)} {gs : List (Str × V)} (h1 : H dd = some (.xd gs)) (h2 : S dd = none) (h3 : I dd = none) (h4 : RKV K I fs gs) : KX K I S H ⟨E00, E0, [(dd, fs)]⟩ :=
  ⟨fun _ _ _ _ _ _ _ _ _ _ _ _ _ z => z.elim, fun p hp => by rw [List.mem_singleton.1 hp]; exact ⟨gs, h1, h2, h3, h4⟩⟩
/-- behind the suite the outer wishes stand -/
theorem KD.back {K : PySem.W.Frag} {wi wi' : Wi} {I H I1 H1 : Hp} {S S1 : Sto} {d : DEnds} {D' : Ends} (sim : Sim K wi I S H) (e : Ext I S H I1 S1 H1) (k : KD K wi I S H d D') : KD K wi' I1 S1 H1 d D' :=
  ⟨fun I' env σ S' H' x s er q => k.nx I' env σ S' H' (e.trans x) (s.wish (sim.kx.ext (e.trans x))) er q, fun I' w v S' H' x s r q => k.rt I' w v S' H' (e.trans x) (s.wish (sim.kx.ext (e.trans x))) r q,
    fun I' env σ S' H' x s er q => k.bk I' env σ S' H' (e.trans x) (s.wish (sim.kx.ext (e.trans x))) er q, fun I' env σ S' H' x s er q => k.ct I' env σ S' H' (e.trans x) (s.wish (sim.kx.ext (e.trans x))) er q⟩
theorem KD.unset {K : PySem.W.Frag} {wi : Wi} {I H : Hp} {S : Sto} {d : DEnds} {D' : Ends} (i : Nat) (k : KD K wi I S H d D') :
    KD K wi I S H { nx := fun e s => d.nx (e.set i none) s, rt := d.rt, bk := fun e s => d.bk (e.set i none) s, ct := fun e s => d.ct (e.set i none) s } { nx := fun σ' H' => D'.nx (σ'.set i none) H', rt := D'.rt, bk := fun σ' H' => D'.bk (σ'.set i none) H', ct := fun σ' H' => D'.ct (σ'.set i none) H' } :=
  ⟨fun I' env σ S' H' x s er q => k.nx I' _ _ S' H' x s (er.unset i) q, k.rt, fun I' env σ S' H' x s er q => k.bk I' _ _ S' H' x s (er.unset i) q, fun I' env σ S' H' x s er q => k.ct I' _ _ S' H' x s (er.unset i) q⟩
theorem mTry (ecs : Ecs X.K ea us fl) (hcx : cx ∈ us) (hm : X.mg x = some (.ref (ea cx))) (ow : Outw X wi Eo Wo)
    (hb : ∀ (wi1 : Wi) (W : WX) (pn : List (Addr × Obj)) (xe : Value → Shared → Prop), Takes (X.tr pn xe) W → PassesOwn (model X.prog X.w) X.A X.env xe → MSsz (X.tr pn xe) W wi1 body (tb wi1.E))
    (hsu : ∀ (y : EN) (a dd : Addr) (fs : List (Str × D)) (oe : Obj) (pn : List (Addr × Obj)), y ∈ us → Zc (.ref (ea y)) (some dd) oe → (∃ vs, oe.data = .fields vs) → MSs (X.suite a ((a, oe) :: pn)) ⟨E00, E0, [(dd, fs)]⟩ (b₀ :: suite) (ts y a dd fs))
    (hs : X.stack = X.env :: X.outer := by rfl) (hf : X.env.frame = some X.env.locals := by rfl) (hg : Gl X x := by rfl) (hdb : (x == ("__debug__" : Str)) = false := by decide) :
    MS X wi (.Try body [.ExceptHandler (some (.Name x np)) none (b₀ :: suite) pos'] [] [] pos) (sTry ea us cx tb ts Eo) := by
  refine PS.of (ps_try_only (tb := tbT X.K tb) hs hf ⟨hg, hdb, .inl hm⟩ ow.tk (fun W pn xe tk po => tbT_of (X := X.tr pn xe) (tb := tb) fun wi1 => hb wi1 W pn xe tk po) (ts := tsT X.K ea us ts) (fun a oe cls d pn hz hfl => ⟨fun pins s σ H D I ⟨y, dd, fs, hy, ec, ed, h⟩ => ?_⟩)) fun D σ H ⟨I, env, S, d, sim, er, h, k⟩ => ?_
  · subst ec ed
    exact (hsu y a dd fs oe pn hy hz hfl).run pins s σ H D I h
  · refine ⟨I, env, S, d, _, xkT X.K I S H (wCl ea us cx (fun x a dd fs S' => ts x a dd fs d env S') Eo), fun cls dx H' hx => ?_, sim.wish ⟨xkT_kx, fun _ z => nomatch z⟩, er, h, ?_⟩
    · obtain ⟨C, dd, I', S', fs, gs, rfl, rfl, e1, s0, rk, h1, h2, h3, y, ey, hy, hyes, hno⟩ := hx
      refine ⟨y.le cx, by rw [ey]; exact ecs.exm y hy cx hcx, fun hb a ha => ?_, fun hb => ow.kx I S H sim.kx I' S' H' C dd fs gs e1 s0 rk h1 h2 h3 (hno hb) σ⟩
      have s1 : Sim X.K ⟨E00, E0, [(dd, fs)]⟩ I' S' H' := ⟨s0, KX.held h1 h2 h3 rk⟩
      exact ⟨y, dd, fs, hy, by rw [ey], rfl, I', env, S', d, s1, er.le e1.le, hyes hb a dd, KD.back sim e1 k⟩
    · exact KD.back sim .refl k
theorem mTryAs (hN : X.N.Nodup) (ecs : Ecs X.K ea us fl) (hcx : cx ∈ us) (hm : X.mg x = some (.ref (ea cx))) (ow : Outw X wi Eo Wo)
    (hb : ∀ (wi1 : Wi) (W : WX) (pn : List (Addr × Obj)) (xe : Value → Shared → Prop), Takes (X.tr pn xe) W → PassesOwn (model X.prog X.w) X.A X.env xe → MSsz (X.tr pn xe) W wi1 body (tb wi1.E))
    (hsu : ∀ (y : EN) (a dd : Addr) (fs : List (Str × D)) (oe : Obj) (pn : List (Addr × Obj)), y ∈ us → Zc (.ref (ea y)) (some dd) oe → (∃ vs, oe.data = .fields vs) → MSs (X.suite a ((a, oe) :: pn)) ⟨E00, E0, [(dd, fs)]⟩ (b₀ :: suite) (ts y a dd fs))
    (hi : X.N[i]? = some n := by rfl) (hln : X.env.kindOf n = some .local := by rfl) (hs : X.stack = X.env :: X.outer := by rfl) (hf : X.env.frame = some X.env.locals := by rfl) (hg : Gl X x := by rfl) (hdb : (x == ("__debug__" : Str)) = false := by decide) :
    MS X wi (.Try body [.ExceptHandler (some (.Name x np)) (some n) (b₀ :: suite) pos'] [] [] pos) (sTryAs ea us cx i tb ts Eo) := by
  refine PS.of (ps_try_as (tb := tbT X.K tb) hs hf hN hi hln ⟨hg, hdb, .inl hm⟩ ow.tk (fun W pn xe tk po => tbT_of (X := X.tr pn xe) (tb := tb) fun wi1 => hb wi1 W pn xe tk po) (ts := tsT X.K ea us ts) (fun a oe cls d pn hz hfl => ⟨fun pins s σ H D I ⟨y, dd, fs, hy, ec, ed, h⟩ => ?_⟩)) fun D σ H ⟨I, env, S, d, sim, er, h, k⟩ => ?_
  · subst ec ed
    exact (hsu y a dd fs oe pn hy hz hfl).run pins s σ H D I h
  · refine ⟨I, env, S, d, _, xkT X.K I S H (wCl ea us cx (fun x a dd fs S' => ts x a dd fs { nx := fun e s => d.nx (e.set i none) s, rt := d.rt, bk := fun e s => d.bk (e.set i none) s, ct := fun e s => d.ct (e.set i none) s } (env.set i (some (.val (.ref a)))) S') Eo), fun cls dx H' hx => ?_, sim.wish ⟨xkT_kx, fun _ z => nomatch z⟩, er, h, ?_⟩
    · obtain ⟨C, dd, I', S', fs, gs, rfl, rfl, e1, s0, rk, h1, h2, h3, y, ey, hy, hyes, hno⟩ := hx
      refine ⟨y.le cx, by rw [ey]; exact ecs.exm y hy cx hcx, fun hb a ha => ?_, fun hb => ow.kx I S H sim.kx I' S' H' C dd fs gs e1 s0 rk h1 h2 h3 (hno hb) σ⟩
      have s1 : Sim X.K ⟨E00, E0, [(dd, fs)]⟩ I' S' H' := ⟨s0, KX.held h1 h2 h3 rk⟩
      exact ⟨y, dd, fs, hy, by rw [ey], rfl, I', _, S', _, s1, (er.le e1.le).set i (.val (.ref a)), hyes hb a dd, (KD.back sim e1 k).unset i⟩
    · exact KD.back sim .refl k
end
/-! ### in the suite: what the exception is, its fields -/
def dIsE (y : EN) (a : Addr) (cs : List EN) (t : DE) : DE := fun env S Q => t env S fun w S1 => w = .val (.ref a) ∧ Q (.bl (cs.any fun c => y.le c)) S1
def dXf (a : Addr) (fs : List (Str × D)) (f : Str) (t : DE) : DE := fun env S Q => t env S fun w S1 => w = .val (.ref a) ∧ qOpt (fs.lookup f) S1 Q
theorem RKV.look {K : PySem.W.Frag} {I : Hp} {f : Str} : ∀ {fs : List (Str × D)} {gs : List (Str × V)} {x : D}, RKV K I fs gs → fs.lookup f = some x → ∃ v, gs.lookup f = some v ∧ RD K I x v
  | _, _, _, .nil, h => by cases h
  | (g, y) :: fs, (g', v) :: gs, x, .cons ⟨e, r⟩ t, h => by
    have e' : g = g' := e
    subst e'
    by_cases hk : f = g
    · subst hk
      simp only [List.lookup, beq_self_eq_true] at h ⊢
      cases h
      exact ⟨v, rfl, r⟩
    · have hb : (f == g) = false := by simpa using hk
      simp only [List.lookup, hb] at h ⊢
      exact RKV.look t h
section
variable {X : Cx} {wi : Wi} {a dd : Addr} {oe : Obj} {pn : List (Addr × Obj)} {y : EN} {fs : List (Str × D)} {us : List EN} {fl : List Str} {ea : EN → Addr} {e ce : Expr} {te : DE} {pos p : Pos} {n : Str} {cs : List EN}
theorem mXf (ecs : Ecs X.K ea us fl) (hy : y ∈ us) (hz : Zc (.ref (ea y)) (some dd) oe) (hv : ∃ vs, oe.data = .fields vs) (hn : n ∈ fl) (he : ME (X.suite a ((a, oe) :: pn)) ⟨E00, E0, [(dd, fs)]⟩ e te) (hb : attributeBase e n X.env (eval e X.env) = eval e X.env := by rfl) :
    ME (X.suite a ((a, oe) :: pn)) ⟨E00, E0, [(dd, fs)]⟩ (.Attribute e n pos) (dXf a fs n te) := by
  refine PE.of (pe_xf (ecs.xf y hy) (ecs.nof y hy n hn) hz hv he hb) fun σ H Q ⟨I, env, S, Qd, sim, er, h, k⟩ => ?_
  refine ⟨I, env, S, _, sim, er, h, fun I1 w1 v1 S1 H1 e1 s1 r1 h1 => ?_⟩
  obtain ⟨hw, h1⟩ := h1
  subst hw
  cases r1
  obtain ⟨gs, g1, g2, g3, g4⟩ := s1.kx.f (dd, fs) (List.mem_singleton.2 rfl)
  unfold qOpt at h1
  split at h1
  · rename_i z hz2
    obtain ⟨v, hv2, rv⟩ := g4.look hz2
    exact ⟨rfl, rfl, dd, gs, v, rfl, g1, hv2, k _ _ _ _ _ e1 s1 rv h1⟩
  · exact h1.elim
/-- isinstance(e, c), isinstance(e, (c1, ..)) -/
def gIsE (ea : EN → Addr) (y : EN) (a : Addr) (cs : List EN) (xs : List D) (S : Sto) (Q : DK) : Prop := match xs with
  | [w, c] => w = .val (.ref a) ∧ (c = .tup (cs.map fun c => .val (.ref (ea c))) ∨ ∃ c0, cs = [c0] ∧ c = .val (.ref (ea c0))) ∧ Q (.bl (cs.any fun c => y.le c)) S
  | _ => False
theorem kit_any {K : PySem.W.Frag} (ecs : Ecs K ea us fl) (hy : y ∈ us) : ∀ cs : List EN, (∀ c ∈ cs, c ∈ us) → PySem.W.kitAny K (.ref (ea y)) (cs.map fun c => .ref (ea c)) = some (cs.any fun c => y.le c)
  | [], _ => rfl
  | c :: cs, h => by
    have h1 := ecs.kit y hy c (h c (List.mem_cons_self ..))
    have h2 := kit_any ecs hy cs fun z hz => h z (List.mem_cons_of_mem _ hz)
    rw [List.map_cons, PySem.W.kitAny, h1, List.any_cons]
    cases y.le c
    · rw [Bool.false_or]; exact h2
    · rfl
theorem vals_cls {K : PySem.W.Frag} {I : Hp} : ∀ {cs : List EN} {vs : List V} {us' : List Value}, RDs K I (cs.map fun c => D.val (.ref (ea c))) vs → Vals vs us' → us' = cs.map fun c => Value.ref (ea c)
  | [], _, _, .nil, .nil => rfl
  | c :: cs, _, _, .cons r t, .cons rv tv => by
    cases r
    rw [List.map_cons, ← vals_cls t tv]
    obtain rfl := show _ = _ from rv
    rfl
theorem cIsE (ecs : Ecs X.K ea us fl) (hy : y ∈ us) (hcs : ∀ c ∈ cs, c ∈ us) (hz : Zc (.ref (ea y)) (some dd) oe) (hv : ∃ vs, oe.data = .fields vs) : CallM (X.suite a ((a, oe) :: pn)) ⟨E00, E0, [(dd, fs)]⟩ (.builtin "isinstance") (gIsE ea y a cs) := by
  intro pins s σ H vs us' Q' I rv ⟨Ih, S, xs, Q, sim, rx, h, k⟩
  unfold gIsE at h
  split at h
  · rename_i w c
    obtain ⟨hw, hc, h⟩ := h
    subst hw
    cases rx with
    | cons r1 rx =>
      cases rx with
      | cons r2 rx =>
        cases rx
        cases rv with
        | cons v1 rv =>
          cases rv with
          | cons v2 rv =>
            cases rv
            cases r1
            obtain rfl := show _ = _ from v1
            obtain ⟨hget, _⟩ := I.pin (a, oe) (List.mem_append.mpr (.inl List.mem_cons_self))
            obtain ⟨vs0, hv0⟩ := hv
            obtain ⟨gs, g1, g2, g3, g4⟩ := sim.kx.f (dd, fs) (List.mem_singleton.2 rfl)
            have hx : ObjOk X.prog X.w H s.heap dd (.xd gs) := I.hok dd _ g1
            obtain ⟨mA, hns, hr⟩ := hx
            obtain ⟨od, ho, hl⟩ := lookIn_ns hns
            have J : PySem.W.InstAt s.heap a oe (ea y) (some od) := ⟨hget, hz.1, by unfold PySem.W.notCls; rw [hv0] <;> rfl, by rw [hz.2]; exact ho⟩
            have KX := PySem.W.kitx_exc (x := a) (ox := oe) (od := some od) (ecs.cl y hy) (ecs.xf y hy).ga (ecs.xf y hy).gg (ecs.xf y hy).exC (ecs.cc y hy) ecs.oc ecs.ot (ecs.mo y hy)
            have fin : ∀ tk, EP (X.suite a ((a, oe) :: pn)) pins σ Q' (.bool (cs.any fun c => y.le c)) { s with toks := tk } := fun tk => ⟨.bl _, H, I.kept (t' := tk) fun _ _ z => z, rfl, k _ _ _ _ _ .refl sim (.bl _) h⟩
            rcases hc with hc | ⟨c0, hc0, hc⟩
            · subst hc
              cases r2 with
              | @tup t _ ws ht rs =>
                obtain rfl := show _ = _ from v2
                obtain ⟨its, r, ⟨⟨cls, dd0, data, sl⟩, ho2, hc2, m, hd2⟩, hs2⟩ := I.tuple (SqT.le sim.im ht.sq)
                simp only at hc2 hd2
                subst hc2 hd2
                have hi := vals_cls (ea := ea) rs r
                refine PySem.W.kia_tup KX I.kIn J ho2 ?_ (fun z => nomatch z) fin
                rw [hi]
                exact kit_any ecs hy cs hcs
            · subst hc hc0
              cases r2
              obtain rfl := show _ = _ from v2
              refine PySem.W.kia_one KX I.kIn J ?_ (fun z => nomatch z) fin
              have := ecs.kit y hy c0 (hcs c0 (List.mem_cons_self ..))
              rw [this]
              simp
  · exact h.elim
end
end DL
namespace DL
open PySem PySem.Spec PyProof.Rows L2
section
variable {S : Sto} {Q : DK} {ea : EN → Addr} {y c : EN} {a : Addr} {cs : List EN}
theorem gIsE_one (b : Bool) (h : y.le c = b) (q : Q (.bl b) S) : gIsE ea y a [c] [.val (.ref a), .val (.ref (ea c))] S Q := ⟨rfl, .inr ⟨c, rfl, rfl⟩, by rw [List.any_cons, List.any_nil, h, Bool.or_false]; exact q⟩
theorem gIsE_tup (b : Bool) (h : (cs.any fun c => y.le c) = b) (q : Q (.bl b) S) : gIsE ea y a cs [.val (.ref a), .tup (cs.map fun c => .val (.ref (ea c)))] S Q := ⟨rfl, .inl rfl, by rw [h]; exact q⟩
theorem dXf_at (a : Addr) (fs : List (Str × D)) (f : Str) (t : DE) (env : Env') (S : Sto) (Q : DK) : dXf a fs f t env S Q = (t env S fun w S1 => w = .val (.ref a) ∧ qOpt (fs.lookup f) S1 Q) := Eq.trans rfl rfl
theorem sTry_at (ea : EN → Addr) (us : List EN) (cx : EN) (tb : XD → DS) (ts : EN → Addr → Addr → List (Str × D) → DS) (Eo : XD) (d : DEnds) (env : Env') (S : Sto) : sTry ea us cx tb ts Eo d env S = tb (wCl ea us cx (fun x a dd fs S' => ts x a dd fs d env S') Eo) d env S := Eq.trans rfl rfl
theorem sTryAs_at (ea : EN → Addr) (us : List EN) (cx : EN) (i : Nat) (tb : XD → DS) (ts : EN → Addr → Addr → List (Str × D) → DS) (Eo : XD) (d : DEnds) (env : Env') (S : Sto) : sTryAs ea us cx i tb ts Eo d env S =
  tb (wCl ea us cx (fun x a dd fs S' => ts x a dd fs { nx := fun e s => d.nx (e.set i none) s, rt := d.rt, bk := fun e s => d.bk (e.set i none) s, ct := fun e s => d.ct (e.set i none) s } (env.set i (some (.val (.ref a)))) S') Eo) d env S := Eq.trans rfl rfl
theorem sRaise_at (C : Addr) (fl : List Str) (t : DA) (E : XD) (d : DEnds) (env : Env') (S : Sto) : sRaise C fl t E d env S = (t env S fun xs S1 => xs.length = fl.length ∧ E C (fl.zip xs).reverse S1) := Eq.trans rfl rfl
theorem wCl_by {us : List EN} {cx : EN} {ts : EN → Addr → Addr → List (Str × D) → Sto → Prop} {Eo : XD} {fs : List (Str × D)} (y : EN) (hy : y ∈ us) (h : y.le cx = true) (q : ∀ a dd, ts y a dd fs S) : wCl ea us cx ts Eo (ea y) fs S := ⟨y, rfl, hy, fun _ => q, fun z => by rw [h] at z; cases z⟩
end
end DL


set_option Elab.async false
set_option linter.all false
set_option maxRecDepth 100000
set_option maxHeartbeats 4000000
namespace DL
open PySem PySem.Spec PyProof.Rows L2
/-! ### tuple * int, the new tuple known as it is -/
def fMulT (x y : D) (S : Sto) (Q : DK) : Prop := match x, y with
  | .tup xs, .int k => (xs ≠ [] ∧ 2 ≤ k ∧ k ≤ 1000 ∧ xs.length ≤ 1000) ∧ Q (.tup (List.replicate k.toNat xs).flatten) S
  | _, _ => False
theorem oMulT {X : Cx} {wi : Wi} : OpM X wi (binaryOp .Mult) fMulT := by
  intro pins s σ H v u vv uu Q' I rv ru ⟨Ih, S, x, y, Q, sim, rx, ry, h, k⟩
  unfold fMulT at h
  split at h
  · rename_i xs n
    obtain ⟨⟨hne0, h1, h2, hz0⟩, h⟩ := h
    cases rx with
    | @tup l _ vs ht rs =>
      cases ry
      cases rv
      obtain ⟨t, rfl⟩ := ru
      have hl := rs.length
      obtain ⟨its, r, ⟨⟨cls, dd, data, sl⟩, ho, hc, m, hd⟩, hs⟩ := I.tuple (SqT.le sim.im ht.sq)
      simp only at hc hd
      subst hc hd
      have hle : its.length = vs.length := r.length.symm
      have hz : vs.length ≤ 1000 := by omega
      have hn : its ≠ [] := fun e => hne0 (by
        rw [e] at hle
        exact List.eq_nil_of_length_eq_zero (by rw [hl]; exact hle.symm))
      have hi : its.toArray.isEmpty = false := by
        cases its with
        | nil => exact absurd rfl hn
        | cons a b => rfl
      have hsz0 : its.toArray.size = vs.length := by rw [List.size_toArray, hle]
      have hm : ((its.toArray.size : Nat) : Int) * n ≤ 1000000 := by
        rw [hsz0]
        have a1 : ((vs.length : Nat) : Int) * n ≤ 1000 * n := Int.mul_le_mul_of_nonneg_right (by omega) (by omega)
        omega
      have flen : (List.replicate n.toNat its).flatten.length ≤ sizeLine := by
        rw [PyProof.Rows.lm_len_rep_flat, hle, sizeLine_eq]
        have a1 : n.toNat * vs.length ≤ 1000 * 1000 := Nat.mul_le_mul (by omega) hz
        omega
      have c0 : (decide (n < -(2 ^ 63)) || decide (n ≥ 2 ^ 63)) = false := by
        rw [decide_eq_false (by omega), decide_eq_false (by omega)] <;> rfl
      have c1 : (its.toArray.isEmpty || n == 1) = false := by
        rw [hi, Bool.false_or]
        exact beq_eq_false_iff_ne.mpr (by omega)
      have c2 : (decide (n ≤ 0) || its.toArray.isEmpty) = false := by
        rw [hi, Bool.or_false]
        exact decide_eq_false (by omega)
      have c4 : Builtin.Tuple.tupleTooMany (((its.toArray.size : Nat) : Int) * n) = false := by
        unfold Builtin.Tuple.tupleTooMany
        rw [sizeLine_eq]
        exact decide_eq_false (by omega)
      refine wpAny_binaryOp_repeat_ref (T := "tuple") (U := "int") (by decide) ⟨_, ho, rfl⟩ (fun s' => typeIs_int s' n t) noFill_tuple_mul F.fills_int_mul F.slot_int_rmul repeat_tuple F.slot_int_index.lookup
        (call_meets F.slot_int_rmul (typeIs_int s n t) F.entry_int_rmul (F.args_int_rmul_2 _ _) (int_rmul_tuple n t l its.toArray m dd sl)
          ⟨ho, rfl, ⟨_, ho, rfl⟩, call_meets F.slot_tuple_mul ⟨_, ho, rfl⟩ F.entry_tuple_mul (F.args_tuple_mul_2 _ _) (tuple_mulW l its.toArray m dd sl n t c0 c1 c2 (by omega) c4 (by rw [size_rep, List.size_toArray]; exact flen)) ⟨ho, ?_⟩⟩)
      rw [size_rep]
      have hzz : (List.replicate n.toNat vs).flatten.length ≤ sizeLine := by
        rw [PyProof.Rows.lm_len_rep_flat, sizeLine_eq]
        have a1 : n.toNat * vs.length ≤ 1000 * 1000 := Nat.mul_le_mul (by omega) hz
        omega
      obtain ⟨J, hnn⟩ := laid_tup (s := s) (h' := s.heap) (tk := s.toks) I (r.rep n.toNat) hzz
      exact ⟨.ref s.heap.objs.size, _, J, rfl, k.newT sim (rs.rep n.toNat) h _ _ tob_nd hnn⟩
  · exact h.elim
end DL


set_option Elab.async false
set_option linter.all false
set_option maxRecDepth 100000
set_option maxHeartbeats 4000000
namespace Lw
open PySem PySem.Spec PyProof.Rows L2 DL
def top (i : Nat) : Stmt := PySem.Challenge.pw_forkjoins_k04_changed.main.body.getD i (.Pass ⟨0, 0, 0, 0⟩)
abbrev us : List EN := [.join, .paper, .run, .text, .noRevision, .noStep, .noBack]
abbrev efl : List Str := ["path", "word", "times"]
abbrev s_NoRevision_init : Stmt := inClass (top 5) 0
abbrev s_NoStep_init : Stmt := inClass (top 6) 0
abbrev s_NoBack_init : Stmt := inClass (top 7) 0
structure Tx (K : PySem.W.Frag) (mg : Str → Option Value) (w : World) where
  ea : EN → Addr
  ecs : Ecs K ea us efl
  mE : ∀ x ∈ us, mg x.nm = some (.ref (ea x))
  cE : ∀ x ∈ us, GC K mg x.nm (.val (.ref (ea x)))
  fI_NoRevision : Addr
  fdI_NoRevision : FuncData
  FI_NoRevision : FunD K "__init__" "NoRevision.__init__" (defArgs s_NoRevision_init) (defBody s_NoRevision_init) (defScope s_NoRevision_init) [] [] fI_NoRevision fdI_NoRevision
  oX_NoRevision : OexC K (ea .noRevision)
  iX_NoRevision : PySem.W.findIn K (.ref (ea .noRevision)) "__init__" = some (some (.ref fI_NoRevision))
  tX_NoRevision : PySem.W.typeIn K (.ref fI_NoRevision) = some (.type "function")
  bX_NoRevision : BsC K (ea .run)
  bI_NoRevision : Binds K fdI_NoRevision ["self", "path"] []
  fI_NoStep : Addr
  fdI_NoStep : FuncData
  FI_NoStep : FunD K "__init__" "NoStep.__init__" (defArgs s_NoStep_init) (defBody s_NoStep_init) (defScope s_NoStep_init) [] [] fI_NoStep fdI_NoStep
  oX_NoStep : OexC K (ea .noStep)
  iX_NoStep : PySem.W.findIn K (.ref (ea .noStep)) "__init__" = some (some (.ref fI_NoStep))
  tX_NoStep : PySem.W.typeIn K (.ref fI_NoStep) = some (.type "function")
  bX_NoStep : BsC K (ea .run)
  bI_NoStep : Binds K fdI_NoStep ["self", "word"] []
  fI_NoBack : Addr
  fdI_NoBack : FuncData
  FI_NoBack : FunD K "__init__" "NoBack.__init__" (defArgs s_NoBack_init) (defBody s_NoBack_init) (defScope s_NoBack_init) [] [] fI_NoBack fdI_NoBack
  oX_NoBack : OexC K (ea .noBack)
  iX_NoBack : PySem.W.findIn K (.ref (ea .noBack)) "__init__" = some (some (.ref fI_NoBack))
  tX_NoBack : PySem.W.typeIn K (.ref fI_NoBack) = some (.type "function")
  bX_NoBack : BsC K (ea .run)
  bI_NoBack : Binds K fdI_NoBack ["self", "times"] []
  f_do_write : Addr
  fd_do_write : FuncData
  F_do_write : FunD K "do_write" "do_write" (defArgs (top 9)) (defBody (top 9)) (defScope (top 9)) [] [] f_do_write fd_do_write
  m_do_write : mg "do_write" = some (.ref f_do_write)
  f_do_add : Addr
  fd_do_add : FuncData
  F_do_add : FunD K "do_add" "do_add" (defArgs (top 10)) (defBody (top 10)) (defScope (top 10)) [] [] f_do_add fd_do_add
  m_do_add : mg "do_add" = some (.ref f_do_add)
  f_do_put : Addr
  fd_do_put : FuncData
  F_do_put : FunD K "do_put" "do_put" (defArgs (top 11)) (defBody (top 11)) (defScope (top 11)) [] [] f_do_put fd_do_put
  m_do_put : mg "do_put" = some (.ref f_do_put)
  f_do_take : Addr
  fd_do_take : FuncData
  F_do_take : FunD K "do_take" "do_take" (defArgs (top 12)) (defBody (top 12)) (defScope (top 12)) [] [] f_do_take fd_do_take
  m_do_take : mg "do_take" = some (.ref f_do_take)
  f_do_row : Addr
  fd_do_row : FuncData
  F_do_row : FunD K "do_row" "do_row" (defArgs (top 13)) (defBody (top 13)) (defScope (top 13)) [] [] f_do_row fd_do_row
  m_do_row : mg "do_row" = some (.ref f_do_row)
  f_goes : Addr
  fd_goes : FuncData
  F_goes : FunD K "goes" "goes" (defArgs (top 15)) (defBody (top 15)) (defScope (top 15)) [] [] f_goes fd_goes
  m_goes : mg "goes" = some (.ref f_goes)
  f_changed : Addr
  fd_changed : FuncData
  F_changed : FunD K "changed" "changed" (defArgs (top 16)) (defBody (top 16)) (defScope (top 16)) [] [] f_changed fd_changed
  m_changed : mg "changed" = some (.ref f_changed)
  f_law_feed : Addr
  fd_law_feed : FuncData
  F_law_feed : FunD K "_law_feed" "_law_feed" (defArgs (top 18)) (defBody (top 18)) (defScope (top 18)) [] [] f_law_feed fd_law_feed
  m_law_feed : mg "_law_feed" = some (.ref f_law_feed)
  f_law_draw : Addr
  fd_law_draw : FuncData
  F_law_draw : FunD K "_law_draw" "_law_draw" (defArgs (top 19)) (defBody (top 19)) (defScope (top 19)) [] [] f_law_draw fd_law_draw
  m_law_draw : mg "_law_draw" = some (.ref f_law_draw)
  f_law_number : Addr
  fd_law_number : FuncData
  F_law_number : FunD K "_law_number" "_law_number" (defArgs (top 20)) (defBody (top 20)) (defScope (top 20)) [] [] f_law_number fd_law_number
  m_law_number : mg "_law_number" = some (.ref f_law_number)
  f_law_sum : Addr
  fd_law_sum : FuncData
  F_law_sum : FunD K "_law_sum" "_law_sum" (defArgs (top 21)) (defBody (top 21)) (defScope (top 21)) [] [] f_law_sum fd_law_sum
  m_law_sum : mg "_law_sum" = some (.ref f_law_sum)
  f_law_has : Addr
  fd_law_has : FuncData
  F_law_has : FunD K "_law_has" "_law_has" (defArgs (top 22)) (defBody (top 22)) (defScope (top 22)) [] [] f_law_has fd_law_has
  m_law_has : mg "_law_has" = some (.ref f_law_has)
  f_law_kind : Addr
  fd_law_kind : FuncData
  F_law_kind : FunD K "_law_kind" "_law_kind" (defArgs (top 23)) (defBody (top 23)) (defScope (top 23)) [] [] f_law_kind fd_law_kind
  m_law_kind : mg "_law_kind" = some (.ref f_law_kind)
  f_law_due : Addr
  fd_law_due : FuncData
  F_law_due : FunD K "_law_due" "_law_due" (defArgs (top 24)) (defBody (top 24)) (defScope (top 24)) [] [] f_law_due fd_law_due
  m_law_due : mg "_law_due" = some (.ref f_law_due)
  f_law_told : Addr
  fd_law_told : FuncData
  F_law_told : FunD K "_law_told" "_law_told" (defArgs (top 25)) (defBody (top 25)) (defScope (top 25)) [] [] f_law_told fd_law_told
  m_law_told : mg "_law_told" = some (.ref f_law_told)
  f_law : Addr
  fd_law : FuncData
  F_law : FunD K "law" "law" (defArgs (top 26)) (defBody (top 26)) (defScope (top 26)) [] [] f_law fd_law
  m_law : mg "law" = some (.ref f_law)
  b_goes : Bnd K fd_goes ["word", "kind"] 2 [] (fun xs _ => xs)
  b_do_write : Bnd K fd_do_write ["has", "number"] 2 [] (fun xs _ => xs)
  b_do_add : Bnd K fd_do_add ["has", "number"] 2 [] (fun xs _ => xs)
  b_do_put : Bnd K fd_do_put ["has", "number"] 2 [] (fun xs _ => xs)
  b_do_take : Bnd K fd_do_take ["has", "number"] 2 [] (fun xs _ => xs)
  b_do_row : Bnd K fd_do_row ["has", "number"] 2 [] (fun xs _ => xs)
  b_law_draw : Bnd K fd_law_draw ["_law_feed_here", "_law_many"] 2 [] (fun xs _ => xs)
  b_law_sum : Bnd K fd_law_sum ["_law_feed_here", "_law_within", "_law_less"] 3 [] (fun xs _ => xs)
  b_law_number : Bnd K fd_law_number ["_law_feed_here"] 1 [] (fun xs _ => xs)
  b_changed_2_word_number : Bnd K fd_changed ["kind", "has", "word", "number"] 2 ["word", "number"] (fun xs ys => [xs.getD 0 .non, xs.getD 1 .non, ys.getD 0 .non, ys.getD 1 .non])
  b_law_feed : Bnd K fd_law_feed ["_law_script"] 1 [] (fun xs _ => xs)
  b_law_kind : Bnd K fd_law_kind ["_law_feed_here"] 1 [] (fun xs _ => xs)
  b_law_has : Bnd K fd_law_has ["_law_feed_here", "_law_cast"] 2 [] (fun xs _ => xs)
  b_law_due : Bnd K fd_law_due ["_law_cast", "_law_stock", "_law_term", "_law_figure"] 4 [] (fun xs _ => xs)
  b_law_told : Bnd K fd_law_told ["_law_cast", "_law_stock", "_law_term", "_law_figure"] 4 [] (fun xs _ => xs)
  b_changed_0_number_has_kind_word : Bnd K fd_changed ["kind", "has", "word", "number"] 0 ["number", "has", "kind", "word"] (fun xs ys => [ys.getD 2 .non, ys.getD 1 .non, ys.getD 3 .non, ys.getD 0 .non])
  n_enumerate : mg "enumerate" = none
  n_int : mg "int" = none
  n_isinstance : mg "isinstance" = none
  n_len : mg "len" = none
  n_list : mg "list" = none
  n_range : mg "range" = none
  n_repr : mg "repr" = none
  n_set : mg "set" = none
  n_sorted : mg "sorted" = none
  n_tuple : mg "tuple" = none
  t_DEEDS : TabOk K w mg "DEEDS" [("write", .val (.ref f_do_write)), ("add", .val (.ref f_do_add)), ("put", .val (.ref f_do_put)), ("take", .val (.ref f_do_take)), ("row", .val (.ref f_do_row))]
abbrev s_do_write : Stmt := top 9
abbrev N_do_write : List Str := ["has", "number"]
abbrev p_do_write : List Str := ["has", "number"]
abbrev s_do_add : Stmt := top 10
abbrev N_do_add : List Str := ["has", "number"]
abbrev p_do_add : List Str := ["has", "number"]
abbrev s_do_put : Stmt := top 11
abbrev N_do_put : List Str := ["has", "number"]
abbrev p_do_put : List Str := ["has", "number"]
abbrev s_do_take : Stmt := top 12
abbrev N_do_take : List Str := ["has", "number", "one"]
abbrev p_do_take : List Str := ["has", "number"]
abbrev s_do_row : Stmt := top 13
abbrev N_do_row : List Str := ["has", "number"]
abbrev p_do_row : List Str := ["has", "number"]
abbrev s_goes : Stmt := top 15
abbrev N_goes : List Str := ["word", "kind"]
abbrev p_goes : List Str := ["word", "kind"]
abbrev s_changed : Stmt := top 16
abbrev N_changed : List Str := ["kind", "has", "word", "number", "deed"]
abbrev p_changed : List Str := ["kind", "has", "word", "number"]
abbrev s_law_feed : Stmt := top 18
abbrev N_law_feed : List Str := ["_law_script"]
abbrev p_law_feed : List Str := ["_law_script"]
abbrev s_law_draw : Stmt := top 19
abbrev N_law_draw : List Str := ["_law_feed_here", "_law_many", "_law_figure", "_law_at", "_law_cell", "_law_mixed"]
abbrev p_law_draw : List Str := ["_law_feed_here", "_law_many"]
abbrev s_law_number : Stmt := top 20
abbrev N_law_number : List Str := ["_law_feed_here", "_law_few", "_law_some", "_law_far"]
abbrev p_law_number : List Str := ["_law_feed_here"]
abbrev s_law_sum : Stmt := top 21
abbrev N_law_sum : List Str := ["_law_feed_here", "_law_within", "_law_less", "_law_words", "_law_term", "_law_one"]
abbrev p_law_sum : List Str := ["_law_feed_here", "_law_within", "_law_less"]
abbrev s_law_has : Stmt := top 22
abbrev N_law_has : List Str := ["_law_feed_here", "_law_cast", "_law_many", "_law_some", "_law_k", "_law_figure"]
abbrev p_law_has : List Str := ["_law_feed_here", "_law_cast"]
abbrev s_law_kind : Stmt := top 23
abbrev N_law_kind : List Str := ["_law_feed_here", "_law_low", "_law_own", "_law_there", "_law_fixed", "_law_some"]
abbrev p_law_kind : List Str := ["_law_feed_here"]
abbrev s_law_due : Stmt := top 24
abbrev N_law_due : List Str := ["_law_cast", "_law_stock", "_law_term", "_law_figure", "_law_one"]
abbrev p_law_due : List Str := ["_law_cast", "_law_stock", "_law_term", "_law_figure"]
abbrev s_law_told : Stmt := top 25
abbrev N_law_told : List Str := ["_law_cast", "_law_stock", "_law_term", "_law_figure", "e"]
abbrev p_law_told : List Str := ["_law_cast", "_law_stock", "_law_term", "_law_figure"]
abbrev s_law : Stmt := top 26
abbrev N_law : List Str := ["_law_script", "_law_feed_here", "_law_casts", "_law_k", "_law_cast", "_law_stock", "_law_inside", "_law_before", "_law_figure", "_law_term", "_law_due_here", "_law_wanted"]
abbrev p_law : List Str := ["_law_script"]
section
variable {P : Program} {w : World} {K : PySem.W.Frag} {mg : Str → Option Value} {base : Heap}
abbrev N_NoRevision_init : List Str := ["self", "path"]
theorem sc_NoRevision_init : FnScope N_NoRevision_init N_NoRevision_init (defScope s_NoRevision_init) := ⟨rfl, rfl, rfl, by decide +kernel, rfl, by decide +kernel, by decide +kernel⟩
theorem ini_NoRevision (T : Tx K mg w) : FnOk P w K mg base CX0 2 T.fI_NoRevision T.fdI_NoRevision N_NoRevision_init (spI K ["path"]) :=
  T.FI_NoRevision.ok (CX := CX0) sc_NoRevision_init spI_len fun cdv A outer s H vs Q E hr hsp => by
    obtain ⟨a, C, ys, rfl, hl, TC, hf, ha, q⟩ := hsp
    obtain ⟨y0, rfl⟩ : ∃ y0, ys = [y0] := by
      rcases ys with _ | ⟨_, _ | ⟨_, _⟩⟩
      all_goals first | exact ⟨_, rfl⟩ | exact absurd hl (by simp)
    refine ⟨_, (pss_cons (ps_expr (pe_ownInit T.bX_NoRevision rfl (T.mE .run (by decide)) (pa_cons (pv 0) (pa_cons pe_str pa_nil)))) (pss_one (ps_ost (pv 0) (pv 1)))), ?_⟩
    refine ⟨_, rfl, a, C, _, rfl, by decide, TC, ha, _, rfl, _, rfl, a, C, rfl, TC, hf _ (by decide), .inl ⟨ha, fun dx hd hda => ?_⟩⟩
    exact q dx hd hda
theorem mk_NoRevision (T : Tx K mg w) : Emk P w K mg base 2 (T.ea .noRevision) ["path"] := ⟨T.oX_NoRevision, fun f hf => T.ecs.nof _ (by decide) f (by revert f; decide), T.fI_NoRevision, T.fdI_NoRevision, T.iX_NoRevision, T.tX_NoRevision, ini_NoRevision T, T.bI_NoRevision⟩
abbrev N_NoStep_init : List Str := ["self", "word"]
theorem sc_NoStep_init : FnScope N_NoStep_init N_NoStep_init (defScope s_NoStep_init) := ⟨rfl, rfl, rfl, by decide +kernel, rfl, by decide +kernel, by decide +kernel⟩
theorem ini_NoStep (T : Tx K mg w) : FnOk P w K mg base CX0 2 T.fI_NoStep T.fdI_NoStep N_NoStep_init (spI K ["word"]) :=
  T.FI_NoStep.ok (CX := CX0) sc_NoStep_init spI_len fun cdv A outer s H vs Q E hr hsp => by
    obtain ⟨a, C, ys, rfl, hl, TC, hf, ha, q⟩ := hsp
    obtain ⟨y0, rfl⟩ : ∃ y0, ys = [y0] := by
      rcases ys with _ | ⟨_, _ | ⟨_, _⟩⟩
      all_goals first | exact ⟨_, rfl⟩ | exact absurd hl (by simp)
    refine ⟨_, (pss_cons (ps_expr (pe_ownInit T.bX_NoStep rfl (T.mE .run (by decide)) (pa_cons (pv 0) (pa_cons pe_str pa_nil)))) (pss_one (ps_ost (pv 0) (pv 1)))), ?_⟩
    refine ⟨_, rfl, a, C, _, rfl, by decide, TC, ha, _, rfl, _, rfl, a, C, rfl, TC, hf _ (by decide), .inl ⟨ha, fun dx hd hda => ?_⟩⟩
    exact q dx hd hda
theorem mk_NoStep (T : Tx K mg w) : Emk P w K mg base 2 (T.ea .noStep) ["word"] := ⟨T.oX_NoStep, fun f hf => T.ecs.nof _ (by decide) f (by revert f; decide), T.fI_NoStep, T.fdI_NoStep, T.iX_NoStep, T.tX_NoStep, ini_NoStep T, T.bI_NoStep⟩
abbrev N_NoBack_init : List Str := ["self", "times"]
theorem sc_NoBack_init : FnScope N_NoBack_init N_NoBack_init (defScope s_NoBack_init) := ⟨rfl, rfl, rfl, by decide +kernel, rfl, by decide +kernel, by decide +kernel⟩
theorem ini_NoBack (T : Tx K mg w) : FnOk P w K mg base CX0 2 T.fI_NoBack T.fdI_NoBack N_NoBack_init (spI K ["times"]) :=
  T.FI_NoBack.ok (CX := CX0) sc_NoBack_init spI_len fun cdv A outer s H vs Q E hr hsp => by
    obtain ⟨a, C, ys, rfl, hl, TC, hf, ha, q⟩ := hsp
    obtain ⟨y0, rfl⟩ : ∃ y0, ys = [y0] := by
      rcases ys with _ | ⟨_, _ | ⟨_, _⟩⟩
      all_goals first | exact ⟨_, rfl⟩ | exact absurd hl (by simp)
    refine ⟨_, (pss_cons (ps_expr (pe_ownInit T.bX_NoBack rfl (T.mE .run (by decide)) (pa_cons (pv 0) (pa_cons pe_str pa_nil)))) (pss_one (ps_ost (pv 0) (pv 1)))), ?_⟩
    refine ⟨_, rfl, a, C, _, rfl, by decide, TC, ha, _, rfl, _, rfl, a, C, rfl, TC, hf _ (by decide), .inl ⟨ha, fun dx hd hda => ?_⟩⟩
    exact q dx hd hda
theorem mk_NoBack (T : Tx K mg w) : Emk P w K mg base 2 (T.ea .noBack) ["times"] := ⟨T.oX_NoBack, fun f hf => T.ecs.nof _ (by decide) f (by revert f; decide), T.fI_NoBack, T.fdI_NoBack, T.iX_NoBack, T.tX_NoBack, ini_NoBack T, T.bI_NoBack⟩
/-! ### do_write -/
theorem sc_do_write : FnScope N_do_write p_do_write (defScope s_do_write) := ⟨rfl, rfl, rfl, by decide +kernel, rfl, by decide +kernel, by decide +kernel⟩
def r_do_write (E : XD) : DS :=
  (sRet (dVar 1))
set_option maxHeartbeats 4000000 in
theorem w_do_write (T : Tx K mg w) {k : Nat} {cdv : Value} {A : Around} {outer : List Env} {s : Shared} {H : Hp} {E : XD} {E' : XK} (hr : Room k (A.deeper (envOfC "do_write" (defScope s_do_write) s.heap.objs.size T.f_do_write cdv))) (hG : A.guards = some []) :
    MSs (cxOf CX0 P w K mg base N_do_write "do_write" (defScope s_do_write) T.f_do_write cdv A outer s H E') (wi2 E E') (defBody s_do_write) (r_do_write E) := by
  have nd := sc_do_write.nd
  have hu1 := hu_of hr
  have hu64 := hr.units
  have hu65 := hu65_of hr
  refine PSs.nox (X := cxOf CX0 P w K mg base N_do_write "do_write" (defScope s_do_write) T.f_do_write cdv A outer s H E') (show MSs (Cx.nox _) (wi2 E E') _ _ from ?_)
  exact (sOne (mRet (mv 1)))
/-! ### do_add -/
theorem sc_do_add : FnScope N_do_add p_do_add (defScope s_do_add) := ⟨rfl, rfl, rfl, by decide +kernel, rfl, by decide +kernel, by decide +kernel⟩
def r_do_add (E : XD) : DS :=
  (sRet (dOp fAdd (dVar 0) (dVar 1)))
set_option maxHeartbeats 4000000 in
theorem w_do_add (T : Tx K mg w) {k : Nat} {cdv : Value} {A : Around} {outer : List Env} {s : Shared} {H : Hp} {E : XD} {E' : XK} (hr : Room k (A.deeper (envOfC "do_add" (defScope s_do_add) s.heap.objs.size T.f_do_add cdv))) (hG : A.guards = some []) :
    MSs (cxOf CX0 P w K mg base N_do_add "do_add" (defScope s_do_add) T.f_do_add cdv A outer s H E') (wi2 E E') (defBody s_do_add) (r_do_add E) := by
  have nd := sc_do_add.nd
  have hu1 := hu_of hr
  have hu64 := hr.units
  have hu65 := hu65_of hr
  refine PSs.nox (X := cxOf CX0 P w K mg base N_do_add "do_add" (defScope s_do_add) T.f_do_add cdv A outer s H E') (show MSs (Cx.nox _) (wi2 E E') _ _ from ?_)
  exact (sOne (mRet (mOp oAdd (mv 0) (mv 1))))
/-! ### do_put -/
theorem sc_do_put : FnScope N_do_put p_do_put (defScope s_do_put) := ⟨rfl, rfl, rfl, by decide +kernel, rfl, by decide +kernel, by decide +kernel⟩
def r_do_put (E : XD) : DS :=
  (sRet (dFn gTuple (dCons (dFn gSrtSet (dCons (dOp fAdd (dVar 0) (dTup (dCons (dVar 1) dNil))) dNil)) dNil)))
set_option maxHeartbeats 4000000 in
theorem w_do_put (T : Tx K mg w) {k : Nat} {cdv : Value} {A : Around} {outer : List Env} {s : Shared} {H : Hp} {E : XD} {E' : XK} (hr : Room k (A.deeper (envOfC "do_put" (defScope s_do_put) s.heap.objs.size T.f_do_put cdv))) (hG : A.guards = some []) :
    MSs (cxOf CX0 P w K mg base N_do_put "do_put" (defScope s_do_put) T.f_do_put cdv A outer s H E') (wi2 E E') (defBody s_do_put) (r_do_put E) := by
  have nd := sc_do_put.nd
  have hu1 := hu_of hr
  have hu64 := hr.units
  have hu65 := hu65_of hr
  refine PSs.nox (X := cxOf CX0 P w K mg base N_do_put "do_put" (defScope s_do_put) T.f_do_put cdv A outer s H E') (show MSs (Cx.nox _) (wi2 E E') _ _ from ?_)
  exact (sOne (mRet (mBT cTuple T.n_tuple (by decide +kernel) (mCons (mSrtSet rfl T.n_sorted T.n_set (mCons (mOp oAdd (mv 0) (mTup (mCons (mv 1) mNil))) mNil)) mNil))))
/-! ### do_take -/
theorem sc_do_take : FnScope N_do_take p_do_take (defScope s_do_take) := ⟨rfl, rfl, rfl, by decide +kernel, rfl, by decide +kernel, by decide +kernel⟩
def r_do_take (E : XD) : DS :=
  (sRet (dFn gTuple (dCons (dLc (dIt (dVar 0)) (gNm 2) (dTst (dOp fNe (dVar 2) (dVar 1))) (dVar 2) [2]) dNil)))
set_option maxHeartbeats 4000000 in
theorem w_do_take (T : Tx K mg w) {k : Nat} {cdv : Value} {A : Around} {outer : List Env} {s : Shared} {H : Hp} {E : XD} {E' : XK} (hr : Room k (A.deeper (envOfC "do_take" (defScope s_do_take) s.heap.objs.size T.f_do_take cdv))) (hG : A.guards = some []) :
    MSs (cxOf CX0 P w K mg base N_do_take "do_take" (defScope s_do_take) T.f_do_take cdv A outer s H E') (wi2 E E') (defBody s_do_take) (r_do_take E) := by
  have nd := sc_do_take.nd
  have hu1 := hu_of hr
  have hu64 := hr.units
  have hu65 := hu65_of hr
  refine PSs.nox (X := cxOf CX0 P w K mg base N_do_take "do_take" (defScope s_do_take) T.f_do_take cdv A outer s H E') (show MSs (Cx.nox _) (wi2 E E') _ _ from ?_)
  exact (sOne (mRet (mBT cTuple T.n_tuple (by decide +kernel) (mCons (by exact (mLc (own := [("one", 2)]) rfl nd (mIt (mv 0)) (blkOk_by (N := N_do_take) (sc := (defScope s_do_take)) (own := [("one", 2)]) (by decide +kernel)) (fun _ _ _ _ _ => (mgN 2 nd)) (fun _ _ _ _ _ => (mTs1 (mCmpT (oNe hu64) (mv 2) (mv 1)))) (fun _ _ _ _ _ => (mv 2)))) mNil))))
/-! ### do_row -/
theorem sc_do_row : FnScope N_do_row p_do_row (defScope s_do_row) := ⟨rfl, rfl, rfl, by decide +kernel, rfl, by decide +kernel, by decide +kernel⟩
def r_do_row (E : XD) : DS :=
  (sRet (dOp fAdd (dVar 0) (dTup (dCons (dVar 1) dNil))))
set_option maxHeartbeats 4000000 in
theorem w_do_row (T : Tx K mg w) {k : Nat} {cdv : Value} {A : Around} {outer : List Env} {s : Shared} {H : Hp} {E : XD} {E' : XK} (hr : Room k (A.deeper (envOfC "do_row" (defScope s_do_row) s.heap.objs.size T.f_do_row cdv))) (hG : A.guards = some []) :
    MSs (cxOf CX0 P w K mg base N_do_row "do_row" (defScope s_do_row) T.f_do_row cdv A outer s H E') (wi2 E E') (defBody s_do_row) (r_do_row E) := by
  have nd := sc_do_row.nd
  have hu1 := hu_of hr
  have hu64 := hr.units
  have hu65 := hu65_of hr
  refine PSs.nox (X := cxOf CX0 P w K mg base N_do_row "do_row" (defScope s_do_row) T.f_do_row cdv A outer s H E') (show MSs (Cx.nox _) (wi2 E E') _ _ from ?_)
  exact (sOne (mRet (mOp oAdd (mv 0) (mTup (mCons (mv 1) mNil)))))
/-! ### goes -/
theorem sc_goes : FnScope N_goes p_goes (defScope s_goes) := ⟨rfl, rfl, rfl, by decide +kernel, rfl, by decide +kernel, by decide +kernel⟩
def r_goes (E : XD) : DS :=
  (sSeq (sIf (dTst (dOp fEq (dVar 0) (dC (.str "write")))) (sRet (dOp fNotIn (dVar 1) (dTup (dCons (dC (.str "set")) (dCons (dC (.str "list")) dNil))))) sNext) (sRet (dOp fEq (dVar 1) (dGet2 (dDisp [((dC (.str "add")), (dC (.str "sum"))), ((dC (.str "put")), (dC (.str "set"))), ((dC (.str "take")), (dC (.str "set"))), ((dC (.str "row")), (dC (.str "list")))]) (dVar 0) (dC (.str ""))))))
set_option maxHeartbeats 4000000 in
theorem w_goes (T : Tx K mg w) {k : Nat} {cdv : Value} {A : Around} {outer : List Env} {s : Shared} {H : Hp} {E : XD} {E' : XK} (hr : Room k (A.deeper (envOfC "goes" (defScope s_goes) s.heap.objs.size T.f_goes cdv))) (hG : A.guards = some []) :
    MSs (cxOf CX0 P w K mg base N_goes "goes" (defScope s_goes) T.f_goes cdv A outer s H E') (wi2 E E') (defBody s_goes) (r_goes E) := by
  have nd := sc_goes.nd
  have hu1 := hu_of hr
  have hu64 := hr.units
  have hu65 := hu65_of hr
  refine PSs.nox (X := cxOf CX0 P w K mg base N_goes "goes" (defScope s_goes) T.f_goes cdv A outer s H E') (show MSs (Cx.nox _) (wi2 E E') _ _ from ?_)
  exact (sCons (mIf (mCmpT (oEq hu64) (mv 0) mStr) (sOne (mRet (mCmp (oNotIn hu65) (mv 1) (mTup (mCons mStr (mCons mStr mNil)))))) sNil) (sOne (mRet (mCmp (oEq hu64) (mv 1) (mGet2 hu1 (mDisp (mPC mStr mStr (mPC mStr mStr (mPC mStr mStr (mPC mStr mStr mP0))))) (mv 0) mStr)))))
/-! ### changed -/
theorem sc_changed : FnScope N_changed p_changed (defScope s_changed) := ⟨rfl, rfl, rfl, by decide +kernel, rfl, by decide +kernel, by decide +kernel⟩
def r_changed (sp_goes : DSp) (sp_do_write : DSp) (sp_do_add : DSp) (sp_do_put : DSp) (sp_do_take : DSp) (sp_do_row : DSp) (fa_do_write : Addr) (fa_do_add : Addr) (fa_do_put : Addr) (fa_do_take : Addr) (fa_do_row : Addr) (ea : EN → Addr) (E : XD) : DS :=
  (sSeq (sIf (dNot (dTst (dCall sp_goes 2 0 (fun xs _ => xs) E00 (dCons (dVar 2) (dCons (dVar 0) dNil)) dNil))) (sRaise (ea .noStep) ["word"] (dCons (dVar 2) dNil) E) sNext) (sSeq (sAsg (dTabIx [("write", .val (.ref fa_do_write)), ("add", .val (.ref fa_do_add)), ("put", .val (.ref fa_do_put)), ("take", .val (.ref fa_do_take)), ("row", .val (.ref fa_do_row))] (dVar 2)) 4) (sRet (dCallV [("write", .val (.ref fa_do_write)), ("add", .val (.ref fa_do_add)), ("put", .val (.ref fa_do_put)), ("take", .val (.ref fa_do_take)), ("row", .val (.ref fa_do_row))] [("write", sp_do_write), ("add", sp_do_add), ("put", sp_do_put), ("take", sp_do_take), ("row", sp_do_row)] 4 2 E00 (dCons (dVar 1) (dCons (dVar 3) dNil))))))
set_option maxHeartbeats 4000000 in
theorem w_changed (T : Tx K mg w) {k : Nat} {cdv : Value} {A : Around} {outer : List Env} {s : Shared} {H : Hp} {E : XD} {E' : XK} (hr : Room k (A.deeper (envOfC "changed" (defScope s_changed) s.heap.objs.size T.f_changed cdv))) (hG : A.guards = some []) {sp_goes : DSp} {j_goes : Nat} (G_goes : FnG P w K mg base CX0 j_goes T.f_goes T.fd_goes p_goes sp_goes) (h_goes : j_goes ≤ k) {sp_do_write : DSp} {j_do_write : Nat} (G_do_write : FnG P w K mg base CX0 j_do_write T.f_do_write T.fd_do_write p_do_write sp_do_write) (h_do_write : j_do_write ≤ k) {sp_do_add : DSp} {j_do_add : Nat} (G_do_add : FnG P w K mg base CX0 j_do_add T.f_do_add T.fd_do_add p_do_add sp_do_add) (h_do_add : j_do_add ≤ k) {sp_do_put : DSp} {j_do_put : Nat} (G_do_put : FnG P w K mg base CX0 j_do_put T.f_do_put T.fd_do_put p_do_put sp_do_put) (h_do_put : j_do_put ≤ k) {sp_do_take : DSp} {j_do_take : Nat} (G_do_take : FnG P w K mg base CX0 j_do_take T.f_do_take T.fd_do_take p_do_take sp_do_take) (h_do_take : j_do_take ≤ k) {sp_do_row : DSp} {j_do_row : Nat} (G_do_row : FnG P w K mg base CX0 j_do_row T.f_do_row T.fd_do_row p_do_row sp_do_row) (h_do_row : j_do_row ≤ k) {m_NoStep : Nat} (M_NoStep : Emk P w K mg base m_NoStep (T.ea .noStep) ["word"]) (hM_NoStep : m_NoStep + 1 ≤ k) :
    MSs (cxOf (L2.CX P w) P w K mg base N_changed "changed" (defScope s_changed) T.f_changed cdv A outer s H E') (wi2 E E') (defBody s_changed) (r_changed sp_goes sp_do_write sp_do_add sp_do_put sp_do_take sp_do_row T.f_do_write T.f_do_add T.f_do_put T.f_do_take T.f_do_row T.ea E) := by
  have nd := sc_changed.nd
  have hu1 := hu_of hr
  have hu64 := hr.units
  have hu65 := hu65_of hr
  have tk : TkD (cxOf (L2.CX P w) P w K mg base N_changed "changed" (defScope s_changed) T.f_changed cdv A outer s H E') (wi2 E E') := takes_of rfl rfl rfl rfl
  have pown : PassesOwn (model P w) (cxOf (L2.CX P w) P w K mg base N_changed "changed" (defScope s_changed) T.f_changed cdv A outer s H E').A (cxOf (L2.CX P w) P w K mg base N_changed "changed" (defScope s_changed) T.f_changed cdv A outer s H E').env (cxOf (L2.CX P w) P w K mg base N_changed "changed" (defScope s_changed) T.f_changed cdv A outer s H E').xe := passes_of rfl
  exact (sCons (mIf (mNotT (mVal (mCall (ks := []) G_goes (hr.mono h_goes) hG T.m_goes T.F_goes.kp T.b_goes xpass0 (mCons (mv 2) (mCons (mv 0) mNil)) mK0))) (sOne (mRaise rfl tk M_NoStep (hr.mono hM_NoStep) (T.mE .noStep (by decide)) (mCons (mv 2) mNil))) sNil) (sCons (mSet 4 nd (mTabIx T.t_DEEDS rfl (mv 2))) (sOne (mRet (mCallV 4 (.cons G_do_write h_do_write T.b_do_write T.F_do_write.kp (.cons G_do_add h_do_add T.b_do_add T.F_do_add.kp (.cons G_do_put h_do_put T.b_do_put T.F_do_put.kp (.cons G_do_take h_do_take T.b_do_take T.F_do_take.kp (.cons G_do_row h_do_row T.b_do_row T.F_do_row.kp .nil))))) hr hG xpass0 (mCons (mv 1) (mCons (mv 3) mNil)))))))
/-! ### _law_feed -/
theorem sc_law_feed : FnScope N_law_feed p_law_feed (defScope s_law_feed) := ⟨rfl, rfl, rfl, by decide +kernel, rfl, by decide +kernel, by decide +kernel⟩
def r_law_feed (E : XD) : DS :=
  (sRet (dDisp [((dC (.str "cells")), (dFn gList (dCons (dSl (dVar 0) dNoPart (dPart (dC (.int 63)))) dNil))), ((dC (.str "at")), (dC (.int 0))), ((dC (.str "left")), (dC (.int 0))), ((dC (.str "count")), (dC (.int 0)))]))
set_option maxHeartbeats 4000000 in
theorem w_law_feed (T : Tx K mg w) {k : Nat} {cdv : Value} {A : Around} {outer : List Env} {s : Shared} {H : Hp} {E : XD} {E' : XK} (hr : Room k (A.deeper (envOfC "_law_feed" (defScope s_law_feed) s.heap.objs.size T.f_law_feed cdv))) (hG : A.guards = some []) :
    MSs (cxOf CX0 P w K mg base N_law_feed "_law_feed" (defScope s_law_feed) T.f_law_feed cdv A outer s H E') (wi2 E E') (defBody s_law_feed) (r_law_feed E) := by
  have nd := sc_law_feed.nd
  have hu1 := hu_of hr
  have hu64 := hr.units
  have hu65 := hu65_of hr
  refine PSs.nox (X := cxOf CX0 P w K mg base N_law_feed "_law_feed" (defScope s_law_feed) T.f_law_feed cdv A outer s H E') (show MSs (Cx.nox _) (wi2 E E') _ _ from ?_)
  exact (sOne (mRet (mDisp (mPC mStr (mBT cList T.n_list (by decide +kernel) (mCons (mSl (mv 0) mNoPart (mPart mInt)) mNil)) (mPC mStr mInt (mPC mStr mInt (mPC mStr mInt mP0)))))))
/-! ### _law_draw -/
theorem sc_law_draw : FnScope N_law_draw p_law_draw (defScope s_law_draw) := ⟨rfl, rfl, rfl, by decide +kernel, rfl, by decide +kernel, by decide +kernel⟩
def r_law_draw (E : XD) : DS :=
  (sSeq (sAsgG (dOp fAdd (dOp fIx (dVar 0) (dC (.str "count"))) (dC (.int 1))) (gSubD (dVar 0) (dC (.str "count")))) (sSeq (sIf (dTst (dOp fGt (dOp fIx (dVar 0) (dC (.str "left"))) (dC (.int 0)))) (sSeq (sAsg (dOp fMod (dOp fIx (dVar 0) (dC (.str "left"))) (dVar 1)) 2) (sSeq (sAsgG (dOp fDiv (dOp fIx (dVar 0) (dC (.str "left"))) (dVar 1)) (gSubD (dVar 0) (dC (.str "left")))) (sRet (dVar 2)))) sNext) (sSeq (sAsg (dOp fIx (dVar 0) (dC (.str "at"))) 3) (sSeq (sAsgG (dOp fAdd (dVar 3) (dC (.int 1))) (gSubD (dVar 0) (dC (.str "at")))) (sSeq (sAsg (dIf (dTst (dOp fNe (dOp fIx (dVar 0) (dC (.str "cells"))) (dLst dNil))) (dOp fIx (dOp fIx (dVar 0) (dC (.str "cells"))) (dOp fMod (dVar 3) (dFn gLen (dCons (dOp fIx (dVar 0) (dC (.str "cells"))) dNil)))) (dC (.int 11))) 4) (sSeq (sIf (dAnd (dTst (dOp fGe (dVar 4) (dOp fPow (dC (.int 10)) (dC (.int 18))))) (dTst (dOp fLt (dVar 3) (dFn gLen (dCons (dOp fIx (dVar 0) (dC (.str "cells"))) dNil))))) (sSeq (sAsgG (dOp fDiv (dVar 4) (dVar 1)) (gSubD (dVar 0) (dC (.str "left")))) (sRet (dOp fMod (dVar 4) (dVar 1)))) sNext) (sSeq (sAsg (dOp fMod (dOp fAdd (dOp fAdd (dOp fMod (dVar 4) (dC (.int 1000000093))) (dOp fMul (dC (.int 70001)) (dOp fIx (dVar 0) (dC (.str "count"))))) (dC (.int 43))) (dC (.int 2147483579))) 5) (sSeq (sAsg (dOp fMod (dOp fAdd (dOp fAdd (dOp fMul (dVar 5) (dVar 5)) (dOp fMul (dC (.int 6700417)) (dOp fIx (dVar 0) (dC (.str "count"))))) (dC (.int 13))) (dC (.int 2147483549))) 5) (sRet (dOp fMod (dOp fDiv (dOp fMod (dOp fAdd (dOp fMul (dVar 5) (dVar 5)) (dOp fMul (dC (.int 23)) (dVar 5))) (dC (.int 2147483543))) (dC (.int 16))) (dVar 1)))))))))))
set_option maxHeartbeats 4000000 in
theorem w_law_draw (T : Tx K mg w) {k : Nat} {cdv : Value} {A : Around} {outer : List Env} {s : Shared} {H : Hp} {E : XD} {E' : XK} (hr : Room k (A.deeper (envOfC "_law_draw" (defScope s_law_draw) s.heap.objs.size T.f_law_draw cdv))) (hG : A.guards = some []) :
    MSs (cxOf CX0 P w K mg base N_law_draw "_law_draw" (defScope s_law_draw) T.f_law_draw cdv A outer s H E') (wi2 E E') (defBody s_law_draw) (r_law_draw E) := by
  have nd := sc_law_draw.nd
  have hu1 := hu_of hr
  have hu64 := hr.units
  have hu65 := hu65_of hr
  refine PSs.nox (X := cxOf CX0 P w K mg base N_law_draw "_law_draw" (defScope s_law_draw) T.f_law_draw cdv A outer s H E') (show MSs (Cx.nox _) (wi2 E E') _ _ from ?_)
  exact (sCons (mAsg (vs := []) (mOp oAdd (mIx hu1 (mv 0) mStr) mInt) (mgSub hu1 (mv 0) mStr)) (sCons (mIf (mCmpT oGt (mIx hu1 (mv 0) mStr) mInt) (sCons (mSet 2 nd (mOp oMod (mIx hu1 (mv 0) mStr) (mv 1))) (sCons (mAsg (vs := []) (mOp oDiv (mIx hu1 (mv 0) mStr) (mv 1)) (mgSub hu1 (mv 0) mStr)) (sOne (mRet (mv 2))))) sNil) (sCons (mSet 3 nd (mIx hu1 (mv 0) mStr)) (sCons (mAsg (vs := []) (mOp oAdd (mv 3) mInt) (mgSub hu1 (mv 0) mStr)) (sCons (mSet 4 nd (mIfE (mCmpT (oNe hu64) (mIx hu1 (mv 0) mStr) (mLst mNil)) (mIx hu1 (mIx hu1 (mv 0) mStr) (mOp oMod (mv 3) (mB cLen T.n_len (by decide +kernel) (mCons (mIx hu1 (mv 0) mStr) mNil)))) mInt)) (sCons (mIf (mW (mAnd (mCmpT oGe (mv 4) (mOp oPow mInt mInt)) (mAnd1 (mCmpT oLt (mv 3) (mB cLen T.n_len (by decide +kernel) (mCons (mIx hu1 (mv 0) mStr) mNil)))))) (sCons (mAsg (vs := []) (mOp oDiv (mv 4) (mv 1)) (mgSub hu1 (mv 0) mStr)) (sOne (mRet (mOp oMod (mv 4) (mv 1))))) sNil) (sCons (mSet 5 nd (mOp oMod (mOp oAdd (mOp oAdd (mOp oMod (mv 4) mInt) (mOp oMul mInt (mIx hu1 (mv 0) mStr))) mInt) mInt)) (sCons (mSet 5 nd (mOp oMod (mOp oAdd (mOp oAdd (mOp oMul (mv 5) (mv 5)) (mOp oMul mInt (mIx hu1 (mv 0) mStr))) mInt) mInt)) (sOne (mRet (mOp oMod (mOp oDiv (mOp oMod (mOp oAdd (mOp oMul (mv 5) (mv 5)) (mOp oMul mInt (mv 5))) mInt) mInt) (mv 1))))))))))))
/-! ### _law_number -/
theorem sc_law_number : FnScope N_law_number p_law_number (defScope s_law_number) := ⟨rfl, rfl, rfl, by decide +kernel, rfl, by decide +kernel, by decide +kernel⟩
def r_law_number (sp_law_draw : DSp) (E : XD) : DS :=
  (sSeq (sPar 1 2 (dCons (dCall sp_law_draw 2 0 (fun xs _ => xs) E00 (dCons (dVar 0) (dCons (dC (.int 4)) dNil)) dNil) (dCons (dOp fSub (dCall sp_law_draw 2 0 (fun xs _ => xs) E00 (dCons (dVar 0) (dCons (dC (.int 400)) dNil)) dNil) (dC (.int 100))) dNil))) (sSeq (sAsg (dOp fMul (dOp fIx (dLst (dCons (dOp fSub (dOp fPow (dC (.int 10)) (dC (.int 6))) (dVar 1)) (dCons (dOp fAdd (dOp fPow (dC (.int 10)) (dC (.int 59))) (dVar 1)) dNil))) (dCall sp_law_draw 2 0 (fun xs _ => xs) E00 (dCons (dVar 0) (dCons (dC (.int 2)) dNil)) dNil)) (dOp fIx (dLst (dCons (dC (.int 1)) (dCons (dUn fNeg (dC (.int 1))) dNil))) (dCall sp_law_draw 2 0 (fun xs _ => xs) E00 (dCons (dVar 0) (dCons (dC (.int 2)) dNil)) dNil))) 3) (sRet (dOp fIx (dLst (dCons (dVar 1) (dCons (dOp fSub (dVar 1) (dC (.int 1))) (dCons (dVar 2) (dCons (dVar 1) (dCons (dOp fSub (dVar 1) (dC (.int 2))) (dCons (dVar 2) (dCons (dC (.int 0)) (dCons (dVar 3) dNil))))))))) (dCall sp_law_draw 2 0 (fun xs _ => xs) E00 (dCons (dVar 0) (dCons (dC (.int 8)) dNil)) dNil)))))
set_option maxHeartbeats 4000000 in
theorem w_law_number (T : Tx K mg w) {k : Nat} {cdv : Value} {A : Around} {outer : List Env} {s : Shared} {H : Hp} {E : XD} {E' : XK} (hr : Room k (A.deeper (envOfC "_law_number" (defScope s_law_number) s.heap.objs.size T.f_law_number cdv))) (hG : A.guards = some []) {sp_law_draw : DSp} {j_law_draw : Nat} (G_law_draw : FnG P w K mg base CX0 j_law_draw T.f_law_draw T.fd_law_draw p_law_draw sp_law_draw) (h_law_draw : j_law_draw ≤ k) :
    MSs (cxOf CX0 P w K mg base N_law_number "_law_number" (defScope s_law_number) T.f_law_number cdv A outer s H E') (wi2 E E') (defBody s_law_number) (r_law_number sp_law_draw E) := by
  have nd := sc_law_number.nd
  have hu1 := hu_of hr
  have hu64 := hr.units
  have hu65 := hu65_of hr
  refine PSs.nox (X := cxOf CX0 P w K mg base N_law_number "_law_number" (defScope s_law_number) T.f_law_number cdv A outer s H E') (show MSs (Cx.nox _) (wi2 E E') _ _ from ?_)
  exact (sCons (mPar 1 2 rfl nd (mCons (mCall (ks := []) G_law_draw (hr.mono h_law_draw) hG T.m_law_draw T.F_law_draw.kp T.b_law_draw xpass0 (mCons (mv 0) (mCons mInt mNil)) mK0) (mCons (mOp oSub (mCall (ks := []) G_law_draw (hr.mono h_law_draw) hG T.m_law_draw T.F_law_draw.kp T.b_law_draw xpass0 (mCons (mv 0) (mCons mInt mNil)) mK0) mInt) mNil))) (sCons (mSet 3 nd (mOp oMul (mIx hu1 (mLst (mCons (mOp oSub (mOp oPow mInt mInt) (mv 1)) (mCons (mOp oAdd (mOp oPow mInt mInt) (mv 1)) mNil))) (mCall (ks := []) G_law_draw (hr.mono h_law_draw) hG T.m_law_draw T.F_law_draw.kp T.b_law_draw xpass0 (mCons (mv 0) (mCons mInt mNil)) mK0)) (mIx hu1 (mLst (mCons mInt (mCons (mUn uNeg mInt) mNil))) (mCall (ks := []) G_law_draw (hr.mono h_law_draw) hG T.m_law_draw T.F_law_draw.kp T.b_law_draw xpass0 (mCons (mv 0) (mCons mInt mNil)) mK0)))) (sOne (mRet (mIx hu1 (mLst (mCons (mv 1) (mCons (mOp oSub (mv 1) mInt) (mCons (mv 2) (mCons (mv 1) (mCons (mOp oSub (mv 1) mInt) (mCons (mv 2) (mCons mInt (mCons (mv 3) mNil))))))))) (mCall (ks := []) G_law_draw (hr.mono h_law_draw) hG T.m_law_draw T.F_law_draw.kp T.b_law_draw xpass0 (mCons (mv 0) (mCons mInt mNil)) mK0))))))
/-! ### _law_sum -/
theorem sc_law_sum : FnScope N_law_sum p_law_sum (defScope s_law_sum) := ⟨rfl, rfl, rfl, by decide +kernel, rfl, by decide +kernel, by decide +kernel⟩
def r_law_sum (sp_law_draw : DSp) (sp_law_sum : DSp) (E : XD) : DS :=
  (sSeq (sAsg (dOp fAdd (dLst (dCons (dC (.str "num")) (dCons (dC (.str "slot")) (dCons (dC (.str "slot")) (dCons (dC (.str "plus")) (dCons (dC (.str "minus")) dNil)))))) (dOp fMul (dLst (dCons (dC (.str "less")) dNil)) (dFn gInt (dCons (dVar 2) dNil)))) 3) (sSeq (sAsg (dOp fIx (dVar 3) (dCall sp_law_draw 2 0 (fun xs _ => xs) E00 (dCons (dVar 0) (dCons (dIf (dTst (dOp fGt (dVar 1) (dC (.int 1)))) (dFn gLen (dCons (dVar 3) dNil)) (dC (.int 3))) dNil)) dNil)) 4) (sSeq (sIf (dTst (dOp fEq (dVar 4) (dC (.str "num")))) (sRet (dTup (dCons (dVar 4) (dCons (dOp fIx (dLst (dCons (dC (.int 0)) (dCons (dC (.int 1)) (dCons (dC (.int 2)) (dCons (dUn fNeg (dC (.int 1))) (dCons (dOp fPow (dC (.int 10)) (dC (.int 6))) (dCons (dOp fSub (dCall sp_law_draw 2 0 (fun xs _ => xs) E00 (dCons (dVar 0) (dCons (dC (.int 300)) dNil)) dNil) (dC (.int 99))) dNil))))))) (dCall sp_law_draw 2 0 (fun xs _ => xs) E00 (dCons (dVar 0) (dCons (dC (.int 6)) dNil)) dNil)) dNil)))) sNext) (sSeq (sIf (dTst (dOp fEq (dVar 4) (dC (.str "slot")))) (sRet (dTup (dCons (dVar 4) (dCons (dOp fIx (dLst (dCons (dC (.str "base")) (dCons (dC (.str "mine")) (dCons (dC (.str "theirs")) (dCons (dC (.str "mine")) (dCons (dC (.str "theirs")) (dCons (dC (.str "other")) dNil))))))) (dCall sp_law_draw 2 0 (fun xs _ => xs) E00 (dCons (dVar 0) (dCons (dC (.int 6)) dNil)) dNil)) dNil)))) sNext) (sSeq (sAsg (dCall sp_law_sum 3 0 (fun xs _ => xs) E00 (dCons (dVar 0) (dCons (dOp fSub (dVar 1) (dC (.int 1))) (dCons (dVar 2) dNil))) dNil) 5) (sRet (dTup (dCons (dVar 4) (dCons (dVar 5) (dCons (dCall sp_law_sum 3 0 (fun xs _ => xs) E00 (dCons (dVar 0) (dCons (dOp fSub (dVar 1) (dC (.int 1))) (dCons (dVar 2) dNil))) dNil) dNil))))))))))
set_option maxHeartbeats 4000000 in
theorem w_law_sum (T : Tx K mg w) {k : Nat} {cdv : Value} {A : Around} {outer : List Env} {s : Shared} {H : Hp} {E : XD} {E' : XK} (hr : Room k (A.deeper (envOfC "_law_sum" (defScope s_law_sum) s.heap.objs.size T.f_law_sum cdv))) (hG : A.guards = some []) {sp_law_draw : DSp} {j_law_draw : Nat} (G_law_draw : FnG P w K mg base CX0 j_law_draw T.f_law_draw T.fd_law_draw p_law_draw sp_law_draw) (h_law_draw : j_law_draw ≤ k) {sp_law_sum : DSp} {j_law_sum : Nat} (G_law_sum : FnG P w K mg base CX0 j_law_sum T.f_law_sum T.fd_law_sum p_law_sum sp_law_sum) (h_law_sum : j_law_sum ≤ k) :
    MSs (cxOf CX0 P w K mg base N_law_sum "_law_sum" (defScope s_law_sum) T.f_law_sum cdv A outer s H E') (wi2 E E') (defBody s_law_sum) (r_law_sum sp_law_draw sp_law_sum E) := by
  have nd := sc_law_sum.nd
  have hu1 := hu_of hr
  have hu64 := hr.units
  have hu65 := hu65_of hr
  refine PSs.nox (X := cxOf CX0 P w K mg base N_law_sum "_law_sum" (defScope s_law_sum) T.f_law_sum cdv A outer s H E') (show MSs (Cx.nox _) (wi2 E E') _ _ from ?_)
  exact (sCons (mSet 3 nd (mOp oAdd (mLst (mCons mStr (mCons mStr (mCons mStr (mCons mStr (mCons mStr mNil)))))) (mOp oMul (mLst (mCons mStr mNil)) (mBT cInt T.n_int (by decide +kernel) (mCons (mv 2) mNil))))) (sCons (mSet 4 nd (mIx hu1 (mv 3) (mCall (ks := []) G_law_draw (hr.mono h_law_draw) hG T.m_law_draw T.F_law_draw.kp T.b_law_draw xpass0 (mCons (mv 0) (mCons (mIfE (mCmpT oGt (mv 1) mInt) (mB cLen T.n_len (by decide +kernel) (mCons (mv 3) mNil)) mInt) mNil)) mK0))) (sCons (mIf (mCmpT (oEq hu64) (mv 4) mStr) (sOne (mRet (mTup (mCons (mv 4) (mCons (mIx hu1 (mLst (mCons mInt (mCons mInt (mCons mInt (mCons (mUn uNeg mInt) (mCons (mOp oPow mInt mInt) (mCons (mOp oSub (mCall (ks := []) G_law_draw (hr.mono h_law_draw) hG T.m_law_draw T.F_law_draw.kp T.b_law_draw xpass0 (mCons (mv 0) (mCons mInt mNil)) mK0) mInt) mNil))))))) (mCall (ks := []) G_law_draw (hr.mono h_law_draw) hG T.m_law_draw T.F_law_draw.kp T.b_law_draw xpass0 (mCons (mv 0) (mCons mInt mNil)) mK0)) mNil))))) sNil) (sCons (mIf (mCmpT (oEq hu64) (mv 4) mStr) (sOne (mRet (mTup (mCons (mv 4) (mCons (mIx hu1 (mLst (mCons mStr (mCons mStr (mCons mStr (mCons mStr (mCons mStr (mCons mStr mNil))))))) (mCall (ks := []) G_law_draw (hr.mono h_law_draw) hG T.m_law_draw T.F_law_draw.kp T.b_law_draw xpass0 (mCons (mv 0) (mCons mInt mNil)) mK0)) mNil))))) sNil) (sCons (mSet 5 nd (mCall (ks := []) G_law_sum (hr.mono h_law_sum) hG T.m_law_sum T.F_law_sum.kp T.b_law_sum xpass0 (mCons (mv 0) (mCons (mOp oSub (mv 1) mInt) (mCons (mv 2) mNil))) mK0)) (sOne (mRet (mTup (mCons (mv 4) (mCons (mv 5) (mCons (mCall (ks := []) G_law_sum (hr.mono h_law_sum) hG T.m_law_sum T.F_law_sum.kp T.b_law_sum xpass0 (mCons (mv 0) (mCons (mOp oSub (mv 1) mInt) (mCons (mv 2) mNil))) mK0) mNil)))))))))))
/-! ### _law_has -/
theorem sc_law_has : FnScope N_law_has p_law_has (defScope s_law_has) := ⟨rfl, rfl, rfl, by decide +kernel, rfl, by decide +kernel, by decide +kernel⟩
def r_law_has (sp_law_number : DSp) (sp_law_draw : DSp) (E : XD) : DS :=
  (sSeq (sIf (dTst (dOp fNotIn (dVar 1) (dTup (dCons (dC (.str "set")) (dCons (dC (.str "list")) dNil))))) (sRet (dCall sp_law_number 1 0 (fun xs _ => xs) E00 (dCons (dVar 0) dNil) dNil)) sNext) (sSeq (sAsg (dLst (dCons (dCall sp_law_draw 2 0 (fun xs _ => xs) E00 (dCons (dVar 0) (dCons (dC (.int 5)) dNil)) dNil) (dCons (dCall sp_law_draw 2 0 (fun xs _ => xs) E00 (dCons (dVar 0) (dCons (dC (.int 5)) dNil)) dNil) (dCons (dC (.int 40)) dNil)))) 2) (sSeq (sAsg (dLc (dRng1 (dCons (dOp fIx (dVar 2) (dOp fDiv (dCall sp_law_draw 2 0 (fun xs _ => xs) E00 (dCons (dVar 0) (dCons (dC (.int 9)) dNil)) dNil) (dC (.int 4)))) dNil)) (gNm 4) dTrue (dOp fSub (dCall sp_law_draw 2 0 (fun xs _ => xs) E00 (dCons (dVar 0) (dCons (dC (.int 6)) dNil)) dNil) (dC (.int 1))) [4]) 3) (sSeq (sAsg (dLc (dEnum (dCons (dVar 3) dNil)) (gTp 2 (gsCons (gNm 4) (gsCons (gNm 5) gsNil))) dTrue (dOp fAdd (dVar 5) (dOp fMul (dOp fDiv (dVar 4) (dC (.int 6))) (dFn gInt (dCons (dOp fGt (dFn gLen (dCons (dVar 3) dNil)) (dC (.int 9))) dNil)))) [4, 5]) 3) (sRet (dIf (dTst (dOp fEq (dVar 1) (dC (.str "list")))) (dFn gTuple (dCons (dVar 3) dNil)) (dFn gTuple (dCons (dFn gSrtSet (dCons (dVar 3) dNil)) dNil))))))))
set_option maxHeartbeats 4000000 in
theorem w_law_has (T : Tx K mg w) {k : Nat} {cdv : Value} {A : Around} {outer : List Env} {s : Shared} {H : Hp} {E : XD} {E' : XK} (hr : Room k (A.deeper (envOfC "_law_has" (defScope s_law_has) s.heap.objs.size T.f_law_has cdv))) (hG : A.guards = some []) {sp_law_number : DSp} {j_law_number : Nat} (G_law_number : FnG P w K mg base CX0 j_law_number T.f_law_number T.fd_law_number p_law_number sp_law_number) (h_law_number : j_law_number ≤ k) {sp_law_draw : DSp} {j_law_draw : Nat} (G_law_draw : FnG P w K mg base CX0 j_law_draw T.f_law_draw T.fd_law_draw p_law_draw sp_law_draw) (h_law_draw : j_law_draw ≤ k) :
    MSs (cxOf CX0 P w K mg base N_law_has "_law_has" (defScope s_law_has) T.f_law_has cdv A outer s H E') (wi2 E E') (defBody s_law_has) (r_law_has sp_law_number sp_law_draw E) := by
  have nd := sc_law_has.nd
  have hu1 := hu_of hr
  have hu64 := hr.units
  have hu65 := hu65_of hr
  refine PSs.nox (X := cxOf CX0 P w K mg base N_law_has "_law_has" (defScope s_law_has) T.f_law_has cdv A outer s H E') (show MSs (Cx.nox _) (wi2 E E') _ _ from ?_)
  exact (sCons (mIf (mCmpT (oNotIn hu65) (mv 1) (mTup (mCons mStr (mCons mStr mNil)))) (sOne (mRet (mCall (ks := []) G_law_number (hr.mono h_law_number) hG T.m_law_number T.F_law_number.kp T.b_law_number xpass0 (mCons (mv 0) mNil) mK0))) sNil) (sCons (mSet 2 nd (mLst (mCons (mCall (ks := []) G_law_draw (hr.mono h_law_draw) hG T.m_law_draw T.F_law_draw.kp T.b_law_draw xpass0 (mCons (mv 0) (mCons mInt mNil)) mK0) (mCons (mCall (ks := []) G_law_draw (hr.mono h_law_draw) hG T.m_law_draw T.F_law_draw.kp T.b_law_draw xpass0 (mCons (mv 0) (mCons mInt mNil)) mK0) (mCons mInt mNil))))) (sCons (mSet 3 nd (by exact (mLc (own := [("_law_k", 4)]) rfl nd (mRng1 T.n_range (mCons (mIx hu1 (mv 2) (mOp oDiv (mCall (ks := []) G_law_draw (hr.mono h_law_draw) hG T.m_law_draw T.F_law_draw.kp T.b_law_draw xpass0 (mCons (mv 0) (mCons mInt mNil)) mK0) mInt)) mNil)) (blkOk_by (N := N_law_has) (sc := (defScope s_law_has)) (own := [("_law_k", 4)]) (by decide +kernel)) (fun _ _ _ _ _ => (mgN 4 nd)) (fun _ _ _ _ _ => mTs0) (fun _ _ _ _ _ => (mOp oSub (mCall (ks := []) G_law_draw (hr.mono h_law_draw) hG T.m_law_draw T.F_law_draw.kp T.b_law_draw xpass0 (mCons (mv 0) (mCons mInt mNil)) mK0) mInt))))) (sCons (mSet 3 nd (by exact (mLc (own := [("_law_k", 4), ("_law_figure", 5)]) rfl nd (mEnum T.n_enumerate (mCons (mv 3) mNil)) (blkOk_by (N := N_law_has) (sc := (defScope s_law_has)) (own := [("_law_k", 4), ("_law_figure", 5)]) (by decide +kernel)) (fun _ _ _ _ _ => (mgT rfl (mgsC (mgN 4 nd) (mgsC (mgN 5 nd) mgsN)))) (fun _ _ _ _ _ => mTs0) (fun _ _ _ _ _ => (mOp oAdd (mv 5) (mOp oMul (mOp oDiv (mv 4) mInt) (mBT cInt T.n_int (by decide +kernel) (mCons (mCmp oGt (mB cLen T.n_len (by decide +kernel) (mCons (mv 3) mNil)) mInt) mNil)))))))) (sOne (mRet (mIfE (mCmpT (oEq hu64) (mv 1) mStr) (mBT cTuple T.n_tuple (by decide +kernel) (mCons (mv 3) mNil)) (mBT cTuple T.n_tuple (by decide +kernel) (mCons (mSrtSet rfl T.n_sorted T.n_set (mCons (mv 3) mNil)) mNil)))))))))
/-! ### _law_kind -/
theorem sc_law_kind : FnScope N_law_kind p_law_kind (defScope s_law_kind) := ⟨rfl, rfl, rfl, by decide +kernel, rfl, by decide +kernel, by decide +kernel⟩
def r_law_kind (sp_law_draw : DSp) (sp_law_sum : DSp) (E : XD) : DS :=
  (sSeq (sAsgG (dTup (dCons (dTup (dCons (dC (.str "slot")) (dCons (dC (.str "base")) dNil))) (dCons (dTup (dCons (dC (.str "slot")) (dCons (dC (.str "mine")) dNil))) (dCons (dTup (dCons (dC (.str "slot")) (dCons (dC (.str "theirs")) dNil))) dNil)))) (gTp 3 (gsCons (gNm 1) (gsCons (gNm 2) (gsCons (gNm 3) gsNil))))) (sSeq (sAsg (dLst (dCons (dTup (dCons (dC (.str "plus")) (dCons (dVar 2) (dCons (dTup (dCons (dC (.str "minus")) (dCons (dVar 3) (dCons (dVar 1) dNil)))) dNil)))) (dCons (dVar 2) (dCons (dVar 3) (dCons (dTup (dCons (dC (.str "plus")) (dCons (dVar 2) (dCons (dTup (dCons (dC (.str "less")) (dCons (dVar 1) (dCons (dVar 3) dNil)))) dNil)))) dNil))))) 4) (sSeq (sAsg (dOp fAdd (dOp fMul (dLst (dCons (dCall sp_law_sum 3 0 (fun xs _ => xs) E00 (dCons (dVar 0) (dCons (dOp fAdd (dC (.int 1)) (dCall sp_law_draw 2 0 (fun xs _ => xs) E00 (dCons (dVar 0) (dCons (dC (.int 4)) dNil)) dNil)) (dCons (dOp fEq (dCall sp_law_draw 2 0 (fun xs _ => xs) E00 (dCons (dVar 0) (dCons (dC (.int 2)) dNil)) dNil) (dC (.int 0))) dNil))) dNil) dNil)) (dC (.int 4))) (dVar 4)) 5) (sRet (dOp fIx (dLst (dCons (dC (.str "plain")) (dCons (dC (.str "sum")) (dCons (dC (.str "most")) (dCons (dC (.str "set")) (dCons (dC (.str "list")) (dCons (dTup (dCons (dC (.str "own")) (dCons (dOp fIx (dVar 5) (dCall sp_law_draw 2 0 (fun xs _ => xs) E00 (dCons (dVar 0) (dCons (dC (.int 8)) dNil)) dNil)) dNil))) dNil))))))) (dCall sp_law_draw 2 0 (fun xs _ => xs) E00 (dCons (dVar 0) (dCons (dC (.int 6)) dNil)) dNil))))))
set_option maxHeartbeats 4000000 in
theorem w_law_kind (T : Tx K mg w) {k : Nat} {cdv : Value} {A : Around} {outer : List Env} {s : Shared} {H : Hp} {E : XD} {E' : XK} (hr : Room k (A.deeper (envOfC "_law_kind" (defScope s_law_kind) s.heap.objs.size T.f_law_kind cdv))) (hG : A.guards = some []) {sp_law_draw : DSp} {j_law_draw : Nat} (G_law_draw : FnG P w K mg base CX0 j_law_draw T.f_law_draw T.fd_law_draw p_law_draw sp_law_draw) (h_law_draw : j_law_draw ≤ k) {sp_law_sum : DSp} {j_law_sum : Nat} (G_law_sum : FnG P w K mg base CX0 j_law_sum T.f_law_sum T.fd_law_sum p_law_sum sp_law_sum) (h_law_sum : j_law_sum ≤ k) :
    MSs (cxOf CX0 P w K mg base N_law_kind "_law_kind" (defScope s_law_kind) T.f_law_kind cdv A outer s H E') (wi2 E E') (defBody s_law_kind) (r_law_kind sp_law_draw sp_law_sum E) := by
  have nd := sc_law_kind.nd
  have hu1 := hu_of hr
  have hu64 := hr.units
  have hu65 := hu65_of hr
  refine PSs.nox (X := cxOf CX0 P w K mg base N_law_kind "_law_kind" (defScope s_law_kind) T.f_law_kind cdv A outer s H E') (show MSs (Cx.nox _) (wi2 E E') _ _ from ?_)
  exact (sCons (mAsg (vs := [1, 2, 3]) (mTup (mCons (mTup (mCons mStr (mCons mStr mNil))) (mCons (mTup (mCons mStr (mCons mStr mNil))) (mCons (mTup (mCons mStr (mCons mStr mNil))) mNil)))) (mgT rfl (mgsC (mgN 1 nd) (mgsC (mgN 2 nd) (mgsC (mgN 3 nd) mgsN))))) (sCons (mSet 4 nd (mLst (mCons (mTup (mCons mStr (mCons (mv 2) (mCons (mTup (mCons mStr (mCons (mv 3) (mCons (mv 1) mNil)))) mNil)))) (mCons (mv 2) (mCons (mv 3) (mCons (mTup (mCons mStr (mCons (mv 2) (mCons (mTup (mCons mStr (mCons (mv 1) (mCons (mv 3) mNil)))) mNil)))) mNil)))))) (sCons (mSet 5 nd (mOp oAdd (mOp oMul (mLst (mCons (mCall (ks := []) G_law_sum (hr.mono h_law_sum) hG T.m_law_sum T.F_law_sum.kp T.b_law_sum xpass0 (mCons (mv 0) (mCons (mOp oAdd mInt (mCall (ks := []) G_law_draw (hr.mono h_law_draw) hG T.m_law_draw T.F_law_draw.kp T.b_law_draw xpass0 (mCons (mv 0) (mCons mInt mNil)) mK0)) (mCons (mCmp (oEq hu64) (mCall (ks := []) G_law_draw (hr.mono h_law_draw) hG T.m_law_draw T.F_law_draw.kp T.b_law_draw xpass0 (mCons (mv 0) (mCons mInt mNil)) mK0) mInt) mNil))) mK0) mNil)) mInt) (mv 4))) (sOne (mRet (mIx hu1 (mLst (mCons mStr (mCons mStr (mCons mStr (mCons mStr (mCons mStr (mCons (mTup (mCons mStr (mCons (mIx hu1 (mv 5) (mCall (ks := []) G_law_draw (hr.mono h_law_draw) hG T.m_law_draw T.F_law_draw.kp T.b_law_draw xpass0 (mCons (mv 0) (mCons mInt mNil)) mK0)) mNil))) mNil))))))) (mCall (ks := []) G_law_draw (hr.mono h_law_draw) hG T.m_law_draw T.F_law_draw.kp T.b_law_draw xpass0 (mCons (mv 0) (mCons mInt mNil)) mK0)))))))
/-! ### _law_due -/
theorem sc_law_due : FnScope N_law_due p_law_due (defScope s_law_due) := ⟨rfl, rfl, rfl, by decide +kernel, rfl, by decide +kernel, by decide +kernel⟩
def r_law_due (E : XD) : DS :=
  (sSeq (sIf (dAnd (dTst (dOp fEq (dVar 2) (dC (.str "write")))) (dTst (dOp fNotIn (dVar 0) (dTup (dCons (dC (.str "set")) (dCons (dC (.str "list")) dNil)))))) (sRet (dVar 3)) sNext) (sSeq (sIf (dAnd (dTst (dOp fEq (dVar 2) (dC (.str "add")))) (dTst (dOp fEq (dVar 0) (dC (.str "sum"))))) (sRet (dOp fSub (dVar 1) (dOp fSub (dC (.int 0)) (dVar 3)))) sNext) (sSeq (sIf (dAnd (dTst (dOp fEq (dVar 2) (dC (.str "put")))) (dTst (dOp fEq (dVar 0) (dC (.str "set"))))) (sRet (dFn gTuple (dCons (dOp fAdd (dOp fAdd (dLc (dIt (dVar 1)) (gNm 4) (dTst (dOp fLt (dVar 4) (dVar 3))) (dVar 4) [4]) (dLst (dCons (dVar 3) dNil))) (dLc (dIt (dVar 1)) (gNm 4) (dTst (dOp fGt (dVar 4) (dVar 3))) (dVar 4) [4])) dNil))) sNext) (sSeq (sIf (dAnd (dTst (dOp fEq (dVar 2) (dC (.str "take")))) (dTst (dOp fEq (dVar 0) (dC (.str "set"))))) (sRet (dFn gTuple (dCons (dOp fAdd (dLc (dIt (dVar 1)) (gNm 4) (dTst (dOp fLt (dVar 4) (dVar 3))) (dVar 4) [4]) (dLc (dIt (dVar 1)) (gNm 4) (dTst (dOp fGt (dVar 4) (dVar 3))) (dVar 4) [4])) dNil))) sNext) (sRet (dIf (dAnd (dTst (dOp fEq (dVar 2) (dC (.str "row")))) (dTst (dOp fEq (dVar 0) (dC (.str "list"))))) (dFn gTuple (dCons (dOp fAdd (dFn gList (dCons (dVar 1) dNil)) (dLst (dCons (dVar 3) dNil))) dNil)) (dC .non)))))))
set_option maxHeartbeats 4000000 in
theorem w_law_due (T : Tx K mg w) {k : Nat} {cdv : Value} {A : Around} {outer : List Env} {s : Shared} {H : Hp} {E : XD} {E' : XK} (hr : Room k (A.deeper (envOfC "_law_due" (defScope s_law_due) s.heap.objs.size T.f_law_due cdv))) (hG : A.guards = some []) :
    MSs (cxOf CX0 P w K mg base N_law_due "_law_due" (defScope s_law_due) T.f_law_due cdv A outer s H E') (wi2 E E') (defBody s_law_due) (r_law_due E) := by
  have nd := sc_law_due.nd
  have hu1 := hu_of hr
  have hu64 := hr.units
  have hu65 := hu65_of hr
  refine PSs.nox (X := cxOf CX0 P w K mg base N_law_due "_law_due" (defScope s_law_due) T.f_law_due cdv A outer s H E') (show MSs (Cx.nox _) (wi2 E E') _ _ from ?_)
  exact (sCons (mIf (mW (mAnd (mCmpT (oEq hu64) (mv 2) mStr) (mAnd1 (mCmpT (oNotIn hu65) (mv 0) (mTup (mCons mStr (mCons mStr mNil))))))) (sOne (mRet (mv 3))) sNil) (sCons (mIf (mW (mAnd (mCmpT (oEq hu64) (mv 2) mStr) (mAnd1 (mCmpT (oEq hu64) (mv 0) mStr)))) (sOne (mRet (mOp oSub (mv 1) (mOp oSub mInt (mv 3))))) sNil) (sCons (mIf (mW (mAnd (mCmpT (oEq hu64) (mv 2) mStr) (mAnd1 (mCmpT (oEq hu64) (mv 0) mStr)))) (sOne (mRet (mBT cTuple T.n_tuple (by decide +kernel) (mCons (mOp oAdd (mOp oAdd (by exact (mLc (own := [("_law_one", 4)]) rfl nd (mIt (mv 1)) (blkOk_by (N := N_law_due) (sc := (defScope s_law_due)) (own := [("_law_one", 4)]) (by decide +kernel)) (fun _ _ _ _ _ => (mgN 4 nd)) (fun _ _ _ _ _ => (mTs1 (mCmpT oLt (mv 4) (mv 3)))) (fun _ _ _ _ _ => (mv 4)))) (mLst (mCons (mv 3) mNil))) (by exact (mLc (own := [("_law_one", 4)]) rfl nd (mIt (mv 1)) (blkOk_by (N := N_law_due) (sc := (defScope s_law_due)) (own := [("_law_one", 4)]) (by decide +kernel)) (fun _ _ _ _ _ => (mgN 4 nd)) (fun _ _ _ _ _ => (mTs1 (mCmpT oGt (mv 4) (mv 3)))) (fun _ _ _ _ _ => (mv 4))))) mNil)))) sNil) (sCons (mIf (mW (mAnd (mCmpT (oEq hu64) (mv 2) mStr) (mAnd1 (mCmpT (oEq hu64) (mv 0) mStr)))) (sOne (mRet (mBT cTuple T.n_tuple (by decide +kernel) (mCons (mOp oAdd (by exact (mLc (own := [("_law_one", 4)]) rfl nd (mIt (mv 1)) (blkOk_by (N := N_law_due) (sc := (defScope s_law_due)) (own := [("_law_one", 4)]) (by decide +kernel)) (fun _ _ _ _ _ => (mgN 4 nd)) (fun _ _ _ _ _ => (mTs1 (mCmpT oLt (mv 4) (mv 3)))) (fun _ _ _ _ _ => (mv 4)))) (by exact (mLc (own := [("_law_one", 4)]) rfl nd (mIt (mv 1)) (blkOk_by (N := N_law_due) (sc := (defScope s_law_due)) (own := [("_law_one", 4)]) (by decide +kernel)) (fun _ _ _ _ _ => (mgN 4 nd)) (fun _ _ _ _ _ => (mTs1 (mCmpT oGt (mv 4) (mv 3)))) (fun _ _ _ _ _ => (mv 4))))) mNil)))) sNil) (sOne (mRet (mIfE (mW (mAnd (mCmpT (oEq hu64) (mv 2) mStr) (mAnd1 (mCmpT (oEq hu64) (mv 0) mStr)))) (mBT cTuple T.n_tuple (by decide +kernel) (mCons (mOp oAdd (mBT cList T.n_list (by decide +kernel) (mCons (mv 1) mNil)) (mLst (mCons (mv 3) mNil))) mNil)) mNon)))))))
/-! ### _law_told -/
theorem sc_law_told : FnScope N_law_told p_law_told (defScope s_law_told) := ⟨rfl, rfl, rfl, by decide +kernel, rfl, by decide +kernel, by decide +kernel⟩
def r_law_told (sp_changed : DSp) (ea : EN → Addr) (E : XD) : DS :=
  (sSeq (sTryAs ea us .run 4 (fun E1 => (sRet (dTup (dCons (dC (.str "told")) (dCons (dCall sp_changed 2 2 (fun xs ys => [xs.getD 0 .non, xs.getD 1 .non, ys.getD 0 .non, ys.getD 1 .non]) E1 (dCons (dVar 0) (dCons (dVar 1) dNil)) (dCons (dVar 2) (dCons (dVar 3) dNil))) dNil))))) (fun y a dd fs => (sIf (dAnd (dTst (dFn (gIsE ea y a [.noStep]) (dCons (dVar 4) (dCons (dC (.val (.ref (ea .noStep)))) dNil)))) (dNot (dTst (dFn (gIsE ea y a [.noBack, .noRevision, .paper, .text]) (dCons (dVar 4) (dCons (dTup (dCons (dC (.val (.ref (ea .noBack)))) (dCons (dC (.val (.ref (ea .noRevision)))) (dCons (dC (.val (.ref (ea .paper)))) (dCons (dC (.val (.ref (ea .text)))) dNil))))) dNil)))))) (sRet (dTup (dCons (dC (.str "no")) (dCons (dXf a fs "word" (dVar 4)) dNil)))) sNext)) E00) (sRet (dTup (dCons (dC (.str "other")) dNil))))
set_option maxHeartbeats 4000000 in
theorem w_law_told (T : Tx K mg w) {k : Nat} {cdv : Value} {A : Around} {outer : List Env} {s : Shared} {H : Hp} {E : XD} {E' : XK} (hr : Room k (A.deeper (envOfC "_law_told" (defScope s_law_told) s.heap.objs.size T.f_law_told cdv))) (hG : A.guards = some []) {sp_changed : DSp} {j_changed : Nat} (G_changed : FnG P w K mg base (L2.CX P w) j_changed T.f_changed T.fd_changed p_changed sp_changed) (h_changed : j_changed ≤ k) :
    MSs (cxOf CX0 P w K mg base N_law_told "_law_told" (defScope s_law_told) T.f_law_told cdv A outer s H E') (wi2 E E') (defBody s_law_told) (r_law_told sp_changed T.ea E) := by
  have nd := sc_law_told.nd
  have hu1 := hu_of hr
  have hu64 := hr.units
  have hu65 := hu65_of hr
  refine PSs.nox (X := cxOf CX0 P w K mg base N_law_told "_law_told" (defScope s_law_told) T.f_law_told cdv A outer s H E') (show MSs (Cx.nox _) (wi2 E E') _ _ from ?_)
  exact (sCons (mTryAs (i := 4) nd T.ecs (by decide) (T.mE .run (by decide)) outw0 (fun wi1 W pn xe tkw po => (zOne (zOf (zRet (zTup (zCons (zE mStr) (zCons (zCall (ks := ["word", "number"]) G_changed (hr.mono h_changed) hG T.m_changed T.F_changed.kp T.b_changed_2_word_number tkw (mCons (mv 0) (mCons (mv 1) mNil)) (mKC (mv 2) (mKC (mv 3) mK0))) (zA mNil)))))))) (fun y a dd fs oe pn hy hz hv => (sOne (mIf (mW (mAnd (mVal (mB (cIsE (cs := [.noStep]) T.ecs hy (by decide) hz hv) T.n_isinstance (by decide +kernel) (mCons (mv 4) (mCons (mGlob rfl (T.cE .noStep (by decide))) mNil)))) (mAnd1 (mNotT (mVal (mB (cIsE (cs := [.noBack, .noRevision, .paper, .text]) T.ecs hy (by decide) hz hv) T.n_isinstance (by decide +kernel) (mCons (mv 4) (mCons (mTup (mCons (mGlob rfl (T.cE .noBack (by decide))) (mCons (mGlob rfl (T.cE .noRevision (by decide))) (mCons (mGlob rfl (T.cE .paper (by decide))) (mCons (mGlob rfl (T.cE .text (by decide))) mNil))))) mNil)))))))) (sOne (mRet (mTup (mCons mStr (mCons (mXf T.ecs hy hz hv (by decide) (mv 4)) mNil))))) sNil)))) (sOne (mRet (mTup (mCons mStr mNil)))))
/-! ### law -/
theorem sc_law : FnScope N_law p_law (defScope s_law) := ⟨rfl, rfl, rfl, by decide +kernel, rfl, by decide +kernel, by decide +kernel⟩
def r_law (sp_law_feed : DSp) (sp_law_kind : DSp) (sp_law_has : DSp) (sp_law_draw : DSp) (sp_law_number : DSp) (sp_law_due : DSp) (sp_law_told : DSp) (sp_changed : DSp) (E : XD) : DS :=
  (sSeq (sAsg (dCall sp_law_feed 1 0 (fun xs _ => xs) E00 (dCons (dVar 0) dNil) dNil) 1) (sSeq (sAsg (dOp fAdd (dLc (dRng1 (dCons (dC (.int 8)) dNil)) (gNm 3) dTrue (dCall sp_law_kind 1 0 (fun xs _ => xs) E00 (dCons (dVar 1) dNil) dNil) [3]) (dLst (dCons (dC (.str "set")) (dCons (dC (.str "list")) (dCons (dC (.str "sum")) (dCons (dC (.str "plain")) (dCons (dC (.str "most")) dNil))))))) 2) (sSeq (sWp [4, 5, 6, 7, 8, 9, 10, 11] (sFor (dIt (dVar 2)) (gNm 4) (sFgt [4, 5, 6, 7, 8, 9, 10, 11] (sSeq (sAsg (dCall sp_law_has 2 0 (fun xs _ => xs) E00 (dCons (dVar 1) (dCons (dVar 4) dNil)) dNil) 5) (sSeq (sAsg (dIf (dAnd (dTst (dFn gIsi (dCons (dVar 5) (dCons (dC (.val (.ty "tuple"))) dNil)))) (dTst (dOp fNe (dVar 5) (dTup dNil)))) (dOp fIx (dVar 5) (dCall sp_law_draw 2 0 (fun xs _ => xs) E00 (dCons (dVar 1) (dCons (dFn gLen (dCons (dVar 5) dNil)) dNil)) dNil)) (dC (.int 3))) 6) (sSeq (sAsg (dFn gRepr (dCons (dTup (dCons (dVar 4) (dCons (dVar 5) dNil))) dNil)) 7) (sSeq (sWp [8, 9, 10, 11] (sFor (dIt (dTup (dCons (dVar 6) (dCons (dCall sp_law_number 1 0 (fun xs _ => xs) E00 (dCons (dVar 1) dNil) dNil) (dCons (dUn fNeg (dC (.int 1))) (dCons (dC (.int 0)) dNil)))))) (gNm 8) (sFgt [8, 9, 10, 11] (sSeq (sWp [9, 10, 11] (sFor (dIt (dTup (dCons (dC (.str "write")) (dCons (dC (.str "add")) (dCons (dC (.str "put")) (dCons (dC (.str "take")) (dCons (dC (.str "row")) (dCons (dC (.str "read")) (dCons (dC (.str "tell")) (dCons (dC (.str "")) (dCons (dC (.str "Write")) (dCons (dC (.str "set")) dNil)))))))))))) (gNm 9) (sFgt [9, 10, 11] (sSeq (sAsg (dCall sp_law_due 4 0 (fun xs _ => xs) E00 (dCons (dVar 4) (dCons (dVar 5) (dCons (dVar 9) (dCons (dVar 8) dNil)))) dNil) 10) (sSeq (sAsg (dIf (dTst (dOp fIs (dVar 10) (dC .non))) (dTup (dCons (dC (.str "no")) (dCons (dVar 9) dNil))) (dTup (dCons (dC (.str "told")) (dCons (dVar 10) dNil)))) 11) (sIf (dTst (dOp fNe (dFn gRepr (dCons (dCall sp_law_told 4 0 (fun xs _ => xs) E00 (dCons (dVar 4) (dCons (dVar 5) (dCons (dVar 9) (dCons (dVar 8) dNil)))) dNil) dNil)) (dFn gRepr (dCons (dVar 11) dNil)))) (sRet (dC (.bl false))) sNext)))))) (sIf (dAnd (dTst (dOp fNotIn (dVar 4) (dTup (dCons (dC (.str "set")) (dCons (dC (.str "list")) dNil))))) (dTst (dOp fNe (dCall sp_changed 0 4 (fun xs ys => [ys.getD 2 .non, ys.getD 1 .non, ys.getD 3 .non, ys.getD 0 .non]) E00 dNil (dCons (dVar 8) (dCons (dVar 5) (dCons (dVar 4) (dCons (dC (.str "write")) dNil))))) (dVar 8)))) (sRet (dC (.bl false))) sNext))))) (sIf (dTst (dOp fNe (dFn gRepr (dCons (dTup (dCons (dVar 4) (dCons (dVar 5) dNil))) dNil)) (dVar 7))) (sRet (dC (.bl false))) sNext)))))))) (sRet (dC (.bl true))))))
set_option maxHeartbeats 4000000 in
theorem w_law (T : Tx K mg w) {k : Nat} {cdv : Value} {A : Around} {outer : List Env} {s : Shared} {H : Hp} {E : XD} {E' : XK} (hr : Room k (A.deeper (envOfC "law" (defScope s_law) s.heap.objs.size T.f_law cdv))) (hG : A.guards = some []) {sp_law_feed : DSp} {j_law_feed : Nat} (G_law_feed : FnG P w K mg base CX0 j_law_feed T.f_law_feed T.fd_law_feed p_law_feed sp_law_feed) (h_law_feed : j_law_feed ≤ k) {sp_law_kind : DSp} {j_law_kind : Nat} (G_law_kind : FnG P w K mg base CX0 j_law_kind T.f_law_kind T.fd_law_kind p_law_kind sp_law_kind) (h_law_kind : j_law_kind ≤ k) {sp_law_has : DSp} {j_law_has : Nat} (G_law_has : FnG P w K mg base CX0 j_law_has T.f_law_has T.fd_law_has p_law_has sp_law_has) (h_law_has : j_law_has ≤ k) {sp_law_draw : DSp} {j_law_draw : Nat} (G_law_draw : FnG P w K mg base CX0 j_law_draw T.f_law_draw T.fd_law_draw p_law_draw sp_law_draw) (h_law_draw : j_law_draw ≤ k) {sp_law_number : DSp} {j_law_number : Nat} (G_law_number : FnG P w K mg base CX0 j_law_number T.f_law_number T.fd_law_number p_law_number sp_law_number) (h_law_number : j_law_number ≤ k) {sp_law_due : DSp} {j_law_due : Nat} (G_law_due : FnG P w K mg base CX0 j_law_due T.f_law_due T.fd_law_due p_law_due sp_law_due) (h_law_due : j_law_due ≤ k) {sp_law_told : DSp} {j_law_told : Nat} (G_law_told : FnG P w K mg base CX0 j_law_told T.f_law_told T.fd_law_told p_law_told sp_law_told) (h_law_told : j_law_told ≤ k) {sp_changed : DSp} {j_changed : Nat} (G_changed : FnG P w K mg base (L2.CX P w) j_changed T.f_changed T.fd_changed p_changed sp_changed) (h_changed : j_changed ≤ k) :
    MSs (cxOf CX0 P w K mg base N_law "law" (defScope s_law) T.f_law cdv A outer s H E') (wi2 E E') (defBody s_law) (r_law sp_law_feed sp_law_kind sp_law_has sp_law_draw sp_law_number sp_law_due sp_law_told sp_changed E) := by
  have nd := sc_law.nd
  have hu1 := hu_of hr
  have hu64 := hr.units
  have hu65 := hu65_of hr
  refine PSs.nox (X := cxOf CX0 P w K mg base N_law "law" (defScope s_law) T.f_law cdv A outer s H E') (show MSs (Cx.nox _) (wi2 E E') _ _ from ?_)
  exact (sCons (mSet 1 nd (mCall (ks := []) G_law_feed (hr.mono h_law_feed) hG T.m_law_feed T.F_law_feed.kp T.b_law_feed xpass0 (mCons (mv 0) mNil) mK0)) (sCons (mSet 2 nd (mOp oAdd (by exact (mLc (own := [("_law_k", 3)]) rfl nd (mRng1 T.n_range (mCons mInt mNil)) (blkOk_by (N := N_law) (sc := (defScope s_law)) (own := [("_law_k", 3)]) (by decide +kernel)) (fun _ _ _ _ _ => (mgN 3 nd)) (fun _ _ _ _ _ => mTs0) (fun _ _ _ _ _ => (mCall (ks := []) G_law_kind (hr.mono h_law_kind) hG T.m_law_kind T.F_law_kind.kp T.b_law_kind xpass0 (mCons (mv 1) mNil) mK0)))) (mLst (mCons mStr (mCons mStr (mCons mStr (mCons mStr (mCons mStr mNil)))))))) (sCons (mWp [4, 5, 6, 7, 8, 9, 10, 11] (mFor (vs := [4]) PassesOwn.never rfl (mIt (mv 2)) (mgN 4 nd) (mFgt [4, 5, 6, 7, 8, 9, 10, 11] (sCons (mSet 5 nd (mCall (ks := []) G_law_has (hr.mono h_law_has) hG T.m_law_has T.F_law_has.kp T.b_law_has xpass0 (mCons (mv 1) (mCons (mv 4) mNil)) mK0)) (sCons (mSet 6 nd (mIfE (mW (mAnd (mVal (mB cIsi T.n_isinstance (by decide +kernel) (mCons (mv 5) (mCons (mTy T.n_tuple boot_tuple) mNil)))) (mAnd1 (mCmpT (oNe hu64) (mv 5) (mTup mNil))))) (mIx hu1 (mv 5) (mCall (ks := []) G_law_draw (hr.mono h_law_draw) hG T.m_law_draw T.F_law_draw.kp T.b_law_draw xpass0 (mCons (mv 1) (mCons (mB cLen T.n_len (by decide +kernel) (mCons (mv 5) mNil)) mNil)) mK0)) mInt)) (sCons (mSet 7 nd (mB (cRepr hG hu64) T.n_repr (by decide +kernel) (mCons (mTup (mCons (mv 4) (mCons (mv 5) mNil))) mNil))) (sCons (mWp [8, 9, 10, 11] (mFor (vs := [8]) PassesOwn.never rfl (mIt (mTup (mCons (mv 6) (mCons (mCall (ks := []) G_law_number (hr.mono h_law_number) hG T.m_law_number T.F_law_number.kp T.b_law_number xpass0 (mCons (mv 1) mNil) mK0) (mCons (mUn uNeg mInt) (mCons mInt mNil)))))) (mgN 8 nd) (mFgt [8, 9, 10, 11] (sCons (mWp [9, 10, 11] (mFor (vs := [9]) PassesOwn.never rfl (mIt (mTup (mCons mStr (mCons mStr (mCons mStr (mCons mStr (mCons mStr (mCons mStr (mCons mStr (mCons mStr (mCons mStr (mCons mStr mNil)))))))))))) (mgN 9 nd) (mFgt [9, 10, 11] (sCons (mSet 10 nd (mCall (ks := []) G_law_due (hr.mono h_law_due) hG T.m_law_due T.F_law_due.kp T.b_law_due xpass0 (mCons (mv 4) (mCons (mv 5) (mCons (mv 9) (mCons (mv 8) mNil)))) mK0)) (sCons (mSet 11 nd (mIfE (mCmpT oIs (mv 10) mNon) (mTup (mCons mStr (mCons (mv 9) mNil))) (mTup (mCons mStr (mCons (mv 10) mNil))))) (sOne (mIf (mCmpT (oNe hu64) (mB (cRepr hG hu64) T.n_repr (by decide +kernel) (mCons (mCall (ks := []) G_law_told (hr.mono h_law_told) hG T.m_law_told T.F_law_told.kp T.b_law_told xpass0 (mCons (mv 4) (mCons (mv 5) (mCons (mv 9) (mCons (mv 8) mNil)))) mK0) mNil)) (mB (cRepr hG hu64) T.n_repr (by decide +kernel) (mCons (mv 11) mNil))) (sOne (mRet mBl)) sNil))))))) (sOne (mIf (mW (mAnd (mCmpT (oNotIn hu65) (mv 4) (mTup (mCons mStr (mCons mStr mNil)))) (mAnd1 (mCmpT (oNe hu64) (mCallN (ks := ["number", "has", "kind", "word"]) G_changed (hr.mono h_changed) hG T.m_changed T.F_changed.kp T.b_changed_0_number_has_kind_word xpassN (mKC (mv 8) (mKC (mv 5) (mKC (mv 4) (mKC mStr mK0))))) (mv 8))))) (sOne (mRet mBl)) sNil)))))) (sOne (mIf (mCmpT (oNe hu64) (mB (cRepr hG hu64) T.n_repr (by decide +kernel) (mCons (mTup (mCons (mv 4) (mCons (mv 5) mNil))) mNil)) (mv 7)) (sOne (mRet mBl)) sNil))))))))) (sOne (mRet mBl)))))
end
/-! ### the head: facts by names -/
def d_do_write : He.DefD := ⟨("do_write", none), "do_write", "do_write", defArgs (top 9), defBody (top 9), defScope (top 9), [], []⟩
def d_do_add : He.DefD := ⟨("do_add", none), "do_add", "do_add", defArgs (top 10), defBody (top 10), defScope (top 10), [], []⟩
def d_do_put : He.DefD := ⟨("do_put", none), "do_put", "do_put", defArgs (top 11), defBody (top 11), defScope (top 11), [], []⟩
def d_do_take : He.DefD := ⟨("do_take", none), "do_take", "do_take", defArgs (top 12), defBody (top 12), defScope (top 12), [], []⟩
def d_do_row : He.DefD := ⟨("do_row", none), "do_row", "do_row", defArgs (top 13), defBody (top 13), defScope (top 13), [], []⟩
def d_goes : He.DefD := ⟨("goes", none), "goes", "goes", defArgs (top 15), defBody (top 15), defScope (top 15), [], []⟩
def d_changed : He.DefD := ⟨("changed", none), "changed", "changed", defArgs (top 16), defBody (top 16), defScope (top 16), [], []⟩
def d_law_feed : He.DefD := ⟨("_law_feed", none), "_law_feed", "_law_feed", defArgs (top 18), defBody (top 18), defScope (top 18), [], []⟩
def d_law_draw : He.DefD := ⟨("_law_draw", none), "_law_draw", "_law_draw", defArgs (top 19), defBody (top 19), defScope (top 19), [], []⟩
def d_law_number : He.DefD := ⟨("_law_number", none), "_law_number", "_law_number", defArgs (top 20), defBody (top 20), defScope (top 20), [], []⟩
def d_law_sum : He.DefD := ⟨("_law_sum", none), "_law_sum", "_law_sum", defArgs (top 21), defBody (top 21), defScope (top 21), [], []⟩
def d_law_has : He.DefD := ⟨("_law_has", none), "_law_has", "_law_has", defArgs (top 22), defBody (top 22), defScope (top 22), [], []⟩
def d_law_kind : He.DefD := ⟨("_law_kind", none), "_law_kind", "_law_kind", defArgs (top 23), defBody (top 23), defScope (top 23), [], []⟩
def d_law_due : He.DefD := ⟨("_law_due", none), "_law_due", "_law_due", defArgs (top 24), defBody (top 24), defScope (top 24), [], []⟩
def d_law_told : He.DefD := ⟨("_law_told", none), "_law_told", "_law_told", defArgs (top 25), defBody (top 25), defScope (top 25), [], []⟩
def d_law : He.DefD := ⟨("law", none), "law", "law", defArgs (top 26), defBody (top 26), defScope (top 26), [], []⟩
def d_NoRevision_init : He.DefD := ⟨("NoRevision", some "__init__"), "__init__", "NoRevision.__init__", defArgs s_NoRevision_init, defBody s_NoRevision_init, defScope s_NoRevision_init, [], []⟩
def d_NoStep_init : He.DefD := ⟨("NoStep", some "__init__"), "__init__", "NoStep.__init__", defArgs s_NoStep_init, defBody s_NoStep_init, defScope s_NoStep_init, [], []⟩
def d_NoBack_init : He.DefD := ⟨("NoBack", some "__init__"), "__init__", "NoBack.__init__", defArgs s_NoBack_init, defBody s_NoBack_init, defScope s_NoBack_init, [], []⟩
def fn : List He.DefD := [d_do_write, d_do_add, d_do_put, d_do_take, d_do_row, d_goes, d_changed, d_law_feed, d_law_draw, d_law_number, d_law_sum, d_law_has, d_law_kind, d_law_due, d_law_told, d_law, d_NoRevision_init, d_NoStep_init, d_NoBack_init]
def fa : List He.Fa := [.glo "do_write", .glo "do_add", .glo "do_put", .glo "do_take", .glo "do_row", .glo "goes", .glo "changed", .glo "_law_feed", .glo "_law_draw", .glo "_law_number", .glo "_law_sum", .glo "_law_has", .glo "_law_kind", .glo "_law_due", .glo "_law_told", .glo "law", .free "enumerate", .free "int", .free "isinstance", .free "len", .free "list", .free "range", .free "repr", .free "set", .free "sorted", .free "tuple", .glo "JoinError", .glo "PaperError", .glo "RunError", .glo "TextError", .glo "NoRevision", .glo "NoStep", .glo "NoBack"]
def ts : List TabK := [("DEEDS", ["write", "add", "put", "take", "row"])]
def xt (K : PySem.W.Frag) : Bool := tabX K "DEEDS" [("write", .val (.ref (He.fAd K ("do_write", none)))), ("add", .val (.ref (He.fAd K ("do_add", none)))), ("put", .val (.ref (He.fAd K ("do_put", none)))), ("take", .val (.ref (He.fAd K ("do_take", none)))), ("row", .val (.ref (He.fAd K ("do_row", none))))] && (ecsB K (fun x => He.ga K x.nm) us efl && (oexB K (He.ga K "NoRevision") && (decide (PySem.W.findIn K (.ref (He.ga K "NoRevision")) "__init__" = some (some (.ref (He.ma K (He.ga K "NoRevision") "__init__")))) && (decide (PySem.W.typeIn K (.ref (He.ma K (He.ga K "NoRevision") "__init__")) = some (.type "function")) && (bsB K (He.ga K "RunError") && (oexB K (He.ga K "NoStep") && (decide (PySem.W.findIn K (.ref (He.ga K "NoStep")) "__init__" = some (some (.ref (He.ma K (He.ga K "NoStep") "__init__")))) && (decide (PySem.W.typeIn K (.ref (He.ma K (He.ga K "NoStep") "__init__")) = some (.type "function")) && (bsB K (He.ga K "RunError") && (oexB K (He.ga K "NoBack") && (decide (PySem.W.findIn K (.ref (He.ga K "NoBack")) "__init__" = some (some (.ref (He.ma K (He.ga K "NoBack") "__init__")))) && (decide (PySem.W.typeIn K (.ref (He.ma K (He.ga K "NoBack") "__init__")) = some (.type "function")) && (bsB K (He.ga K "RunError") && (true))))))))))))))
theorem tx {K : PySem.W.Frag} {w : World} {h : Heap} {mg : Str → Option Value} (X : K.In h) (G : h.Ns mainGlobals mg) (c : He.SaysD fa fn K) (cx : xt K = true) (ct : ts.map (fun t => He.dicW K (He.ga K t.1)) = ts.map fun t => some (He.keysIn w.params t.2)) : Nonempty (Tx K mg w) := by
  obtain ⟨fd_do_write, F_do_write⟩ := c.def_ 0 (d := d_do_write) rfl
  obtain ⟨fd_do_add, F_do_add⟩ := c.def_ 1 (d := d_do_add) rfl
  obtain ⟨fd_do_put, F_do_put⟩ := c.def_ 2 (d := d_do_put) rfl
  obtain ⟨fd_do_take, F_do_take⟩ := c.def_ 3 (d := d_do_take) rfl
  obtain ⟨fd_do_row, F_do_row⟩ := c.def_ 4 (d := d_do_row) rfl
  obtain ⟨fd_goes, F_goes⟩ := c.def_ 5 (d := d_goes) rfl
  obtain ⟨fd_changed, F_changed⟩ := c.def_ 6 (d := d_changed) rfl
  obtain ⟨fd_law_feed, F_law_feed⟩ := c.def_ 7 (d := d_law_feed) rfl
  obtain ⟨fd_law_draw, F_law_draw⟩ := c.def_ 8 (d := d_law_draw) rfl
  obtain ⟨fd_law_number, F_law_number⟩ := c.def_ 9 (d := d_law_number) rfl
  obtain ⟨fd_law_sum, F_law_sum⟩ := c.def_ 10 (d := d_law_sum) rfl
  obtain ⟨fd_law_has, F_law_has⟩ := c.def_ 11 (d := d_law_has) rfl
  obtain ⟨fd_law_kind, F_law_kind⟩ := c.def_ 12 (d := d_law_kind) rfl
  obtain ⟨fd_law_due, F_law_due⟩ := c.def_ 13 (d := d_law_due) rfl
  obtain ⟨fd_law_told, F_law_told⟩ := c.def_ 14 (d := d_law_told) rfl
  obtain ⟨fd_law, F_law⟩ := c.def_ 15 (d := d_law) rfl
  obtain ⟨fdI_NoRevision, FI_NoRevision⟩ := c.def_ 16 (d := d_NoRevision_init) rfl
  obtain ⟨fdI_NoStep, FI_NoStep⟩ := c.def_ 17 (d := d_NoStep_init) rfl
  obtain ⟨fdI_NoBack, FI_NoBack⟩ := c.def_ 18 (d := d_NoBack_init) rfl
  simp only [xt, Bool.and_eq_true] at cx
  obtain ⟨y0, e0, e1, e2, e3, e4, e5, e6, e7, e8, e9, e10, e11, e12, _⟩ := cx
  have hmE : ∀ x ∈ us, mg x.nm = some (.ref (He.ga K x.nm)) := fun x hx => by
    cases x <;> first | exact absurd hx (by decide) | skip
    exact He.glo_ok X G (c.fact 26 (f := .glo "JoinError") rfl)
    exact He.glo_ok X G (c.fact 27 (f := .glo "PaperError") rfl)
    exact He.glo_ok X G (c.fact 28 (f := .glo "RunError") rfl)
    exact He.glo_ok X G (c.fact 29 (f := .glo "TextError") rfl)
    exact He.glo_ok X G (c.fact 30 (f := .glo "NoRevision") rfl)
    exact He.glo_ok X G (c.fact 31 (f := .glo "NoStep") rfl)
    exact He.glo_ok X G (c.fact 32 (f := .glo "NoBack") rfl)
  exact ⟨{
    f_do_write := _, fd_do_write := fd_do_write, F_do_write := FunD.noKw F_do_write, m_do_write := He.glo_ok X G (c.fact 0 (f := .glo "do_write") rfl),
    f_do_add := _, fd_do_add := fd_do_add, F_do_add := FunD.noKw F_do_add, m_do_add := He.glo_ok X G (c.fact 1 (f := .glo "do_add") rfl),
    f_do_put := _, fd_do_put := fd_do_put, F_do_put := FunD.noKw F_do_put, m_do_put := He.glo_ok X G (c.fact 2 (f := .glo "do_put") rfl),
    f_do_take := _, fd_do_take := fd_do_take, F_do_take := FunD.noKw F_do_take, m_do_take := He.glo_ok X G (c.fact 3 (f := .glo "do_take") rfl),
    f_do_row := _, fd_do_row := fd_do_row, F_do_row := FunD.noKw F_do_row, m_do_row := He.glo_ok X G (c.fact 4 (f := .glo "do_row") rfl),
    f_goes := _, fd_goes := fd_goes, F_goes := FunD.noKw F_goes, m_goes := He.glo_ok X G (c.fact 5 (f := .glo "goes") rfl),
    f_changed := _, fd_changed := fd_changed, F_changed := FunD.noKw F_changed, m_changed := He.glo_ok X G (c.fact 6 (f := .glo "changed") rfl),
    f_law_feed := _, fd_law_feed := fd_law_feed, F_law_feed := FunD.noKw F_law_feed, m_law_feed := He.glo_ok X G (c.fact 7 (f := .glo "_law_feed") rfl),
    f_law_draw := _, fd_law_draw := fd_law_draw, F_law_draw := FunD.noKw F_law_draw, m_law_draw := He.glo_ok X G (c.fact 8 (f := .glo "_law_draw") rfl),
    f_law_number := _, fd_law_number := fd_law_number, F_law_number := FunD.noKw F_law_number, m_law_number := He.glo_ok X G (c.fact 9 (f := .glo "_law_number") rfl),
    f_law_sum := _, fd_law_sum := fd_law_sum, F_law_sum := FunD.noKw F_law_sum, m_law_sum := He.glo_ok X G (c.fact 10 (f := .glo "_law_sum") rfl),
    f_law_has := _, fd_law_has := fd_law_has, F_law_has := FunD.noKw F_law_has, m_law_has := He.glo_ok X G (c.fact 11 (f := .glo "_law_has") rfl),
    f_law_kind := _, fd_law_kind := fd_law_kind, F_law_kind := FunD.noKw F_law_kind, m_law_kind := He.glo_ok X G (c.fact 12 (f := .glo "_law_kind") rfl),
    f_law_due := _, fd_law_due := fd_law_due, F_law_due := FunD.noKw F_law_due, m_law_due := He.glo_ok X G (c.fact 13 (f := .glo "_law_due") rfl),
    f_law_told := _, fd_law_told := fd_law_told, F_law_told := FunD.noKw F_law_told, m_law_told := He.glo_ok X G (c.fact 14 (f := .glo "_law_told") rfl),
    f_law := _, fd_law := fd_law, F_law := FunD.noKw F_law, m_law := He.glo_ok X G (c.fact 15 (f := .glo "law") rfl),
    ea := fun x => He.ga K x.nm, ecs := ecs_of e0, mE := hmE, cE := fun x hx => ⟨.ref (He.ga K x.nm), .ref (He.ga K x.nm), hmE x hx, rfl, fun _ => .val _⟩,
    fI_NoRevision := _, fdI_NoRevision := fdI_NoRevision, FI_NoRevision := FunD.noKw FI_NoRevision, oX_NoRevision := oex_of e1, iX_NoRevision := of_decide_eq_true e2, tX_NoRevision := of_decide_eq_true e3, bX_NoRevision := bs_of e4, bI_NoRevision := FunD.bindsN (FunD.noKw FI_NoRevision) fun _ _ _ _ _ _ us hl => match us, hl with | [_, _], _ => rfl,
    fI_NoStep := _, fdI_NoStep := fdI_NoStep, FI_NoStep := FunD.noKw FI_NoStep, oX_NoStep := oex_of e5, iX_NoStep := of_decide_eq_true e6, tX_NoStep := of_decide_eq_true e7, bX_NoStep := bs_of e8, bI_NoStep := FunD.bindsN (FunD.noKw FI_NoStep) fun _ _ _ _ _ _ us hl => match us, hl with | [_, _], _ => rfl,
    fI_NoBack := _, fdI_NoBack := fdI_NoBack, FI_NoBack := FunD.noKw FI_NoBack, oX_NoBack := oex_of e9, iX_NoBack := of_decide_eq_true e10, tX_NoBack := of_decide_eq_true e11, bX_NoBack := bs_of e12, bI_NoBack := FunD.bindsN (FunD.noKw FI_NoBack) fun _ _ _ _ _ _ us hl => match us, hl with | [_, _], _ => rfl,
    n_enumerate := He.free_ok X G (c.fact 16 (f := .free "enumerate") rfl),
    n_int := He.free_ok X G (c.fact 17 (f := .free "int") rfl),
    n_isinstance := He.free_ok X G (c.fact 18 (f := .free "isinstance") rfl),
    n_len := He.free_ok X G (c.fact 19 (f := .free "len") rfl),
    n_list := He.free_ok X G (c.fact 20 (f := .free "list") rfl),
    n_range := He.free_ok X G (c.fact 21 (f := .free "range") rfl),
    n_repr := He.free_ok X G (c.fact 22 (f := .free "repr") rfl),
    n_set := He.free_ok X G (c.fact 23 (f := .free "set") rfl),
    n_sorted := He.free_ok X G (c.fact 24 (f := .free "sorted") rfl),
    n_tuple := He.free_ok X G (c.fact 25 (f := .free "tuple") rfl),
    b_goes := bnd_all (F_goes.bindsN fun _ _ _ _ _ _ us hl => match us, hl with | [_, _], _ => rfl),
    b_do_write := bnd_all (F_do_write.bindsN fun _ _ _ _ _ _ us hl => match us, hl with | [_, _], _ => rfl),
    b_do_add := bnd_all (F_do_add.bindsN fun _ _ _ _ _ _ us hl => match us, hl with | [_, _], _ => rfl),
    b_do_put := bnd_all (F_do_put.bindsN fun _ _ _ _ _ _ us hl => match us, hl with | [_, _], _ => rfl),
    b_do_take := bnd_all (F_do_take.bindsN fun _ _ _ _ _ _ us hl => match us, hl with | [_, _], _ => rfl),
    b_do_row := bnd_all (F_do_row.bindsN fun _ _ _ _ _ _ us hl => match us, hl with | [_, _], _ => rfl),
    b_law_draw := bnd_all (F_law_draw.bindsN fun _ _ _ _ _ _ us hl => match us, hl with | [_, _], _ => rfl),
    b_law_sum := bnd_all (F_law_sum.bindsN fun _ _ _ _ _ _ us hl => match us, hl with | [_, _, _], _ => rfl),
    b_law_number := bnd_all (F_law_number.bindsN fun _ _ _ _ _ _ us hl => match us, hl with | [_], _ => rfl),
    b_changed_2_word_number := bnd_kwN (n := 2) (ks := ["word", "number"]) (ss := [.p 0, .p 1, .k 0, .k 1]) F_changed (fun _ _ _ _ _ _ us ws h1 h2 => match us, ws, h1, h2 with | [_, _], [_, _], _, _ => rfl),
    b_law_feed := bnd_all (F_law_feed.bindsN fun _ _ _ _ _ _ us hl => match us, hl with | [_], _ => rfl),
    b_law_kind := bnd_all (F_law_kind.bindsN fun _ _ _ _ _ _ us hl => match us, hl with | [_], _ => rfl),
    b_law_has := bnd_all (F_law_has.bindsN fun _ _ _ _ _ _ us hl => match us, hl with | [_, _], _ => rfl),
    b_law_due := bnd_all (F_law_due.bindsN fun _ _ _ _ _ _ us hl => match us, hl with | [_, _, _, _], _ => rfl),
    b_law_told := bnd_all (F_law_told.bindsN fun _ _ _ _ _ _ us hl => match us, hl with | [_, _, _, _], _ => rfl),
    b_changed_0_number_has_kind_word := bnd_kwN (n := 0) (ks := ["number", "has", "kind", "word"]) (ss := [.k 2, .k 1, .k 3, .k 0]) F_changed (fun _ _ _ _ _ _ us ws h1 h2 => match us, ws, h1, h2 with | [], [_, _, _, _], _, _ => rfl),
    t_DEEDS := tab_of X G (tab_at ct 0) y0 }⟩
end Lw


set_option Elab.async false
set_option linter.all false
set_option maxRecDepth 100000
set_option maxHeartbeats 4000000
namespace DL
open PySem PySem.Spec PyProof.Rows L2
def frzR (w : D) (S1 : Sto) (Q : DK) : Prop := match w with
  | .ref a => (match S1 a with
    | some (.lst xs) => Q (.lst xs) (sdel S1 a)
    | _ => False)
  | _ => False
/-! ### each construct, where it stands fully: rows to rewrite by, statement by statement -/
/-- what is looked at when it is its turn -/
@[irreducible] def later (f : Env' → Sto → Prop) : Env' → Sto → Prop := f
theorem later_eq (f : Env' → Sto → Prop) : later f = f := by unfold later; rfl
theorem later_of {f : Env' → Sto → Prop} {env : Env'} {S : Sto} (h : f env S) : later f env S := by rw [later_eq]; exact h
theorem dC_at (w : D) (env0 : Env') (S : Sto) (Q : DK) : dC w env0 S Q = (Q w S) := Eq.trans rfl rfl
theorem dUn_at (f : D → Sto → DK → Prop) (ta : DE) (env : Env') (S : Sto) (Q : DK) : dUn f ta env S Q = (ta env S fun x S1 => f x S1 Q) := Eq.trans rfl rfl
theorem dOp_at (f : D → D → Sto → DK → Prop) (ta tb : DE) (env : Env') (S : Sto) (Q : DK) : dOp f ta tb env S Q = (ta env S fun x S1 => tb env S1 fun y S2 => f x y S2 Q) := Eq.trans rfl rfl
theorem dNil_at (env0 : Env') (S : Sto) (Q : List D → Sto → Prop) : dNil env0 S Q = (Q [] S) := Eq.trans rfl rfl
theorem dCons_at (ta : DE) (tr : DA) (env : Env') (S : Sto) (Q : List D → Sto → Prop) : dCons ta tr env S Q = (ta env S fun x S1 => tr env S1 fun xs S2 => Q (x :: xs) S2) := Eq.trans rfl rfl
theorem dFn_at (f : List D → Sto → DK → Prop) (t : DA) (env : Env') (S : Sto) (Q : DK) : dFn f t env S Q = (t env S fun xs S1 => f xs S1 Q) := Eq.trans rfl rfl
theorem dNot_at (t : DT) (env : Env') (S : Sto) (Q : Bool → Sto → Prop) : dNot t env S Q = (t env S fun b S1 => Q (!b) S1) := Eq.trans rfl rfl
theorem dAnd_at (t u : DT) (env : Env') (S : Sto) (Q : Bool → Sto → Prop) : dAnd t u env S Q = (t env S fun b S1 => if b = true then u env S1 Q else Q false S1) := Eq.trans rfl rfl
theorem dOr_at (t u : DT) (env : Env') (S : Sto) (Q : Bool → Sto → Prop) : dOr t u env S Q = (t env S fun b S1 => if b = true then Q true S1 else u env S1 Q) := Eq.trans rfl rfl
theorem dIf_at (t : DT) (ta tb : DE) (env : Env') (S : Sto) (Q : DK) : dIf t ta tb env S Q = (t env S fun b S1 => if b = true then ta env S1 Q else tb env S1 Q) := Eq.trans rfl rfl
theorem dTup_at (t : DA) (env : Env') (S : Sto) (Q : DK) : dTup t env S Q = (t env S fun xs S1 => xs.length ≤ sizeLine ∧ Q (.tup xs) S1) := Eq.trans rfl rfl
theorem dLst_at (t : DA) (env : Env') (S : Sto) (Q : DK) : dLst t env S Q = (t env S fun xs S1 => xs.length ≤ sizeLine ∧ Q (.lst xs) S1) := Eq.trans rfl rfl
theorem dLstR_at (t : DA) (env : Env') (S : Sto) (Q : DK) : dLstR t env S Q = (t env S fun xs S1 => xs.length ≤ sizeLine ∧ ∀ p, S1 p = none → Q (.ref p) (su S1 p (.lst xs))) := Eq.trans rfl rfl
theorem dSl_at (te : DE) (tl th : DO) (env : Env') (S : Sto) (Q : DK) : dSl te tl th env S Q = (te env S fun x S1 => tl env S1 fun lo S2 => th env S2 fun hi S3 => fSl x lo hi S3 Q) := Eq.trans rfl rfl
theorem dMt_at (T : String) (g : D → List D → Sto → DK → Prop) (to : DE) (t : DA) (env : Env') (S : Sto) (Q : DK) : dMt T g to t env S Q = (to env S fun x S1 => tyD T x S1 ∧ t env S1 fun xs S2 => g x xs S2 Q) := Eq.trans rfl rfl
theorem dMt0_at (T : String) (g : D → List D → Sto → DK → Prop) (to : DE) (env : Env') (S : Sto) (Q : DK) : dMt0 T g to env S Q = (to env S fun x S1 => tyD T x S1 ∧ g x [] S1 Q) := Eq.trans rfl rfl
theorem dNoPart_at (env0 : Env') (S : Sto) (Q : Option Int → Sto → Prop) : dNoPart env0 S Q = (Q none S) := Eq.trans rfl rfl
theorem dCall_at (sp : DSp) (n m : Nat) (gD : List D → List D → List D) (E : XD) (t tk : DA) (env : Env') (S : Sto) (Q : DK) : dCall sp n m gD E t tk env S Q = (t env S fun xs S1 => tk env S1 fun ys S2 => xs.length = n ∧ ys.length = m ∧ sp (gD xs ys) S2 Q E) := Eq.trans rfl rfl
theorem dLc_at (it : DI) (g : DG) (tt : DT) (te : DE) (vs : List Nat) (env : Env') (S : Sto) (Q : DK) : dLc it g tt te vs env S Q = (it env S fun items ok S1 => cLoop g tt te (wipeD env vs) ok (fun acc S2 => Q (.lst acc) S2) items [] S1) := Eq.trans rfl rfl
theorem dLcR_at (it : DI) (g : DG) (tt : DT) (te : DE) (vs : List Nat) (env : Env') (S : Sto) (Q : DK) : dLcR it g tt te vs env S Q = (it env S fun items ok S1 => cLoop g tt te (wipeD env vs) ok (fun acc S2 => ∀ p, S2 p = none → Q (.ref p) (su S2 p (.lst acc))) items [] S1) := Eq.trans rfl rfl
theorem dLc2_at (it : DI) (g : DG) (tt : DT) (it1 : DI) (g1 : DG) (tt1 : DT) (te : DE) (vs vs1 : List Nat) (env : Env') (S : Sto) (Q : DK) : dLc2 it g tt it1 g1 tt1 te vs vs1 env S Q = (it env S fun items ok S1 => cLoop2 g tt it1 g1 tt1 te vs1 (wipeD env vs) ok (fun acc S2 => Q (.lst acc) S2) items [] S1) := Eq.trans rfl rfl
theorem dLc2R_at (it : DI) (g : DG) (tt : DT) (it1 : DI) (g1 : DG) (tt1 : DT) (te : DE) (vs vs1 : List Nat) (env : Env') (S : Sto) (Q : DK) : dLc2R it g tt it1 g1 tt1 te vs vs1 env S Q = (it env S fun items ok S1 => cLoop2 g tt it1 g1 tt1 te vs1 (wipeD env vs) ok (fun acc S2 => ∀ p, S2 p = none → Q (.ref p) (su S2 p (.lst acc))) items [] S1) := Eq.trans rfl rfl
theorem dEmp_at (env0 : Env') (S : Sto) (Q : DK) : dEmp env0 S Q = (∀ p, S p = none → Q (.ref p) (su S p (.dK []))) := Eq.trans rfl rfl
theorem dGet1_at (to ty : DE) (env : Env') (S : Sto) (Q : DK) : dGet1 to ty env S Q = (to env S fun x S1 => isDct x S1 ∧ ty env S1 fun y S2 => fGet x y .non S2 Q) := Eq.trans rfl rfl
theorem dGet2_at (to ty tz : DE) (env : Env') (S : Sto) (Q : DK) : dGet2 to ty tz env S Q = (to env S fun x S1 => isDct x S1 ∧ ty env S1 fun y S2 => tz env S2 fun z S3 => fGet x y z S3 Q) := Eq.trans rfl rfl
theorem dLstRg_at (t : DR) (env : Env') (S : Sto) (Q : DK) : dLstRg t env S Q = (t env S fun a b S1 => RgOk a b ∧ Q (.lst (rgD a b)) S1) := Eq.trans rfl rfl
theorem dLstRgR_at (t : DR) (env : Env') (S : Sto) (Q : DK) : dLstRgR t env S Q = (t env S fun a b S1 => RgOk a b ∧ ∀ p, S1 p = none → Q (.ref p) (su S1 p (.lst (rgD a b)))) := Eq.trans rfl rfl
theorem dTupRg_at (t : DR) (env : Env') (S : Sto) (Q : DK) : dTupRg t env S Q = (t env S fun a b S1 => RgOk a b ∧ Q (.tup (rgD a b)) S1) := Eq.trans rfl rfl
theorem dTrue_at (env0 : Env') (S : Sto) (Q : Bool → Sto → Prop) : dTrue env0 S Q = (Q true S) := Eq.trans rfl rfl
theorem dSrtC_at (it : DI) (g : DG) (tt : DT) (te : DE) (vs : List Nat) (env : Env') (S : Sto) (Q : DK) : dSrtC it g tt te vs env S Q = (it env S fun items ok S1 => kLoop g tt te (wipeD env vs) ok (fun ks S2 => qSet ks S2 Q) items [] S1) := Eq.trans rfl rfl
theorem dSrtC2_at (it : DI) (g : DG) (tt : DT) (it1 : DI) (g1 : DG) (tt1 : DT) (te : DE) (vs vs1 : List Nat) (env : Env') (S : Sto) (Q : DK) : dSrtC2 it g tt it1 g1 tt1 te vs vs1 env S Q = (it env S fun items ok S1 => kLoop2 g tt it1 g1 tt1 te vs1 (wipeD env vs) ok (fun ks S2 => qSet ks S2 Q) items [] S1) := Eq.trans rfl rfl
theorem gNm_at (i : Nat) (x : D) (env : Env') (S : Sto) (Q : Env' → Sto → Prop) : gNm i x env S Q = (Q (env.set i (some x)) S) := Eq.trans rfl rfl
theorem gSubD_at (to ti : DE) (x : D) (env : Env') (S : Sto) (Q : Env' → Sto → Prop) : gSubD to ti x env S Q = (to env S fun o S1 => ti env S1 fun i S2 => fSet o i x S2 fun S3 => Q env S3) := Eq.trans rfl rfl
theorem sAsg_at (t : DE) (i : Nat) (d : DEnds) (env : Env') (S : Sto) : sAsg t i d env S = (t env S fun w S1 => d.nx (env.set i (some w)) S1) := Eq.trans rfl rfl
theorem sAsgG_at (te : DE) (g : DG) (d : DEnds) (env : Env') (S : Sto) : sAsgG te g d env S = (te env S fun x S1 => g x env S1 d.nx) := Eq.trans rfl rfl
theorem sBrk_at (d : DEnds) (env : Env') (S : Sto) : sBrk d env S = (d.bk env S) := Eq.trans rfl rfl
theorem sCnt_at (d : DEnds) (env : Env') (S : Sto) : sCnt d env S = (d.ct env S) := Eq.trans rfl rfl
theorem sExpr_at (t : DE) (d : DEnds) (env : Env') (S : Sto) : sExpr t d env S = (t env S fun _ S1 => d.nx env S1) := Eq.trans rfl rfl
theorem sIf_at (c : DT) (t u : DS) (d : DEnds) (env : Env') (S : Sto) : sIf c t u d env S = (c env S fun b S1 => if b = true then t d env S1 else u d env S1) := Eq.trans rfl rfl
theorem sNext_at (d : DEnds) (env : Env') (S : Sto) : sNext d env S = (d.nx env S) := Eq.trans rfl rfl
theorem sRet_at (t : DE) (d : DEnds) (env : Env') (S : Sto) : sRet t d env S = (t env S d.rt) := Eq.trans rfl rfl
theorem sRetN_at (d : DEnds) (env0 : Env') (S : Sto) : sRetN d env0 S = (d.rt .non S) := Eq.trans rfl rfl
theorem sFor_at (it : DI) (g : DG) (body : DS) (d : DEnds) (env : Env') (S : Sto) : sFor it g body d env S = (it env S fun items ok S1 => sLoop g body d ok items env S1) := Eq.trans rfl rfl
theorem sFgt_at (vs : List Nat) (t : DS) (d : DEnds) (env : Env') (S : Sto) : sFgt vs t d env S = (t { d with nx := fun env' S' => ∃ S0, Sub S0 S' ∧ d.nx (wipeD env' vs) S0, ct := fun env' S' => ∃ S0, Sub S0 S' ∧ d.ct (wipeD env' vs) S0, bk := fun env' S' => ∃ S0, Sub S0 S' ∧ d.bk (wipeD env' vs) S0 } env S) := Eq.trans rfl rfl
theorem sWp_at (vs : List Nat) (t : DS) (d : DEnds) (env : Env') (S : Sto) : sWp vs t d env S = (t d (wipeD env vs) S) := Eq.trans rfl rfl
theorem dTst_at (t : DE) (env : Env') (S : Sto) (Q : Bool → Sto → Prop) : dTst t env S Q = (t env S fun w S1 => match w with
  | .bl b => Q b S1
  | _ => False) := Eq.trans rfl rfl
theorem dAndV_at (ta tb : DE) (env : Env') (S : Sto) (Q : DK) : dAndV ta tb env S Q = (ta env S fun w S1 => match w with
  | .bl b => if b = true then tb env S1 Q else Q (.bl false) S1
  | _ => False) := Eq.trans rfl rfl
theorem dOrV_at (ta tb : DE) (env : Env') (S : Sto) (Q : DK) : dOrV ta tb env S Q = (ta env S fun w S1 => match w with
  | .bl b => if b = true then Q (.bl true) S1 else tb env S1 Q
  | _ => False) := Eq.trans rfl rfl
theorem dNotV_at (ta : DE) (env : Env') (S : Sto) (Q : DK) : dNotV ta env S Q = (ta env S fun w S1 => match w with
  | .bl b => Q (.bl (!b)) S1
  | _ => False) := Eq.trans rfl rfl
theorem dPart_at (t : DE) (env : Env') (S : Sto) (Q : Option Int → Sto → Prop) : dPart t env S Q = (t env S fun w S1 => match w with
  | .int i => Q (some i) S1
  | _ => False) := Eq.trans rfl rfl
theorem dVar_at (i : Nat) (env : Env') (S : Sto) (Q : DK) : dVar i env S Q = (match env[i]? with
  | some (some w) => Q w S
  | _ => False) := Eq.trans rfl rfl
theorem dIt_at (t : DE) (env : Env') (S : Sto) (Q : List D → (Sto → Prop) → Sto → Prop) : dIt t env S Q = (t env S fun w S1 => match w with
  | .tup xs => Q xs (fun _ => True) S1
  | .lst xs => Q xs (fun _ => True) S1
  | .scr xs => Q xs (fun _ => True) S1
  | .str x => Q (x.cps.toList.map fun c => .str ⟨#[c]⟩) (fun _ => True) S1
  | .ref a => (match S1 a with
    | some (.lst xs) => Q xs (fun S => S a = some (.lst xs)) S1
    | _ => False)
  | _ => False) := Eq.trans rfl rfl
theorem dRng1_at (t : DA) (env : Env') (S : Sto) (Q : List D → (Sto → Prop) → Sto → Prop) : dRng1 t env S Q = (t env S fun xs S1 => match xs with
  | [.int j] => (-(2 ^ 62) ≤ j ∧ j < 2 ^ 62) ∧ Q ((List.range j.toNat).map fun k : Nat => .int k) (fun _ => True) S1
  | _ => False) := Eq.trans rfl rfl
theorem dRng2_at (t : DA) (env : Env') (S : Sto) (Q : List D → (Sto → Prop) → Sto → Prop) : dRng2 t env S Q = (t env S fun xs S1 => match xs with
  | [.int i, .int j] => (-(2 ^ 62) ≤ i ∧ i < 2 ^ 62 ∧ -(2 ^ 62) ≤ j ∧ j < 2 ^ 62) ∧ Q ((List.range (j - i).toNat).map fun k : Nat => .int (i + k)) (fun _ => True) S1
  | _ => False) := Eq.trans rfl rfl
theorem dTru_at (t : DE) (env : Env') (S : Sto) (Q : Bool → Sto → Prop) : dTru t env S Q = (t env S fun w S1 => match truOf S1 w with
  | some b => Q b S1
  | none => False) := Eq.trans rfl rfl
theorem dChain_at (f f' : D → D → Sto → DK → Prop) (ta tb tc : DE) (env : Env') (S : Sto) (Q : DK) : dChain f f' ta tb tc env S Q = (ta env S fun x S1 => tb env S1 fun y S2 => f x y S2 fun z S3 => match z with
  | .bl k => if k = true then tc env S3 fun w S4 => f' y w S4 Q else Q (.bl false) S3
  | _ => False) := Eq.trans rfl rfl
theorem dEnum_at (t : DA) (env : Env') (S : Sto) (Q : List D → (Sto → Prop) → Sto → Prop) : dEnum t env S Q = (t env S fun xs S1 => match xs with
  | [.lst xs] => Q (enD 0 xs) (fun _ => True) S1
  | [.scr xs] => Q (enD 0 xs) (fun _ => True) S1
  | [.ref a] => (match S1 a with
    | some (.lst xs) => Q (enD 0 xs) (fun S => S a = some (.lst xs)) S1
    | _ => False)
  | _ => False) := Eq.trans rfl rfl
theorem dZip_at (t : DA) (env : Env') (S : Sto) (Q : List D → (Sto → Prop) → Sto → Prop) : dZip t env S Q = (t env S fun xs S1 => match xs with
  | [.tup xs, .tup ys] => Q (zpD xs ys) (fun _ => True) S1
  | _ => False) := Eq.trans rfl rfl
theorem dR1_at (ta : DE) (env : Env') (S : Sto) (Q : Int → Int → Sto → Prop) : dR1 ta env S Q = (ta env S fun w S1 => match w with
  | .int n => Q 0 n S1
  | _ => False) := Eq.trans rfl rfl
theorem dR2_at (ta tb : DE) (env : Env') (S : Sto) (Q : Int → Int → Sto → Prop) : dR2 ta tb env S Q = (ta env S fun w S1 => match w with
  | .int i => tb env S1 fun u S2 => (match u with
    | .int j => Q i j S2
    | _ => False)
  | _ => False) := Eq.trans rfl rfl
theorem sPar_at (i j : Nat) (t : DA) (d : DEnds) (env : Env') (S : Sto) : sPar i j t d env S = (t env S fun ws S1 => match ws with
  | [v, w] => d.nx ((env.set i (some v)).set j (some w)) S1
  | _ => False) := Eq.trans rfl rfl
theorem sPar3_at (i j l : Nat) (t : DA) (d : DEnds) (env : Env') (S : Sto) : sPar3 i j l t d env S = (t env S fun ws S1 => match ws with
  | [u, v, w] => d.nx (((env.set i (some u)).set j (some v)).set l (some w)) S1
  | _ => False) := Eq.trans rfl rfl
theorem sAug_at (i : Nat) (f : D → D → Sto → DK → Prop) (te : DE) (d : DEnds) (env : Env') (S : Sto) : sAug i f te d env S = (match env[i]? with
  | some (some x) => te env S fun y S1 => f x y S1 fun z S2 => d.nx (env.set i (some z)) S2
  | _ => False) := Eq.trans rfl rfl
theorem gTp_at (n : Nat) (t : DGs) (x : D) (env : Env') (S : Sto) (Q : Env' → Sto → Prop) : gTp n t x env S Q = (match x with
  | .tup xs => xs.length = n ∧ t xs env S Q
  | _ => False) := Eq.trans rfl rfl
theorem gsCons_at (t : DG) (u : DGs) (xs : List D) (env : Env') (S : Sto) (Q : Env' → Sto → Prop) : gsCons t u xs env S Q = (match xs with
  | x :: r => t x env S fun env' S' => u r env' S' Q
  | [] => False) := Eq.trans rfl rfl
theorem gsNil_at (xs : List D) (env : Env') (S : Sto) (Q : Env' → Sto → Prop) : gsNil xs env S Q = (xs = [] ∧ Q env S) := Eq.trans rfl rfl
theorem gStar_at (i n : Nat) (t : DGs) (x : D) (env : Env') (S : Sto) (Q : Env' → Sto → Prop) : gStar i n t x env S Q = (match x with
  | .tup xs => n ≤ xs.length + 1 ∧ t (xs.take i ++ [.lst ((xs.drop i).take (xs.length + 1 - n))] ++ xs.drop (xs.length + 1 - (n - i))) env S Q
  | _ => False) := Eq.trans rfl rfl
theorem sSeq_at (t u : DS) (d : DEnds) (env : Env') (S : Sto) : sSeq t u d env S = t { d with nx := later (u d) } env S := by rw [later_eq]; rfl
/-! ### what stands at the store's top -/
section
variable {S : Sto} {Q : DK} {R : Sto → Prop} {a : Addr} {xs ys : List D} {y w : D} {kvs : List (Key × D)} {x : Str} {i : Int} {b : Bool} {r : List Bool}
theorem ty_lst_s : tyD "list" (.ref a) (su S a (.lst xs)) = True := eq_true (ty_lst su_same)
theorem ty_lst_l : tyD "list" (.lst xs) S = True := eq_true rfl
theorem ty_str_s : tyD "str" (.str x) S = True := eq_true rfl
theorem gApp_s : gAppend (.ref a) [y] (su S a (.lst xs)) Q = (xs.length < sizeLine ∧ Q .non (su S a (.lst (xs ++ [y])))) := by rw [gApp_l su_same, su_su]
theorem gExt_sl : gExt (.ref a) [.lst ys] (su S a (.lst xs)) Q = (xs.length + ys.length ≤ sizeLine ∧ Q .non (su S a (.lst (xs ++ ys)))) := by rw [gExt_l su_same, su_su]
theorem gExt_st : gExt (.ref a) [.tup ys] (su S a (.lst xs)) Q = (xs.length + ys.length ≤ sizeLine ∧ Q .non (su S a (.lst (xs ++ ys)))) := by rw [gExt_t su_same, su_su]
theorem gTuple_s : gTuple [.ref a] (su S a (.lst xs)) Q = Q (.tup xs) (su S a (.lst xs)) := gTuple_r su_same
theorem gList_s : gList [.ref a] (su S a (.lst xs)) Q = Q (.lst xs) (su S a (.lst xs)) := gList_r su_same
theorem gListR_s : gListR [.ref a] (su S a (.lst xs)) Q = ∀ p, su S a (.lst xs) p = none → Q (.ref p) (su (su S a (.lst xs)) p (.lst xs)) := gListR_r su_same
theorem gLen_s : gLen [.ref a] (su S a (.lst xs)) Q = Q (.int xs.length) (su S a (.lst xs)) := gLen_r su_same
theorem fIx_s : fIx (.ref a) (.int i) (su S a (.lst xs)) Q = qOpt (atI xs i) (su S a (.lst xs)) Q := fIx_r su_same
theorem fIx_ds : fIx (.ref a) (.str x) (su S a (.dK kvs)) Q = qOpt (dval kvs (.inr x)) (su S a (.dK kvs)) Q := by simp only [fIx, su_same, keyOf]
theorem fIx_di : fIx (.ref a) (.int i) (su S a (.dK kvs)) Q = qOpt (dval kvs (.inl i)) (su S a (.dK kvs)) Q := by simp only [fIx, su_same, keyOf]
theorem fSet_ds : fSet (.ref a) (.str x) w (su S a (.dK kvs)) R = (kvs.length < sizeLine ∧ R (su S a (.dK (dput kvs (.inr x) w)))) := by simp only [fSet, su_same, keyOf, su_su]
theorem fSet_di : fSet (.ref a) (.int i) w (su S a (.dK kvs)) R = (kvs.length < sizeLine ∧ R (su S a (.dK (dput kvs (.inl i) w)))) := by simp only [fSet, su_same, keyOf, su_su]
theorem isDct_s : isDct (.ref a) (su S a (.dK kvs)) = True := eq_true (isDct_of su_same)
theorem fGet_ss : fGet (.ref a) (.str x) w (su S a (.dK kvs)) Q = Q ((dval kvs (.inr x)).getD w) (su S a (.dK kvs)) := get2_dK su_same
theorem fGet_si : fGet (.ref a) (.int i) w (su S a (.dK kvs)) Q = Q ((dval kvs (.inl i)).getD w) (su S a (.dK kvs)) := by simp only [fGet, su_same, keyOf]
theorem dFrz_v (t : DE) (env : Env') (Q : DK) : dFrz t env S Q = t env S fun w S1 => frzR w S1 Q := by
  unfold dFrz frzR; rfl
theorem fAddR_s {xs ys : List D} : fAddR (.ref a) (.lst ys) (su S a (.lst xs)) Q = (xs.length + ys.length ≤ sizeLine ∧ ∀ p, su S a (.lst xs) p = none → Q (.ref p) (su (su S a (.lst xs)) p (.lst (xs ++ ys)))) := fAddR_rl su_same
theorem fAdd_s {xs ys : List D} : fAdd (.ref a) (.lst ys) (su S a (.lst xs)) Q = (xs.length + ys.length ≤ sizeLine ∧ Q (.lst (xs ++ ys)) (su S a (.lst xs))) := by simp only [fAdd, lsOf, su_same]
theorem frzR_s : frzR (.ref a) (su S a (.lst xs)) Q = Q (.lst xs) (sdel (su S a (.lst xs)) a) := by simp only [frzR, su_same]
theorem sub_sdel {S : Sto} {p : Addr} {x : O} (hp : S p = none) : DL.Sub S (sdel (su S p x) p) := fun b o e => by
  have hb : b ≠ p := by rintro rfl; rw [hp] at e; cases e
  unfold DL.sdel; rw [if_neg hb, su_ne hb]; exact e
theorem rd_s : rd (su S a (.lst xs)) (.ref a) = .lst xs := rd_ref su_same
theorem su_in {p : Addr} {x y z : O} (h : p ≠ a) : su (su (su S p x) a z) p y = su (su S p y) a z := by rw [su_comm (Ne.symm h), su_su]
end
section
variable {α : Type} {g : DG} {body : DS} {d : DEnds} {ok : Sto → Prop}
/-- a for whose turns leave all as it was -/
theorem sLoop_keep (enc : α → D) {l : List α} {env : Env'} {S : Sto} (hok : ok S) (step : ∀ x ∈ l, ∀ R : Env' → Sto → Prop, R env S → g (enc x) env S fun env2 S2 => body { d with nx := R, ct := R, bk := d.nx } env2 S2) (q : d.nx env S) : sLoop g body d ok (l.map enc) env S :=
  sLoop_A enc (fun _ e s => e = env ∧ s = S) (fun _ _ _ h => by rw [h.2]; exact hok) ⟨rfl, rfl⟩ (fun pre x post e env' S' h R r => by
    rw [h.1, h.2]; exact step x (by rw [e]; exact List.mem_append_right _ (List.mem_cons_self ..)) R (r _ _ ⟨rfl, rfl⟩)) fun env' S' h => by rw [h.1, h.2]; exact q
end
theorem ne_at {S : Sto} {p a : Addr} {o : O} (h : su S a o p = none) : p ≠ a := by rintro rfl; rw [su_same] at h; cases h
theorem none_at {S : Sto} {p a : Addr} {o : O} (h : su S a o p = none) : S p = none := by rw [su_ne (ne_at h)] at h; exact h
/-! ### texts among texts -/
section
variable {S : Sto} {Q : DK} {R : Bool → Prop}
theorem inB_s1 {z a : String} : fInB (.str (Str.ofString z)) (.tup [.str (Str.ofString a)]) S R = R (decide (z = a)) := (strIn (zs := [a])).trans (by simp only [List.mem_cons, List.not_mem_nil, or_false])
theorem fIn_s1 {z a : String} : fIn (.str (Str.ofString z)) (.tup [.str (Str.ofString a)]) S Q = Q (.bl (decide (z = a))) S := inB_s1
theorem fNotIn_s1 {z a : String} : fNotIn (.str (Str.ofString z)) (.tup [.str (Str.ofString a)]) S Q = Q (.bl (!decide (z = a))) S := inB_s1
theorem inB_s2 {z a b : String} : fInB (.str (Str.ofString z)) (.tup [.str (Str.ofString a), .str (Str.ofString b)]) S R = R (decide (z = a ∨ z = b)) := (strIn (zs := [a, b])).trans (by simp only [List.mem_cons, List.not_mem_nil, or_false])
theorem fIn_s2 {z a b : String} : fIn (.str (Str.ofString z)) (.tup [.str (Str.ofString a), .str (Str.ofString b)]) S Q = Q (.bl (decide (z = a ∨ z = b))) S := inB_s2
theorem fNotIn_s2 {z a b : String} : fNotIn (.str (Str.ofString z)) (.tup [.str (Str.ofString a), .str (Str.ofString b)]) S Q = Q (.bl (!decide (z = a ∨ z = b))) S := inB_s2
theorem inB_s3 {z a b c : String} : fInB (.str (Str.ofString z)) (.tup [.str (Str.ofString a), .str (Str.ofString b), .str (Str.ofString c)]) S R = R (decide (z = a ∨ z = b ∨ z = c)) := (strIn (zs := [a, b, c])).trans (by simp only [List.mem_cons, List.not_mem_nil, or_false])
theorem fIn_s3 {z a b c : String} : fIn (.str (Str.ofString z)) (.tup [.str (Str.ofString a), .str (Str.ofString b), .str (Str.ofString c)]) S Q = Q (.bl (decide (z = a ∨ z = b ∨ z = c))) S := inB_s3
theorem fNotIn_s3 {z a b c : String} : fNotIn (.str (Str.ofString z)) (.tup [.str (Str.ofString a), .str (Str.ofString b), .str (Str.ofString c)]) S Q = Q (.bl (!decide (z = a ∨ z = b ∨ z = c))) S := inB_s3
theorem inB_s4 {z a b c d : String} : fInB (.str (Str.ofString z)) (.tup [.str (Str.ofString a), .str (Str.ofString b), .str (Str.ofString c), .str (Str.ofString d)]) S R = R (decide (z = a ∨ z = b ∨ z = c ∨ z = d)) := (strIn (zs := [a, b, c, d])).trans (by simp only [List.mem_cons, List.not_mem_nil, or_false])
theorem fIn_s4 {z a b c d : String} : fIn (.str (Str.ofString z)) (.tup [.str (Str.ofString a), .str (Str.ofString b), .str (Str.ofString c), .str (Str.ofString d)]) S Q = Q (.bl (decide (z = a ∨ z = b ∨ z = c ∨ z = d))) S := inB_s4
theorem fNotIn_s4 {z a b c d : String} : fNotIn (.str (Str.ofString z)) (.tup [.str (Str.ofString a), .str (Str.ofString b), .str (Str.ofString c), .str (Str.ofString d)]) S Q = Q (.bl (!decide (z = a ∨ z = b ∨ z = c ∨ z = d))) S := inB_s4
theorem inB_s5 {z a b c d e : String} : fInB (.str (Str.ofString z)) (.tup [.str (Str.ofString a), .str (Str.ofString b), .str (Str.ofString c), .str (Str.ofString d), .str (Str.ofString e)]) S R = R (decide (z = a ∨ z = b ∨ z = c ∨ z = d ∨ z = e)) := (strIn (zs := [a, b, c, d, e])).trans (by simp only [List.mem_cons, List.not_mem_nil, or_false])
theorem fIn_s5 {z a b c d e : String} : fIn (.str (Str.ofString z)) (.tup [.str (Str.ofString a), .str (Str.ofString b), .str (Str.ofString c), .str (Str.ofString d), .str (Str.ofString e)]) S Q = Q (.bl (decide (z = a ∨ z = b ∨ z = c ∨ z = d ∨ z = e))) S := inB_s5
theorem fNotIn_s5 {z a b c d e : String} : fNotIn (.str (Str.ofString z)) (.tup [.str (Str.ofString a), .str (Str.ofString b), .str (Str.ofString c), .str (Str.ofString d), .str (Str.ofString e)]) S Q = Q (.bl (!decide (z = a ∨ z = b ∨ z = c ∨ z = d ∨ z = e))) S := inB_s5
theorem inB_s6 {z a b c d e f : String} : fInB (.str (Str.ofString z)) (.tup [.str (Str.ofString a), .str (Str.ofString b), .str (Str.ofString c), .str (Str.ofString d), .str (Str.ofString e), .str (Str.ofString f)]) S R = R (decide (z = a ∨ z = b ∨ z = c ∨ z = d ∨ z = e ∨ z = f)) := (strIn (zs := [a, b, c, d, e, f])).trans (by simp only [List.mem_cons, List.not_mem_nil, or_false])
theorem fIn_s6 {z a b c d e f : String} : fIn (.str (Str.ofString z)) (.tup [.str (Str.ofString a), .str (Str.ofString b), .str (Str.ofString c), .str (Str.ofString d), .str (Str.ofString e), .str (Str.ofString f)]) S Q = Q (.bl (decide (z = a ∨ z = b ∨ z = c ∨ z = d ∨ z = e ∨ z = f))) S := inB_s6
theorem fNotIn_s6 {z a b c d e f : String} : fNotIn (.str (Str.ofString z)) (.tup [.str (Str.ofString a), .str (Str.ofString b), .str (Str.ofString c), .str (Str.ofString d), .str (Str.ofString e), .str (Str.ofString f)]) S Q = Q (.bl (!decide (z = a ∨ z = b ∨ z = c ∨ z = d ∨ z = e ∨ z = f))) S := inB_s6
theorem inB_s7 {z a b c d e f g : String} : fInB (.str (Str.ofString z)) (.tup [.str (Str.ofString a), .str (Str.ofString b), .str (Str.ofString c), .str (Str.ofString d), .str (Str.ofString e), .str (Str.ofString f), .str (Str.ofString g)]) S R = R (decide (z = a ∨ z = b ∨ z = c ∨ z = d ∨ z = e ∨ z = f ∨ z = g)) := (strIn (zs := [a, b, c, d, e, f, g])).trans (by simp only [List.mem_cons, List.not_mem_nil, or_false])
theorem fIn_s7 {z a b c d e f g : String} : fIn (.str (Str.ofString z)) (.tup [.str (Str.ofString a), .str (Str.ofString b), .str (Str.ofString c), .str (Str.ofString d), .str (Str.ofString e), .str (Str.ofString f), .str (Str.ofString g)]) S Q = Q (.bl (decide (z = a ∨ z = b ∨ z = c ∨ z = d ∨ z = e ∨ z = f ∨ z = g))) S := inB_s7
theorem fNotIn_s7 {z a b c d e f g : String} : fNotIn (.str (Str.ofString z)) (.tup [.str (Str.ofString a), .str (Str.ofString b), .str (Str.ofString c), .str (Str.ofString d), .str (Str.ofString e), .str (Str.ofString f), .str (Str.ofString g)]) S Q = Q (.bl (!decide (z = a ∨ z = b ∨ z = c ∨ z = d ∨ z = e ∨ z = f ∨ z = g))) S := inB_s7
theorem fEq_bb {a b : Bool} : fEq (.bl a) (.bl b) S Q = Q (.bl (a == b)) S := by
  have : deq (.bl a) (.bl b) = (a == b) := by simp [deq, toPy, PyData.eqv]
  simp only [fEq, rd, shp, pur, dep, this]
  simp
theorem fNe_bb {a b : Bool} : fNe (.bl a) (.bl b) S Q = Q (.bl (!(a == b))) S := by
  have : deq (.bl a) (.bl b) = (a == b) := by simp [deq, toPy, PyData.eqv]
  simp only [fNe, rd, shp, pur, dep, this]
  simp
theorem deq_refl {m d b : Nat} {x : D} (h : Gd m d b x) : deq x x = true := eqv_self x (okD_pur h.ok)
theorem Gd.eqs {m d b : Nat} {x : D} {S : Sto} {Q : DK} (h : Gd m d b x) (hd : d ≤ 64) (q : Q (.bl true) S) : fEq x x S Q := h.eq h hd hd (by rw [deq_refl h]; exact q)
theorem Gd.nes {m d b : Nat} {x : D} {S : Sto} {Q : DK} (h : Gd m d b x) (hd : d ≤ 64) (q : Q (.bl false) S) : fNe x x S Q := h.ne h hd hd (by rw [deq_refl h]; exact q)
end
end DL


set_option Elab.async false
set_option linter.all false
namespace DL
open PySem PySem.Spec PyProof.Rows L2
/-- what is looked at when it is its turn; the store stands ahead of the names, or else funext would make it short (eta) and the kernel would run the program to check it -/
@[irreducible] def late (f : Env' → Sto → Prop) (S : Sto) (env : Env') : Prop := f env S
theorem late_eq (f : Env' → Sto → Prop) : (fun env S => late f S env) = f := by funext env S; unfold late; rfl
theorem late_of {f : Env' → Sto → Prop} {env : Env'} {S : Sto} (h : f env S) : late f S env := by unfold late; exact h
theorem sSeq_k (t u : DS) (d : DEnds) (env : Env') (S : Sto) : sSeq t u d env S = t { d with nx := fun env S => late (u d) S env } env S := by rw [late_eq]; rfl
/-- a dict written out -/
def dispK (l : List (D × D)) (S : Sto) (Q : DK) : Prop := match keysOf l with
  | some kvs => kvs.length ≤ 15 ∧ ∀ p, S p = none → Q (.ref p) (su S p (.dK (dmerge [] kvs)))
  | none => False
theorem dDisp_k (ps : List (DE × DE)) (env : Env') (S : Sto) (Q : DK) : dDisp ps env S Q = dPairs ps env S fun l S1 => dispK l S1 Q := Eq.trans rfl rfl
theorem dPairs_n (env : Env') (S : Sto) (Q : List (D × D) → Sto → Prop) : dPairs [] env S Q = Q [] S := Eq.trans rfl rfl
theorem dPairs_c (k v : DE) (r : List (DE × DE)) (env : Env') (S : Sto) (Q : List (D × D) → Sto → Prop) : dPairs ((k, v) :: r) env S Q = k env S fun a S1 => v env S1 fun b S2 => dPairs r env S2 fun l S3 => Q ((a, b) :: l) S3 := Eq.trans rfl rfl
theorem dispK_1 (z : Str) (v : D) (S : Sto) (Q : DK) : dispK [(.str z, v)] S Q = ∀ p, S p = none → Q (.ref p) (su S p (.dK [(.inr z, v)])) :=
  propext ⟨fun h => h.2, fun h => ⟨(by decide : 1 ≤ 15), h⟩⟩
theorem dispK_3 (z1 z2 z3 : Str) (v1 v2 v3 : D) (S : Sto) (Q : DK) : dispK [(.str z1, v1), (.str z2, v2), (.str z3, v3)] S Q = ∀ p, S p = none → Q (.ref p) (su S p (.dK (dmerge [] [(.inr z1, v1), (.inr z2, v2), (.inr z3, v3)]))) :=
  propext ⟨fun h => h.2, fun h => ⟨(by decide : 3 ≤ 15), h⟩⟩
end DL


set_option Elab.async false
set_option linter.all false
namespace DL
open PySem PySem.Spec PyProof.Rows L2
theorem atI_4 {α : Type} {a b c d e : α} {xs : List α} : atI (a :: b :: c :: d :: e :: xs) 4 = some e := atI_nat (n := 4) rfl
theorem atI_5 {α : Type} {a b c d e f : α} {xs : List α} : atI (a :: b :: c :: d :: e :: f :: xs) 5 = some f := atI_nat (n := 5) rfl
theorem atI_6 {α : Type} {a b c d e f g : α} {xs : List α} : atI (a :: b :: c :: d :: e :: f :: g :: xs) 6 = some g := atI_nat (n := 6) rfl
theorem atI_7 {α : Type} {a b c d e f g h : α} {xs : List α} : atI (a :: b :: c :: d :: e :: f :: g :: h :: xs) 7 = some h := atI_nat (n := 7) rfl
theorem atI_8 {α : Type} {a b c d e f g h i : α} {xs : List α} : atI (a :: b :: c :: d :: e :: f :: g :: h :: i :: xs) 8 = some i := atI_nat (n := 8) rfl
section
variable {S : Sto} {R : Sto → Prop} {a : Addr} {x0 x1 x2 x3 w : D} {xs : List D}
theorem ne_at' {S : Sto} {a p : Addr} {o : O} (h : S p = none) (k : S a = some o) : a ≠ p := by rintro rfl; rw [h] at k; cases k
theorem fSet_l {j : Int} {n : Nat} (h : ixN xs.length j = some n) : fSet (.ref a) (.int j) w (su S a (.lst xs)) R = R (su S a (.lst (xs.set n w))) := by simp only [fSet, su_same, h, su_su]
theorem fSet_lr {j : Int} {n : Nat} (e : S a = some (.lst xs)) (h : ixN xs.length j = some n) : fSet (.ref a) (.int j) w S R = R (su S a (.lst (xs.set n w))) := by simp only [fSet, e, h]
theorem fSet_41 : fSet (.ref a) (.int 1) w (su S a (.lst [x0, x1, x2, x3])) R = R (su S a (.lst [x0, w, x2, x3])) := fSet_l (n := 1) rfl
theorem fSet_42 : fSet (.ref a) (.int 2) w (su S a (.lst [x0, x1, x2, x3])) R = R (su S a (.lst [x0, x1, w, x3])) := fSet_l (n := 2) rfl
theorem fSet_43 : fSet (.ref a) (.int 3) w (su S a (.lst [x0, x1, x2, x3])) R = R (su S a (.lst [x0, x1, x2, w])) := fSet_l (n := 3) rfl
end
section
variable {α : Type} {g : DG} {body : DS} {d : DEnds} {ok : Sto → Prop} {env : Env'} {S : Sto}
/-- a for that ends within the turn of x -/
theorem sLoop_hit (enc : α → D) {pre : List α} {x : α} {post : List α} (hok : ok S) (skip : ∀ y ∈ pre, ∀ R : Env' → Sto → Prop, R env S → g (enc y) env S fun env2 S2 => body { d with nx := R, ct := R, bk := d.nx } env2 S2)
    (hit : ∀ R : Env' → Sto → Prop, g (enc x) env S fun env2 S2 => body { d with nx := R, ct := R, bk := d.nx } env2 S2) : sLoop g body d ok ((pre ++ x :: post).map enc) env S := by
  induction pre with
  | nil => exact ⟨hok, hit _⟩
  | cons y pre ih => exact ⟨hok, skip y (List.mem_cons_self ..) _ (ih fun z hz => skip z (List.mem_cons_of_mem _ hz))⟩
end
section
variable {α : Type} {g : DG} {tt : DT} {te : DE} {env : Env'} {ok : Sto → Prop} {Q : List D → Sto → Prop} {S : Sto}
/-- a comprehension behind some things gathered -/
theorem cLoop_acc (enc out : α → D) : ∀ {l : List α} {acc : List D}, ok S → acc.length + l.length ≤ sizeLine → (∀ x ∈ l, ∀ R : D → Sto → Prop, R (out x) S → g (enc x) env S fun env2 S2 => te env2 S2 R) → Q (acc ++ l.map out) S → cLoop g dTrue te env ok Q (l.map enc) acc S
  | [], acc, hok, _, _, q => ⟨hok, by rw [List.map_nil, List.append_nil] at q; exact q⟩
  | x :: l, acc, hok, hl, step, q => by
    refine ⟨hok, ?_⟩
    rw [List.length_cons] at hl
    have := step x (List.mem_cons_self ..) (fun y S4 => acc.length < sizeLine ∧ cLoop g dTrue te env ok Q (l.map enc) (acc ++ [y]) S4) ⟨by omega, cLoop_acc enc out hok (by rw [List.length_append, List.length_singleton]; omega) (fun z hz => step z (List.mem_cons_of_mem _ hz)) (by rw [List.append_assoc]; exact q)⟩
    exact this
end
end DL


set_option Elab.async false
set_option linter.all false
set_option maxRecDepth 100000
set_option maxHeartbeats 4000000
set_option exponentiation.threshold 4000
namespace DL
open PySem PySem.Spec PyProof.Rows L2
local macro_rules | `(tactic| walk_at "rd") => `(tactic| simp only [startD, List.map_cons, List.map_nil, List.length_cons, List.length_nil, Nat.reduceAdd, Nat.reduceSub, List.replicate, List.cons_append, List.nil_append,
  sSeq, sNext, sAsg, sAsgG, sPar, sPar3, sRet, sRetN, sIf, sExpr, sFor, dVar, dC, dUn, dOp, dNil, dCons, dFn, dTst, dNot, dAnd, dOr, dIf, dAndV, dOrV, dNotV, dTup, dLst, dSl, dNoPart, dPart, dMt, dMt0, dCall, dChain, dRng1, dRng2, dLc, dIt, gNm, dGet2, dGet1,
  gs_nil0, gs_cons, gTp_t, gStar12, gMax_ii, gSum_l, fIn_t, fNotIn_t, fIn_l, fNotIn_l, ofS_eq, String.reduceEq, decide_true, decide_false, reduceCtorEq, List.getD_cons_zero, List.getD_cons_succ, dTrue,
  List.getElem?_cons_zero, List.getElem?_cons_succ, List.set_cons_zero, List.set_cons_succ,
  fAdd_ii, fAdd_bi, fAdd_ib, fSub_bi, fEq_bi, gStr_b, fAdd_ss, fAdd_tt, fAdd_ll, fSub_ii, fNeg_i, fDiv_ii, fMod_ii, fPow_ii, fMul_ii, fLt_ii, fLe_ii, fGt_ii, fGe_ii, fEq_ii, fNe_ii, fEq_ss, fNe_ss, fIx_t, fIx_l, fSl_t, fSl_l, fSl_s, fRv_t, fRv_l, gList_t, gList_l, gTuple_t, gTuple_l, gStr_i, gStr_s, gInt_b, gInt_i, gLen_lst, gLen_tup, gLen_str,
  isi_non_int, isi_non_bool, isi_non_str, isi_non_tuple, isi_non_list, isi_non_dict, isi_bl_int, isi_bl_bool, isi_bl_str, isi_bl_tuple, isi_bl_list, isi_bl_dict, isi_int_int, isi_int_bool, isi_int_str, isi_int_tuple, isi_int_list, isi_int_dict, isi_str_int, isi_str_bool, isi_str_str, isi_str_tuple, isi_str_list, isi_str_dict, isi_tup_int, isi_tup_bool, isi_tup_str, isi_tup_tuple, isi_tup_list, isi_tup_dict, isi_lst_int, isi_lst_bool, isi_lst_str, isi_lst_tuple, isi_lst_list, isi_lst_dict,
  sz1, Nat.reduceLeDiff, Nat.zero_le, atI_0, atI_1, atI_2, atI_3, qOpt_s, dTru, truOf, Bool.and_true, Bool.true_and, Bool.and_false, Bool.false_and, if_true, if_false, Bool.false_eq_true, true_and, and_true, Bool.not_true, Bool.not_false, ite_true, ite_false])
/-! ### a sum's worth, by a row of what is left to do -/
theorem ne_ref_nil {m d b : Nat} {p : Addr} {xs : List D} {S : Sto} {Q : DK} (hs : S p = some (.lst xs)) (g : Gds m d b xs) (hd : d < 64) (q : Q (.bl (!xs.isEmpty)) S) : fNe (.ref p) (.lst []) S Q := by
  have g1 : Gd m (d + 1) b (.lst xs) := gd_lst.2 g
  have g2 : Gd 0 1 0 (.lst []) := gd_lst.2 gds_nil
  refine ⟨.inr ⟨?_, g2.shp (by decide)⟩, ?_⟩
  · rw [rd_ref hs]; exact g1.shp (by omega)
  · rw [rd_ref hs, show rd S (.lst []) = .lst [] from rfl, deq_lst0]; exact q
theorem gPop_l {a : Addr} {xs : List D} {y : D} {S : Sto} {Q : DK} (h : S a = some (.lst (xs ++ [y]))) : gPop (.ref a) [] S Q = Q y (su S a (.lst xs)) := by
  simp only [gPop, h]
  rw [show (xs ++ [y])[(xs ++ [y]).length - 1]? = some y from by simp]
  simp only [List.dropLast_concat]
def Sm.ord : Sm → List Sm
  | .num i => [.num i]
  | .slot x => [.slot x]
  | .bin w a b => .bin w a b :: (b.ord ++ a.ord)
theorem ord_len : ∀ e : Sm, e.ord.length < 2 ^ (e.ht + 1)
  | .num _ => (by decide : 1 < 2)
  | .slot _ => (by decide : 1 < 2)
  | .bin w a b => by
    have h1 := ord_len a
    have h2 := ord_len b
    have p1 : 2 ^ (a.ht + 1) ≤ 2 ^ (max a.ht b.ht + 1) := Nat.pow_le_pow_right (by decide) (by omega)
    have p2 : 2 ^ (b.ht + 1) ≤ 2 ^ (max a.ht b.ht + 1) := Nat.pow_le_pow_right (by decide) (by omega)
    have e : 2 ^ ((Sm.bin w a b).ht + 1) = 2 ^ (max a.ht b.ht + 1) + 2 ^ (max a.ht b.ht + 1) := by
      show 2 ^ (max a.ht b.ht + 1 + 1) = _
      rw [Nat.pow_succ, Nat.mul_two]
    rw [e]
    simp only [Sm.ord, List.length_cons, List.length_append]
    omega
theorem ord_pos : ∀ e : Sm, 1 ≤ e.ord.length
  | .num _ => Nat.le_refl _
  | .slot _ => Nat.le_refl _
  | .bin _ _ _ => by simp only [Sm.ord, List.length_cons]; omega
theorem ord_mem : ∀ {e r : Sm}, r ∈ e.ord → e.Ok → r.Ok ∧ r.ht ≤ e.ht
  | .num _, r, h, k => by rw [List.mem_singleton.1 h]; exact ⟨k, Nat.le_refl _⟩
  | .slot _, r, h, k => by rw [List.mem_singleton.1 h]; exact ⟨k, Nat.le_refl _⟩
  | .bin w a b, r, h, k => by
    simp only [Sm.ord, List.mem_cons, List.mem_append] at h
    have e : (Sm.bin w a b).ht = max a.ht b.ht + 1 := rfl
    rcases h with rfl | h | h
    · exact ⟨k, Nat.le_refl _⟩
    · have := ord_mem h k.2; exact ⟨this.1, by omega⟩
    · have := ord_mem h k.1; exact ⟨this.1, by omega⟩
def ordS (rs : List Sm) : List Sm := (rs.reverse.map Sm.ord).flatten
theorem ordS_snoc (rs : List Sm) (r : Sm) : ordS (rs ++ [r]) = r.ord ++ ordS rs := by
  unfold ordS; rw [List.reverse_append, List.reverse_singleton, List.singleton_append, List.map_cons, List.flatten_cons]
theorem ordS_mem {rs : List Sm} {r : Sm} (h : r ∈ rs) : r ∈ ordS rs := by
  unfold ordS
  rw [List.mem_flatten]
  refine ⟨r.ord, List.mem_map.2 ⟨r, List.mem_reverse.2 h, rfl⟩, ?_⟩
  cases r <;> simp [Sm.ord]
theorem ordS_len : ∀ rs : List Sm, rs.length ≤ (ordS rs).length := by
  intro rs
  induction hn : rs.length generalizing rs with
  | zero => omega
  | succ n ih =>
    obtain ⟨r0, r, e⟩ : ∃ a b, rs = a ++ [b] := ⟨rs.dropLast, rs.getLast (by rintro rfl; simp at hn), (List.dropLast_concat_getLast _).symm⟩
    subst e
    have := ih r0 (by simpa using hn)
    have h2 := ord_pos r
    rw [ordS_snoc, List.length_append]
    omega
def rWBody : DS :=
  (sIf (dTst (dOp fEq (dOp fIx (dVar 5) (dC (.int 0))) (dC (.str "num")))) (sExpr (dMt "list" gAppend (dVar 3) (dCons (dOp fIx (dVar 5) (dC (.int 1))) dNil))) (sIf (dTst (dOp fEq (dOp fIx (dVar 5) (dC (.int 0))) (dC (.str "slot")))) (sExpr (dMt "list" gAppend (dVar 3) (dCons (dGet2 (dVar 1) (dOp fIx (dVar 5) (dC (.int 1))) (dC (.int 0))) dNil))) (sSeq (sAsg (dMt0 "list" gPop (dVar 3)) 6) (sSeq (sAsg (dMt0 "list" gPop (dVar 3)) 7) (sExpr (dMt "list" gAppend (dVar 3) (dCons (dOp fIx (dDisp [((dC (.str "plus")), (dOp fAdd (dVar 7) (dVar 6))), ((dC (.str "minus")), (dOp fSub (dVar 7) (dVar 6))), ((dC (.str "less")), (dFn gInt (dCons (dOp fLt (dVar 7) (dVar 6)) dNil)))]) (dOp fIx (dVar 5) (dC (.int 0)))) dNil)))))))
def rWorth : DS :=
  (sSeq (sPar3 2 3 4 (dCons (dLstR (dCons (dVar 0) dNil)) (dCons (dLstR dNil) (dCons (dLstR dNil) dNil)))) (sSeq (sWhile (dTst (dOp fNe (dVar 2) (dLst dNil))) (sSeq (sAsg (dMt0 "list" gPop (dVar 2)) 5) (sSeq (sExpr (dMt "list" gAppend (dVar 4) (dCons (dVar 5) dNil))) (sIf (dTst (dOp fNotIn (dOp fIx (dVar 5) (dC (.int 0))) (dTup (dCons (dC (.str "num")) (dCons (dC (.str "slot")) dNil))))) (sExpr (dMt "list" gExt (dVar 2) (dCons (dLst (dCons (dOp fIx (dVar 5) (dC (.int 1))) (dCons (dOp fIx (dVar 5) (dC (.int 2))) dNil))) dNil))) sNext)))) (sSeq (sFor (dIt (dUn fRv (dVar 4))) (gNm 5) rWBody) (sRet (dOp fIx (dVar 3) (dC (.int 0)))))))
def spWorth : DSp := fun ws S Q _ => ∃ e a kvs, ws = [smD e, .ref a] ∧ e.Ok ∧ e.ht ≤ 20 ∧ S a = some (.dK kvs) ∧ IntsD kvs ∧ Q (.int (e.worth (gOf kvs))) S
section
variable {S : Sto} {Q : DK} {E : XD} {ws : List D}
theorem strN (z : String) (zs : List String) : fNotIn (.str (Str.ofString z)) (.tup (zs.map fun z => .str (Str.ofString z))) S Q = Q (.bl (!decide (z ∈ zs))) S := strIn
theorem d3_at {a b c : D} {p : Addr} {S : Sto} {R : DK} (w : Op3) (hs : S p = some (.dK (dmerge [] [(.inr (Str.ofString "plus"), a), (.inr (Str.ofString "minus"), b), (.inr (Str.ofString "less"), c)]))) :
    fIx (.ref p) (.str w.str) S R = R (match w with | .plus => a | .minus => b | .less => c) S := by
  simp only [fIx, hs, keyOf]
  have e : dval (dmerge [] [((.inr (Str.ofString "plus") : Key), a), (.inr (Str.ofString "minus"), b), (.inr (Str.ofString "less"), c)]) (.inr w.str) = some (match w with | .plus => a | .minus => b | .less => c) := by
    cases w <;> rfl
  rw [e]; rfl
theorem subWr {S S1 : Sto} {p : Addr} {o : O} (h : Sub S S1) (hp : S p = none) : Sub S (su S1 p o) := fun b u e => by
  rw [su_ne (by rintro rfl; rw [hp] at e; cases e)]; exact h b u e
theorem subNw {S S1 : Sto} {p : Addr} {o : O} (h : Sub S S1) (hp : S1 p = none) : Sub S (su S1 p o) := h.trans (Sub.new hp)
/-- the stack stands, and all that stood ahead -/
structure WSt (S : Sto) (ga p3 : Addr) (kvs : List (Key × D)) (vs : List Int) (S1 : Sto) : Prop where
  sub : Sub S S1
  hg : S1 ga = some (.dK kvs)
  h3 : S1 p3 = some (.lst (vs.map .int))
theorem WSt.push {S : Sto} {ga p3 : Addr} {kvs : List (Key × D)} {vs : List Int} {S1 : Sto} {i : Int} (h : WSt S ga p3 kvs vs S1) (hn : S p3 = none) (hne : ga ≠ p3) : WSt S ga p3 kvs (vs ++ [i]) (su S1 p3 (.lst (vs.map .int ++ [.int i]))) :=
  ⟨subWr h.sub hn, by rw [su_ne hne]; exact h.hg, by rw [su_same, List.map_append]; rfl⟩
/-- the second loop: a sum's whole row comes to its worth behind the others -/
theorem worth_go {d : DEnds} {ga p2 p3 p4 : Addr} {kvs : List (Key × D)} (hk : IntsD kvs) {S0 : Sto} {x0 : D} (hn : S0 p3 = none) (hne : ga ≠ p3) :
    ∀ (e : Sm) (tl : List Sm) (vs : List Int) (S1 : Sto), vs.length + e.ord.length ≤ sizeLine → WSt S0 ga p3 kvs vs S1 →
    (∀ (x5 x6 x7 : Option D) S2, WSt S0 ga p3 kvs (vs ++ [e.worth (gOf kvs)]) S2 → sLoop (gNm 5) rWBody d (fun _ => True) (tl.map smD) [some x0, some (.ref ga), some (.ref p2), some (.ref p3), some (.ref p4), x5, x6, x7] S2) →
    ∀ (x5 x6 x7 : Option D), sLoop (gNm 5) rWBody d (fun _ => True) ((e.ord.reverse ++ tl).map smD) [some x0, some (.ref ga), some (.ref p2), some (.ref p3), some (.ref p4), x5, x6, x7] S1
  | .num i, tl, vs, S1, hl, st, k, x5, x6, x7 => by
    refine ⟨trivial, ?_⟩
    simp only [rWBody, smD]
    walk_at "rd"
    refine ⟨ty_lst st.h3, ?_⟩
    simp only [Sm.ord, List.length_cons, List.length_nil] at hl
    rw [gApp_l st.h3]
    refine ⟨by rw [List.length_map]; omega, k _ _ _ _ (st.push hn hne)⟩
  | .slot z, tl, vs, S1, hl, st, k, x5, x6, x7 => by
    refine ⟨trivial, ?_⟩
    simp only [rWBody, smD]
    walk_at "rd"
    refine ⟨ty_lst st.h3, isDct_of st.hg, ?_⟩
    rw [get2_dK st.hg, hk.get]
    simp only [Sm.ord, List.length_cons, List.length_nil] at hl
    rw [gApp_l st.h3]
    refine ⟨by rw [List.length_map]; omega, k _ _ _ _ (st.push hn hne)⟩
  | .bin w a b, tl, vs, S1, hl, st, k, x5, x6, x7 => by
    simp only [Sm.ord, List.length_cons, List.length_append] at hl
    have el : ((Sm.bin w a b).ord.reverse ++ tl) = a.ord.reverse ++ (b.ord.reverse ++ (.bin w a b :: tl)) := by
      simp only [Sm.ord, List.reverse_cons, List.reverse_append, List.append_assoc, List.singleton_append]
    rw [el]
    have hpa := ord_pos a
    refine worth_go hk hn hne a _ vs S1 (by omega) st (fun x5 x6 x7 S2 st2 => ?_) x5 x6 x7
    refine worth_go hk hn hne b _ (vs ++ [a.worth (gOf kvs)]) S2 (by rw [List.length_append, List.length_singleton]; omega) st2 (fun x5 x6 x7 S3 st3 => ?_) x5 x6 x7
    refine ⟨trivial, ?_⟩
    have hw : (Sm.bin w a b).worth (gOf kvs) = w.val (a.worth (gOf kvs)) (b.worth (gOf kvs)) := rfl
    rw [hw] at k
    generalize a.worth (gOf kvs) = i at *
    generalize b.worth (gOf kvs) = j at *
    simp only [rWBody, smD]
    have hw1 : (decide (w.str = Str.ofString "num")) = false := by cases w <;> decide +kernel
    have hw2 : (decide (w.str = Str.ofString "slot")) = false := by cases w <;> decide +kernel
    walk_at "rd"
    simp only [hw1, hw2]
    walk_at "rd"
    refine ⟨ty_lst st3.h3, ?_⟩
    rw [gPop_l (xs := (vs ++ [i]).map .int) (y := .int j) (by rw [st3.h3, List.map_append]; rfl)]
    refine ⟨ty_lst su_same, ?_⟩
    rw [gPop_l (xs := vs.map .int) (y := .int i) (by rw [su_same, List.map_append]; rfl), su_su]
    refine ⟨ty_lst su_same, ?_⟩
    simp only [dDisp, dPairs]
    walk_at "rd"
    simp only [keysOf, keyOf]
    refine ⟨(show 3 ≤ 15 by decide), fun p hp => ?_⟩
    have hpg : ga ≠ p := by rintro rfl; rw [su_ne hne, st3.hg] at hp; cases hp
    have hp3 : p3 ≠ p := by rintro rfl; rw [su_same] at hp; cases hp
    rw [d3_at w su_same, gApp_l (xs := vs.map .int) (by rw [su_ne hp3, su_same])]
    refine ⟨by rw [List.length_map]; omega, ?_⟩
    refine k _ _ _ _ ⟨subWr (subNw (subWr st3.sub hn) hp) hn, by rw [su_ne hne, su_ne hpg, su_ne hne]; exact st3.hg, ?_⟩
    rw [su_same, List.map_append]
    cases w <;> rfl
theorem neq {S : Sto} {a b : Addr} {o : O} (h : S a = some o) (k : S b = none) : b ≠ a := by rintro rfl; rw [h] at k; cases k
theorem sms_gd {n : Nat} : ∀ {rs : List Sm}, (∀ r ∈ rs, r.Ok ∧ r.ht ≤ n) → ∃ m b, Gds m (n + 1) b (rs.map smD)
  | [], _ => ⟨0, 0, gds_nil⟩
  | r :: rs, h => by
    obtain ⟨m1, b1, g1⟩ := sm_gd r (h r (List.mem_cons_self ..)).1
    obtain ⟨m2, b2, g2⟩ := sms_gd (n := n) (rs := rs) fun x hx => h x (List.mem_cons_of_mem _ hx)
    have := (h r (List.mem_cons_self ..)).2
    exact ⟨max m1 m2, _, Gds.cons (g1.le (by omega) (by omega) (Nat.le_refl _)) (g2.le (by omega) (Nat.le_refl _) (Nat.le_refl _))⟩
def Op3.name : Op3 → String
  | .plus => "plus" | .minus => "minus" | .less => "less"
theorem op3_str (w : Op3) : w.str = Str.ofString w.name := by cases w <;> rfl
theorem worth_ok (h : spWorth ws S Q E) : rWorth (endsD Q) (startD ["a", "b", "c", "d", "e", "f", "g", "h"] ws) S := by
  obtain ⟨e, ga, kvs, rfl, he, hht, hs, hk, q⟩ := h
  have hsz : sizeLine = 16777216 := rfl
  obtain ⟨m, b0, ge⟩ := sm_gd e he
  have hol : e.ord.length < 2 ^ 21 := Nat.lt_of_lt_of_le (ord_len e) (Nat.pow_le_pow_right (by decide) (by omega))
  have hol : e.ord.length < 2097152 := hol
  unfold rWorth
  walk_at "rd"
  simp only [dLstR]
  walk_at "rd"
  refine fun p2 hp2 p3 hp3 p4 hp4 => ?_
  have h23 : p3 ≠ p2 := neq su_same hp3
  have h34 : p4 ≠ p3 := neq su_same hp4
  have h24 : p4 ≠ p2 := neq (S := su (su S p2 (.lst [smD e])) p3 (.lst [])) (o := .lst [smD e]) (by rw [su_ne h23.symm, su_same]) hp4
  have hg2 : p2 ≠ ga := neq hs hp2
  have hg3 : p3 ≠ ga := neq (S := su S p2 (.lst [smD e])) (by rw [su_ne hg2.symm]; exact hs) hp3
  have hg4 : p4 ≠ ga := neq (S := su (su S p2 (.lst [smD e])) p3 (.lst [])) (by rw [su_ne hg3.symm, su_ne hg2.symm]; exact hs) hp4
  have hn3 : S p3 = none := by rw [su_ne h23] at hp3; exact hp3
  have hn4 : S p4 = none := by rw [su_ne h34, su_ne h24] at hp4; exact hp4
  simp only [sWhile]
  refine ⟨fun m env S' => ∃ rs os x5 x6 x7, env = [some (smD e), some (.ref ga), some (.ref p2), some (.ref p3), some (.ref p4), x5, x6, x7] ∧ S' = su (su (su S p2 (.lst (rs.map smD))) p3 (.lst [])) p4 (.lst (os.map smD)) ∧ os ++ ordS rs = e.ord ∧ m = (ordS rs).length,
    ⟨_, [e], [], none, none, none, rfl, rfl, by simp [ordS], rfl⟩, fun m env S' ⟨rs, os, x5, x6, x7, e1, e2, e3, e4⟩ => ?_⟩
  subst e1 e2
  have hmem : ∀ r ∈ rs, r.Ok ∧ r.ht ≤ 20 := fun r hr => by
    have := ord_mem (e := e) (r := r) (by rw [← e3]; exact List.mem_append_right _ (ordS_mem hr)) he
    exact ⟨this.1, by omega⟩
  obtain ⟨m1, b1, g1⟩ := sms_gd hmem
  have hlen : os.length + (ordS rs).length = e.ord.length := by rw [← e3, List.length_append]
  have hrl := ordS_len rs
  have at2 : ∀ X : List D, ∀ Y, su (su (su S p2 (.lst X)) p3 (.lst [])) p4 Y p2 = some (.lst X) := fun X Y => by rw [su_ne h24.symm, su_ne h23.symm, su_same]
  have put2 : ∀ X X' Y, su (su (su (su S p2 X) p3 (.lst [])) p4 Y) p2 X' = su (su (su S p2 X') p3 (.lst [])) p4 Y := fun X X' Y => by rw [su_comm h24, su_comm h23, su_su]
  walk_at "rd"
  refine ne_ref_nil (at2 _ _) g1 (by decide) ?_
  refine ite_by (fun hne => ?_) fun hne => ?_
  · obtain ⟨r0, r, er⟩ : ∃ a b, rs = a ++ [b] := ⟨rs.dropLast, rs.getLast (by rintro rfl; exact nomatch hne), (List.dropLast_concat_getLast _).symm⟩
    subst er
    have er : (r0 ++ [r]).map smD = r0.map smD ++ [smD r] := by rw [List.map_append]; rfl
    have hos := ordS_snoc r0 r
    have hpo := ord_pos r
    have hro := ordS_len r0
    rw [hos, List.length_append] at hlen hrl
    refine ⟨ty_lst (at2 _ _), ?_⟩
    rw [er, gPop_l (at2 _ _), put2]
    refine ⟨ty_lst su_same, ?_⟩
    rw [gApp_l su_same, su_su]
    refine ⟨by rw [List.length_map]; omega, ?_⟩
    have es : ∀ x, os.map smD ++ [smD x] = (os ++ [x]).map smD := fun x => by rw [List.map_append]; rfl
    cases r with
    | num i =>
      simp only [smD]
      walk_at "rd"
      rw [show D.tup [.str (Str.ofString "num"), .str (Str.ofString "slot")] = .tup (["num", "slot"].map fun z => .str (Str.ofString z)) from rfl, strN]
      rw [show (!decide ("num" ∈ ["num", "slot"])) = false from by decide]
      walk_at "rd"
      refine ⟨_, ?_, r0, os ++ [.num i], _, _, _, rfl, ?_, ?_, rfl⟩
      · rw [e4, hos, List.length_append]; omega
      · rw [← es]; rfl
      · rw [← e3, hos, List.append_assoc]; rfl
    | slot i =>
      simp only [smD]
      walk_at "rd"
      rw [show D.tup [.str (Str.ofString "num"), .str (Str.ofString "slot")] = .tup (["num", "slot"].map fun z => .str (Str.ofString z)) from rfl, strN]
      rw [show (!decide ("slot" ∈ ["num", "slot"])) = false from by decide]
      walk_at "rd"
      refine ⟨_, ?_, r0, os ++ [.slot i], _, _, _, rfl, ?_, ?_, rfl⟩
      · rw [e4, hos, List.length_append]; omega
      · rw [← es]; rfl
      · rw [← e3, hos, List.append_assoc]; rfl
    | bin w a b =>
      simp only [smD, op3_str]
      walk_at "rd"
      rw [show D.tup [.str (Str.ofString "num"), .str (Str.ofString "slot")] = .tup (["num", "slot"].map fun z => .str (Str.ofString z)) from rfl, strN]
      rw [show (!decide (w.name ∈ ["num", "slot"])) = true from by cases w <;> decide]
      walk_at "rd"
      refine ⟨ty_lst (at2 _ _), ?_⟩
      rw [gExt_l (at2 _ _), put2]
      have ho2 : ordS (r0 ++ [a, b]) = b.ord ++ (a.ord ++ ordS r0) := by
        rw [show r0 ++ [a, b] = (r0 ++ [a]) ++ [b] from by simp, ordS_snoc, ordS_snoc]
      refine ⟨by simp only [List.length_map, List.length_cons, List.length_nil]; omega, ?_⟩
      refine ⟨_, ?_, r0 ++ [a, b], os ++ [.bin w a b], _, _, _, rfl, ?_, ?_, rfl⟩
      · rw [e4, hos, ho2]; simp only [Sm.ord, List.length_append, List.length_cons]; omega
      · rw [← es, List.map_append]; simp only [smD, op3_str]; rfl
      · rw [← e3, hos, ho2]; simp only [Sm.ord, List.append_assoc, List.cons_append, List.nil_append]
  · have er : rs = [] := by cases rs with | nil => rfl | cons _ _ => exact nomatch hne
    subst er
    have e3 : os = e.ord := by rw [← e3]; simp [ordS]
    subst e3
    walk_at "rd"
    simp only [fRv, su_same]
    have := worth_go (d := { nx := sRet (dOp fIx (dVar 3) (dC (.int 0))) (endsD Q), rt := (endsD Q).rt, bk := (endsD Q).bk, ct := (endsD Q).ct }) (p2 := p2) (p4 := p4) (x0 := smD e) hk hn3 hg3.symm e [] [] (su (su (su S p2 (.lst [])) p3 (.lst [])) p4 (.lst (e.ord.map smD)))
      (by simp only [List.length_nil]; omega) ⟨subWr (subWr (subWr .refl hp2) hn3) hn4, by rw [su_ne hg4.symm, su_ne hg3.symm, su_ne hg2.symm]; exact hs, by rw [su_ne h34.symm, su_same]; rfl⟩ (fun x5 x6 x7 S2 st => ?_) x5 x6 x7
    · rw [List.append_nil, List.map_reverse] at this
      exact this
    · refine ⟨trivial, ?_⟩
      walk_at "rd"
      simp only [fIx, st.h3]
      rw [List.nil_append, List.map_cons, atI_0]
      exact ⟨_, st.sub, q⟩
end
end DL


set_option Elab.async false
set_option linter.all false
set_option maxRecDepth 100000
set_option maxHeartbeats 4000000
set_option exponentiation.threshold 4000
namespace DL
open PySem PySem.Spec PyProof.Rows L2
local macro_rules | `(tactic| walk_at "rd") => `(tactic| simp only [startD, List.length_map, List.map_cons, List.map_nil, List.length_cons, List.length_nil, Nat.reduceAdd, Nat.reduceSub, List.replicate, List.cons_append, List.nil_append,
  sSeq, sNext, sAsg, sAsgG, sPar, sPar3, sRet, sRetN, sIf, sExpr, sFor, dVar, dC, dUn, dOp, dNil, dCons, dFn, dTst, dNot, dAnd, dOr, dIf, dAndV, dOrV, dNotV, dTup, dLst, dSl, dNoPart, dPart, dMt, dMt0, dCall, dChain, dRng1, dRng2, dLc, dIt, gNm, dGet2, dGet1,
  gs_nil0, gs_cons, gTp_t, gStar12, gMax_ii, gSum_l, fIn_t, fNotIn_t, fIn_l, fNotIn_l, ofS_eq, String.reduceEq, decide_true, decide_false, reduceCtorEq, List.getD_cons_zero, List.getD_cons_succ, dTrue,
  List.getElem?_cons_zero, List.getElem?_cons_succ, List.set_cons_zero, List.set_cons_succ,
  fAdd_ii, fAdd_bi, fAdd_ib, fSub_bi, fEq_bi, gStr_b, fAdd_ss, fAdd_tt, fAdd_ll, fSub_ii, fNeg_i, fDiv_ii, fMod_ii, fPow_ii, fMul_ii, fLt_ii, fLe_ii, fGt_ii, fGe_ii, fEq_ii, fNe_ii, fEq_ss, fNe_ss, fIx_t, fIx_l, fSl_t, fSl_l, fSl_s, fRv_t, fRv_l, gList_t, gList_l, gTuple_t, gTuple_l, gStr_i, gStr_s, gInt_b, gInt_i, gLen_lst, gLen_tup, gLen_str,
  isi_non_int, isi_non_bool, isi_non_str, isi_non_tuple, isi_non_list, isi_non_dict, isi_bl_int, isi_bl_bool, isi_bl_str, isi_bl_tuple, isi_bl_list, isi_bl_dict, isi_int_int, isi_int_bool, isi_int_str, isi_int_tuple, isi_int_list, isi_int_dict, isi_str_int, isi_str_bool, isi_str_str, isi_str_tuple, isi_str_list, isi_str_dict, isi_tup_int, isi_tup_bool, isi_tup_str, isi_tup_tuple, isi_tup_list, isi_tup_dict, isi_lst_int, isi_lst_bool, isi_lst_str, isi_lst_tuple, isi_lst_list, isi_lst_dict,
  sz1, Nat.reduceLeDiff, Nat.zero_le, atI_0, atI_1, atI_2, atI_3, qOpt_s, dTru, truOf, Bool.and_true, Bool.true_and, Bool.and_false, Bool.false_and, if_true, if_false, Bool.false_eq_true, true_and, and_true, Bool.not_true, Bool.not_false, ite_true, ite_false])
/-! ### merged, by the laws' own look -/
def rLmg (worth : DSp) : DS :=
  (sSeq (sIf (dTst (dOp fEq (dVar 0) (dC (.str "plain")))) (sRet (dVar 3)) sNext) (sSeq (sIf (dTst (dOp fEq (dVar 0) (dC (.str "sum")))) (sRet (dOp fSub (dVar 2) (dOp fSub (dVar 1) (dVar 3)))) sNext) (sSeq (sIf (dTst (dOp fEq (dVar 0) (dC (.str "most")))) (sRet (dOp fIx (dFn gSorted (dCons (dLst (dCons (dVar 2) (dCons (dVar 3) dNil))) dNil)) (dC (.int 1)))) sNext) (sSeq (sIf (dTst (dOp fEq (dVar 0) (dC (.str "list")))) (sRet (dFn gTuple (dCons (dOp fAdd (dFn gList (dCons (dVar 2) dNil)) (dLc (dRng2 (dCons (dFn gLen (dCons (dVar 1) dNil)) (dCons (dFn gLen (dCons (dVar 3) dNil)) dNil))) (gNm 4) dTrue (dOp fIx (dVar 3) (dVar 4)) [4])) dNil))) sNext) (sSeq (sIf (dTst (dOp fEq (dVar 0) (dC (.str "set")))) (sSeq (sAsg (dLstR dNil) 5) (sSeq (sFor (dIt (dFn gSrtSet (dCons (dOp fAdd (dVar 2) (dVar 3)) dNil))) (gNm 6) (sSeq (sAsg (dAndV (dOp fIn (dVar 6) (dVar 3)) (dOp fNotIn (dVar 6) (dVar 1))) 7) (sSeq (sAsg (dAndV (dOp fIn (dVar 6) (dVar 1)) (dOp fNotIn (dVar 6) (dVar 3))) 8) (sIf (dOr (dTru (dVar 7)) (dAnd (dTst (dOp fIn (dVar 6) (dVar 2))) (dNot (dTru (dVar 8))))) (sExpr (dMt "list" gAppend (dVar 5) (dCons (dVar 6) dNil))) sNext)))) (sRet (dFn gTuple (dCons (dVar 5) dNil))))) sNext) (sRet (dCall worth 2 0 (fun xs _ => xs) E00 (dCons (dOp fIx (dVar 0) (dC (.int 1))) (dCons (dDisp [((dC (.str "base")), (dVar 1)), ((dC (.str "mine")), (dVar 2)), ((dC (.str "theirs")), (dVar 3))]) dNil)) dNil)))))))
def spLmg : DSp := fun ws S Q _ => ∃ k b m t, ws = [kdD k, vlD b, vlD m, vlD t] ∧ k.Ok ∧ k.ht ≤ 20 ∧ (Fit 2000 k b ∧ Fit 2000 k m ∧ Fit 2000 k t) ∧ Q (vlD (mergeV k b m t)) S
theorem srtI_two (i j : Int) : srtI [i, j] = [min i j, max i j] := by
  refine (srtI_eq (ms := [min i j, max i j]) ?_ ?_).symm
  · by_cases h : i ≤ j
    · rw [show min i j = i by omega, show max i j = j by omega]
    · rw [show min i j = j by omega, show max i j = i by omega]; exact List.Perm.swap ..
  · simp only [List.pairwise_cons, List.mem_singleton, List.not_mem_nil, false_implies, implies_true, List.Pairwise.nil, and_true, forall_eq]; omega
theorem range_drop {t : List Int} {n : Nat} : ((List.range (t.length - n)).map fun k => t.getD (n + k) 0) = t.drop n := by
  apply List.ext_getElem?
  intro i
  rw [List.getElem?_map, List.getElem?_drop]
  by_cases h : i < t.length - n
  · rw [List.getElem?_range h, Option.map_some, List.getD_eq_getElem?_getD, List.getElem?_eq_getElem (by omega)]; rfl
  · rw [List.getElem?_eq_none (by simp; omega), List.getElem?_eq_none (by omega)]; rfl
theorem lmg_ok {ws : List D} {S : Sto} {Q : DK} {E : XD} (h : spLmg ws S Q E) : rLmg spWorth (endsD Q) (startD ["a", "b", "c", "d", "e", "f", "g", "h", "i"] ws) S := by
  obtain ⟨k, b, m, t, rfl, hk, hht, ⟨hb, hm, ht⟩, q⟩ := h
  have hsz : sizeLine = 16777216 := rfl
  have hsb : scanBound = 4096 := rfl
  unfold rLmg
  cases k with
  | plain => simp only [kdD]; walk_at "rd"; exact ends_rt q
  | sum =>
    cases b <;> cases m <;> cases t <;> try exact hb.elim
    all_goals try exact hm.elim
    all_goals try exact ht.elim
    rename_i b m t
    simp only [kdD, vlD]; walk_at "rd"
    rw [show m - (b - t) = m + t - b by omega]
    exact ends_rt q
  | most =>
    cases b <;> cases m <;> cases t <;> try exact hb.elim
    all_goals try exact hm.elim
    all_goals try exact ht.elim
    simp only [kdD, vlD]; walk_at "rd"
    simp only [gSorted, lsOf, qSrt, intsOf, Option.map_some, srtI_two]
    walk_at "rd"
    exact ends_rt q
  | list =>
    cases b <;> cases m <;> cases t <;> try exact hb.elim
    all_goals try exact hm.elim
    all_goals try exact ht.elim
    rename_i b m t
    have hb' : b.length ≤ 2000 := hb
    have hm' : m.length ≤ 2000 := hm
    have ht' : t.length ≤ 2000 := ht
    simp only [kdD, vlD]; walk_at "rd"
    refine ⟨⟨by omega, by omega, by omega, by omega⟩, ?_⟩
    rw [show ((t.length : Int) - b.length).toNat = t.length - b.length by omega]
    refine cLoop_mapA (fun k : Nat => D.int ((b.length : Int) + k)) (fun k => D.int (t.getD (b.length + k) 0)) trivial (by rw [List.length_range]; omega) (fun x hx R r => ?_) ?_
    · rw [List.mem_range] at hx
      simp only [wipeD]
      walk_at "rd"
      rw [show ((b.length : Int) + x) = ((b.length + x : Nat) : Int) from by omega, atI_nat (n := b.length + x) (x := D.int (t.getD (b.length + x) 0)) (by
        rw [List.getElem?_map, List.getElem?_eq_getElem (by omega), List.getD_eq_getElem?_getD, List.getElem?_eq_getElem (by omega)]; rfl)]
      exact r
    · rw [show (List.range (t.length - b.length)).map (fun k => D.int (t.getD (b.length + k) 0)) = ((List.range (t.length - b.length)).map fun k => t.getD (b.length + k) 0).map .int from by rw [List.map_map]; rfl, range_drop]
      have hdl : (t.drop b.length).length = t.length - b.length := List.length_drop
      refine ⟨by simp only [List.length_map]; omega, ?_⟩
      rw [← List.map_append]
      exact ends_rt q
  | set =>
    cases b <;> cases m <;> cases t <;> try exact hb.elim
    all_goals try exact hm.elim
    all_goals try exact ht.elim
    rename_i b m t
    obtain ⟨hm1, hm2⟩ : m.length ≤ 2000 ∧ _ := hm
    obtain ⟨ht1, ht2⟩ : t.length ≤ 2000 ∧ _ := ht
    simp only [kdD, vlD]; walk_at "rd"
    simp only [dLstR]
    walk_at "rd"
    refine fun p hp => ?_
    refine ⟨by omega, ?_⟩
    rw [← List.map_append, gSrtSet_t]
    refine ⟨by rw [List.length_append]; omega, ?_⟩
    have hsl := setI_len (m ++ t)
    rw [List.length_append] at hsl
    refine sLoop_A D.int (fun pre env S' => ∃ x y z, env = [some (.str "set"), some (.tup (b.map .int)), some (.tup (m.map .int)), some (.tup (t.map .int)), none, some (.ref p), x, y, z] ∧ S' = su S p (.lst ((pre.filter fun x => (decide (x ∈ t) && !decide (x ∈ b)) || (decide (x ∈ m) && !(decide (x ∈ b) && !decide (x ∈ t)))).map .int))) (fun _ _ _ _ => trivial)
      ⟨none, none, none, rfl, rfl⟩ (fun pre n post e env S' ⟨x, y, z, e1, e2⟩ R r => ?_) fun env S' ⟨x, y, z, e1, e2⟩ => ?_
    · subst e1 e2
      have hpl : pre.length < (setI (m ++ t)).length := by rw [e, List.length_append, List.length_cons]; omega
      have hfl := List.length_filter_le (fun x => (decide (x ∈ t) && !decide (x ∈ b)) || (decide (x ∈ m) && !(decide (x ∈ b) && !decide (x ∈ t)))) pre
      have key : ∀ c : Bool, ((decide (n ∈ t) && !decide (n ∈ b)) || (decide (n ∈ m) && !(decide (n ∈ b) && !decide (n ∈ t)))) = c → ∀ y z, (if c = true then (tyD "list" (.ref p) (su S p (.lst ((pre.filter fun x => (decide (x ∈ t) && !decide (x ∈ b)) || (decide (x ∈ m) && !(decide (x ∈ b) && !decide (x ∈ t)))).map .int))) ∧ gAppend (.ref p) [.int n] (su S p (.lst ((pre.filter fun x => (decide (x ∈ t) && !decide (x ∈ b)) || (decide (x ∈ m) && !(decide (x ∈ b) && !decide (x ∈ t)))).map .int))) fun _ S1 => R [some (.str "set"), some (.tup (b.map .int)), some (.tup (m.map .int)), some (.tup (t.map .int)), none, some (.ref p), some (.int n), y, z] S1)
          else R [some (.str "set"), some (.tup (b.map .int)), some (.tup (m.map .int)), some (.tup (t.map .int)), none, some (.ref p), some (.int n), y, z] (su S p (.lst ((pre.filter fun x => (decide (x ∈ t) && !decide (x ∈ b)) || (decide (x ∈ m) && !(decide (x ∈ b) && !decide (x ∈ t)))).map .int)))) := fun c hc y z => by
        subst hc
        refine ite_by (fun hc => ⟨ty_lst su_same, ?_⟩) fun hc => ?_
        · rw [gApp_l su_same, su_su]
          refine ⟨by rw [List.length_map]; omega, r _ _ ⟨_, _, _, rfl, ?_⟩⟩
          rw [List.filter_append, List.map_append]
          simp only [List.filter_cons, hc, if_true, List.filter_nil, List.map_cons, List.map_nil]
        · refine r _ _ ⟨_, _, _, rfl, ?_⟩
          rw [List.filter_append, List.map_append]
          simp only [List.filter_cons, hc, Bool.false_eq_true, if_false, List.filter_nil, List.map_nil, List.append_nil]
      walk_at "rd"
      by_cases h1 : n ∈ t <;> by_cases h2 : n ∈ b <;> by_cases h3 : n ∈ m <;> simp only [h1, h2, h3, decide_true, decide_false] <;> walk_at "rd" <;> first | exact key true (by simp [h1, h2, h3]) _ _ | exact key false (by simp [h1, h2, h3]) _ _
    · subst e1 e2
      walk_at "rd"
      simp only [gTuple, itsOf, su_same]
      refine ⟨S, Sub.new hp, ?_⟩
      rw [show (setI (m ++ t)).filter (fun x => (decide (x ∈ t) && !decide (x ∈ b)) || (decide (x ∈ m) && !(decide (x ∈ b) && !decide (x ∈ t)))) = mset b m t from rise_eq ((setI_pw _).sublist List.filter_sublist) (setI_pw _) fun x => ?_]
      · exact q
      · unfold mset
        rw [List.mem_filter, setI_mem, setI_mem, List.mem_append, List.mem_append, List.mem_filter, List.mem_filter]
        by_cases h1 : x ∈ t <;> by_cases h2 : x ∈ b <;> by_cases h3 : x ∈ m <;> simp [h1, h2, h3]
  | own e =>
    cases b <;> cases m <;> cases t <;> try exact hb.elim
    all_goals try exact hm.elim
    all_goals try exact ht.elim
    rename_i b m t
    simp only [kdD, vlD]; walk_at "rd"
    simp only [fEq_own hk.1 hk.2]
    walk_at "rd"
    simp only [dDisp, dPairs]
    walk_at "rd"
    simp only [keysOf, keyOf]
    refine ⟨(show 3 ≤ 15 by decide), fun p hp => ⟨e, p, d3 b m t, rfl, hk.1, by simp only [Kd.ht] at hht; omega, by rw [su_same]; rfl, d3_ints b m t, ?_⟩⟩
    refine ⟨S, Sub.new hp, ?_⟩
    rw [d3_g]
    exact q
end DL


set_option Elab.async false
set_option linter.all false
set_option maxRecDepth 100000
set_option maxHeartbeats 4000000
set_option exponentiation.threshold 4000
namespace DL
open PySem PySem.Spec PyProof.Rows L2
local macro_rules | `(tactic| walk_at "rd") => `(tactic| simp only [startD, List.length_map, List.map_cons, List.map_nil, List.length_cons, List.length_nil, Nat.reduceAdd, Nat.reduceSub, List.replicate, List.cons_append, List.nil_append,
  sSeq, sNext, sAsg, sAsgG, sPar, sPar3, sRet, sRetN, sIf, sExpr, sFor, dVar, dC, dUn, dOp, dNil, dCons, dFn, dTst, dNot, dAnd, dOr, dIf, dAndV, dOrV, dNotV, dTup, dLst, dSl, dNoPart, dPart, dMt, dMt0, dCall, dChain, dRng1, dRng2, dLc, dIt, gNm, dGet2, dGet1,
  gs_nil0, gs_cons, gTp_t, gStar12, gMax_ii, gSum_l, fIn_t, fNotIn_t, fIn_l, fNotIn_l, ofS_eq, String.reduceEq, decide_true, decide_false, reduceCtorEq, List.getD_cons_zero, List.getD_cons_succ, dTrue,
  List.getElem?_cons_zero, List.getElem?_cons_succ, List.set_cons_zero, List.set_cons_succ,
  fAdd_ii, fAdd_bi, fAdd_ib, fSub_bi, fEq_bi, gStr_b, fAdd_ss, fAdd_tt, fAdd_ll, fSub_ii, fNeg_i, fDiv_ii, fMod_ii, fPow_ii, fMul_ii, fLt_ii, fLe_ii, fGt_ii, fGe_ii, fEq_ii, fNe_ii, fEq_ss, fNe_ss, fIx_t, fIx_l, fSl_t, fSl_l, fSl_s, fRv_t, fRv_l, gList_t, gList_l, gTuple_t, gTuple_l, gStr_i, gStr_s, gInt_b, gInt_i, gLen_lst, gLen_tup, gLen_str,
  isi_non_int, isi_non_bool, isi_non_str, isi_non_tuple, isi_non_list, isi_non_dict, isi_bl_int, isi_bl_bool, isi_bl_str, isi_bl_tuple, isi_bl_list, isi_bl_dict, isi_int_int, isi_int_bool, isi_int_str, isi_int_tuple, isi_int_list, isi_int_dict, isi_str_int, isi_str_bool, isi_str_str, isi_str_tuple, isi_str_list, isi_str_dict, isi_tup_int, isi_tup_bool, isi_tup_str, isi_tup_tuple, isi_tup_list, isi_tup_dict, isi_lst_int, isi_lst_bool, isi_lst_str, isi_lst_tuple, isi_lst_list, isi_lst_dict,
  sz1, Nat.reduceLeDiff, Nat.zero_le, atI_0, atI_1, atI_2, atI_3, qOpt_s, dTru, truOf, Bool.and_true, Bool.true_and, Bool.and_false, Bool.false_and, if_true, if_false, Bool.false_eq_true, true_and, and_true, Bool.not_true, Bool.not_false, ite_true, ite_false])
/-! ### drawn sums and kinds -/
def rSumT (draw sum : DSp) : DS :=
  (sSeq (sIf (dTst (dOp fEq (dVar 4) (dC (.str "num")))) (sRet (dTup (dCons (dVar 4) (dCons (dOp fIx (dLst (dCons (dC (.int 0)) (dCons (dC (.int 1)) (dCons (dC (.int 2)) (dCons (dUn fNeg (dC (.int 1))) (dCons (dOp fPow (dC (.int 10)) (dC (.int 6))) (dCons (dOp fSub (dCall draw 2 0 (fun xs _ => xs) E00 (dCons (dVar 0) (dCons (dC (.int 300)) dNil)) dNil) (dC (.int 99))) dNil))))))) (dCall draw 2 0 (fun xs _ => xs) E00 (dCons (dVar 0) (dCons (dC (.int 6)) dNil)) dNil)) dNil)))) sNext) (sSeq (sIf (dTst (dOp fEq (dVar 4) (dC (.str "slot")))) (sRet (dTup (dCons (dVar 4) (dCons (dOp fIx (dLst (dCons (dC (.str "base")) (dCons (dC (.str "mine")) (dCons (dC (.str "theirs")) (dCons (dC (.str "mine")) (dCons (dC (.str "theirs")) (dCons (dC (.str "other")) dNil))))))) (dCall draw 2 0 (fun xs _ => xs) E00 (dCons (dVar 0) (dCons (dC (.int 6)) dNil)) dNil)) dNil)))) sNext) (sSeq (sAsg (dCall sum 3 0 (fun xs _ => xs) E00 (dCons (dVar 0) (dCons (dOp fSub (dVar 1) (dC (.int 1))) (dCons (dVar 2) dNil))) dNil) 5) (sRet (dTup (dCons (dVar 4) (dCons (dVar 5) (dCons (dCall sum 3 0 (fun xs _ => xs) E00 (dCons (dVar 0) (dCons (dOp fSub (dVar 1) (dC (.int 1))) (dCons (dVar 2) dNil))) dNil) dNil))))))))
def rSum (draw sum : DSp) : DS :=
  (sSeq (sAsg (dOp fAdd (dLst (dCons (dC (.str "num")) (dCons (dC (.str "slot")) (dCons (dC (.str "slot")) (dCons (dC (.str "plus")) (dCons (dC (.str "minus")) dNil)))))) (dOp fMul (dLst (dCons (dC (.str "less")) dNil)) (dFn gInt (dCons (dVar 2) dNil)))) 3) (sSeq (sAsg (dOp fIx (dVar 3) (dCall draw 2 0 (fun xs _ => xs) E00 (dCons (dVar 0) (dCons (dIf (dTst (dOp fGt (dVar 1) (dC (.int 1)))) (dFn gLen (dCons (dVar 3) dNil)) (dC (.int 3))) dNil)) dNil)) 4) (rSumT draw sum)))
def rKind (draw sum : DSp) : DS :=
  (sSeq (sAsgG (dTup (dCons (dTup (dCons (dC (.str "slot")) (dCons (dC (.str "base")) dNil))) (dCons (dTup (dCons (dC (.str "slot")) (dCons (dC (.str "mine")) dNil))) (dCons (dTup (dCons (dC (.str "slot")) (dCons (dC (.str "theirs")) dNil))) dNil)))) (gTp 3 (gsCons (gNm 1) (gsCons (gNm 2) (gsCons (gNm 3) gsNil))))) (sSeq (sAsg (dLst (dCons (dTup (dCons (dC (.str "plus")) (dCons (dVar 2) (dCons (dTup (dCons (dC (.str "minus")) (dCons (dVar 3) (dCons (dVar 1) dNil)))) dNil)))) (dCons (dVar 2) (dCons (dVar 3) (dCons (dTup (dCons (dC (.str "plus")) (dCons (dVar 2) (dCons (dTup (dCons (dC (.str "less")) (dCons (dVar 1) (dCons (dVar 3) dNil)))) dNil)))) dNil))))) 4) (sSeq (sAsg (dOp fAdd (dOp fMul (dLst (dCons (dCall sum 3 0 (fun xs _ => xs) E00 (dCons (dVar 0) (dCons (dOp fAdd (dC (.int 1)) (dCall draw 2 0 (fun xs _ => xs) E00 (dCons (dVar 0) (dCons (dC (.int 4)) dNil)) dNil)) (dCons (dOp fEq (dCall draw 2 0 (fun xs _ => xs) E00 (dCons (dVar 0) (dCons (dC (.int 2)) dNil)) dNil) (dC (.int 0))) dNil))) dNil) dNil)) (dC (.int 4))) (dVar 4)) 5) (sRet (dOp fIx (dLst (dCons (dC (.str "plain")) (dCons (dC (.str "sum")) (dCons (dC (.str "most")) (dCons (dC (.str "set")) (dCons (dC (.str "list")) (dCons (dTup (dCons (dC (.str "own")) (dCons (dOp fIx (dVar 5) (dCall draw 2 0 (fun xs _ => xs) E00 (dCons (dVar 0) (dCons (dC (.int 8)) dNil)) dNil)) dNil))) dNil))))))) (dCall draw 2 0 (fun xs _ => xs) E00 (dCons (dVar 0) (dCons (dC (.int 6)) dNil)) dNil))))))
def Sm.noLess : Sm → Bool
  | .bin w a b => (match w with | .less => false | _ => true) && (a.noLess && b.noLess)
  | _ => true
/-- slots of at most eight letters -/
def Sm.short : Sm → Bool
  | .num _ => true
  | .slot x => decide (x.length ≤ 8)
  | .bin _ a b => a.short && b.short
def Kd.short : Kd → Bool
  | .own e => e.short
  | _ => true
structure SmOk (w : Int) (less : Bool) (e : Sm) : Prop where
  ht : (e.ht : Int) < w
  ok : e.Ok
  lit : e.Lit (10 ^ 6)
  nl : less = false → e.noLess = true
  sh : e.short = true
def Wd (w : Int) (less : Bool) (z : String) : Prop := z = "num" ∨ z = "slot" ∨ (1 < w ∧ ∃ op : Op3, z = op.name ∧ (less = false → op ≠ .less))
def spSum (n : Nat) : DSp := fun ws S Q _ => ∃ a o w less, ws = [.ref a, .int w, .bl less] ∧ (1 ≤ w ∧ w ≤ n) ∧ S a = some o ∧ FeedO o ∧ ∀ e o', SmOk w less e → FeedO o' → Q (smD e) (su S a o')
theorem sum_su {n : Nat} {a : Addr} {o : O} {w : Int} {less : Bool} {S : Sto} {Q : DK} {E : XD} (ho : FeedO o) (h1 : 1 ≤ w) (h2 : w ≤ n) (q : ∀ e o', SmOk w less e → FeedO o' → Q (smD e) (su S a o')) : spSum n [.ref a, .int w, .bl less] (su S a o) Q E :=
  ⟨a, o, w, less, rfl, ⟨h1, h2⟩, su_same, ho, fun x o' h1 h2 => by rw [su_su]; exact q x o' h1 h2⟩
theorem fMul_l {xs : List D} {k : Int} {S : Sto} {Q : DK} : fMul (.lst xs) (.int k) S Q = ((-(2 ^ 63) ≤ k ∧ k < 2 ^ 63 ∧ xs.length * k.toNat ≤ sizeLine) ∧ Q (.lst (List.replicate k.toNat xs).flatten) S) := rfl
theorem strOk_lit (z : String) : PyData.strOk (Str.ofString z) = true := strOk_of z
theorem sumT_ok {n : Nat} {S : Sto} {Q : DK} {a : Addr} {o : O} {w : Int} {less : Bool} {z : String} {y : Option D} (hw : 1 ≤ w ∧ w ≤ ((n + 1 : Nat) : Int)) (ho : FeedO o) (q : ∀ e o', SmOk w less e → FeedO o' → Q (smD e) (su S a o'))
    (hz : Wd w less z) :
    rSumT spDraw (spSum n) (endsD Q) [some (.ref a), some (.int w), some (.bl less), y, some (.str (Str.ofString z)), none] (su S a o) := by
  unfold rSumT
  rcases hz with rfl | rfl | ⟨h1, op, rfl, hop⟩
  · walk_at "rd"
    refine ⟨⟨by decide, by decide⟩, draw_su ho (by decide) (by decide) fun i o hi1 hi2 ho => ?_⟩
    walk_at "rd"
    refine draw_su ho (by decide) (by decide) fun j o hj1 hj2 ho => ?_
    walk_at "rd"
    refine ix_P (fun w => ∃ i : Int, w = .int i ∧ i.natAbs ≤ 10 ^ 6) hj1 (by simpa using hj2) ?_ fun w ⟨k, e, hk⟩ => ?_
    · simp only [List.forall_mem_cons]
      exact ⟨⟨_, rfl, by decide⟩, ⟨_, rfl, by decide⟩, ⟨_, rfl, by decide⟩, ⟨_, rfl, by decide⟩, ⟨_, rfl, by decide⟩, ⟨_, rfl, by omega⟩, fun _ h => nomatch h⟩
    · subst e
      exact ends_rt (q (.num k) o ⟨by show (0 : Int) < _; omega, trivial, hk, fun _ => rfl, rfl⟩ ho)
  · walk_at "rd"
    refine draw_su ho (by decide) (by decide) fun j o hj1 hj2 ho => ?_
    walk_at "rd"
    refine ix_P (fun w => ∃ i : String, w = .str (Str.ofString i) ∧ (Str.ofString i).length ≤ 8) hj1 (by simpa using hj2) ?_ fun w ⟨k, e, hkl⟩ => ?_
    · simp only [List.forall_mem_cons]
      exact ⟨⟨_, rfl, by decide⟩, ⟨_, rfl, by decide⟩, ⟨_, rfl, by decide⟩, ⟨_, rfl, by decide⟩, ⟨_, rfl, by decide⟩, ⟨_, rfl, by decide⟩, fun _ h => nomatch h⟩
    · subst e
      exact ends_rt (q (.slot (Str.ofString k)) o ⟨by show (0 : Int) < _; omega, strOk_of k, trivial, fun _ => rfl, decide_eq_true hkl⟩ ho)
  · have e1 : (op.name = "num") = False := by cases op <;> decide
    have e2 : (op.name = "slot") = False := by cases op <;> decide
    walk_at "rd"
    simp only [e1, e2, decide_false, Bool.false_eq_true, if_false]
    refine sum_su ho (by omega) (by omega) fun x o hx ho => ?_
    refine sum_su ho (by omega) (by omega) fun y o hy ho => ?_
    refine ends_rt ?_
    rw [← op3_str]
    refine q (.bin op x y) o ⟨?_, ⟨hx.ok, hy.ok⟩, ⟨hx.lit, hy.lit⟩, fun hl => ?_, by simp only [Sm.short, hx.sh, hy.sh, Bool.and_self]⟩ ho
    · have h1 := hx.ht
      have h2 := hy.ht
      show ((max x.ht y.ht + 1 : Nat) : Int) < w
      omega
    · have h1 := hx.nl hl
      have h2 := hy.nl hl
      have h3 := hop hl
      simp only [Sm.noLess, h1, h2]
      cases op <;> first | rfl | exact absurd rfl h3
theorem sum_ok {n : Nat} {ws : List D} {S : Sto} {Q : DK} {E : XD} (h : spSum (n + 1) ws S Q E) : rSum spDraw (spSum n) (endsD Q) (startD ["a", "b", "c", "d", "e", "f"] ws) S := by
  obtain ⟨a, o, w, less, rfl, hw, hs, ho, q⟩ := h
  rw [← su_self hs]
  unfold rSum
  have key : ∀ (y : Option D) (z : String) (o : O), FeedO o → Wd w less z → rSumT spDraw (spSum n) (endsD Q) [some (.ref a), some (.int w), some (.bl less), y, some (.str (Str.ofString z)), none] (su S a o) := fun y z o ho hz => sumT_ok hw ho q hz
  have hop : ∀ op : Op3, (less = false → op ≠ .less) → 1 < w → Wd w less op.name := fun op h1 h2 => .inr (.inr ⟨h2, op, rfl, h1⟩)
  generalize rSumT spDraw (spSum n) = T at *
  cases less with
  | false =>
    walk_at "rd"
    rw [show b2 false = 0 from rfl, fMul_l]
    walk_at "rd"
    refine ⟨by decide, ?_⟩
    simp only [Int.toNat_zero, List.replicate_zero, List.flatten_nil, List.append_nil]
    walk_at "rd"
    refine ite_by (fun hw1 => draw_su ho (by decide) (by decide) fun i o hi1 hi2 ho => ?_) fun _ => draw_su ho (by decide) (by decide) fun i o hi1 hi2 ho => ?_
    · have hw1 : 1 < w := of_decide_eq_true hw1
      refine ix_P (fun v => ∃ z : String, v = .str (Str.ofString z) ∧ Wd w false z) hi1 (by simpa using hi2) ?_ fun v ⟨z, e, hz⟩ => ?_
      · simp only [List.forall_mem_cons]
        exact ⟨⟨"num", rfl, .inl rfl⟩, ⟨"slot", rfl, .inr (.inl rfl)⟩, ⟨"slot", rfl, .inr (.inl rfl)⟩, ⟨"plus", rfl, hop .plus (fun _ h => nomatch h) hw1⟩, ⟨"minus", rfl, hop .minus (fun _ h => nomatch h) hw1⟩, fun _ h => nomatch h⟩
      · subst e
        exact key _ _ _ ho hz
    · have hi : i = 0 ∨ i = 1 ∨ i = 2 := by omega
      rcases hi with rfl | rfl | rfl
      · walk_at "rd"; exact key _ _ _ ho (.inl rfl)
      · walk_at "rd"; exact key _ _ _ ho (.inr (.inl rfl))
      · walk_at "rd"; exact key _ _ _ ho (.inr (.inl rfl))
  | true =>
    walk_at "rd"
    rw [show b2 true = 1 from rfl, fMul_l]
    walk_at "rd"
    refine ⟨by decide, ?_⟩
    simp only [Int.toNat_one, List.replicate_one, List.flatten_singleton, List.append_nil]
    walk_at "rd"
    refine ite_by (fun hw1 => draw_su ho (by decide) (by decide) fun i o hi1 hi2 ho => ?_) fun _ => draw_su ho (by decide) (by decide) fun i o hi1 hi2 ho => ?_
    · have hw1 : 1 < w := of_decide_eq_true hw1
      refine ix_P (fun v => ∃ z : String, v = .str (Str.ofString z) ∧ Wd w true z) hi1 (by simpa using hi2) ?_ fun v ⟨z, e, hz⟩ => ?_
      · simp only [List.forall_mem_cons]
        exact ⟨⟨"num", rfl, .inl rfl⟩, ⟨"slot", rfl, .inr (.inl rfl)⟩, ⟨"slot", rfl, .inr (.inl rfl)⟩, ⟨"plus", rfl, hop .plus (fun _ h => nomatch h) hw1⟩, ⟨"minus", rfl, hop .minus (fun _ h => nomatch h) hw1⟩, ⟨"less", rfl, hop .less (fun h => nomatch h) hw1⟩, fun _ h => nomatch h⟩
      · subst e
        exact key _ _ _ ho hz
    · have hi : i = 0 ∨ i = 1 ∨ i = 2 := by omega
      rcases hi with rfl | rfl | rfl
      · walk_at "rd"; exact key _ _ _ ho (.inl rfl)
      · walk_at "rd"; exact key _ _ _ ho (.inr (.inl rfl))
      · walk_at "rd"; exact key _ _ _ ho (.inr (.inl rfl))
structure KdOk (k : Kd) : Prop where
  ok : k.Ok
  ht : k.ht ≤ 5
  lit : k.Lit (10 ^ 6)
  sh : k.short = true
def spKind : DSp := fun ws S Q _ => ∃ a o, ws = [.ref a] ∧ S a = some o ∧ FeedO o ∧ ∀ k o', KdOk k → FeedO o' → Q (kdD k) (su S a o')
theorem kind_su {a : Addr} {o : O} {S : Sto} {Q : DK} {E : XD} (ho : FeedO o) (q : ∀ k o', KdOk k → FeedO o' → Q (kdD k) (su S a o')) : spKind [.ref a] (su S a o) Q E :=
  ⟨a, o, rfl, su_same, ho, fun x o' h1 h2 => by rw [su_su]; exact q x o' h1 h2⟩
theorem kind_ok {ws : List D} {S : Sto} {Q : DK} {E : XD} (h : spKind ws S Q E) : rKind spDraw (spSum 4) (endsD Q) (startD ["a", "b", "c", "d", "e", "f"] ws) S := by
  obtain ⟨a, o, rfl, hs, ho, q⟩ := h
  rw [← su_self hs]
  unfold rKind
  walk_at "rd"
  refine draw_su ho (by decide) (by decide) fun i o hi1 hi2 ho => ?_
  walk_at "rd"
  refine draw_su ho (by decide) (by decide) fun j o hj1 hj2 ho => ?_
  walk_at "rd"
  refine sum_su ho (by omega) (by omega) fun e o he ho => ?_
  rw [fMul_l]
  walk_at "rd"
  refine ⟨by decide, ?_⟩
  simp only [show Int.toNat 4 = 4 from rfl, List.replicate, List.flatten_cons, List.flatten_nil, List.cons_append, List.nil_append]
  walk_at "rd"
  refine draw_su ho (by decide) (by decide) fun j o hj1 hj2 ho => ?_
  walk_at "rd"
  refine ix_P (fun v => ∃ e : Sm, v = smD e ∧ KdOk (.own e)) hj1 (by simpa using hj2) ?_ fun v ⟨e, e1, he⟩ => ?_
  · have hk : KdOk (.own e) := ⟨⟨he.ok, by have := he.ht; omega⟩, by have := he.ht; show e.ht + 1 ≤ 5; omega, he.lit, he.sh⟩
    simp only [List.forall_mem_cons]
    have so : ∀ z : String, (Sm.slot (Str.ofString z)).Ok := fun z => strOk_of z
    refine ⟨⟨_, rfl, hk⟩, ⟨_, rfl, hk⟩, ⟨_, rfl, hk⟩, ⟨_, rfl, hk⟩, ⟨.bin .plus (.slot "mine") (.bin .minus (.slot "theirs") (.slot "base")), rfl, ⟨⟨⟨so _, so _, so _⟩, by decide⟩, by decide, ⟨trivial, trivial, trivial⟩, by decide⟩⟩, ⟨.slot "mine", rfl, ⟨⟨so _, by decide⟩, by decide, trivial, by decide⟩⟩, ⟨.slot "theirs", rfl, ⟨⟨so _, by decide⟩, by decide, trivial, by decide⟩⟩,
      ⟨.bin .plus (.slot "mine") (.bin .less (.slot "base") (.slot "theirs")), rfl, ⟨⟨⟨so _, so _, so _⟩, by decide⟩, by decide, ⟨trivial, trivial, trivial⟩, by decide⟩⟩, fun _ h => nomatch h⟩
  · subst e1
    refine draw_su ho (by decide) (by decide) fun j o hj1 hj2 ho => ?_
    walk_at "rd"
    refine ix_P (fun v => ∃ k : Kd, v = kdD k ∧ KdOk k) hj1 (by simpa using hj2) ?_ fun v ⟨k, e1, hk⟩ => ?_
    · simp only [List.forall_mem_cons]
      refine ⟨⟨.plain, rfl, ⟨trivial, by decide, trivial, rfl⟩⟩, ⟨.sum, rfl, ⟨trivial, by decide, trivial, rfl⟩⟩, ⟨.most, rfl, ⟨trivial, by decide, trivial, rfl⟩⟩, ⟨.set, rfl, ⟨trivial, by decide, trivial, rfl⟩⟩, ⟨.list, rfl, ⟨trivial, by decide, trivial, rfl⟩⟩, ⟨.own e, rfl, he⟩, fun _ h => nomatch h⟩
    · subst e1
      exact ends_rt (q k o hk ho)
end DL


set_option Elab.async false
set_option linter.all false
set_option maxRecDepth 100000
set_option maxHeartbeats 4000000
namespace DL
open PySem PySem.Spec PyProof.Rows L2
mutual
theorem okD_shbB {m k : Nat} (hk : 12 ≤ k) (hm : m < 10 ^ k) : ∀ {x : D}, okD m x = true → PyData.leavesShort (k + 1) (toPy x) = true
  | .non, _ => by simp only [toPy, PyData.leavesShort]
  | .bl _, _ => by simp only [toPy, PyData.leavesShort]
  | .int i, h => by
    simp only [okD, decide_eq_true_eq] at h
    simp only [toPy, PyData.leavesShort, decide_eq_true_eq, PyData.shown, PySem.ofString_length]
    exact int_text_length_le10 (k := k) (by omega) (Nat.lt_of_le_of_lt h hm)
  | .str z, h => by
    simp only [toPy, PyData.leavesShort, List.all_eq_true, decide_eq_true_eq]
    simp only [okD, PyData.strOk] at h
    intro c hc
    have := (Array.all_eq_true_iff_forall_mem.1 h) c (by simpa using hc)
    have := of_decide_eq_true this
    omega
  | .tup xs, h => by simp only [okD, toPy, PyData.leavesShort] at *; exact oksD_shbB hk hm h
  | .lst xs, h => by simp only [okD, toPy, PyData.leavesShort] at *; exact oksD_shbB hk hm h
theorem oksD_shbB {m k : Nat} (hk : 12 ≤ k) (hm : m < 10 ^ k) : ∀ {xs : List D}, oksD m xs = true → PyData.leavesShortAll (k + 1) (toPys xs) = true
  | [], _ => rfl
  | x :: xs, h => by
    simp only [oksD, Bool.and_eq_true] at h
    simp only [toPys, PyData.leavesShortAll, Bool.and_eq_true]
    exact ⟨okD_shbB hk hm h.1, oksD_shbB hk hm h.2⟩
end
/-- what repr asks, of numbers to k figures -/
theorem Gd.reprB {m d b : Nat} {x : D} (k : Nat) (h : Gd m d b x) (hk : 12 ≤ k ∧ k ≤ 570) (hm : m < 10 ^ k) (hd : d ≤ 60) (hb : (k + 3) * b + (k + 1) ≤ 16777216) {S : Sto} {Q : DK} (q : Q (.str (shown x)) S) : gRepr [x] S Q := by
  have e := h.rd S
  show ((pur (DL.rd S x) = true ∧ dep (DL.rd S x) ≤ 60) ∧ shb (DL.rd S x) = true ∧ (shown (DL.rd S x)).length ≤ sizeLine) ∧ Q (.str (shown (DL.rd S x))) S
  rw [e]
  have hs := okD_shb (Nat.lt_of_lt_of_le hm (Nat.pow_le_pow_right (by decide) hk.2)) h.ok
  have hl := PyData.shown_le_bulk (k + 1) (by omega) (toPy x) (okD_shbB hk.1 hm h.ok)
  rw [bulk_bk h.ok] at hl
  refine ⟨⟨⟨okD_pur h.ok, Nat.le_trans h.dp hd⟩, hs.1, ?_⟩, q⟩
  have h3 := Nat.mul_le_mul_left (k + 1 + 2) h.bk'
  show (toPy x).shown.length ≤ 16777216
  have e2 : k + 1 + 2 = k + 3 := rfl
  rw [e2] at *
  omega
theorem repr_refB {m d b : Nat} {xs : List D} {S : Sto} {p : Addr} {Q : DK} (k : Nat) (hs : S p = some (.lst xs)) (h : Gds m d b xs) (hk : 12 ≤ k ∧ k ≤ 570) (hm : m < 10 ^ k) (hd : d < 60) (hb : (k + 3) * b + (k + 1) ≤ 16777216) (q : Q (.str (shown (.lst xs))) S) : gRepr [.ref p] S Q := by
  have g : Gd m (d + 1) b (.lst xs) := gd_lst.2 h
  have := g.reprB (S := S) (Q := Q) k hk hm (by omega) hb q
  simp only [gRepr, rd_ref hs]
  simp only [gRepr, g.rd S] at this
  exact this
/-! ### kinds, as plain things -/
/-- how much a sum is -/
theorem sm_gdB {B : Nat} : ∀ (e : Sm), e.Ok → e.Lit B → e.short = true → Gd B (e.ht + 1) (20 * 2 ^ (e.ht + 1) - 10) (smD e)
  | .num i, _, h, _ => gd_tup.2 ((Gds.cons (b := 3) (gd_str (strOk_of "num") (by decide)) (gds1 (b := 0) (gd_int h))).le (Nat.le_refl _) (Nat.le_refl _) (show 3 + 1 + (0 + 1) ≤ 20 * 2 - 10 by decide))
  | .slot x, h, _, hx => gd_tup.2 ((Gds.cons (b := 4) (gd_str (strOk_of "slot") (by decide)) (gds1 (b := 8) (gd_str h (of_decide_eq_true hx)))).le (Nat.le_refl _) (Nat.le_refl _) (show 4 + 1 + (8 + 1) ≤ 20 * 2 - 10 by decide))
  | .bin w a b, h, h2, hx => by
    simp only [Sm.short, Bool.and_eq_true] at hx
    have g1 := sm_gdB a h.1 h2.1 hx.1
    have g2 := sm_gdB b h.2 h2.2 hx.2
    have p1 : 2 ^ (a.ht + 1) ≤ 2 ^ (max a.ht b.ht + 1) := Nat.pow_le_pow_right (by decide) (by omega)
    have p2 : 2 ^ (b.ht + 1) ≤ 2 ^ (max a.ht b.ht + 1) := Nat.pow_le_pow_right (by decide) (by omega)
    have p3 : 2 ≤ 2 ^ (max a.ht b.ht + 1) := Nat.pow_le_pow_right (n := 2) (i := 1) (by decide) (by omega)
    have e : 2 ^ ((Sm.bin w a b).ht + 1) = 2 ^ (max a.ht b.ht + 1) + 2 ^ (max a.ht b.ht + 1) := by
      show 2 ^ (max a.ht b.ht + 1 + 1) = _
      rw [Nat.pow_succ, Nat.mul_two]
    rw [e]
    refine gd_tup.2 ((Gds.cons (d := max a.ht b.ht + 1) (b := 5) ((gd_str (d := 0) (op3_ok w) (b := 5) (by cases w <;> decide)).le (m := B) (Nat.le_refl _) (Nat.zero_le _) (Nat.le_refl _)) (Gds.cons (g1.le (Nat.le_refl _) (by omega) (Nat.le_refl _)) (gds1 (g2.le (Nat.le_refl _) (by omega) (Nat.le_refl _))))).le (Nat.le_refl _) (Nat.le_refl _) ?_)
    generalize 2 ^ (max a.ht b.ht + 1) = M at *
    omega
theorem kd_gdB {B : Nat} {k : Kd} (h : k.Ok) (hl : k.Lit B) (hs : k.short = true) : Gd B (k.ht + 1) (20 * 2 ^ (k.ht + 1)) (kdD k) := by
  cases k with
  | own e =>
    have g := sm_gdB e h.1 hl hs
    have p : 2 ^ ((Kd.own e).ht + 1) = 2 ^ (e.ht + 1) * 2 := rfl
    rw [p]
    refine gd_tup.2 ((Gds.cons (b := 3) (gd_str (strOk_of "own") (by decide)) (gds1 g)).le (Nat.le_refl _) (Nat.le_refl _) ?_)
    have p3 : 2 ≤ 2 ^ (e.ht + 1) := Nat.pow_le_pow_right (n := 2) (i := 1) (by decide) (by omega)
    generalize 2 ^ (e.ht + 1) = M at *
    omega
  | _ => exact gd_str (strOk_of _) (by decide)
end DL


set_option Elab.async false
set_option linter.all false
set_option maxRecDepth 100000
set_option maxHeartbeats 4000000
set_option exponentiation.threshold 4000
namespace DL
open PySem PySem.Spec PyProof.Rows L2
/-! ### what may be written out by repr -/
structure Rp (z : D) : Prop where
  ex : ∃ m d b k, Gd m d b z ∧ (12 ≤ k ∧ k ≤ 570) ∧ m < 10 ^ k ∧ d ≤ 60 ∧ (k + 3) * b + (k + 1) ≤ 16777216
theorem Rp.of {m d b : Nat} {z : D} (k : Nat) (g : Gd m d b z) (hk : 12 ≤ k ∧ k ≤ 570 := by decide) (hm : m < 10 ^ k := by decide +kernel) (hd : d ≤ 60 := by decide) (hb : (k + 3) * b + (k + 1) ≤ 16777216 := by first | decide | omega) : Rp z := ⟨m, d, b, k, g, hk, hm, hd, hb⟩
theorem Rp.pur {z : D} (h : Rp z) (S : Sto) : rd S z = z := by obtain ⟨m, d, b, k, g, _⟩ := h.ex; exact g.rd S
theorem Rp.go {x z : D} {S : Sto} {Q : DK} (h : Rp z) (hx : rd S x = z) (q : Q (.str (shown z)) S) : gRepr [x] S Q := by
  obtain ⟨m, d, b, k, g, hk, hm, hd, hb⟩ := h.ex
  have := g.reprB (S := S) (Q := Q) k hk hm hd hb q
  simp only [gRepr, g.rd S] at this
  simp only [gRepr, hx]
  exact this
theorem Rp.self {z : D} {S : Sto} {Q : DK} (h : Rp z) (q : Q (.str (shown z)) S) : gRepr [z] S Q := h.go (h.pur S) q
theorem ne_text {z : D} {S : Sto} {Q : DK} (q : Q (.bl false) S) : fNe (.str (shown z)) (.str (shown z)) S Q := ne_str (by rw [decide_eq_true rfl]; exact q)
theorem eq_text {z : D} {S : Sto} {Q : DK} (q : Q (.bl true) S) : fEq (.str (shown z)) (.str (shown z)) S Q := eq_str (by rw [decide_eq_true rfl]; exact q)
/-- repr(x) != repr(y), where both are the same -/
theorem Rp.ne2 {x y z : D} {S : Sto} {Q : DK} (h : Rp z) (hx : rd S x = z) (hy : rd S y = z) (q : Q (.bl false) S) : gRepr [x] S fun w S1 => gRepr [y] S1 fun u S2 => fNe w u S2 Q :=
  h.go hx (h.go hy (ne_text q))
theorem Rp.eq2 {x y z : D} {S : Sto} {Q : DK} (h : Rp z) (hx : rd S x = z) (hy : rd S y = z) (q : Q (.bl true) S) : gRepr [x] S fun w S1 => gRepr [y] S1 fun u S2 => fEq w u S2 Q :=
  h.go hx (h.go hy (eq_text q))
/-- repr(x) != text -/
theorem Rp.ne1 {x z : D} {S : Sto} {Q : DK} (h : Rp z) (hx : rd S x = z) (q : Q (.bl false) S) : gRepr [x] S fun w S1 => fNe w (.str (shown z)) S1 Q := h.go hx (ne_text q)
theorem Rp.eq1 {x z : D} {S : Sto} {Q : DK} (h : Rp z) (hx : rd S x = z) (q : Q (.bl true) S) : gRepr [x] S fun w S1 => fEq w (.str (shown z)) S1 Q := h.go hx (eq_text q)
theorem Gds.two {m d b : Nat} {x y : D} (h : Gd m d b x) (h' : Gd m d b y) : Gds m d (2 * b + 2) [x, y] := (Gds.cons h (gds1 h')).le (Nat.le_refl _) (Nat.le_refl _) (by omega)
theorem Gds.three {m d b : Nat} {x y z : D} (h : Gd m d b x) (h' : Gd m d b y) (h'' : Gd m d b z) : Gds m d (3 * b + 3) [x, y, z] := (Gds.cons h (Gds.two h' h'')).le (Nat.le_refl _) (Nat.le_refl _) (by omega)
theorem Gds.four {m d b : Nat} {x y z u : D} (h : Gd m d b x) (h' : Gd m d b y) (h'' : Gd m d b z) (h3 : Gd m d b u) : Gds m d (4 * b + 4) [x, y, z, u] := (Gds.cons h (Gds.three h' h'' h3)).le (Nat.le_refl _) (Nat.le_refl _) (by omega)
end DL


set_option Elab.async false
set_option linter.all false
set_option maxRecDepth 100000
set_option maxHeartbeats 4000000
set_option exponentiation.threshold 4000
namespace DL
open PySem PySem.Spec PyProof.Rows L2
local macro_rules | `(tactic| walk_at "rd") => `(tactic| simp only [startD, List.length_map, List.map_cons, List.map_nil, List.length_cons, List.length_nil, Nat.reduceAdd, Nat.reduceSub, List.replicate, List.cons_append, List.nil_append,
  sSeq, sNext, sAsg, sAsgG, sPar, sPar3, sRet, sRetN, sIf, sExpr, sFor, sWp, sFgt, wipeD, dVar, dC, dUn, dOp, dNil, dCons, dFn, dTst, dNot, dAnd, dOr, dIf, dAndV, dOrV, dNotV, dTup, dLst, dLstR, dSl, dNoPart, dPart, dMt, dMt0, dCall, dChain, dRng1, dRng2, dLc, dLcR, dIt, gNm, dGet2, dGet1, dTupRg, dLstRg, dLstRgR, dR1, dR2, RgOk, dEmp, dEnum, dZip,
  gs_nil0, gs_cons, gTp_t, gStar12, gMax_ii, gSum_l, fIn_t, fNotIn_t, fIn_l, fNotIn_l, ofS_eq, String.reduceEq, decide_true, decide_false, reduceCtorEq, List.getD_cons_zero, List.getD_cons_succ, dTrue,
  List.getElem?_cons_zero, List.getElem?_cons_succ, List.set_cons_zero, List.set_cons_succ,
  fAdd_ii, fAdd_bi, fAdd_ib, fSub_bi, fEq_bi, gStr_b, fAdd_ss, fAdd_tt, fAdd_ll, fSub_ii, fNeg_i, fDiv_ii, fMod_ii, fPow_ii, fMul_ii, fMul_l, fLt_ii, fLe_ii, fGt_ii, fGe_ii, fEq_ii, fNe_ii, fEq_ss, fNe_ss, fIx_t, fIx_l, fSl_t, fSl_l, fSl_s, fRv_t, fRv_l, gList_t, gList_l, gTuple_t, gTuple_l, gStr_i, gStr_s, gInt_b, gInt_i, gLen_lst, gLen_tup, gLen_str,
  isi_non_int, isi_non_bool, isi_non_str, isi_non_tuple, isi_non_list, isi_non_dict, isi_bl_int, isi_bl_bool, isi_bl_str, isi_bl_tuple, isi_bl_list, isi_bl_dict, isi_int_int, isi_int_bool, isi_int_str, isi_int_tuple, isi_int_list, isi_int_dict, isi_str_int, isi_str_bool, isi_str_str, isi_str_tuple, isi_str_list, isi_str_dict, isi_tup_int, isi_tup_bool, isi_tup_str, isi_tup_tuple, isi_tup_list, isi_tup_dict, isi_lst_int, isi_lst_bool, isi_lst_str, isi_lst_tuple, isi_lst_list, isi_lst_dict,
  sz1, Nat.reduceLeDiff, Nat.zero_le, atI_0, atI_1, atI_2, atI_3, qOpt_s, dTru, truOf, Bool.and_true, Bool.true_and, Bool.and_false, Bool.false_and, if_true, if_false, Bool.false_eq_true, true_and, and_true, Bool.not_true, Bool.not_false, ite_true, ite_false])
local macro_rules | `(tactic| walk_at "go") => `(tactic| ((try walk_at "rd"); repeat (refine ⟨by first | decide | omega, ?_⟩; try walk_at "rd")))
/-! ### joins one behind another, by the laws' own look -/
def rGoing (lmg : DSp) : DS :=
  (sSeq (sWp [3, 4] (sFor (dIt (dVar 2)) (gTp 2 (gsCons (gNm 3) (gsCons (gNm 4) gsNil))) (sFgt [3, 4] (sAsg (dCall lmg 4 0 (fun xs _ => xs) E00 (dCons (dVar 0) (dCons (dVar 3) (dCons (dVar 1) (dCons (dVar 4) dNil)))) dNil) 1)))) (sRet (dVar 1)))
theorem goV_snoc (k : Kd) (m : Vl) (js : List (Vl × Vl)) (j : Vl × Vl) : goV k m (js ++ [j]) = mergeV k j.1 (goV k m js) j.2 := by
  unfold goV; rw [List.foldl_append]; rfl
theorem going_ok {ws : List D} {S : Sto} {Q : DK} {E : XD} (h : spOrd 20 ws S Q E) : rGoing spLmg (endsD Q) (startD ["a", "b", "c", "d", "e"] ws) S := by
  obtain ⟨k, m, js, L, L1, rfl, hk, hn, hm, hj, hL, hL1, q⟩ := h
  unfold rGoing
  walk_at "rd"
  refine fLoop jD (fun pre => ([some (kdD k), some (vlD (goV k m pre)), some (.tup (js.map jD)), none, none], S)) (fun _ => True) (fun _ => trivial) rfl trivial (fun pre j post e _ R r => ?_) fun _ => ?_
  · have hjm : j ∈ js := by rw [e]; exact List.mem_append_right _ (List.mem_cons_self ..)
    have hfj := hj j hjm
    rw [show jD j = .tup [vlD j.1, vlD j.2] from rfl]
    walk_at "rd"
    have hft : Fit 2000 k (goV k m pre) := (go_fit hm fun x hx => hj x (by rw [e]; exact List.mem_append_left _ hx)).le (by
      have : pre.length * L1 ≤ js.length * L1 := Nat.mul_le_mul_right _ (by rw [e, List.length_append]; omega)
      omega)
    refine ⟨k, j.1, _, j.2, rfl, hk, hn, ⟨hfj.b.le hL1, hft, hfj.t.le hL1⟩, S, .refl, ?_⟩
    rw [← goV_snoc]
    exact r trivial
  · walk_at "rd"
    exact ends_rt q
end DL


set_option Elab.async false
set_option linter.all false
set_option maxRecDepth 100000
set_option maxHeartbeats 4000000
set_option exponentiation.threshold 4000
namespace DL
open PySem PySem.Spec PyProof.Rows L2 DL
local macro_rules | `(tactic| walk_at "rd") => `(tactic| simp -implicitDefEqProofs only [sSeq_at, dC_at, dUn_at, dOp_at, dNil_at, dCons_at, dFn_at, dNot_at, dAnd_at, dOr_at, dIf_at, dTup_at, dLst_at, dLstR_at, dSl_at, 
  dMt_at, dMt0_at, dNoPart_at, dCall_at, dLc_at, dLcR_at, dLc2_at, dLc2R_at, dEmp_at, dGet1_at, dGet2_at, dLstRg_at, dLstRgR_at, dTupRg_at, dTrue_at, dSrtC_at, dSrtC2_at, gNm_at, gSubD_at, sAsg_at, 
  sAsgG_at, sBrk_at, sCnt_at, sExpr_at, sIf_at, sNext_at, sRet_at, sRetN_at, sFor_at, sFgt_at, sWp_at, dTst_at, dAndV_at, dOrV_at, dNotV_at, dPart_at, dVar_at, dIt_at, dRng1_at, dRng2_at, dTru_at, 
  dChain_at, dEnum_at, dZip_at, dR1_at, dR2_at, sPar_at, sPar3_at, sAug_at, sSeq_at, startD, List.length_map, List.map_cons, List.map_nil, List.length_cons, List.length_nil, Nat.reduceAdd, 
  Nat.reduceSub, List.replicate, List.cons_append, List.nil_append, wipeD, RgOk, gs_nil0, gs_cons, gTp_t, gStar12, gMax_ii, gSum_l, fIn_t, fNotIn_t, fIn_l, fNotIn_l, ofS_eq, String.reduceEq, 
  decide_true, decide_false, reduceCtorEq, List.getD_cons_zero, List.getD_cons_succ, List.getElem?_cons_zero, List.getElem?_cons_succ, List.set_cons_zero, List.set_cons_succ, fAdd_ii, fAdd_bi, 
  fAdd_ib, fSub_bi, fEq_bi, gStr_b, fAdd_ss, fAdd_tt, fAdd_ll, fSub_ii, fNeg_i, fDiv_ii, fMod_ii, fPow_ii, fMul_ii, fMul_l, fLt_ii, fLe_ii, fGt_ii, fGe_ii, fEq_ii, fNe_ii, fEq_ss, fNe_ss, fIx_t, 
  fIx_l, fSl_t, fSl_l, fSl_s, fRv_t, fRv_l, gList_t, gList_l, gTuple_t, gTuple_l, gStr_i, gStr_s, gInt_b, gInt_i, gLen_lst, gLen_tup, gLen_str, isi_non_int, isi_non_bool, isi_non_str, isi_non_tuple, 
  isi_non_list, isi_non_dict, isi_bl_int, isi_bl_bool, isi_bl_str, isi_bl_tuple, isi_bl_list, isi_bl_dict, isi_int_int, isi_int_bool, isi_int_str, isi_int_tuple, isi_int_list, isi_int_dict, 
  isi_str_int, isi_str_bool, isi_str_str, isi_str_tuple, isi_str_list, isi_str_dict, isi_tup_int, isi_tup_bool, isi_tup_str, isi_tup_tuple, isi_tup_list, isi_tup_dict, isi_lst_int, isi_lst_bool, 
  isi_lst_str, isi_lst_tuple, isi_lst_list, isi_lst_dict, sz1, Nat.reduceLeDiff, Nat.zero_le, atI_0, atI_1, atI_2, atI_3, qOpt_s, truOf, Bool.and_true, Bool.true_and, Bool.and_false, Bool.false_and, 
  if_true, if_false, Bool.false_eq_true, true_and, and_true, Bool.not_true, Bool.not_false, ite_true, ite_false, fAddR_ll, gListR_l, gListR_t, ty_lst_s, ty_lst_l, ty_str_s, gApp_s, gExt_sl, gExt_st, gTuple_s, gList_s, gListR_s, gLen_s, fIx_s, fIx_ds, fIx_di, fSet_ds, fSet_di, isDct_s, fGet_ss, fGet_si, dFrz_v, frzR_s, fAddR_s, fAdd_s, su_same, fIn_s1, fNotIn_s1, fIn_s2, fNotIn_s2, fIn_s3, fNotIn_s3, fIn_s4, fNotIn_s4, fIn_s5, fNotIn_s5, fIn_s6, fNotIn_s6, fIn_s7, fNotIn_s7, fEq_bb, fNe_bb, or_true, true_or, or_false, false_or, and_false, false_and])
local macro_rules | `(tactic| walk_at "go") => `(tactic| ((try walk_at "rd"); repeat (first | (refine And.intro (by first | decide | omega) ?_; try walk_at "rd") | (refine later_of ?_; try walk_at "rd"))))
/-! ### lists made with a feed -/
inductive All2 {α β : Type} (P : α → β → Prop) : List α → List β → Prop
  | nil : All2 P [] []
  | cons {x : α} {y : β} {l : List α} {r : List β} : P x y → All2 P l r → All2 P (x :: l) (y :: r)
section
variable {α β : Type} {P : α → β → Prop}
theorem All2.length : ∀ {l : List α} {r : List β}, All2 P l r → r.length = l.length
  | _, _, .nil => rfl
  | _, _, .cons _ t => congrArg (· + 1) t.length
theorem All2.get : ∀ {l : List α} {r : List β} {i : Nat} {x : α}, All2 P l r → l[i]? = some x → ∃ y, r[i]? = some y ∧ P x y
  | _, _, _, _, .nil, e => by simp at e
  | _, _, 0, _, .cons h _, e => by simp at e; subst e; exact ⟨_, rfl, h⟩
  | _, _, i + 1, x, .cons _ t, e => by
    obtain ⟨y, h1, h2⟩ := t.get (i := i) (x := x) (by simpa using e)
    exact ⟨y, by simpa using h1, h2⟩
theorem All2.snoc {x : α} {y : β} : ∀ {l : List α} {r : List β}, All2 P l r → P x y → All2 P (l ++ [x]) (r ++ [y])
  | _, _, .nil, h => .cons h .nil
  | _, _, .cons k t, h => .cons k (t.snoc h)
theorem All2.imp {P' : α → β → Prop} : ∀ {l : List α} {r : List β}, All2 P l r → (∀ x ∈ l, ∀ y, P x y → P' x y) → All2 P' l r
  | _, _, .nil, _ => .nil
  | _, _, .cons h t, f => .cons (f _ (List.mem_cons_self ..) _ h) (t.imp fun x hx => f x (List.mem_cons_of_mem _ hx))
theorem All2.mem : ∀ {l : List α} {r : List β} {y : β}, All2 P l r → y ∈ r → ∃ x ∈ l, P x y
  | _, _, y, .cons h t, e => by
    rcases List.mem_cons.1 e with rfl | e
    · exact ⟨_, List.mem_cons_self .., h⟩
    · obtain ⟨x, h1, h2⟩ := t.mem e
      exact ⟨x, List.mem_cons_of_mem _ h1, h2⟩
end
section
variable {α β : Type} {g : DG} {tt : DT} {te : DE} {env : Env'} {ok : Sto → Prop} {Q : List D → Sto → Prop} {S0 : Sto} {a : Addr} {o : O}
/-- a comprehension that draws -/
theorem cLoop_draw (enc : α → D) (out : β → D) (P : α → β → Prop) {l : List α} (ho : FeedO o) (hok : ∀ S, ok S) (hl : l.length ≤ sizeLine)
    (step : ∀ x ∈ l, ∀ o, FeedO o → ∀ R : D → Sto → Prop, (∀ y o', P x y → FeedO o' → R (out y) (su S0 a o')) → g (enc x) env (su S0 a o) fun env2 S2 => te env2 S2 R)
    (q : ∀ r o', All2 P l r → FeedO o' → Q (r.map out) (su S0 a o')) : cLoop g dTrue te env ok Q (l.map enc) [] (su S0 a o) := by
  have key : ∀ (post pre : List α) (r : List β) (o : O), l = pre ++ post → All2 P pre r → FeedO o → cLoop g dTrue te env ok Q (post.map enc) (r.map out) (su S0 a o) := by
    intro post
    induction post with
    | nil => intro pre r o e h ho; rw [List.append_nil] at e; subst e; exact ⟨hok _, q r o h ho⟩
    | cons x t ih =>
      intro pre r o e h ho
      refine ⟨hok _, ?_⟩
      have := step x (by rw [e]; exact List.mem_append_right _ (List.mem_cons_self ..)) o ho (fun y S4 => (r.map out).length < sizeLine ∧ cLoop g dTrue te env ok Q (t.map enc) (r.map out ++ [y]) S4) fun y o' hy ho' => ⟨by
        rw [List.length_map, h.length]
        have : l.length = pre.length + (x :: t).length := by rw [e, List.length_append]
        simp only [List.length_cons] at this
        omega, by
        have := ih (pre ++ [x]) (r ++ [y]) o' (by rw [List.append_assoc]; exact e) (h.snoc hy) ho'
        rw [List.map_append] at this
        exact this⟩
      exact this
  exact key l [] [] o rfl .nil ho
/-- a comprehension that keeps some, as drawn -/
theorem cLoop_sift (enc : α → D) {l : List α} (ho : FeedO o) (hok : ∀ S, ok S) (hl : l.length ≤ sizeLine)
    (step : ∀ x ∈ l, ∀ o, FeedO o → ∀ (R1 : D → Sto → Prop) (R2 : Sto → Prop), (∀ o', FeedO o' → R1 (enc x) (su S0 a o')) → (∀ o', FeedO o' → R2 (su S0 a o')) → g (enc x) env (su S0 a o) fun env2 S2 => tt env2 S2 fun b S3 => if b = true then te env2 S3 R1 else R2 S3)
    (q : ∀ r o', List.Sublist r l → FeedO o' → Q (r.map enc) (su S0 a o')) : cLoop g tt te env ok Q (l.map enc) [] (su S0 a o) := by
  have key : ∀ (post pre r : List α) (o : O), l = pre ++ post → List.Sublist r pre → FeedO o → cLoop g tt te env ok Q (post.map enc) (r.map enc) (su S0 a o) := by
    intro post
    induction post with
    | nil => intro pre r o e h ho; rw [List.append_nil] at e; subst e; exact ⟨hok _, q r o h ho⟩
    | cons x t ih =>
      intro pre r o e h ho
      refine ⟨hok _, ?_⟩
      refine step x (by rw [e]; exact List.mem_append_right _ (List.mem_cons_self ..)) o ho (fun y S4 => (r.map enc).length < sizeLine ∧ cLoop g tt te env ok Q (t.map enc) (r.map enc ++ [y]) S4) (fun S3 => cLoop g tt te env ok Q (t.map enc) (r.map enc) S3) (fun o' ho' => ⟨by
        rw [List.length_map]
        have h1 := h.length_le
        have : l.length = pre.length + (x :: t).length := by rw [e, List.length_append]
        simp only [List.length_cons] at this
        omega, by
        have := ih (pre ++ [x]) (r ++ [x]) o' (by rw [List.append_assoc]; exact e) (h.append (.refl _)) ho'
        rw [List.map_append] at this
        exact this⟩) fun o' ho' => ih (pre ++ [x]) r o' (by rw [List.append_assoc]; exact e) (h.trans (List.sublist_append_left _ _)) ho'
  exact key l [] [] o rfl .slnil ho
end
/-! ### kinds and what cells have -/
theorem kd_lit {k : Kd} (hk : KdOk k) : k.Lit NB := by
  have h6 : 10 ^ 6 ≤ NB := by decide +kernel
  have := hk.lit
  cases k with
  | own e => exact Sm.Lit.le h6 this
  | _ => trivial
theorem kd_gd {k : Kd} (hk : KdOk k) : Gd NB 6 1280 (kdD k) := (kd_gdB hk.ok hk.lit hk.sh).le (by decide +kernel) (by have := hk.ht; omega) (by
  have h5 : 2 ^ (k.ht + 1) ≤ 2 ^ 6 := Nat.pow_le_pow_right (by decide) (by have := hk.ht; omega)
  omega)
theorem fit_num {L : Nat} {k : Kd} {v : Vl} (h : k.row = false) (f : Fit L k v) : ∃ i, v = .n i := by
  cases k <;> cases v <;> first | exact ⟨_, rfl⟩ | exact f.elim | cases h
theorem fit_row {L : Nat} {k : Kd} {v : Vl} (h : k.row = true) (f : Fit L k v) : ∃ i, v = .t i := by
  cases k <;> cases v <;> first | exact ⟨_, rfl⟩ | exact f.elim | cases h
theorem mg_gd {k : Kd} {b m t : Vl} {L : Nat} (hk : KdOk k) (hb : Fit L k b) (hm : Fit L k m) (ht : Fit L k t) (sb : Sml NB b) (sm : Sml NB m) (st : Sml NB t) : Gd (10 ^ 62) 1 (L + L) (vlD (mergeV k b m t)) := by
  have f := merge_fit hb hm ht
  have s := merge_sml (B := NB) (by decide +kernel) (kd_lit hk) hb hm ht sb sm st
  have p1 : (3 + 2 ^ k.ht) * NB ≤ 10 ^ 62 := by
    have h5 : 2 ^ k.ht ≤ 2 ^ 5 := Nat.pow_le_pow_right (by decide) hk.ht
    exact Nat.le_trans (Nat.mul_le_mul_right _ (show 3 + 2 ^ k.ht ≤ 35 by omega)) (by decide +kernel)
  exact vl_gd f (s.le p1)

/-! ### worth, with slot rows -/
theorem dmerge_new : ∀ (kvs acc : List (Key × D)), ((acc ++ kvs).map (·.1)).Nodup → dmerge acc kvs = acc ++ kvs
  | [], acc, _ => by simp [dmerge]
  | (k, v) :: r, acc, h => by
    have hk : (acc.any fun kv => decide (kv.1 = k)) = false := by
      rw [List.any_eq_false]
      intro x hx e
      have e := of_decide_eq_true e
      rw [List.map_append, List.nodup_append] at h
      exact h.2.2 x.1 (List.mem_map_of_mem hx) k (by simp) e
    have e : dmerge acc ((k, v) :: r) = dmerge (acc ++ [(k, v)]) r := by
      show dmerge (dput acc k v) r = _
      unfold dput
      rw [hk]; rfl
    rw [e, dmerge_new r _ (by rw [List.append_assoc]; exact h), List.append_assoc]; rfl
theorem dmerge_nodup {kvs : List (Key × D)} (h : (kvs.map (·.1)).Nodup) : dmerge [] kvs = kvs := by
  rw [dmerge_new kvs [] (by simpa using h)]; rfl
def srD (p : Str × Int) : D := .tup [.str p.1, .int p.2]
def srK (p : Str × Int) : Key × D := (.inr p.1, .int p.2)
theorem prs_rows : ∀ l : List (Str × Int), prsOf (l.map srD) = some (l.map srK)
  | [] => rfl
  | p :: r => by
    simp only [List.map_cons, srD, prsOf, keyOf]
    rw [prs_rows r]; rfl
/-- what slot rows give -/
def gR (l : List (Str × Int)) : Str → Int := gOf (l.map srK)
theorem rows_ints (l : List (Str × Int)) : IntsD (l.map srK) := fun x w h => by
  unfold dval at h
  obtain ⟨p, hp, rfl⟩ := Option.map_eq_some_iff.1 h
  obtain ⟨q, _, rfl⟩ := List.mem_map.1 (List.mem_of_find?_eq_some hp)
  exact ⟨_, rfl⟩
def rWor (reck : DSp) : DS := (sRet (dCall reck 2 0 (fun xs _ => xs) E00 (dCons (dVar 0) (dCons (dFn gDict (dCons (dVar 1) dNil)) dNil)) dNil))
def spWor (n : Nat) : DSp := fun ws S Q _ => ∃ e l, ws = [smD e, .tup (l.map srD)] ∧ e.ht < n ∧ (l.map (·.1)).Nodup ∧ Q (.int (e.worth (gR l))) S
theorem wor_ok {n : Nat} {ws : List D} {S : Sto} {Q : DK} {E : XD} (h : spWor n ws S Q E) : rWor (spReck n) (endsD Q) (startD ["a", "b"] ws) S := by
  obtain ⟨e, l, rfl, hh, hn, q⟩ := h
  unfold rWor
  walk_at "go"
  simp only [gDict, itsOf, Option.bind_some, prs_rows]
  rw [dmerge_nodup (by
    rw [List.map_map]
    have : (Prod.fst ∘ srK : Str × Int → Key) = Sum.inr ∘ Prod.fst := rfl
    rw [this, ← List.map_map]
    exact hn.map _ fun x y h e => h (Sum.inr.inj e))]
  intro p hp
  walk_at "go"
  exact ⟨e, p, _, rfl, hh, su_same, rows_ints l, S, Sub.new hp, q⟩
section
variable {S : Sto} {Q : DK}
theorem kIn2 {k : Kd} (hk : k.Ok) {a b : String} : fIn (kdD k) (.tup [.str (Str.ofString a), .str (Str.ofString b)]) S Q = Q (.bl (!k.isOwn && decide (k.name = a ∨ k.name = b))) S := (kdIn hk [a, b]).trans (by simp only [List.mem_cons, List.not_mem_nil, or_false])
theorem kIn3 {k : Kd} (hk : k.Ok) {a b c : String} : fIn (kdD k) (.tup [.str (Str.ofString a), .str (Str.ofString b), .str (Str.ofString c)]) S Q = Q (.bl (!k.isOwn && decide (k.name = a ∨ k.name = b ∨ k.name = c))) S := (kdIn hk [a, b, c]).trans (by simp only [List.mem_cons, List.not_mem_nil, or_false])
end
theorem cut_take {α : Type} (z : List α) {i : Int} (h0 : 0 ≤ i) : cut z none (some i) = z.take i.toNat := by
  unfold cut
  simp only [HT.sIx]
  rw [List.drop_zero, if_neg (by omega), Nat.sub_zero]
  by_cases h : i.toNat ≤ z.length
  · rw [Nat.min_eq_left h]
  · rw [Nat.min_eq_right (by omega), List.take_of_length_le (Nat.le_refl _), List.take_of_length_le (by omega)]
theorem iteP {p A B : Prop} [Decidable p] (h : p) (a : A) : if decide p = true then A else B := by rw [decide_eq_true h]; exact a
theorem iteN {p A B : Prop} [Decidable p] (h : ¬p) (b : B) : if decide p = true then A else B := by rw [decide_eq_false h]; exact b

end DL


set_option Elab.async false
set_option linter.all false
set_option maxRecDepth 100000
set_option maxHeartbeats 4000000
set_option exponentiation.threshold 4000
namespace DL
open PySem PySem.Spec PyProof.Rows L2 DL
local macro_rules | `(tactic| walk_at "rd") => `(tactic| simp -implicitDefEqProofs only [sSeq_at, dC_at, dUn_at, dOp_at, dNil_at, dCons_at, dFn_at, dNot_at, dAnd_at, dOr_at, dIf_at, dTup_at, dLst_at, dLstR_at, dSl_at, 
  dMt_at, dMt0_at, dNoPart_at, dCall_at, dLc_at, dLcR_at, dLc2_at, dLc2R_at, dEmp_at, dGet1_at, dGet2_at, dLstRg_at, dLstRgR_at, dTupRg_at, dTrue_at, dSrtC_at, dSrtC2_at, gNm_at, gSubD_at, sAsg_at, 
  sAsgG_at, sBrk_at, sCnt_at, sExpr_at, sIf_at, sNext_at, sRet_at, sRetN_at, sFor_at, sFgt_at, sWp_at, dTst_at, dAndV_at, dOrV_at, dNotV_at, dPart_at, dVar_at, dIt_at, dRng1_at, dRng2_at, dTru_at, 
  dChain_at, dEnum_at, dZip_at, dR1_at, dR2_at, sPar_at, sPar3_at, sAug_at, sSeq_at, startD, List.length_map, List.map_cons, List.map_nil, List.length_cons, List.length_nil, Nat.reduceAdd, 
  Nat.reduceSub, List.replicate, List.cons_append, List.nil_append, wipeD, RgOk, gs_nil0, gs_cons, gTp_t, gStar12, gMax_ii, gSum_l, fIn_t, fNotIn_t, fIn_l, fNotIn_l, ofS_eq, String.reduceEq, 
  decide_true, decide_false, reduceCtorEq, List.getD_cons_zero, List.getD_cons_succ, List.getElem?_cons_zero, List.getElem?_cons_succ, List.set_cons_zero, List.set_cons_succ, fAdd_ii, fAdd_bi, 
  fAdd_ib, fSub_bi, fEq_bi, gStr_b, fAdd_ss, fAdd_tt, fAdd_ll, fSub_ii, fNeg_i, fDiv_ii, fMod_ii, fPow_ii, fMul_ii, fMul_l, fLt_ii, fLe_ii, fGt_ii, fGe_ii, fEq_ii, fNe_ii, fEq_ss, fNe_ss, fIx_t, 
  fIx_l, fSl_t, fSl_l, fSl_s, fRv_t, fRv_l, gList_t, gList_l, gTuple_t, gTuple_l, gStr_i, gStr_s, gInt_b, gInt_i, gLen_lst, gLen_tup, gLen_str, isi_non_int, isi_non_bool, isi_non_str, isi_non_tuple, 
  isi_non_list, isi_non_dict, isi_bl_int, isi_bl_bool, isi_bl_str, isi_bl_tuple, isi_bl_list, isi_bl_dict, isi_int_int, isi_int_bool, isi_int_str, isi_int_tuple, isi_int_list, isi_int_dict, 
  isi_str_int, isi_str_bool, isi_str_str, isi_str_tuple, isi_str_list, isi_str_dict, isi_tup_int, isi_tup_bool, isi_tup_str, isi_tup_tuple, isi_tup_list, isi_tup_dict, isi_lst_int, isi_lst_bool, 
  isi_lst_str, isi_lst_tuple, isi_lst_list, isi_lst_dict, sz1, Nat.reduceLeDiff, Nat.zero_le, atI_0, atI_1, atI_2, atI_3, qOpt_s, truOf, Bool.and_true, Bool.true_and, Bool.and_false, Bool.false_and, 
  if_true, if_false, Bool.false_eq_true, true_and, and_true, Bool.not_true, Bool.not_false, ite_true, ite_false, fAddR_ll, gListR_l, gListR_t, ty_lst_s, ty_lst_l, ty_str_s, gApp_s, gExt_sl, gExt_st, gTuple_s, gList_s, gListR_s, gLen_s, fIx_s, fIx_ds, fIx_di, fSet_ds, fSet_di, isDct_s, fGet_ss, fGet_si, dFrz_v, frzR_s, fAddR_s, fAdd_s, su_same, fIn_s1, fNotIn_s1, fIn_s2, fNotIn_s2, fIn_s3, fNotIn_s3, fIn_s4, fNotIn_s4, fIn_s5, fNotIn_s5, fIn_s6, fNotIn_s6, fIn_s7, fNotIn_s7, fEq_bb, fNe_bb, or_true, true_or, or_false, false_or, and_false, false_and])
local macro_rules | `(tactic| walk_at "go") => `(tactic| ((try walk_at "rd"); repeat (first | (refine And.intro (by first | decide | omega) ?_; try walk_at "rd") | (refine later_of ?_; try walk_at "rd"))))
def rNums (sp_numbers_of : DSp) : DS :=
  (sSeq (sAsgG (dVar 0) (gStar 1 2 (gsCons (gNm 1) (gsCons (gNm 2) gsNil)))) (sSeq (sIf (dTst (dOp fEq (dVar 1) (dC (.str "num")))) (sRet (dTup (dCons (dC (.int 0)) (dCons (dC (.int 0)) (dCons (dC (.int 0)) (dCons (dOp fIx (dVar 2) (dC (.int 0))) dNil)))))) sNext) (sSeq (sIf (dTst (dOp fEq (dVar 1) (dC (.str "slot")))) (sRet (dOp fAdd (dFn gTuple (dCons (dLc (dIt (dC (.tup [(.str "base"), (.str "mine"), (.str "theirs")]))) (gNm 3) dTrue (dFn gInt (dCons (dOp fEq (dOp fIx (dVar 2) (dC (.int 0))) (dVar 3)) dNil)) [3]) dNil)) (dTup (dCons (dC (.int 0)) dNil)))) sNext) (sSeq (sPar 4 5 (dCons (dCall sp_numbers_of 1 0 (fun xs _ => xs) E00 (dCons (dOp fIx (dVar 2) (dC (.int 0))) dNil) dNil) (dCons (dCall sp_numbers_of 1 0 (fun xs _ => xs) E00 (dCons (dOp fIx (dVar 2) (dC (.int 1))) dNil) dNil) dNil))) (sSeq (sIf (dOr (dTst (dOp fEq (dVar 1) (dC (.str "less")))) (dOr (dTst (dOp fIs (dVar 4) (dC .non))) (dTst (dOp fIs (dVar 5) (dC .non))))) (sRet (dC .non)) sNext) (sSeq (sAsg (dIf (dTst (dOp fEq (dVar 1) (dC (.str "plus")))) (dC (.int 1)) (dUn fNeg (dC (.int 1)))) 6) (sRet (dFn gTuple (dCons (dLc (dZip (dCons (dVar 4) (dCons (dVar 5) dNil))) (gTp 2 (gsCons (gNm 7) (gsCons (gNm 8) gsNil))) dTrue (dOp fAdd (dVar 7) (dOp fMul (dVar 6) (dVar 8))) [7, 8]) dNil)))))))))
/-! ### the four numbers of a sum without less -/
def Op3.sg : Op3 → Int
  | .plus => 1
  | _ => -1
def Sm.nums : Sm → Option (List Int)
  | .num i => some [0, 0, 0, i]
  | .slot x => some [b2 (decide (x = Str.ofString "base")), b2 (decide (x = Str.ofString "mine")), b2 (decide (x = Str.ofString "theirs")), 0]
  | .bin w a b => match w, a.nums, b.nums with
    | .less, _, _ => none
    | w, some xs, some ys => some (List.zipWith (fun i j => i + w.sg * j) xs ys)
    | _, _, _ => none
def numD : Option (List Int) → D
  | none => .non
  | some l => .tup (l.map .int)
theorem zpD_ints : ∀ xs ys : List Int, zpD (xs.map .int) (ys.map .int) = (List.zipWith (fun i j => (i, j)) xs ys).map fun p => .tup [.int p.1, .int p.2]
  | [], _ => by cases ‹List Int› <;> rfl
  | _ :: _, [] => rfl
  | x :: r, y :: q => by
    have := zpD_ints r q
    simp only [List.map_cons, zpD, List.zipWith_cons_cons, this]
theorem nums_len : ∀ (e : Sm) {l : List Int}, e.nums = some l → l.length = 4
  | .num _, l, h => by cases h; rfl
  | .slot _, l, h => by cases h; rfl
  | .bin w a b, l, h => by
    unfold Sm.nums at h
    split at h
    · cases h
    · next xs ys _ ha hb =>
      injection h with h; subst h
      rw [List.length_zipWith, nums_len a ha, nums_len b hb]; rfl
    · cases h
theorem fIs_nn {S : Sto} {Q : DK} : fIs .non .non S Q = Q (.bl true) S := rfl
theorem fIs_tn {xs : List D} {S : Sto} {Q : DK} : fIs (.tup xs) .non S Q = Q (.bl false) S := rfl
def spNums (n : Nat) : DSp := fun ws S Q _ => ∃ e : Sm, ws = [smD e] ∧ e.ht < n ∧ Q (numD e.nums) S
theorem nums_ok {n : Nat} {ws : List D} {S : Sto} {Q : DK} {E : XD} (h : spNums (n + 1) ws S Q E) : rNums (spNums n) (endsD Q) (startD ["a", "b", "c", "d", "e", "f", "g", "h", "i"] ws) S := by
  obtain ⟨e, rfl, hn, q⟩ := h
  have hsz : sizeLine = 16777216 := rfl
  unfold rNums
  cases e with
  | num i =>
    simp only [smD]
    walk_at "go"
    exact ends_rt q
  | slot x =>
    simp only [smD]
    walk_at "go"
    refine cLoop_mapA (l := ["base", "mine", "theirs"]) (fun z : String => D.str (Str.ofString z)) (fun z => .int (b2 (decide (x = Str.ofString z)))) trivial (by decide) (fun y hy R q => ?_) ?_
    · walk_at "go"
      exact q
    walk_at "go"
    exact ends_rt q
  | bin w a b =>
    have ht : (Sm.bin w a b).ht = max a.ht b.ht + 1 := rfl
    have hw1 : (decide (w.str = Str.ofString "num")) = false := by cases w <;> decide +kernel
    have hw2 : (decide (w.str = Str.ofString "slot")) = false := by cases w <;> decide +kernel
    simp only [smD]
    walk_at "go"
    simp only [hw1]
    walk_at "go"
    simp only [hw2]
    walk_at "go"
    refine ⟨a, rfl, by omega, b, rfl, by omega, ?_⟩
    walk_at "go"
    cases w with
    | less =>
      rw [show (decide (Op3.less.str = Str.ofString "less")) = true from rfl]
      walk_at "go"
      exact ends_rt q
    | plus => 
      rw [show (decide (Op3.plus.str = Str.ofString "less")) = false from by decide +kernel]
      walk_at "go"
      cases ha : a.nums with
      | none =>
        simp only [numD, fIs_nn]
        walk_at "go"
        simp only [Sm.nums, ha] at q
        exact ends_rt q
      | some xs =>
        simp only [numD, fIs_tn]
        walk_at "go"
        cases hb : b.nums with
        | none =>
          simp only [numD, fIs_nn]
          walk_at "go"
          simp only [Sm.nums, ha, hb] at q
          exact ends_rt q
        | some ys =>
          simp only [numD, fIs_tn]
          walk_at "go"
          simp only [Sm.nums, ha, hb] at q
          have hx := nums_len a ha
          have hy := nums_len b hb
          rw [zpD_ints]
          refine cLoop_mapA (fun p : Int × Int => D.tup [.int p.1, .int p.2]) (fun p => .int (p.1 + Op3.sg .plus * p.2)) trivial (by rw [List.length_zipWith, hx, hy]; decide) (fun y hy R q => ?_) ?_
          · walk_at "go"
            exact ⟨.inl (by decide), q⟩
          walk_at "go"
          rw [List.map_zipWith]
          have e := q
          rw [numD, List.map_zipWith] at e
          exact ends_rt e
    | minus =>
      rw [show (decide (Op3.minus.str = Str.ofString "less")) = false from by decide +kernel]
      walk_at "go"
      cases ha : a.nums with
      | none =>
        simp only [numD, fIs_nn]
        walk_at "go"
        simp only [Sm.nums, ha] at q
        exact ends_rt q
      | some xs =>
        simp only [numD, fIs_tn]
        walk_at "go"
        cases hb : b.nums with
        | none =>
          simp only [numD, fIs_nn]
          walk_at "go"
          simp only [Sm.nums, ha, hb] at q
          exact ends_rt q
        | some ys =>
          simp only [numD, fIs_tn]
          walk_at "go"
          simp only [Sm.nums, ha, hb] at q
          have hx := nums_len a ha
          have hy := nums_len b hb
          rw [zpD_ints]
          refine cLoop_mapA (fun p : Int × Int => D.tup [.int p.1, .int p.2]) (fun p => .int (p.1 + Op3.sg .minus * p.2)) trivial (by rw [List.length_zipWith, hx, hy]; decide) (fun y hy R q => ?_) ?_
          · walk_at "go"
            exact ⟨.inl (by decide), q⟩
          walk_at "go"
          rw [List.map_zipWith]
          have e := q
          rw [numD, List.map_zipWith] at e
          exact ends_rt e

end DL


set_option Elab.async false
set_option linter.all false
set_option maxRecDepth 100000
set_option maxHeartbeats 4000000
set_option exponentiation.threshold 4000
namespace DL
open PySem PySem.Spec PyProof.Rows L2 DL
local macro_rules | `(tactic| walk_at "rd") => `(tactic| simp -implicitDefEqProofs only [sSeq_k, sLk_at, dLk_at, dItW_at, lkOf_s, fSet_41, fSet_42, fSet_43, dC_at, dUn_at, dOp_at, dNil_at, dCons_at, dFn_at, dNot_at, dAnd_at, dOr_at, dIf_at, dTup_at, dLst_at, dLstR_at, dSl_at, 
  dDisp_k, dPairs_n, dPairs_c, dispK_1, dispK_3, dMt_at, dMt0_at, dNoPart_at, dCall_at, dLc_at, dLcR_at, dLc2_at, dLc2R_at, dEmp_at, dGet1_at, dGet2_at, dLstRg_at, dLstRgR_at, dTupRg_at, dTrue_at, dSrtC_at, dSrtC2_at, gNm_at, gSubD_at, sAsg_at, 
  sAsgG_at, sBrk_at, sCnt_at, sExpr_at, sIf_at, sNext_at, sRet_at, sRetN_at, sFor_at, sFgt_at, sWp_at, dTst_at, dAndV_at, dOrV_at, dNotV_at, dPart_at, dVar_at, dIt_at, dRng1_at, dRng2_at, dTru_at, 
  dChain_at, dEnum_at, dZip_at, dR1_at, dR2_at, sPar_at, sPar3_at, sAug_at, sSeq_k, startD, List.length_map, List.map_cons, List.map_nil, List.length_cons, List.length_nil, Nat.reduceAdd, 
  Nat.reduceSub, List.replicate, List.cons_append, List.nil_append, wipeD, RgOk, gs_nil0, gs_cons, gTp_t, gStar12, gMax_ii, gSum_l, fIn_t, fNotIn_t, fIn_l, fNotIn_l, ofS_eq, String.reduceEq, 
  decide_true, decide_false, reduceCtorEq, List.getD_cons_zero, List.getD_cons_succ, List.getElem?_cons_zero, List.getElem?_cons_succ, List.set_cons_zero, List.set_cons_succ, fAdd_ii, fAdd_bi, 
  fAdd_ib, fSub_bi, fEq_bi, gStr_b, fAdd_ss, fAdd_tt, fAdd_ll, fSub_ii, fNeg_i, fDiv_ii, fMod_ii, fPow_ii, fMul_ii, fMul_l, fLt_ii, fLe_ii, fGt_ii, fGe_ii, fEq_ii, fNe_ii, fEq_ss, fNe_ss, fIx_t, 
  fIx_l, fSl_t, fSl_l, fSl_s, fRv_t, fRv_l, gList_t, gList_l, gTuple_t, gTuple_l, gStr_i, gStr_s, gInt_b, gInt_i, gLen_lst, gLen_tup, gLen_str, isi_non_int, isi_non_bool, isi_non_str, isi_non_tuple, 
  isi_non_list, isi_non_dict, isi_bl_int, isi_bl_bool, isi_bl_str, isi_bl_tuple, isi_bl_list, isi_bl_dict, isi_int_int, isi_int_bool, isi_int_str, isi_int_tuple, isi_int_list, isi_int_dict, 
  isi_str_int, isi_str_bool, isi_str_str, isi_str_tuple, isi_str_list, isi_str_dict, isi_tup_int, isi_tup_bool, isi_tup_str, isi_tup_tuple, isi_tup_list, isi_tup_dict, isi_lst_int, isi_lst_bool, 
  isi_lst_str, isi_lst_tuple, isi_lst_list, isi_lst_dict, sz1, Int.natCast_one, Int.natCast_zero, Int.cast_ofNat_Int, Nat.reduceLeDiff, Nat.zero_le, atI_0, atI_1, atI_2, atI_3, qOpt_s, truOf, Bool.and_true, Bool.true_and, Bool.and_false, Bool.false_and, 
  if_true, if_false, Bool.false_eq_true, true_and, and_true, Bool.not_true, Bool.not_false, ite_true, ite_false, fAddR_ll, gListR_l, gListR_t, ty_lst_s, ty_lst_l, ty_str_s, gApp_s, gExt_sl, gExt_st, gTuple_s, gList_s, gListR_s, gLen_s, fIx_s, fIx_ds, fIx_di, fSet_ds, fSet_di, isDct_s, fGet_ss, fGet_si, dFrz_v, frzR_s, fAddR_s, fAdd_s, su_same, fIn_s1, fNotIn_s1, fIn_s2, fNotIn_s2, fIn_s3, fNotIn_s3, fIn_s4, fNotIn_s4, fIn_s5, fNotIn_s5, fIn_s6, fNotIn_s6, fIn_s7, fNotIn_s7, fEq_bb, fNe_bb, or_true, true_or, or_false, false_or, and_false, false_and])
local macro_rules | `(tactic| walk_at "go") => `(tactic| ((try walk_at "rd"); repeat (first | (refine And.intro (by first | decide | omega) ?_; try walk_at "rd") | (refine late_of ?_; try walk_at "rd"))))
/-! ### drawing objects: F c, at most c draws so far -/
structure DrF (F : Nat → O → Prop) : Prop where
  mono : ∀ c c' o, c ≤ c' → F c o → F c' o
def spDr (F : Nat → O → Prop) : DSp := fun ws S Q _ => ∃ a many c o, ws = [.ref a, .int many] ∧ (0 < many ∧ many < 1073741824) ∧ S a = some o ∧ F c o ∧ c < 1000000000 ∧ ∀ r o', 0 ≤ r → r < many → F (c + 1) o' → Q (.int r) (su S a o')
section
variable {F : Nat → O → Prop}
theorem dr_su {a : Addr} {many : Int} {c : Nat} {S : Sto} {Q : DK} {E : XD} {o : O} (ho : F c o) (hc : c < 1000000000) (h0 : 0 < many) (h1 : many < 1073741824) (q : ∀ r o', 0 ≤ r → r < many → F (c + 1) o' → Q (.int r) (su S a o')) : spDr F [.ref a, .int many] (su S a o) Q E :=
  ⟨a, many, c, o, rfl, ⟨h0, h1⟩, su_same, ho, hc, fun r o' h2 h3 h4 => by rw [su_su]; exact q r o' h2 h3 h4⟩
theorem dr_at {a : Addr} {many : Int} {c : Nat} {S : Sto} {Q : DK} {E : XD} {o : O} (hs : S a = some o) (ho : F c o) (hc : c < 1000000000) (h0 : 0 < many) (h1 : many < 1073741824) (q : ∀ r o', 0 ≤ r → r < many → F (c + 1) o' → Q (.int r) (su S a o')) : spDr F [.ref a, .int many] S Q E :=
  ⟨a, many, c, o, rfl, ⟨h0, h1⟩, hs, ho, hc, q⟩
end
section
variable {F : Nat → O → Prop} {α β : Type} {g : DG} {tt : DT} {te : DE} {env : Env'} {ok : Sto → Prop} {Q : List D → Sto → Prop} {S0 : Sto} {a : Addr} {o : O} {c : Nat}
/-- a comprehension that draws, at most k times a turn -/
theorem cLoop_dr (k : Nat) (enc : α → D) (out : β → D) (P : α → β → Prop) {l : List α} (ho : F c o) (hok : ∀ S, ok S) (hl : l.length ≤ sizeLine)
    (step : ∀ x ∈ l, ∀ c' o, c' + k ≤ c + l.length * k → F c' o → ∀ R : D → Sto → Prop, (∀ y o', P x y → F (c' + k) o' → R (out y) (su S0 a o')) → g (enc x) env (su S0 a o) fun env2 S2 => te env2 S2 R)
    (q : ∀ r o', All2 P l r → F (c + l.length * k) o' → Q (r.map out) (su S0 a o')) : cLoop g dTrue te env ok Q (l.map enc) [] (su S0 a o) := by
  have key : ∀ (post pre : List α) (r : List β) (o : O), l = pre ++ post → All2 P pre r → F (c + pre.length * k) o → cLoop g dTrue te env ok Q (post.map enc) (r.map out) (su S0 a o) := by
    intro post
    induction post with
    | nil => intro pre r o e h ho; rw [List.append_nil] at e; subst e; exact ⟨hok _, q r o h ho⟩
    | cons x t ih =>
      intro pre r o e h ho
      refine ⟨hok _, ?_⟩
      have hlen : l.length = pre.length + (t.length + 1) := by rw [e, List.length_append, List.length_cons]
      have := step x (by rw [e]; exact List.mem_append_right _ (List.mem_cons_self ..)) _ o (by rw [hlen, Nat.add_mul, Nat.succ_mul]; omega) ho (fun y S4 => (r.map out).length < sizeLine ∧ cLoop g dTrue te env ok Q (t.map enc) (r.map out ++ [y]) S4) fun y o' hy ho' => ⟨by
        rw [List.length_map, h.length]
        omega, by
        have := ih (pre ++ [x]) (r ++ [y]) o' (by rw [List.append_assoc]; exact e) (h.snoc hy) (by rw [List.length_append, List.length_singleton, Nat.succ_mul, ← Nat.add_assoc]; exact ho')
        rw [List.map_append] at this
        exact this⟩
      exact this
  exact key l [] [] o rfl .nil (by rw [List.length_nil, Nat.zero_mul]; exact ho)
end
/-! ### the tape -/
def tapO (cells : List Int) (t l n : Int) : O := .lst [.lst (cells.map .int), .int t, .int l, .int n]
def TapO (_ : Nat) (o : O) : Prop := ∃ cells t l n, o = tapO cells t l n ∧ 0 ≤ t
structure Tp where
  d0 : Int
  m1 : Int
  a1 : Int
  b1 : Int
  q1 : Int
  a2 : Int
  b2 : Int
  q2 : Int
  a3 : Int
  b3 : Int
  q3 : Int
  v : Int
  top : Int
structure Tp.Ok (p : Tp) : Prop where
  m1 : 0 < p.m1
  a1 : -2 ^ 64 < p.a1 ∧ p.a1 < 2 ^ 64
  q1 : 0 < p.q1 ∧ p.q1 < 2 ^ 64
  a2 : -2 ^ 64 < p.a2 ∧ p.a2 < 2 ^ 64
  q2 : 0 < p.q2 ∧ p.q2 < 2 ^ 64
  a3 : -2 ^ 64 < p.a3 ∧ p.a3 < 2 ^ 64
  q3 : 0 < p.q3
  v : 0 < p.v ∧ p.v < 1073741824
def rTape (p : Tp) : DS :=
  (sRet (dLstR (dCons (dFn gList (dCons (dSl (dVar 0) dNoPart (dPart (dC (.int p.top)))) dNil)) (dCons (dC (.int 0)) (dCons (dC (.int 0)) (dCons (dC (.int 0)) dNil))))))
def spTape : DSp := fun ws S Q _ => ∃ ns : List Int, ws = [.scr (ns.map .int)] ∧ ns.length ≤ 63 ∧ ∀ a o, S a = none → TapO 0 o → Q (.ref a) (su S a o)
theorem tape_ok {p : Tp} {S : Sto} {Q : DK} {E : XD} {ws : List D} (h : spTape ws S Q E) : rTape p (endsD Q) (startD ["_law_script"] ws) S := by
  obtain ⟨ns, rfl, hn, q⟩ := h
  unfold rTape
  walk_at "go"
  intro a ha
  refine ends_rt (q a _ ha ?_)
  refine ⟨cut ns none (some p.top), 0, 0, 0, ?_, by decide⟩
  unfold tapO cut
  rw [List.length_map, List.map_take, List.map_drop]
def rPickE (p : Tp) : DS :=
  (sSeq (sAsg (dOp fMod (dOp fAdd (dOp fAdd (dOp fMod (dVar 4) (dC (.int p.m1))) (dOp fMul (dC (.int p.a1)) (dOp fIx (dVar 0) (dC (.int 3))))) (dC (.int p.b1))) (dC (.int p.q1))) 5) (sSeq (sAsg (dOp fMod (dOp fAdd (dOp fAdd (dOp fMul (dVar 5) (dVar 5)) (dOp fMul (dC (.int p.a2)) (dOp fIx (dVar 0) (dC (.int 3))))) (dC (.int p.b2))) (dC (.int p.q2))) 5) (sSeq (sAsg (dOp fMod (dOp fAdd (dOp fAdd (dOp fMul (dVar 5) (dVar 5)) (dOp fMul (dC (.int p.a3)) (dVar 5))) (dC (.int p.b3))) (dC (.int p.q3))) 5) (sRet (dOp fMod (dOp fDiv (dVar 5) (dC (.int p.v))) (dVar 1))))))
def rPickM (p : Tp) : DS :=
  (sSeq (sIf (dAnd (dTst (dOp fGe (dVar 4) (dOp fPow (dC (.int 10)) (dC (.int 18))))) (dTst (dOp fLt (dVar 3) (dFn gLen (dCons (dOp fIx (dVar 0) (dC (.int 0))) dNil))))) (sSeq (sAsgG (dOp fDiv (dVar 4) (dVar 1)) (gSubD (dVar 0) (dC (.int 2)))) (sRet (dOp fMod (dVar 4) (dVar 1)))) sNext) (rPickE p))
def rPick (p : Tp) : DS :=
  (sSeq (sAsgG (dOp fAdd (dOp fIx (dVar 0) (dC (.int 3))) (dC (.int 1))) (gSubD (dVar 0) (dC (.int 3)))) (sSeq (sIf (dTst (dOp fGt (dOp fIx (dVar 0) (dC (.int 2))) (dC (.int 0)))) (sSeq (sAsg (dOp fMod (dOp fIx (dVar 0) (dC (.int 2))) (dVar 1)) 2) (sSeq (sAsgG (dOp fDiv (dOp fIx (dVar 0) (dC (.int 2))) (dVar 1)) (gSubD (dVar 0) (dC (.int 2)))) (sRet (dVar 2)))) sNext) (sSeq (sAsg (dOp fIx (dVar 0) (dC (.int 1))) 3) (sSeq (sAsgG (dOp fAdd (dVar 3) (dC (.int 1))) (gSubD (dVar 0) (dC (.int 1)))) (sSeq (sAsg (dIf (dTst (dOp fNe (dOp fIx (dVar 0) (dC (.int 0))) (dLst dNil))) (dOp fIx (dOp fIx (dVar 0) (dC (.int 0))) (dOp fMod (dVar 3) (dFn gLen (dCons (dOp fIx (dVar 0) (dC (.int 0))) dNil)))) (dC (.int p.d0))) 4) (rPickM p))))))
theorem pickE_ok {p : Tp} (hp : p.Ok) {S : Sto} {Q : DK} {a : Addr} {many x3 cell t l n : Int} {y : Option D} {c : Nat} {cs : List Int} (h0 : 0 < many) (ht : 0 ≤ t) (q : ∀ r o, 0 ≤ r → r < many → TapO c o → Q (.int r) (su S a o)) :
    rPickE p (endsD Q) [some (.ref a), some (.int many), y, some (.int x3), some (.int cell), none] (su S a (tapO cs t l n)) := by
  have m2 : ∀ x y : Int, 0 < y → y < 2 ^ 64 → CMul (x % y) (x % y) := fun x y h h' => .inl ⟨by have := Int.emod_nonneg x (b := y) (by omega); omega, by have := Int.emod_lt_of_pos x h; omega⟩
  have h1 := hp.m1; have h2 := hp.q1; have h3 := hp.q2; have h4 := hp.q3; have h5 := hp.v
  unfold rPickE tapO
  walk_at "go"
  refine ⟨.inl hp.a1, ?_⟩
  walk_at "go"
  refine ⟨m2 _ _ hp.q1.1 hp.q1.2, .inl hp.a2, ?_⟩
  walk_at "go"
  refine ⟨m2 _ _ hp.q2.1 hp.q2.2, .inl hp.a3, ?_⟩
  walk_at "go"
  exact ends_rt (q _ _ (Int.emod_nonneg _ (by omega)) (Int.emod_lt_of_pos _ h0) ⟨_, _, _, _, rfl, ht⟩)
theorem pickM_ok {p : Tp} (hp : p.Ok) {S : Sto} {Q : DK} {a : Addr} {many x3 cell t l n : Int} {y : Option D} {c : Nat} {cs : List Int} (h0 : 0 < many) (h1 : many < 1073741824) (ht : 0 ≤ t) (q : ∀ r o, 0 ≤ r → r < many → TapO c o → Q (.int r) (su S a o)) :
    rPickM p (endsD Q) [some (.ref a), some (.int many), y, some (.int x3), some (.int cell), none] (su S a (tapO cs t l n)) := by
  have nxt := pickE_ok hp (x3 := x3) (cell := cell) (l := l) (n := n) (y := y) (cs := cs) h0 ht q
  unfold tapO at nxt
  unfold rPickM tapO
  walk_at "go"
  refine ⟨⟨by decide, by decide, by decide⟩, ?_⟩
  have e18 : ((10 : Int) ^ (18 : Int).toNat) = 1000000000000000000 := rfl
  rw [e18]
  refine ite_by (fun _ => ?_) fun _ => ?_
  · walk_at "go"
    refine ite_by (fun _ => ?_) fun _ => ?_
    · walk_at "go"
      exact ends_rt (q _ _ (Int.emod_nonneg _ (by omega)) (Int.emod_lt_of_pos _ h0) ⟨cs, _, _, _, rfl, ht⟩)
    · walk_at "go"
      exact nxt
  · walk_at "go"
    exact nxt
theorem pick_ok {p : Tp} (hp : p.Ok) {S : Sto} {Q : DK} {E : XD} {ws : List D} (h : spDr TapO ws S Q E) : rPick p (endsD Q) (startD ["a", "b", "c", "d", "e", "f"] ws) S := by
  obtain ⟨a, many, c, o, rfl, ⟨h0, h1⟩, hs, ⟨cs, t, l, n, rfl, ht⟩, hc, q⟩ := h
  rw [← su_self hs]
  unfold rPick tapO
  walk_at "go"
  refine ite_by (fun hl => ?_) fun hl => ?_
  · walk_at "go"
    exact ends_rt (q _ _ (Int.emod_nonneg _ (by omega)) (Int.emod_lt_of_pos _ h0) ⟨cs, _, _, _, rfl, ht⟩)
  · walk_at "go"
    rw [ne_nil_ints]
    refine ite_by (fun hc => ?_) fun _ => ?_
    · have hlen : 0 < cs.length := List.length_pos_iff.2 fun e => by rw [e] at hc; exact nomatch hc
      walk_at "go"
      have hm : (0 : Int) < cs.length := by omega
      refine ix_all (Int.emod_nonneg _ (Int.ne_of_gt hm)) (by rw [List.length_map]; exact Int.emod_lt_of_pos _ hm) fun x hx => ?_
      obtain ⟨i, _, rfl⟩ := List.mem_map.1 hx
      walk_at "go"
      exact pickM_ok hp h0 h1 (by omega) q
    · walk_at "go"
      exact pickM_ok hp h0 h1 (by omega) q

end DL


set_option Elab.async false
set_option linter.all false
set_option maxRecDepth 100000
set_option maxHeartbeats 4000000
set_option exponentiation.threshold 4000
set_option format.width 100000
namespace DL
open PySem PySem.Spec PyProof.Rows L2 DL
local macro_rules | `(tactic| walk_at "rd") => `(tactic| simp -implicitDefEqProofs only [sSeq_k, dTabIx_at, dTabIn_at, dTabGet1_at, dTabGet2_at, dTabCall_at, dCallV_at, tval_n, tval_c, spval_n, spval_c, dPop1_at, dPop2_at, dZip3_at, sLk_at, dLk_at, dItW_at, lkOf_s, fSet_41, fSet_42, fSet_43, dC_at, dUn_at, dOp_at, dNil_at, dCons_at, dFn_at, dNot_at, dAnd_at, dOr_at, dIf_at, dTup_at, dLst_at, dLstR_at, dSl_at, 
  dDisp_k, dPairs_n, dPairs_c, dispK_1, dispK_3, dMt_at, dMt0_at, dNoPart_at, dCall_at, dLc_at, dLcR_at, dLc2_at, dLc2R_at, dEmp_at, dGet1_at, dGet2_at, dLstRg_at, dLstRgR_at, dTupRg_at, dTrue_at, dSrtC_at, dSrtC2_at, gNm_at, gSubD_at, sAsg_at, 
  sAsgG_at, sBrk_at, sCnt_at, sExpr_at, sIf_at, sNext_at, sRet_at, sRetN_at, sFor_at, sFgt_at, sWp_at, dTst_at, dAndV_at, dOrV_at, dNotV_at, dPart_at, dVar_at, dIt_at, dRng1_at, dRng2_at, dTru_at, 
  dChain_at, dEnum_at, dZip_at, dR1_at, dR2_at, sPar_at, sPar3_at, sAug_at, sSeq_k, startD, List.length_map, List.map_cons, List.map_nil, List.length_cons, List.length_nil, Nat.reduceAdd, 
  Nat.reduceSub, List.replicate, List.cons_append, List.nil_append, wipeD, RgOk, gs_nil0, gs_cons, gTp_t, gStar12, gMax_ii, gSum_l, fIn_t, fNotIn_t, fIn_l, fNotIn_l, ofS_eq, String.reduceEq, 
  decide_true, decide_false, reduceCtorEq, List.getD_cons_zero, List.getD_cons_succ, List.getElem?_cons_zero, List.getElem?_cons_succ, List.set_cons_zero, List.set_cons_succ, fAdd_ii, fAdd_bi, 
  fAdd_ib, fSub_bi, fEq_bi, gStr_b, fAdd_ss, fAdd_tt, fAdd_ll, fSub_ii, fNeg_i, fDiv_ii, fMod_ii, fPow_ii, fMul_ii, fMul_l, fLt_ii, fLe_ii, fGt_ii, fGe_ii, fEq_ii, fNe_ii, fEq_ss, fNe_ss, fIx_t, 
  fIx_l, fSl_t, fSl_l, fSl_s, fRv_t, fRv_l, gList_t, gList_l, gTuple_t, gTuple_l, gStr_i, gStr_s, gInt_b, gInt_i, gLen_lst, gLen_tup, gLen_str, isi_non_int, isi_non_bool, isi_non_str, isi_non_tuple, 
  isi_non_list, isi_non_dict, isi_bl_int, isi_bl_bool, isi_bl_str, isi_bl_tuple, isi_bl_list, isi_bl_dict, isi_int_int, isi_int_bool, isi_int_str, isi_int_tuple, isi_int_list, isi_int_dict, 
  isi_str_int, isi_str_bool, isi_str_str, isi_str_tuple, isi_str_list, isi_str_dict, isi_tup_int, isi_tup_bool, isi_tup_str, isi_tup_tuple, isi_tup_list, isi_tup_dict, isi_lst_int, isi_lst_bool, 
  isi_lst_str, isi_lst_tuple, isi_lst_list, isi_lst_dict, sz1, Int.natCast_one, Int.natCast_zero, Int.cast_ofNat_Int, Nat.reduceLeDiff, Nat.zero_le, atI_0, atI_1, atI_2, atI_3, qOpt_s, truOf, Bool.and_true, Bool.true_and, Bool.and_false, Bool.false_and, 
  if_true, if_false, Bool.false_eq_true, true_and, and_true, Bool.not_true, Bool.not_false, ite_true, ite_false, fAddR_ll, gListR_l, gListR_t, ty_lst_s, ty_lst_l, ty_str_s, gApp_s, gExt_sl, gExt_st, gTuple_s, gList_s, gListR_s, gLen_s, fIx_s, fIx_ds, fIx_di, fSet_ds, fSet_di, isDct_s, fGet_ss, fGet_si, dFrz_v, frzR_s, fAddR_s, fAdd_s, su_same, fIn_s1, fNotIn_s1, fIn_s2, fNotIn_s2, fIn_s3, fNotIn_s3, fIn_s4, fNotIn_s4, fIn_s5, fNotIn_s5, fIn_s6, fNotIn_s6, fIn_s7, fNotIn_s7, fEq_bb, fNe_bb, or_true, true_or, or_false, false_or, and_false, false_and])
local macro_rules | `(tactic| walk_at "go") => `(tactic| ((try walk_at "rd"); repeat (first | (refine And.intro (by first | decide | omega) ?_; try walk_at "rd") | (refine late_of ?_; try walk_at "rd"))))
/-! ### the source of drawn numbers -/
def kky (b : Bool) : Str := if b = true then Str.ofString "cells" else Str.ofString "cell_pairs"
def srcO (b : Bool) (cells : List Int) (t r n : Int) : O := .dK [(.inr (kky b), .lst (cells.map .int)), (.inr "at", .int t), (.inr "rest", .int r), (.inr "count", .int n)]
def SrcO (b : Bool) (c : Nat) (o : O) : Prop := ∃ cells t r n, o = srcO b cells t r n ∧ 0 ≤ t ∧ 0 ≤ n ∧ n ≤ c
theorem SrcO.mono {b : Bool} {c c' : Nat} {o : O} (h : SrcO b c o) (hc : c ≤ c') : SrcO b c' o := by
  obtain ⟨cells, t, r, n, e, h1, h2, h3⟩ := h
  exact ⟨cells, t, r, n, e, h1, h2, by omega⟩
section
variable {S : Sto} {a : Addr} {b : Bool} {c : List Int} {t r n k : Int} {Q : DK} {R : Sto → Prop}
theorem sx_cells : fIx (.ref a) (.str (kky b)) (su S a (srcO b c t r n)) Q = Q (.lst (c.map .int)) (su S a (srcO b c t r n)) := by cases b <;> exact ix_dK rfl
theorem sx_at : fIx (.ref a) (.str (Str.ofString "at")) (su S a (srcO b c t r n)) Q = Q (.int t) (su S a (srcO b c t r n)) := by cases b <;> exact ix_dK rfl
theorem sx_rest : fIx (.ref a) (.str (Str.ofString "rest")) (su S a (srcO b c t r n)) Q = Q (.int r) (su S a (srcO b c t r n)) := by cases b <;> exact ix_dK rfl
theorem sx_count : fIx (.ref a) (.str (Str.ofString "count")) (su S a (srcO b c t r n)) Q = Q (.int n) (su S a (srcO b c t r n)) := by cases b <;> exact ix_dK rfl
theorem st_at : fSet (.ref a) (.str (Str.ofString "at")) (.int k) (su S a (srcO b c t r n)) R = R (su S a (srcO b c k r n)) := by cases b <;> exact set_dK rfl (show 4 < sizeLine by decide)
theorem st_rest : fSet (.ref a) (.str (Str.ofString "rest")) (.int k) (su S a (srcO b c t r n)) R = R (su S a (srcO b c t k n)) := by cases b <;> exact set_dK rfl (show 4 < sizeLine by decide)
theorem st_count : fSet (.ref a) (.str (Str.ofString "count")) (.int k) (su S a (srcO b c t r n)) R = R (su S a (srcO b c t r k)) := by cases b <;> exact set_dK rfl (show 4 < sizeLine by decide)
end
structure Sp where
  d0 : Int
  m1 : Int
  a1 : Int
  a2 : Int
  b2 : Int
  q2 : Int
  a3 : Int
  b3 : Int
  q3 : Int
  v : Int
  top : Int
structure Sp.Ok (p : Sp) : Prop where
  m1 : 0 < p.m1 ∧ p.m1 < 2 ^ 33
  a1 : 0 ≤ p.a1 ∧ p.a1 < 2 ^ 30
  a2 : -2 ^ 64 < p.a2 ∧ p.a2 < 2 ^ 64
  q2 : 0 < p.q2 ∧ p.q2 < 2 ^ 64
  a3 : -2 ^ 64 < p.a3 ∧ p.a3 < 2 ^ 64
  q3 : 0 < p.q3
  v : 0 < p.v ∧ p.v < 1073741824
def rSrc (b : Bool) (p : Sp) : DS :=
  (sRet (dDisp [((dC (.str (kky b))), (dFn gList (dCons (dSl (dVar 0) dNoPart (dPart (dC (.int p.top)))) dNil))), ((dC (.str "at")), (dC (.int 0))), ((dC (.str "rest")), (dC (.int 0))), ((dC (.str "count")), (dC (.int 0)))]))
def spSrc (b : Bool) : DSp := fun ws S Q _ => ∃ ns : List Int, ws = [.scr (ns.map .int)] ∧ ns.length ≤ 63 ∧ ∀ a o, S a = none → SrcO b 0 o → Q (.ref a) (su S a o)
theorem src_ok {b : Bool} {p : Sp} {S : Sto} {Q : DK} {E : XD} {ws : List D} (h : spSrc b ws S Q E) : rSrc b p (endsD Q) (startD ["_law_script"] ws) S := by
  obtain ⟨ns, rfl, hn, q⟩ := h
  unfold rSrc
  walk_at "go"
  have e : ∀ x : D, keysOf [(.str (kky b), x), (.str (Str.ofString "at"), .int 0), (.str (Str.ofString "rest"), .int 0), (.str (Str.ofString "count"), .int 0)] = some [(.inr (kky b), x), (.inr "at", .int 0), (.inr "rest", .int 0), (.inr "count", .int 0)] := fun x => rfl
  unfold dispK
  simp only [fSl, gList, itsOf]
  rw [e]
  refine ⟨(by decide : 4 ≤ 15), fun a ha => ?_⟩
  refine ends_rt (q a _ ha ⟨cut ns none (some p.top), 0, 0, 0, ?_, by decide, by decide, by decide⟩)
  unfold srcO cut
  rw [List.length_map, List.map_take, List.map_drop]
  cases b <;> rfl
def rSkE (p : Sp) : DS :=
  (sSeq (sAsg (dOp fAdd (dOp fMod (dVar 4) (dC (.int p.m1))) (dOp fMul (dC (.int p.a1)) (dOp fIx (dVar 0) (dC (.str "count"))))) 5) (sSeq (sAsg (dOp fMod (dOp fAdd (dOp fAdd (dOp fMul (dVar 5) (dVar 5)) (dOp fMul (dC (.int p.a2)) (dOp fIx (dVar 0) (dC (.str "count"))))) (dC (.int p.b2))) (dC (.int p.q2))) 5) (sSeq (sAsg (dOp fMod (dOp fAdd (dOp fAdd (dOp fMul (dVar 5) (dVar 5)) (dOp fMul (dC (.int p.a3)) (dOp fIx (dVar 0) (dC (.str "count"))))) (dC (.int p.b3))) (dC (.int p.q3))) 5) (sRet (dOp fMod (dOp fDiv (dVar 5) (dC (.int p.v))) (dVar 1))))))
def rSkM (p : Sp) : DS :=
  (sSeq (sAsgG (dOp fAdd (dOp fIx (dVar 0) (dC (.str "at"))) (dC (.int 1))) (gSubD (dVar 0) (dC (.str "at")))) (sSeq (sIf (dAnd (dTst (dOp fGe (dVar 4) (dOp fPow (dC (.int 10)) (dC (.int 18))))) (dTst (dOp fLe (dOp fIx (dVar 0) (dC (.str "at"))) (dFn gLen (dCons (dVar 3) dNil))))) (sSeq (sAsgG (dOp fDiv (dVar 4) (dVar 1)) (gSubD (dVar 0) (dC (.str "rest")))) (sRet (dOp fMod (dVar 4) (dVar 1)))) sNext) (rSkE p)))
def rSk (b : Bool) (p : Sp) : DS :=
  (sSeq (sAsgG (dOp fAdd (dOp fIx (dVar 0) (dC (.str "count"))) (dC (.int 1))) (gSubD (dVar 0) (dC (.str "count")))) (sSeq (sIf (dTst (dOp fGt (dOp fIx (dVar 0) (dC (.str "rest"))) (dC (.int 0)))) (sSeq (sAsg (dOp fMod (dOp fIx (dVar 0) (dC (.str "rest"))) (dVar 1)) 2) (sSeq (sAsgG (dOp fDiv (dOp fIx (dVar 0) (dC (.str "rest"))) (dVar 1)) (gSubD (dVar 0) (dC (.str "rest")))) (sRet (dVar 2)))) sNext) (sSeq (sAsg (dOp fIx (dVar 0) (dC (.str (kky b)))) 3) (sSeq (sAsg (dIf (dTst (dOp fNe (dVar 3) (dLst dNil))) (dOp fIx (dVar 3) (dOp fMod (dOp fIx (dVar 0) (dC (.str "at"))) (dFn gLen (dCons (dVar 3) dNil)))) (dC (.int p.d0))) 4) (rSkM p)))))
theorem skE_ok {b : Bool} {p : Sp} (hp : p.Ok) {S : Sto} {Q : DK} {a : Addr} {many cell t r n : Int} {y z : Option D} {c : Nat} {cs : List Int} (h0 : 0 < many) (ht : 0 ≤ t) (hn : 0 ≤ n) (hnc : n ≤ c) (hc : c < 1000000001) (q : ∀ r o, 0 ≤ r → r < many → SrcO b c o → Q (.int r) (su S a o)) :
    rSkE p (endsD Q) [some (.ref a), some (.int many), y, z, some (.int cell), none] (su S a (srcO b cs t r n)) := by
  have m2 : ∀ x y : Int, 0 < y → y < 2 ^ 64 → CMul (x % y) (x % y) := fun x y h h' => .inl ⟨by have := Int.emod_nonneg x (b := y) (by omega); omega, by have := Int.emod_lt_of_pos x h; omega⟩
  have h1 := hp.m1.1; have h2 := hp.q2; have h3 := hp.q3; have h5 := hp.v
  have hm1 := hp.m1.2
  have hs : ∀ x : Int, 0 ≤ x % p.m1 + p.a1 * n ∧ x % p.m1 + p.a1 * n < 2 ^ 64 := fun x => by
    have e1 := Int.emod_nonneg x (b := p.m1) (by omega)
    have e2 := Int.emod_lt_of_pos x h1
    have e3 : 0 ≤ p.a1 * n := Int.mul_nonneg hp.a1.1 hn
    have e4 : p.a1 * n ≤ 2 ^ 30 * 1000000001 := Int.mul_le_mul (Int.le_of_lt hp.a1.2) (by omega) hn (by decide)
    omega
  unfold rSkE
  walk_at "go"
  rw [sx_count]
  refine ⟨.inl ⟨by have := hp.a1; omega, by have := hp.a1; omega⟩, ?_⟩
  walk_at "go"
  refine ⟨.inl ⟨by have := hs cell; omega, (hs cell).2⟩, ?_⟩
  rw [sx_count]
  refine ⟨.inl hp.a2, ?_⟩
  walk_at "go"
  refine ⟨m2 _ _ hp.q2.1 hp.q2.2, ?_⟩
  rw [sx_count]
  refine ⟨.inl hp.a3, ?_⟩
  walk_at "go"
  exact ends_rt (q _ _ (Int.emod_nonneg _ (by omega)) (Int.emod_lt_of_pos _ h0) ⟨_, _, _, _, rfl, ht, hn, hnc⟩)
theorem skM_ok {b : Bool} {p : Sp} (hp : p.Ok) {S : Sto} {Q : DK} {a : Addr} {many cell t r n : Int} {y : Option D} {c : Nat} {cs : List Int} (h0 : 0 < many) (h1 : many < 1073741824) (ht : 0 ≤ t) (hn : 0 ≤ n) (hnc : n ≤ c) (hc : c < 1000000001) (q : ∀ r o, 0 ≤ r → r < many → SrcO b c o → Q (.int r) (su S a o)) :
    rSkM p (endsD Q) [some (.ref a), some (.int many), y, some (.lst (cs.map .int)), some (.int cell), none] (su S a (srcO b cs t r n)) := by
  have nxt : ∀ t : Int, 0 ≤ t → _ := fun t ht => skE_ok hp (S := S) (a := a) (cell := cell) (r := r) (y := y) (z := some (.lst (cs.map .int))) (cs := cs) h0 ht hn hnc hc q
  unfold rSkM
  walk_at "go"
  rw [sx_at]
  walk_at "go"
  rw [st_at]
  walk_at "go"
  refine ⟨⟨by decide, by decide, by decide⟩, ?_⟩
  have e18 : ((10 : Int) ^ (18 : Int).toNat) = 1000000000000000000 := rfl
  rw [e18]
  refine ite_by (fun _ => ?_) fun _ => ?_
  · rw [sx_at]
    walk_at "go"
    refine ite_by (fun _ => ?_) fun _ => ?_
    · walk_at "go"
      rw [st_rest]
      walk_at "go"
      exact ends_rt (q _ _ (Int.emod_nonneg _ (by omega)) (Int.emod_lt_of_pos _ h0) ⟨cs, _, _, _, rfl, by omega, hn, hnc⟩)
    · walk_at "go"
      exact nxt _ (by omega)
  · walk_at "go"
    exact nxt _ (by omega)
theorem sk_ok {b : Bool} {p : Sp} (hp : p.Ok) {S : Sto} {Q : DK} {E : XD} {ws : List D} (h : spDr (SrcO b) ws S Q E) : rSk b p (endsD Q) (startD ["a", "b", "c", "d", "e", "f"] ws) S := by
  obtain ⟨a, many, c, o, rfl, ⟨h0, h1⟩, hs, ⟨cs, t, l, n, rfl, ht, hn, hnc⟩, hc, q⟩ := h
  rw [← su_self hs]
  unfold rSk
  walk_at "go"
  rw [sx_count]
  walk_at "go"
  rw [st_count]
  walk_at "go"
  rw [sx_rest]
  walk_at "go"
  refine ite_by (fun hl => ?_) fun hl => ?_
  · walk_at "go"
    rw [sx_rest]
    walk_at "go"
    rw [sx_rest]
    walk_at "go"
    rw [st_rest]
    walk_at "go"
    exact ends_rt (q _ _ (Int.emod_nonneg _ (by omega)) (Int.emod_lt_of_pos _ h0) ⟨cs, _, _, _, rfl, ht, by omega, by omega⟩)
  · walk_at "go"
    rw [sx_cells]
    walk_at "go"
    rw [ne_nil_ints]
    refine ite_by (fun hc => ?_) fun _ => ?_
    · have hlen : 0 < cs.length := List.length_pos_iff.2 fun e => by rw [e] at hc; exact nomatch hc
      walk_at "go"
      rw [sx_at]
      have hm : (0 : Int) < cs.length := by omega
      walk_at "go"
      refine ix_all (Int.emod_nonneg _ (Int.ne_of_gt hm)) (by rw [List.length_map]; exact Int.emod_lt_of_pos _ hm) fun x hx => ?_
      obtain ⟨i, _, rfl⟩ := List.mem_map.1 hx
      walk_at "go"
      exact skM_ok hp h0 h1 (by omega) (by omega) (by omega) (by omega) q
    · walk_at "go"
      exact skM_ok hp h0 h1 (by omega) (by omega) (by omega) (by omega) q

end DL


set_option Elab.async false
set_option linter.all false
namespace DL
open PySem PySem.Spec PyProof.Rows L2
/-! ### a store with some objects laid over it -/
def sus (S : Sto) : List (Addr × O) → Sto
  | [] => S
  | p :: r => sus (su S p.1 p.2) r
abbrev ksus (L : List (Addr × O)) : List Addr := L.map (·.1)
theorem ksus_cons {p : Addr × O} {r : List (Addr × O)} : ksus (p :: r) = p.1 :: ksus r := rfl
theorem ksus_app {r q : List (Addr × O)} : ksus (r ++ q) = ksus r ++ ksus q := List.map_append
theorem ksus_one {p : Addr × O} : ksus [p] = [p.1] := rfl
theorem sus_out {S : Sto} {b : Addr} : ∀ {L : List (Addr × O)}, b ∉ ksus L → sus S L b = S b
  | [], _ => rfl
  | p :: r, h => by
    show sus (su S p.1 p.2) r b = S b
    rw [sus_out fun m => h (List.mem_cons_of_mem _ m), su_ne fun e => h (by rw [e]; exact List.mem_cons_self ..)]
theorem sus_new {S : Sto} {p : Addr} {o : O} : ∀ {L : List (Addr × O)}, su (sus S L) p o = sus S (L ++ [(p, o)])
  | [] => rfl
  | q :: r => sus_new (S := su S q.1 q.2) (L := r)
theorem sus_get {S : Sto} {a : Addr} {o : O} : ∀ {L : List (Addr × O)} (i : Nat), (ksus L).Nodup → L[i]? = some (a, o) → sus S L a = some o
  | [], _, _, h => by simp at h
  | p :: r, 0, nd, h => by
    have e : p = (a, o) := by simpa using h
    subst e
    rw [ksus_cons, List.nodup_cons] at nd
    show sus (su S a o) r a = some o
    rw [sus_out nd.1, su_same]
  | p :: r, i + 1, nd, h => by
    rw [ksus_cons, List.nodup_cons] at nd
    exact sus_get (S := su S p.1 p.2) i nd.2 (by simpa using h)
theorem sus_set {S : Sto} {a : Addr} {o o' : O} : ∀ {L : List (Addr × O)} (i : Nat), (ksus L).Nodup → L[i]? = some (a, o) → su (sus S L) a o' = sus S (L.set i (a, o'))
  | [], _, _, h => by simp at h
  | p :: r, 0, nd, h => by
    have e : p = (a, o) := by simpa using h
    subst e
    rw [ksus_cons, List.nodup_cons] at nd
    show su (sus (su S a o) r) a o' = sus (su S a o') r
    have key : ∀ (r : List (Addr × O)) (S : Sto), a ∉ ksus r → su (sus (su S a o) r) a o' = sus (su S a o') r := by
      intro r
      induction r with
      | nil => intro S _; exact su_su
      | cons q r ih =>
        intro S h
        have hq : q.1 ≠ a := fun e => h (by rw [← e]; exact List.mem_cons_self ..)
        show su (sus (su (su S a o) q.1 q.2) r) a o' = sus (su (su S a o') q.1 q.2) r
        rw [su_comm hq.symm, su_comm hq.symm]
        exact ih _ fun m => h (List.mem_cons_of_mem _ m)
    exact key r S nd.1
  | p :: r, i + 1, nd, h => by
    rw [ksus_cons, List.nodup_cons] at nd
    exact sus_set (S := su S p.1 p.2) i nd.2 (by simpa using h)
theorem sus_none {S : Sto} {b : Addr} : ∀ {L : List (Addr × O)}, sus S L b = none → S b = none ∧ b ∉ ksus L
  | [], h => ⟨h, fun m => nomatch m⟩
  | p :: r, h => by
    obtain ⟨h1, h2⟩ := sus_none (S := su S p.1 p.2) (L := r) h
    refine ⟨none_at h1, fun m => ?_⟩
    rw [ksus_cons] at m
    rcases List.mem_cons.1 m with e | m
    · exact ne_at h1 e
    · exact h2 m
theorem nd_new {S : Sto} {p : Addr} {o : O} {L : List (Addr × O)} (nd : (ksus L).Nodup) (h : sus S L p = none) : (ksus (L ++ [(p, o)])).Nodup := by
  rw [ksus_app, List.nodup_append]
  exact ⟨nd, by simp, fun a ha b hb e => (sus_none h).2 (by rw [ksus_one, List.mem_singleton] at hb; subst hb e; exact ha)⟩
theorem nd_set {a : Addr} {o o' : O} {L : List (Addr × O)} (i : Nat) (nd : (ksus L).Nodup) (h : L[i]? = some (a, o)) : (ksus (L.set i (a, o'))).Nodup := by
  show ((L.set i (a, o')).map (·.1)).Nodup
  rw [List.map_set]
  have : (ksus L).set i a = ksus L := List.ext_getElem? fun j => by
    rw [List.getElem?_set]
    split
    · rename_i e
      subst e
      rw [List.getElem?_map, h]
      split
      · rfl
      · rename_i hl; exact absurd (by rw [List.length_map]; exact (List.getElem?_eq_some_iff.1 h).1) hl
    · rfl
  show ((ksus L).set i a).Nodup
  rw [this]; exact nd
/-- what was laid last is forgotten -/
theorem sus_sub {S : Sto} {p : Addr} {o : O} {L : List (Addr × O)} (hS : S p = none) (hp : p ∉ ksus L) : Sub (sus S L) (sus S (L ++ [(p, o)])) := by
  rw [← sus_new]
  exact Sub.new (by rw [sus_out hp]; exact hS)
theorem sus_sub0 {S : Sto} {L : List (Addr × O)} (hS : ∀ p ∈ ksus L, S p = none) : Sub S (sus S L) := fun b u e => by
  rw [sus_out fun m => by rw [hS b m] at e; cases e]; exact e
theorem sus_self {S : Sto} {a : Addr} {o : O} {L : List (Addr × O)} (h : S a = some o) : sus S ((a, o) :: L) = sus S L := by
  show sus (su S a o) L = sus S L
  rw [su_self h]
/-- some of what is laid is forgotten -/
theorem sus_forget {S : Sto} {L M : List (Addr × O)} (nd : (ksus M).Nodup) (h : ∀ q ∈ L, q ∈ M) (hL : (ksus L).Nodup) (hS : ∀ q ∈ M, q ∉ L → q.1 ∉ ksus L → S q.1 = none) : Sub (sus S L) (sus S M) := fun b u e => by
  by_cases hb : b ∈ ksus L
  · obtain ⟨q, hq, rfl⟩ := List.mem_map.1 hb
    obtain ⟨i, hi⟩ := List.mem_iff_getElem?.1 hq
    rw [sus_get (o := q.2) i hL hi] at e
    cases e
    obtain ⟨j, hj⟩ := List.mem_iff_getElem?.1 (h q hq)
    exact sus_get j nd hj
  · rw [sus_out hb] at e
    by_cases hm : b ∈ ksus M
    · obtain ⟨q, hq, rfl⟩ := List.mem_map.1 hm
      rw [hS q hq (fun m => hb (List.mem_map_of_mem m)) hb] at e
      cases e
    · rw [sus_out hm]; exact e
end DL


set_option Elab.async false
set_option linter.all false
set_option maxRecDepth 100000
set_option maxHeartbeats 4000000
set_option exponentiation.threshold 4000
namespace DL
open PySem PySem.Spec PyProof.Rows L2 DL
local macro_rules | `(tactic| walk_at "rd") => `(tactic| simp -implicitDefEqProofs only [sSeq_k, dC_at, dUn_at, dOp_at, dNil_at, dCons_at, dFn_at, dNot_at, dAnd_at, dOr_at, dIf_at, dTup_at, dLst_at, dLstR_at, dSl_at, 
  dDisp_k, dPairs_n, dPairs_c, dispK_1, dispK_3, dMt_at, dMt0_at, dNoPart_at, dCall_at, dLc_at, dLcR_at, dLc2_at, dLc2R_at, dEmp_at, dGet1_at, dGet2_at, dLstRg_at, dLstRgR_at, dTupRg_at, dTrue_at, dSrtC_at, dSrtC2_at, gNm_at, gSubD_at, sAsg_at, 
  sAsgG_at, sBrk_at, sCnt_at, sExpr_at, sIf_at, sNext_at, sRet_at, sRetN_at, sFor_at, sFgt_at, sWp_at, dTst_at, dAndV_at, dOrV_at, dNotV_at, dPart_at, dVar_at, dIt_at, dRng1_at, dRng2_at, dTru_at, 
  dChain_at, dEnum_at, dZip_at, dR1_at, dR2_at, sPar_at, sPar3_at, sAug_at, sSeq_k, startD, List.length_map, List.map_cons, List.map_nil, List.length_cons, List.length_nil, Nat.reduceAdd, 
  Nat.reduceSub, List.replicate, List.cons_append, List.nil_append, wipeD, RgOk, gs_nil0, gs_cons, gTp_t, gStar12, gMax_ii, gSum_l, fIn_t, fNotIn_t, fIn_l, fNotIn_l, ofS_eq, String.reduceEq, 
  decide_true, decide_false, reduceCtorEq, List.getD_cons_zero, List.getD_cons_succ, List.getElem?_cons_zero, List.getElem?_cons_succ, List.set_cons_zero, List.set_cons_succ, fAdd_ii, fAdd_bi, 
  fAdd_ib, fSub_bi, fEq_bi, gStr_b, fAdd_ss, fAdd_tt, fAdd_ll, fSub_ii, fNeg_i, fDiv_ii, fMod_ii, fPow_ii, fMul_ii, fMul_l, fLt_ii, fLe_ii, fGt_ii, fGe_ii, fEq_ii, fNe_ii, fEq_ss, fNe_ss, fIx_t, 
  fIx_l, fSl_t, fSl_l, fSl_s, fRv_t, fRv_l, gList_t, gList_l, gTuple_t, gTuple_l, gStr_i, gStr_s, gInt_b, gInt_i, gLen_lst, gLen_tup, gLen_str, isi_non_int, isi_non_bool, isi_non_str, isi_non_tuple, 
  isi_non_list, isi_non_dict, isi_bl_int, isi_bl_bool, isi_bl_str, isi_bl_tuple, isi_bl_list, isi_bl_dict, isi_int_int, isi_int_bool, isi_int_str, isi_int_tuple, isi_int_list, isi_int_dict, 
  isi_str_int, isi_str_bool, isi_str_str, isi_str_tuple, isi_str_list, isi_str_dict, isi_tup_int, isi_tup_bool, isi_tup_str, isi_tup_tuple, isi_tup_list, isi_tup_dict, isi_lst_int, isi_lst_bool, 
  isi_lst_str, isi_lst_tuple, isi_lst_list, isi_lst_dict, sz1, Int.natCast_one, Int.natCast_zero, Int.cast_ofNat_Int, Nat.reduceLeDiff, Nat.zero_le, atI_0, atI_1, atI_2, atI_3, qOpt_s, truOf, Bool.and_true, Bool.true_and, Bool.and_false, Bool.false_and, 
  if_true, if_false, Bool.false_eq_true, true_and, and_true, Bool.not_true, Bool.not_false, ite_true, ite_false, fAddR_ll, gListR_l, gListR_t, ty_lst_s, ty_lst_l, ty_str_s, gApp_s, gExt_sl, gExt_st, gTuple_s, gList_s, gListR_s, gLen_s, fIx_s, fIx_ds, fIx_di, fSet_ds, fSet_di, isDct_s, fGet_ss, fGet_si, dFrz_v, frzR_s, fAddR_s, fAdd_s, su_same, fIn_s1, fNotIn_s1, fIn_s2, fNotIn_s2, fIn_s3, fNotIn_s3, fIn_s4, fNotIn_s4, fIn_s5, fNotIn_s5, fIn_s6, fNotIn_s6, fIn_s7, fNotIn_s7, fEq_bb, fNe_bb, or_true, true_or, or_false, false_or, and_false, false_and])
local macro_rules | `(tactic| walk_at "go") => `(tactic| ((try walk_at "rd"); repeat (first | (refine And.intro (by first | decide | omega) ?_; try walk_at "rd") | (refine late_of ?_; try walk_at "rd"))))
/-! ### while by a typed state; a comprehension that keeps nothing -/
theorem wLoop {σ : Type} {c : DT} {tb : DS} {d : DEnds} (en : σ → Env') (st : σ → Sto) (inv : σ → Prop) (μ : σ → Nat) (s0 : σ) (h0 : inv s0) {env : Env'} {S : Sto} (e1 : en s0 = env) (e2 : st s0 = S)
    (step : ∀ s, inv s → ∀ R : Env' → Sto → Prop, (∀ s', inv s' → μ s' < μ s → R (en s') (st s')) → c (en s) (st s) fun b S1 => if b = true then tb { d with nx := R, ct := R, bk := d.nx } (en s) S1 else d.nx (en s) S1) :
    sWhile c tb d env S := by
  subst e1 e2
  refine ⟨fun m e S => ∃ s, inv s ∧ μ s = m ∧ e = en s ∧ S = st s, ⟨_, s0, h0, rfl, rfl, rfl⟩, fun m e S h => ?_⟩
  obtain ⟨s, hi, rfl, rfl, rfl⟩ := h
  exact step s hi _ fun s' h1 h2 => ⟨_, h2, s', h1, rfl, rfl, rfl⟩
section
variable {α : Type} {g : DG} {tt : DT} {te : DE} {env : Env'} {ok : Sto → Prop} {Q : List D → Sto → Prop} {S0 : Sto} {a : Addr} {o : O}
theorem cLoop_noneF (enc : α → D) {l : List α} (ho : FeedO o) (hok : ∀ o, ok (su S0 a o))
    (step : ∀ x ∈ l, ∀ o, FeedO o → ∀ (R1 : D → Sto → Prop) (R2 : Sto → Prop), (∀ o', FeedO o' → R2 (su S0 a o')) → g (enc x) env (su S0 a o) fun env2 S2 => tt env2 S2 fun b S3 => if b = true then te env2 S3 R1 else R2 S3)
    (q : ∀ o', FeedO o' → Q [] (su S0 a o')) : cLoop g tt te env ok Q (l.map enc) [] (su S0 a o) := by
  induction l generalizing o with
  | nil => exact ⟨hok _, q o ho⟩
  | cons x t ih => exact ⟨hok _, step x (List.mem_cons_self ..) o ho _ _ fun o' ho' => ih ho' (fun y hy => step y (List.mem_cons_of_mem _ hy))⟩
/-- the same with the store as it is -/
theorem cLoop_none {S : Sto} (enc : α → D) {l : List α} (hok : ok S)
    (step : ∀ x ∈ l, ∀ (R1 : D → Sto → Prop) (R2 : Sto → Prop), R2 S → g (enc x) env S fun env2 S2 => tt env2 S2 fun b S3 => if b = true then te env2 S3 R1 else R2 S3)
    (q : Q [] S) : cLoop g tt te env ok Q (l.map enc) [] S := by
  induction l with
  | nil => exact ⟨hok, q⟩
  | cons x t ih => exact ⟨hok, step x (List.mem_cons_self ..) _ _ (ih fun y hy => step y (List.mem_cons_of_mem _ hy))⟩
end
section
variable {α : Type} {g : DG} {te : DE} {env : Env'} {ok : Sto → Prop} {Q : List D → Sto → Prop} {S0 S : Sto}
/-- a comprehension that leaves garbage -/
theorem cLoop_mapS (enc out : α → D) {l : List α} (hok : ∀ S, ok S) (hl : l.length ≤ sizeLine) (hs : Sub S0 S)
    (step : ∀ x ∈ l, ∀ S, Sub S0 S → ∀ R : D → Sto → Prop, (∀ S', Sub S0 S' → R (out x) S') → g (enc x) env S fun env2 S2 => te env2 S2 R)
    (q : ∀ S', Sub S0 S' → Q (l.map out) S') : cLoop g dTrue te env ok Q (l.map enc) [] S := by
  suffices h : ∀ (l2 : List α) (acc : List D) (S : Sto), Sub S0 S → acc.length + l2.length ≤ sizeLine → (∀ x ∈ l2, x ∈ l) → (∀ S', Sub S0 S' → Q (acc ++ l2.map out) S') → cLoop g dTrue te env ok Q (l2.map enc) acc S from
    h l [] S hs (by simpa using hl) (fun _ h => h) (by simpa using q)
  intro l2
  induction l2 with
  | nil => intro acc S hs _ _ q; exact ⟨hok _, by simpa using q S hs⟩
  | cons x r ih =>
    intro acc S hs hl2 hm q
    simp only [List.length_cons] at hl2
    refine ⟨hok _, ?_⟩
    have := step x (hm x (List.mem_cons_self ..)) S hs (fun y S4 => acc.length < sizeLine ∧ cLoop g dTrue te env ok Q (r.map enc) (acc ++ [y]) S4) fun S' hs' => ⟨by omega, ih (acc ++ [out x]) S' hs' (by rw [List.length_append, List.length_singleton]; omega) (fun y hy => hm y (List.mem_cons_of_mem _ hy)) (by
      intro S' hs'
      have := q S' hs'
      rw [List.append_assoc]
      exact this)⟩
    exact this
end
def fd1 : Fd := ⟨11, 1000000093, 70001, 43, 2147483579, 6700417, 13, 2147483549, 23, 2147483543, 16, 63⟩
theorem fd1_ok : fd1.Ok := ⟨by decide, by decide, by decide, by decide, by decide, by decide, by decide⟩
section
variable {α β : Type} {g : DG} {tt : DT} {te : DE} {env : Env'} {ok : Sto → Prop} {Q : List D → Sto → Prop} {S0 : Sto} {a : Addr} {o : O}
/-- a comprehension that draws whom to take, and what of it -/
theorem cLoop_pick (enc : α → D) (out : β → D) (P : α → β → Prop) {l : List α} (ho : FeedO o) (hok : ∀ o, ok (su S0 a o)) (hl : l.length ≤ sizeLine)
    (step : ∀ x ∈ l, ∀ o, FeedO o → ∀ (R1 : D → Sto → Prop) (R2 : Sto → Prop), (∀ y o', P x y → FeedO o' → R1 (out y) (su S0 a o')) → (∀ o', FeedO o' → R2 (su S0 a o')) → g (enc x) env (su S0 a o) fun env2 S2 => tt env2 S2 fun b S3 => if b = true then te env2 S3 R1 else R2 S3)
    (q : ∀ l' r o', List.Sublist l' l → All2 P l' r → FeedO o' → Q (r.map out) (su S0 a o')) : cLoop g tt te env ok Q (l.map enc) [] (su S0 a o) := by
  have key : ∀ (post pre l' : List α) (r : List β) (o : O), l = pre ++ post → List.Sublist l' pre → All2 P l' r → FeedO o → cLoop g tt te env ok Q (post.map enc) (r.map out) (su S0 a o) := by
    intro post
    induction post with
    | nil => intro pre l' r o e h h2 ho; rw [List.append_nil] at e; subst e; exact ⟨hok _, q l' r o h h2 ho⟩
    | cons x t ih =>
      intro pre l' r o e h h2 ho
      refine ⟨hok _, ?_⟩
      refine step x (by rw [e]; exact List.mem_append_right _ (List.mem_cons_self ..)) o ho (fun y S4 => (r.map out).length < sizeLine ∧ cLoop g tt te env ok Q (t.map enc) (r.map out ++ [y]) S4) (fun S3 => cLoop g tt te env ok Q (t.map enc) (r.map out) S3) (fun y o' hy ho' => ⟨by
        rw [List.length_map, h2.length]
        have h1 := h.length_le
        have : l.length = pre.length + (x :: t).length := by rw [e, List.length_append]
        simp only [List.length_cons] at this
        omega, by
        have := ih (pre ++ [x]) (l' ++ [x]) (r ++ [y]) o' (by rw [List.append_assoc]; exact e) (h.append (.refl _)) (h2.snoc hy) ho'
        rw [List.map_append] at this
        exact this⟩) fun o' ho' => ih (pre ++ [x]) l' r o' (by rw [List.append_assoc]; exact e) (h.trans (List.sublist_append_left _ _)) h2 ho'
  exact key l [] [] [] o rfl .slnil .nil ho
end

end DL


set_option Elab.async false
set_option linter.all false
set_option maxRecDepth 100000
set_option maxHeartbeats 4000000
set_option exponentiation.threshold 4000
set_option format.width 100000
namespace DL
open PySem PySem.Spec PyProof.Rows L2 DL
local macro_rules | `(tactic| walk_at "rd") => `(tactic| simp -implicitDefEqProofs only [sSeq_k, dTabIx_at, dTabIn_at, dTabGet1_at, dTabGet2_at, dTabCall_at, dCallV_at, tval_n, tval_c, spval_n, spval_c, dPop1_at, dPop2_at, dZip3_at, sLk_at, dLk_at, dItW_at, lkOf_s, fSet_41, fSet_42, fSet_43, dC_at, dUn_at, dOp_at, dNil_at, dCons_at, dFn_at, dNot_at, dAnd_at, dOr_at, dIf_at, dTup_at, dLst_at, dLstR_at, dSl_at, 
  dDisp_k, dPairs_n, dPairs_c, dispK_1, dispK_3, dMt_at, dMt0_at, dNoPart_at, dCall_at, dLc_at, dLcR_at, dLc2_at, dLc2R_at, dEmp_at, dGet1_at, dGet2_at, dLstRg_at, dLstRgR_at, dTupRg_at, dTrue_at, dSrtC_at, dSrtC2_at, gNm_at, gSubD_at, sAsg_at, 
  sAsgG_at, sBrk_at, sCnt_at, sExpr_at, sIf_at, sNext_at, sRet_at, sRetN_at, sFor_at, sFgt_at, sWp_at, dTst_at, dAndV_at, dOrV_at, dNotV_at, dPart_at, dVar_at, dIt_at, dRng1_at, dRng2_at, dTru_at, 
  dChain_at, dEnum_at, dZip_at, dR1_at, dR2_at, sPar_at, sPar3_at, sAug_at, sSeq_k, startD, List.length_map, List.map_cons, List.map_nil, List.length_cons, List.length_nil, Nat.reduceAdd, 
  Nat.reduceSub, List.replicate, List.cons_append, List.nil_append, wipeD, RgOk, gs_nil0, gs_cons, gTp_t, gStar12, gMax_ii, gSum_l, fIn_t, fNotIn_t, fIn_l, fNotIn_l, ofS_eq, String.reduceEq, 
  decide_true, decide_false, reduceCtorEq, List.getD_cons_zero, List.getD_cons_succ, List.getElem?_cons_zero, List.getElem?_cons_succ, List.set_cons_zero, List.set_cons_succ, fAdd_ii, fAdd_bi, 
  fAdd_ib, fSub_bi, fEq_bi, gStr_b, fAdd_ss, fAdd_tt, fAdd_ll, fSub_ii, fNeg_i, fDiv_ii, fMod_ii, fPow_ii, fMul_ii, fMul_l, fLt_ii, fLe_ii, fGt_ii, fGe_ii, fEq_ii, fNe_ii, fEq_ss, fNe_ss, fIx_t, 
  fIx_l, fSl_t, fSl_l, fSl_s, fRv_t, fRv_l, gList_t, gList_l, gTuple_t, gTuple_l, gStr_i, gStr_s, gInt_b, gInt_i, gLen_lst, gLen_tup, gLen_str, isi_non_int, isi_non_bool, isi_non_str, isi_non_tuple, 
  isi_non_list, isi_non_dict, isi_bl_int, isi_bl_bool, isi_bl_str, isi_bl_tuple, isi_bl_list, isi_bl_dict, isi_int_int, isi_int_bool, isi_int_str, isi_int_tuple, isi_int_list, isi_int_dict, 
  isi_str_int, isi_str_bool, isi_str_str, isi_str_tuple, isi_str_list, isi_str_dict, isi_tup_int, isi_tup_bool, isi_tup_str, isi_tup_tuple, isi_tup_list, isi_tup_dict, isi_lst_int, isi_lst_bool, 
  isi_lst_str, isi_lst_tuple, isi_lst_list, isi_lst_dict, sz1, Int.natCast_one, Int.natCast_zero, Int.cast_ofNat_Int, Nat.reduceLeDiff, Nat.zero_le, atI_0, atI_1, atI_2, atI_3, atI_4, atI_5, atI_6, atI_7, atI_8, qOpt_s, truOf, Bool.and_true, Bool.true_and, Bool.and_false, Bool.false_and, 
  if_true, if_false, Bool.false_eq_true, true_and, and_true, Bool.not_true, Bool.not_false, ite_true, ite_false, fAddR_ll, gListR_l, gListR_t, ty_lst_s, ty_lst_l, ty_str_s, gApp_s, gExt_sl, gExt_st, gTuple_s, gList_s, gListR_s, gLen_s, fIx_s, fIx_ds, fIx_di, fSet_ds, fSet_di, isDct_s, fGet_ss, fGet_si, dFrz_v, frzR_s, fAddR_s, fAdd_s, su_same, fIn_s1, fNotIn_s1, fIn_s2, fNotIn_s2, fIn_s3, fNotIn_s3, fIn_s4, fNotIn_s4, fIn_s5, fNotIn_s5, fIn_s6, fNotIn_s6, fIn_s7, fNotIn_s7, fEq_bb, fNe_bb, or_true, true_or, or_false, false_or, and_false, false_and])
local macro_rules | `(tactic| walk_at "go") => `(tactic| ((try walk_at "rd"); repeat (first | (refine And.intro (by first | decide | omega) ?_; try walk_at "rd") | (refine late_of ?_; try walk_at "rd"))))
/-! ### programs as they are drawn -/
theorem ix_strs {zs : List String} {r : Int} {S : Sto} {Q : DK} (h0 : 0 ≤ r) (h : r < zs.length) (q : ∀ z ∈ zs, Q (.str (Str.ofString z)) S) : qOpt (atI (zs.map fun z => .str (Str.ofString z)) r) S Q :=
  ix_all h0 (by rw [List.length_map]; exact h) fun x hx => by
    obtain ⟨z, hz, rfl⟩ := List.mem_map.1 hx
    exact q z hz
abbrev sltL : List String := ["a", "ab", "b"]
abbrev nmL : List String := ["f", "fg", "g"]
def IsSlt (x : Str) : Prop := ∃ z ∈ sltL, x = Str.ofString z
def IsNm (x : Str) : Prop := ∃ z ∈ nmL, x = Str.ofString z
theorem slt_ok {x : Str} (h : IsSlt x) : PyData.strOk x = true ∧ x.length ≤ 2 ∧ 1 ≤ x.length := by
  obtain ⟨z, hz, rfl⟩ := h
  simp only [List.mem_cons, List.not_mem_nil, or_false] at hz
  rcases hz with rfl | rfl | rfl <;> exact ⟨strOk_of _, by decide, by decide⟩
theorem nm_ok {x : Str} (h : IsNm x) : PyData.strOk x = true ∧ x.length ≤ 2 ∧ 1 ≤ x.length := by
  obtain ⟨z, hz, rfl⟩ := h
  simp only [List.mem_cons, List.not_mem_nil, or_false] at hz
  rcases hz with rfl | rfl | rfl <;> exact ⟨strOk_of _, by decide, by decide⟩
/-- a drawn sum: at most h within one another -/
def SmP : Sm → Nat → Prop
  | .num i, _ => i.natAbs ≤ 250
  | .slot x, _ => IsSlt x
  | .bin _ a b, h => 1 ≤ h ∧ SmP a (h - 1) ∧ SmP b (h - 1)
theorem SmP.props : ∀ {e : Sm} {h : Nat}, SmP e h → e.ht ≤ h ∧ e.Ok ∧ e.Lit 250 ∧ e.short = true
  | .num i, _, h => ⟨Nat.zero_le _, trivial, h, rfl⟩
  | .slot x, _, h => ⟨Nat.zero_le _, (slt_ok h).1, trivial, decide_eq_true (by have := (slt_ok h).2.1; omega)⟩
  | .bin _ a b, h, ⟨h0, h1, h2⟩ => by
    obtain ⟨a1, a2, a3, a4⟩ := SmP.props h1
    obtain ⟨b1, b2, b3, b4⟩ := SmP.props h2
    exact ⟨by show max a.ht b.ht + 1 ≤ h; omega, ⟨a2, b2⟩, ⟨a3, b3⟩, by show (a.short && b.short) = true; rw [a4, b4]; rfl⟩
def kD (d : Nat) : Nat := if d = 0 then 12 else if d = 1 then 5 else 2
section
variable {F : Nat → O → Prop} {S : Sto} {Q : DK} {E : XD} {ws : List D}
def rDSum2 (draw sum : DSp) : DS :=
  (sSeq (sAsg (dCall draw 2 0 (fun xs _ => xs) E00 (dCons (dVar 0) (dCons (dC (.int 7)) dNil)) dNil) 2) (sSeq (sIf (dOr (dTst (dOp fLt (dVar 2) (dC (.int 3)))) (dAnd (dTst (dOp fGt (dVar 1) (dC (.int 1)))) (dTst (dOp fGt (dVar 2) (dC (.int 4)))))) (sRet (dTup (dCons (dC (.str "num")) (dCons (dOp fIx (dLst (dCons (dC (.int 0)) (dCons (dC (.int 1)) (dCons (dC (.int 2)) (dCons (dC (.int 3)) (dCons (dUn fNeg (dC (.int 1))) (dCons (dC (.int 10)) (dCons (dC (.int 250)) (dCons (dUn fNeg (dC (.int 99))) dNil))))))))) (dCall draw 2 0 (fun xs _ => xs) E00 (dCons (dVar 0) (dCons (dC (.int 8)) dNil)) dNil)) dNil)))) sNext) (sSeq (sIf (dTst (dOp fLt (dVar 2) (dC (.int 5)))) (sRet (dTup (dCons (dC (.str "slot")) (dCons (dOp fIx (dLst (dCons (dC (.str "a")) (dCons (dC (.str "ab")) (dCons (dC (.str "b")) dNil)))) (dCall draw 2 0 (fun xs _ => xs) E00 (dCons (dVar 0) (dCons (dC (.int 3)) dNil)) dNil)) dNil)))) sNext) (sSeq (sAsg (dIf (dTst (dOp fEq (dVar 1) (dC (.int 0)))) (dOp fIx (dLst (dCons (dC (.str "plus")) (dCons (dC (.str "minus")) (dCons (dC (.str "less")) dNil)))) (dCall draw 2 0 (fun xs _ => xs) E00 (dCons (dVar 0) (dCons (dC (.int 3)) dNil)) dNil)) (dC (.str "less"))) 3) (sRet (dTup (dCons (dVar 3) (dCons (dCall sum 2 0 (fun xs _ => xs) E00 (dCons (dVar 0) (dCons (dOp fAdd (dVar 1) (dC (.int 1))) dNil)) dNil) (dCons (dCall sum 2 0 (fun xs _ => xs) E00 (dCons (dVar 0) (dCons (dOp fAdd (dVar 1) (dC (.int 1))) dNil)) dNil) dNil)))))))))
def spPs (F : Nat → O → Prop) (n : Nat) : DSp := fun ws S Q _ => ∃ (a : Addr) (o : O) (c d : Nat), ws = [.ref a, .int d] ∧ d ≤ 2 ∧ 2 < n + d ∧ S a = some o ∧ F c o ∧ c + kD d < 1000000000 ∧ ∀ e o', SmP e (2 - d) → F (c + kD d) o' → Q (smD e) (su S a o')
theorem ps_su {a : Addr} {o : O} {c d n : Nat} (hd : d ≤ 2) (hn : 2 < n + d) (ho : F c o) (hc : c + kD d < 1000000000) (q : ∀ e o', SmP e (2 - d) → F (c + kD d) o' → Q (smD e) (su S a o')) : spPs F n [.ref a, .int d] (su S a o) Q E :=
  ⟨a, o, c, d, rfl, hd, hn, su_same, ho, hc, fun e o' h1 h2 => by rw [su_su]; exact q e o' h1 h2⟩
theorem ps_ok (hF : DrF F) {n : Nat} (h : spPs F (n + 1) ws S Q E) : rDSum2 (spDr F) (spPs F n) (endsD Q) (startD ["a", "b", "c", "d"] ws) S := by
  obtain ⟨a, o, c, d, rfl, hd, hn, hs, ho, hc, q⟩ := h
  rw [← su_self hs]
  have hk2 : 2 ≤ kD d := by unfold kD; split; decide; split <;> decide
  unfold rDSum2
  walk_at "go"
  refine dr_su ho (by omega) (by decide) (by decide) fun r o r0 r1 ho => ?_
  walk_at "go"
  have lf : ∀ {o : O}, F (c + 1) o → spDr F [.ref a, .int 8] (su S a o) (fun y S2 => fIx (.lst [.int 0, .int 1, .int 2, .int 3, .int (-1), .int 10, .int 250, .int (-99)]) y S2 fun x S1 => (endsD Q).rt (.tup [.str (Str.ofString "num"), x]) S1) E00 := fun {o} ho => by
    refine dr_su ho (by omega) (by decide) (by decide) fun r o r0 r1 ho => ?_
    walk_at "go"
    refine ix_P (fun w => ∃ i : Int, w = .int i ∧ i.natAbs ≤ 250) r0 r1 (fun w hw => ?_) fun w ⟨i, e, hi⟩ => ?_
    · simp only [List.mem_cons, List.not_mem_nil, or_false] at hw
      rcases hw with rfl | rfl | rfl | rfl | rfl | rfl | rfl | rfl <;> exact ⟨_, rfl, by decide⟩
    · subst e
      exact ends_rt (q (.num i) o hi (hF.mono _ _ _ (by omega) ho))
  refine ite_by (fun _ => lf ho) fun h3 => ?_
  refine ite_by (fun hd1 => ?_) fun hd1 => ?_
  · refine ite_by (fun _ => lf ho) fun h4 => ?_
    have h3 := of_decide_eq_false h3
    have h4 := of_decide_eq_false h4
    walk_at "go"
    refine iteP (by omega) ?_
    refine dr_su ho (by omega) (by decide) (by decide) fun r o r0 r1 ho => ?_
    walk_at "go"
    refine ix_strs (zs := sltL) r0 r1 fun z hz => ?_
    exact ends_rt (q (.slot _) o ⟨z, hz, rfl⟩ (hF.mono _ _ _ (by omega) ho))
  · have hd1 := of_decide_eq_false hd1
    walk_at "go"
    refine ite_by (fun _ => ?_) fun h5 => ?_
    · refine dr_su ho (by omega) (by decide) (by decide) fun r o r0 r1 ho => ?_
      walk_at "go"
      refine ix_strs (zs := sltL) r0 r1 fun z hz => ?_
      exact ends_rt (q (.slot _) o ⟨z, hz, rfl⟩ (hF.mono _ _ _ (by omega) ho))
    · walk_at "go"
      have two : ∀ {o : O} {c1 : Nat} (w : Op3), F c1 o → c1 + 2 * kD (d + 1) ≤ c + kD d → (sRet (dTup (dCons (dVar 3) (dCons (dCall (spPs F n) 2 0 (fun xs _ => xs) E00 (dCons (dVar 0) (dCons (dOp fAdd (dVar 1) (dC (.int 1))) dNil)) dNil) (dCons (dCall (spPs F n) 2 0 (fun xs _ => xs) E00 (dCons (dVar 0) (dCons (dOp fAdd (dVar 1) (dC (.int 1))) dNil)) dNil) dNil))))) (endsD Q) [some (.ref a), some (.int d), some (.int r), some (.str w.str)] (su S a o) := fun {o c1} w ho hk => by
        have hk12 : kD d ≤ 12 := by unfold kD; split; decide; split <;> decide
        walk_at "go"
        rw [show ((d : Int) + 1) = ((d + 1 : Nat) : Int) from rfl]
        refine ps_su (by omega) (by omega) ho (by omega) fun e1 o h1 ho => ?_
        refine ps_su (by omega) (by omega) ho (by omega) fun e2 o h2 ho => ?_
        walk_at "go"
        exact ends_rt (q (.bin w e1 e2) o ⟨by omega, by rw [show 2 - d - 1 = 2 - (d + 1) by omega]; exact h1, by rw [show 2 - d - 1 = 2 - (d + 1) by omega]; exact h2⟩ (hF.mono _ _ _ (by omega) ho))
      refine ite_by (fun h0 => ?_) fun h0 => ?_
      · have h0 := of_decide_eq_true h0
        have d0 : d = 0 := by omega
        subst d0
        refine dr_su ho (by omega) (by decide) (by decide) fun r o r0 r1 ho => ?_
        walk_at "go"
        refine ix_strs (zs := ["plus", "minus", "less"]) r0 r1 fun z hz => ?_
        obtain ⟨w, ew⟩ : ∃ w : Op3, w.str = Str.ofString z := by
          simp only [List.mem_cons, List.not_mem_nil, or_false] at hz
          rcases hz with rfl | rfl | rfl
          · exact ⟨.plus, rfl⟩
          · exact ⟨.minus, rfl⟩
          · exact ⟨.less, rfl⟩
        rw [← ew]
        refine late_of (two w ho ?_)
        show c + 1 + 1 + 2 * 5 ≤ c + 12
        omega
      · have h0 := of_decide_eq_false h0
        have d1 : d = 1 := by omega
        subst d1
        refine late_of (two .less ho ?_)
        show c + 1 + 2 * 2 ≤ c + 5
        omega
end
/-! ### drawn stores -/
def rowD (p : Kd × Vl) : D := .tup [kdD p.1, vlD p.2]
def stoD (l : List (Kd × Vl)) : D := .tup (l.map rowD)
def ownS (z : String) : Sm := .bin .minus (.bin .plus (.slot (Str.ofString "mine")) (.slot (Str.ofString "theirs"))) (.slot (Str.ofString z))
structure RowP (k : Kd) (v : Vl) : Prop where
  fit : Fit 3 k v
  sml : Sml 1000007 v
  own : k.isOwn = true → ∃ z ∈ ["base", "mine", "b"], k = .own (ownS z)
section
variable {F : Nat → O → Prop} {S : Sto} {Q : DK} {E : XD} {ws : List D}
def rDStore (draw : DSp) : DS :=
  (sSeq (sAsg (dLstR dNil) 2) (sSeq (sWp [3, 4, 5, 6, 7, 8, 9] (sFor (dRng1 (dCons (dOp fAdd (dC (.int 1)) (dCall draw 2 0 (fun xs _ => xs) E00 (dCons (dVar 0) (dCons (dVar 1) dNil)) dNil)) dNil)) (gNm 3) (sFgt [3, 4, 5, 6, 7, 8, 9] (sSeq (sAsg (dOp fIx (dLst (dCons (dC (.int 0)) (dCons (dC (.int 1)) (dCons (dC (.int 2)) (dCons (dC (.int 5)) (dCons (dUn fNeg (dC (.int 3))) (dCons (dOp fPow (dC (.int 10)) (dC (.int 6))) dNil))))))) (dCall draw 2 0 (fun xs _ => xs) E00 (dCons (dVar 0) (dCons (dC (.int 6)) dNil)) dNil)) 4) (sSeq (sAsg (dSl (dLst (dCons (dVar 4) (dCons (dOp fAdd (dVar 4) (dC (.int 1))) (dCons (dOp fAdd (dVar 4) (dC (.int 7))) dNil)))) dNoPart (dPart (dCall draw 2 0 (fun xs _ => xs) E00 (dCons (dVar 0) (dCons (dC (.int 4)) dNil)) dNil))) 5) (sSeq (sAsg (dCall draw 2 0 (fun xs _ => xs) E00 (dCons (dVar 0) (dCons (dC (.int 6)) dNil)) dNil) 6) (sSeq (sAsg (dOp fIx (dLst (dCons (dC (.str "base")) (dCons (dC (.str "mine")) (dCons (dC (.str "b")) dNil)))) (dCall draw 2 0 (fun xs _ => xs) E00 (dCons (dVar 0) (dCons (dC (.int 3)) dNil)) dNil)) 7) (sSeq (sAsg (dTup (dCons (dC (.str "minus")) (dCons (dTup (dCons (dC (.str "plus")) (dCons (dTup (dCons (dC (.str "slot")) (dCons (dC (.str "mine")) dNil))) (dCons (dTup (dCons (dC (.str "slot")) (dCons (dC (.str "theirs")) dNil))) dNil)))) (dCons (dTup (dCons (dC (.str "slot")) (dCons (dVar 7) dNil))) dNil)))) 8) (sSeq (sAsg (dOp fIx (dLst (dCons (dC (.str "plain")) (dCons (dC (.str "sum")) (dCons (dC (.str "most")) (dCons (dC (.str "set")) (dCons (dC (.str "list")) (dCons (dTup (dCons (dC (.str "own")) (dCons (dVar 8) dNil))) dNil))))))) (dVar 6)) 9) (sExpr (dMt "list" gAppend (dVar 2) (dCons (dTup (dCons (dVar 9) (dCons (dIf (dTst (dOp fIn (dVar 6) (dTup (dCons (dC (.int 3)) (dCons (dC (.int 4)) dNil))))) (dFn gTuple (dCons (dVar 5) dNil)) (dVar 4)) dNil))) dNil)))))))))))) (sRet (dFn gTuple (dCons (dVar 2) dNil)))))
def spStoD (F : Nat → O → Prop) : DSp := fun ws S Q _ => ∃ (a : Addr) (o : O) (c top : Nat), ws = [.ref a, .int top] ∧ (1 ≤ top ∧ top ≤ 8) ∧ S a = some o ∧ F c o ∧ c + 33 < 1000000000 ∧ ∀ l o', 1 ≤ l.length → l.length ≤ top → (∀ p ∈ l, RowP p.1 p.2) → F (c + 33) o' → Q (stoD l) (su S a o')
theorem stoD_ok (hF : DrF F) (h : spStoD F ws S Q E) : rDStore (spDr F) (endsD Q) (startD ["a", "b", "c", "d", "e", "f", "g", "h", "i", "j"] ws) S := by
  obtain ⟨a, o, c, top, rfl, ⟨ht1, ht8⟩, hs, ho, hc, q⟩ := h
  have hsz : sizeLine = 16777216 := rfl
  rw [← su_self hs]
  unfold rDStore
  walk_at "go"
  intro p hp
  have hpa := ne_at hp
  walk_at "go"
  refine dr_at (o := o) (by rw [su_ne hpa.symm, su_same]) ho (by omega) (by omega) (by omega) fun r o r0 r1 ho => ?_
  rw [su_comm hpa, su_su]
  walk_at "go"
  obtain ⟨n, en⟩ : ∃ n : Nat, (1 + r).toNat = n := ⟨_, rfl⟩
  rw [en]
  refine sLoop_A (fun k : Nat => D.int k) (fun pre env S' => env = [some (.ref a), some (.int top), some (.ref p), none, none, none, none, none, none, none] ∧ ∃ o l, S' = su (su S a o) p (.lst (l.map rowD)) ∧ F (c + 1 + 4 * pre.length) o ∧ l.length = pre.length ∧ ∀ p ∈ l, RowP p.1 p.2) (fun _ _ _ _ => trivial) ⟨rfl, o, [], rfl, ho, rfl, fun _ h => nomatch h⟩ (fun pre k post e env S' ⟨e1, o, l, e2, ho, hl, hv0⟩ R nx => ?_) fun env S' ⟨e1, o, l, e2, ho, hl, hv0⟩ => ?_
  · subst e1 e2
    have hpl : pre.length < 8 := by
      have := congrArg List.length e
      simp at this
      omega
    walk_at "go"
    refine ⟨⟨by decide, by decide, by decide⟩, ?_⟩
    have dr : ∀ {o : O} {c' : Nat} {L : List D} {many : Int} {Q : DK}, F c' o → c' < 1000000000 → 0 < many → many < 1073741824 → (∀ r o', 0 ≤ r → r < many → F (c' + 1) o' → Q (.int r) (su (su S a o') p (.lst L))) → spDr F [.ref a, .int many] (su (su S a o) p (.lst L)) Q E00 := fun {o c' L many Q} ho hc h0 h1 q => by
      refine dr_at (o := o) (by rw [su_ne hpa.symm, su_same]) ho hc h0 h1 fun r o' h2 h3 h4 => ?_
      rw [su_comm hpa, su_su]
      exact q r o' h2 h3 h4
    refine dr ho (by omega) (by decide) (by decide) fun r o r0 r1 ho => ?_
    walk_at "go"
    refine ix_P (fun w => ∃ i : Int, w = .int i ∧ i.natAbs ≤ 1000000) r0 r1 (fun w hw => ?_) fun w ⟨i, e, hi⟩ => ?_
    · simp only [List.mem_cons, List.not_mem_nil, or_false] at hw
      rcases hw with rfl | rfl | rfl | rfl | rfl | rfl <;> exact ⟨_, rfl, by decide⟩
    subst e
    walk_at "go"
    refine dr ho (by omega) (by decide) (by decide) fun r2 o r20 r21 ho => ?_
    walk_at "go"
    rw [cut_take _ r20, show [D.int i, .int (i + 1), .int (i + 7)] = [i, i + 1, i + 7].map D.int from rfl, ← List.map_take]
    generalize hns : ([i, i + 1, i + 7] : List Int).take r2.toNat = ns
    have hsub : List.Sublist ns [i, i + 1, i + 7] := by rw [← hns]; exact List.take_sublist _ _
    have hnl : ns.length ≤ 3 := hsub.length_le
    have hp3 : [i, i + 1, i + 7].Pairwise (· < ·) := .cons (fun x hx => by simp only [List.mem_cons, List.not_mem_nil, or_false] at hx; omega) (.cons (fun x hx => by simp only [List.mem_cons, List.not_mem_nil, or_false] at hx; omega) (.cons (fun x hx => nomatch hx) .nil))
    have hnp : ns.Pairwise (· < ·) := List.Pairwise.sublist hsub hp3
    have hnb : ∀ x ∈ ns, x.natAbs ≤ 1000007 := fun x hx => by
      have := hsub.subset hx
      simp only [List.mem_cons, List.not_mem_nil, or_false] at this
      omega
    walk_at "go"
    refine dr ho (by omega) (by decide) (by decide) fun r3 o r30 r31 ho => ?_
    walk_at "go"
    refine dr ho (by omega) (by decide) (by decide) fun r4 o r40 r41 ho => ?_
    walk_at "go"
    refine ix_strs (zs := ["base", "mine", "b"]) r40 r41 fun z hz => ?_
    have nxt : ∀ (k : Kd) (v : Vl), RowP k v → R [some (.ref a), some (.int top), some (.ref p), none, none, none, none, none, none, none] (su (su S a o) p (.lst ((l ++ [(k, v)]).map rowD))) := fun k v hv => nx _ _ ⟨rfl, o, l ++ [(k, v)], rfl, hF.mono _ _ _ (by rw [List.length_append, List.length_singleton]; omega) ho, by rw [List.length_append, List.length_append, hl]; rfl, fun p hp => by
      rcases List.mem_append.1 hp with hp | hp
      · exact hv0 p hp
      · rw [List.mem_singleton.1 hp]; exact hv⟩
    have hi7 : i.natAbs ≤ 1000007 := by omega
    have cs : r3 = 0 ∨ r3 = 1 ∨ r3 = 2 ∨ r3 = 3 ∨ r3 = 4 ∨ r3 = 5 := by omega
    have in34 : ∀ (x : Int) {S : Sto} {Q : DK}, fIn (.int x) (.tup [.int 3, .int 4]) S Q = Q (.bl (decide (x ∈ [(3 : Int), 4]))) S := fun x {S Q} => by
      rw [show fIn (.int x) (.tup [.int 3, .int 4]) = fIn (.int x) (.tup (([3, 4] : List Int).map .int)) from rfl, fIn_t]
    have num : ∀ (k : Kd), k.isOwn = false → Fit 3 k (.n i) → RowP k (.n i) := fun k h1 h2 => ⟨h2, hi7, fun h => by rw [h1] at h; cases h⟩
    rcases cs with rfl | rfl | rfl | rfl | rfl | rfl <;> (walk_at "go"; rw [in34]; walk_at "go"; refine ⟨_, .refl, ?_⟩)
    · have := nxt .plain (.n i) (num _ rfl trivial); rw [List.map_append] at this; exact this
    · have := nxt .sum (.n i) (num _ rfl trivial); rw [List.map_append] at this; exact this
    · have := nxt .most (.n i) (num _ rfl trivial); rw [List.map_append] at this; exact this
    · have := nxt .set (.t ns) ⟨⟨hnl, hnp⟩, hnb, fun h => nomatch h⟩; rw [List.map_append] at this; exact this
    · have := nxt .list (.t ns) ⟨hnl, hnb, fun h => nomatch h⟩; rw [List.map_append] at this; exact this
    · have := nxt (.own (ownS z)) (.n i) ⟨trivial, hi7, fun _ => ⟨z, hz, rfl⟩⟩; rw [List.map_append] at this; exact this
  · subst e1 e2
    walk_at "go"
    have hln : l.length = n := by rw [hl, List.length_range]
    refine ⟨su S a o, Sub.new (by rw [su_ne hpa]; exact none_at hp), q l o (by omega) (by omega) hv0 (hF.mono _ _ _ (by rw [List.length_range]; omega) ho)⟩
end

end DL


set_option Elab.async false
set_option linter.all false
set_option maxRecDepth 100000
set_option maxHeartbeats 4000000
set_option exponentiation.threshold 4000
namespace DL
open PySem PySem.Spec PyProof.Rows L2 DL
local macro_rules | `(tactic| walk_at "rd") => `(tactic| simp -implicitDefEqProofs only [sSeq_k, dC_at, dUn_at, dOp_at, dNil_at, dCons_at, dFn_at, dNot_at, dAnd_at, dOr_at, dIf_at, dTup_at, dLst_at, dLstR_at, dSl_at, 
  dDisp_k, dPairs_n, dPairs_c, dispK_1, dispK_3, dMt_at, dMt0_at, dNoPart_at, dCall_at, dLc_at, dLcR_at, dLc2_at, dLc2R_at, dEmp_at, dGet1_at, dGet2_at, dLstRg_at, dLstRgR_at, dTupRg_at, dTrue_at, dSrtC_at, dSrtC2_at, gNm_at, gSubD_at, sAsg_at, 
  sAsgG_at, sBrk_at, sCnt_at, sExpr_at, sIf_at, sNext_at, sRet_at, sRetN_at, sFor_at, sFgt_at, sWp_at, dTst_at, dAndV_at, dOrV_at, dNotV_at, dPart_at, dVar_at, dIt_at, dRng1_at, dRng2_at, dTru_at, 
  dChain_at, dEnum_at, dZip_at, dR1_at, dR2_at, sPar_at, sPar3_at, sAug_at, sSeq_k, startD, List.length_map, List.map_cons, List.map_nil, List.length_cons, List.length_nil, Nat.reduceAdd, 
  Nat.reduceSub, List.replicate, List.cons_append, List.nil_append, wipeD, RgOk, gs_nil0, gs_cons, gTp_t, gStar12, gMax_ii, gSum_l, fIn_t, fNotIn_t, fIn_l, fNotIn_l, ofS_eq, String.reduceEq, 
  decide_true, decide_false, reduceCtorEq, List.getD_cons_zero, List.getD_cons_succ, List.getElem?_cons_zero, List.getElem?_cons_succ, List.set_cons_zero, List.set_cons_succ, fAdd_ii, fAdd_bi, 
  fAdd_ib, fSub_bi, fEq_bi, gStr_b, fAdd_ss, fAdd_tt, fAdd_ll, fSub_ii, fNeg_i, fDiv_ii, fMod_ii, fPow_ii, fMul_ii, fMul_l, fLt_ii, fLe_ii, fGt_ii, fGe_ii, fEq_ii, fNe_ii, fEq_ss, fNe_ss, fIx_t, 
  fIx_l, fSl_t, fSl_l, fSl_s, fRv_t, fRv_l, gList_t, gList_l, gTuple_t, gTuple_l, gStr_i, gStr_s, gInt_b, gInt_i, gLen_lst, gLen_tup, gLen_str, isi_non_int, isi_non_bool, isi_non_str, isi_non_tuple, 
  isi_non_list, isi_non_dict, isi_bl_int, isi_bl_bool, isi_bl_str, isi_bl_tuple, isi_bl_list, isi_bl_dict, isi_int_int, isi_int_bool, isi_int_str, isi_int_tuple, isi_int_list, isi_int_dict, 
  isi_str_int, isi_str_bool, isi_str_str, isi_str_tuple, isi_str_list, isi_str_dict, isi_tup_int, isi_tup_bool, isi_tup_str, isi_tup_tuple, isi_tup_list, isi_tup_dict, isi_lst_int, isi_lst_bool, 
  isi_lst_str, isi_lst_tuple, isi_lst_list, isi_lst_dict, sz1, Int.natCast_one, Int.natCast_zero, Int.cast_ofNat_Int, Nat.reduceLeDiff, Nat.zero_le, atI_0, atI_1, atI_2, atI_3, qOpt_s, truOf, Bool.and_true, Bool.true_and, Bool.and_false, Bool.false_and, 
  if_true, if_false, Bool.false_eq_true, true_and, and_true, Bool.not_true, Bool.not_false, ite_true, ite_false, fAddR_ll, gListR_l, gListR_t, ty_lst_s, ty_lst_l, ty_str_s, gApp_s, gExt_sl, gExt_st, gTuple_s, gList_s, gListR_s, gLen_s, fIx_s, fIx_ds, fIx_di, fSet_ds, fSet_di, isDct_s, fGet_ss, fGet_si, dFrz_v, frzR_s, fAddR_s, fAdd_s, su_same, fIn_s1, fNotIn_s1, fIn_s2, fNotIn_s2, fIn_s3, fNotIn_s3, fIn_s4, fNotIn_s4, fIn_s5, fNotIn_s5, fIn_s6, fNotIn_s6, fIn_s7, fNotIn_s7, fEq_bb, fNe_bb, or_true, true_or, or_false, false_or, and_false, false_and])
local macro_rules | `(tactic| walk_at "go") => `(tactic| ((try walk_at "rd"); repeat (first | (refine And.intro (by first | decide | omega) ?_; try walk_at "rd") | (refine late_of ?_; try walk_at "rd"))))
def rIsNum : DS :=
  (sRet (dAndV (dFn gIsi (dCons (dVar 0) (dCons (dC (.val (.ty "int"))) dNil))) (dNotV (dFn gIsi (dCons (dVar 0) (dCons (dC (.val (.ty "bool"))) dNil))))))
def rIsWord : DS :=
  (sSeq (sIf (dOr (dNot (dTst (dFn gIsi (dCons (dVar 0) (dCons (dC (.val (.ty "str"))) dNil))))) (dNot (dTst (dChain fLe fLe (dC (.int 1)) (dFn gLen (dCons (dVar 0) dNil)) (dC (.int 8)))))) (sRet (dC (.bl false))) sNext) (sRet (dFn gAll (dCons (dLc (dIt (dVar 0)) (gNm 1) dTrue (dOp fIn (dVar 1) (dC (.str "abcdefghijklmnopqrstuvwxyz"))) [1]) dNil))))
def rIsSum (sp_is_sum : DSp) (sp_is_number : DSp) (sp_is_word : DSp) : DS :=
  (sSeq (sIf (dOr (dNot (dTst (dFn gIsi (dCons (dVar 0) (dCons (dC (.val (.ty "tuple"))) dNil))))) (dOr (dTst (dOp fLt (dFn gLen (dCons (dVar 0) dNil)) (dC (.int 2)))) (dNot (dTst (dFn gIsi (dCons (dOp fIx (dVar 0) (dC (.int 0))) (dCons (dC (.val (.ty "str"))) dNil))))))) (sRet (dC (.bl false))) sNext) (sSeq (sIf (dTst (dOp fIn (dOp fIx (dVar 0) (dC (.int 0))) (dC (.tup [(.str "plus"), (.str "minus"), (.str "less")])))) (sRet (dAndV (dOp fEq (dFn gLen (dCons (dVar 0) dNil)) (dC (.int 3))) (dAndV (dCall sp_is_sum 1 0 (fun xs _ => xs) E00 (dCons (dOp fIx (dVar 0) (dC (.int 1))) dNil) dNil) (dCall sp_is_sum 1 0 (fun xs _ => xs) E00 (dCons (dOp fIx (dVar 0) (dC (.int 2))) dNil) dNil)))) sNext) (sSeq (sIf (dTst (dOp fNe (dFn gLen (dCons (dVar 0) dNil)) (dC (.int 2)))) (sRet (dC (.bl false))) sNext) (sRet (dOrV (dAndV (dOp fEq (dOp fIx (dVar 0) (dC (.int 0))) (dC (.str "num"))) (dCall sp_is_number 1 0 (fun xs _ => xs) E00 (dCons (dOp fIx (dVar 0) (dC (.int 1))) dNil) dNil)) (dAndV (dOp fEq (dOp fIx (dVar 0) (dC (.int 0))) (dC (.str "slot"))) (dCall sp_is_word 1 0 (fun xs _ => xs) E00 (dCons (dOp fIx (dVar 0) (dC (.int 1))) dNil) dNil)))))))
/-! what the two looks tell -/
def isNum : D → Bool
  | .int _ => true
  | _ => false
def isWord : D → Bool
  | .str z => decide (1 ≤ z.length) && decide (z.length ≤ 8) && z.cps.toList.all fun c => decide (97 ≤ c ∧ c ≤ 122)
  | _ => false
def spPure (f : D → D) : DSp := fun ws S Q _ => ∃ x m d b, ws = [x] ∧ Gd m d b x ∧ b ≤ sizeLine ∧ Q (f x) S
section
variable {S : Sto} {Q : DK} {E : XD} {ws : List D}
theorem is_number_ok (h : spPure (fun x => .bl (isNum x)) ws S Q E) : rIsNum (endsD Q) (startD ["thing"] ws) S := by
  obtain ⟨x, m, d, b, rfl, hx, hb, q⟩ := h
  have hx := hx.ok
  cases x <;> first | (cases hx; done) | exact ⟨by decide, S, .refl, q⟩ | exact ⟨by decide, by decide, S, .refl, q⟩
def letterB : D → Bool
  | .str z => (z.cps.getD 0 0) ≥ 97 && (z.cps.getD 0 0) ≤ 122
  | _ => false
theorem letterB_eq (c : Nat) : letterB (.str ⟨#[c]⟩) = decide (97 ≤ c ∧ c ≤ 122) := by
  simp [letterB]
theorem letters_mem (c : Nat) : decide (c ∈ (Str.ofString "abcdefghijklmnopqrstuvwxyz").cps.toList) = decide (97 ≤ c ∧ c ≤ 122) := by
  have e : (Str.ofString "abcdefghijklmnopqrstuvwxyz").cps.toList = (List.range 26).map (· + 97) := by decide +kernel
  rw [e]
  congr 1
  simp only [List.mem_map, List.mem_range, eq_iff_iff]
  constructor
  · rintro ⟨a, h, rfl⟩; omega
  · intro h; exact ⟨c - 97, by omega, by omega⟩
theorem is_word_str {z : Str} (hz : z.length ≤ sizeLine) (q : Q (.bl (isWord (.str z))) S) : rIsWord (endsD Q) (startD ["thing", "sign"] [.str z]) S := by
  simp only [rIsWord, startD, List.map_cons, List.map_nil, List.length_cons, List.length_nil, Nat.reduceAdd, Nat.reduceSub, List.replicate, List.cons_append, List.nil_append]
  simp only [sSeq, sIf, dOr, dNot, dTst, dFn, dCons, dVar, dNil, dC, List.getElem?_cons_zero, gIsi, tyOf, isSub, dChain, gLen_str, fLe, sRet, sNext]
  refine ⟨by decide, ?_⟩
  rw [if_neg (by decide)]
  refine ⟨hz, ?_⟩
  by_cases h1 : 1 ≤ z.length
  · by_cases h8 : z.length ≤ 8
    · rw [if_pos (decide_eq_true (by omega)), if_neg (by simp; omega)]
      simp only [dLc, dIt, dVar, List.getElem?_cons_zero]
      refine cLoop_map (fun x => .bl (letterB x)) trivial (by rw [List.length_map, Array.length_toList]; exact hz) (fun x hx R r => ?_) ?_
      · obtain ⟨c, hc, rfl⟩ := List.mem_map.1 hx
        show R (.bl (decide (c ∈ (Str.ofString "abcdefghijklmnopqrstuvwxyz").cps.toList))) S
        rw [letters_mem, ← letterB_eq]
        exact r
      · rw [gAll_lst (bs := z.cps.toList.map fun c => decide (97 ≤ c ∧ c ≤ 122)) (by simp only [List.map_map]; congr 1; funext c; exact congrArg D.bl (letterB_eq c))]
        refine ends_rt ?_
        have e : isWord (.str z) = (List.map (fun c => decide (97 ≤ c ∧ c ≤ 122)) z.cps.toList).all id := by
          simp [isWord, h1, h8]
        rw [← e]
        exact q
    · rw [if_pos (decide_eq_true (by omega)), if_pos (by simp; omega)]
      have e : isWord (.str z) = false := by simp [isWord, h8]
      rw [e] at q
      exact ends_rt q
  · rw [if_neg (by simp; omega), if_pos (by rfl)]
    have e : isWord (.str z) = false := by simp [isWord, h1]
    rw [e] at q
    exact ends_rt q
theorem is_word_ok (h : spPure (fun x => .bl (isWord x)) ws S Q E) : rIsWord (endsD Q) (startD ["thing", "sign"] ws) S := by
  obtain ⟨x, m, d, b, rfl, hx, hb, q⟩ := h
  cases x with
  | str z => exact is_word_str (Nat.le_trans hx.bk' hb) q
  | non => exact ⟨by decide, S, .refl, q⟩
  | bl _ => exact ⟨by decide, S, .refl, q⟩
  | int _ => exact ⟨by decide, S, .refl, q⟩
  | tup _ => exact ⟨by decide, S, .refl, q⟩
  | lst _ => exact ⟨by decide, S, .refl, q⟩
  | scr _ => cases hx.ok
  | ref _ => cases hx.ok
  | val _ => cases hx.ok
end
def isBin (w : Str) : Bool := decide (w = Str.ofString "plus" ∨ w = Str.ofString "minus" ∨ w = Str.ofString "less")
def isSum : D → Bool
  | .tup [.str w, a] => !isBin w && (decide (w = Str.ofString "num") && isNum a || decide (w = Str.ofString "slot") && isWord a)
  | .tup [.str w, a, b] => isBin w && (isSum a && isSum b)
  | _ => false
def spSumL (n : Nat) : DSp := fun ws S Q _ => ∃ x m d b, ws = [x] ∧ Gd m d b x ∧ d < n ∧ b ≤ sizeLine ∧ Q (.bl (isSum x)) S
theorem gd_tup' {m d b : Nat} {xs : List D} (h : Gd m d b (.tup xs)) : ∃ d', d = d' + 1 ∧ Gds m d' b xs := by
  cases d with
  | zero => have := h.dp; simp [dep] at this
  | succ d => exact ⟨d, rfl, gd_tup.1 h⟩
section
variable {S : Sto} {Q : DK} {E : XD} {ws : List D}
theorem isSum_n {xs : List D} (h : xs.length < 2) : isSum (.tup xs) = false := by
  match xs, h with
  | [], _ => rfl
  | [x], _ => unfold isSum; split <;> simp_all
theorem inBin {z : Str} (hz : PyData.strOk z = true) : fIn (.str z) (.tup [.str (Str.ofString "plus"), .str (Str.ofString "minus"), .str (Str.ofString "less")]) S Q = Q (.bl (isBin z)) S := by
  have e := fInB_s (S := S) (R := fun b => Q (.bl b) S) (x := z) (zs := [Str.ofString "plus", Str.ofString "minus", Str.ofString "less"]) hz (fun y hy => by
    simp only [List.mem_cons, List.not_mem_nil, or_false] at hy
    rcases hy with rfl | rfl | rfl <;> exact strOk_of _)
  refine e.trans ?_
  congr 2
  unfold isBin
  exact decide_eq_decide.2 (by simp only [List.mem_cons, List.not_mem_nil, or_false])
theorem isSum_1 {z : Str} {x : D} (h : isBin z = true) : isSum (.tup [.str z, x]) = false := by simp only [isSum, h]; rfl
theorem isSum_2 {z : Str} {x y : D} (h : isBin z = false) : isSum (.tup [.str z, x, y]) = false := by simp only [isSum, h]; rfl
theorem is_sum_ok {n : Nat} (h : spSumL (n + 1) ws S Q E) : rIsSum (spSumL n) (spPure fun x => .bl (isNum x)) (spPure fun x => .bl (isWord x)) (endsD Q) (startD ["thing"] ws) S := by
  obtain ⟨x, m, d, b, rfl, hx, hd, hb, q⟩ := h
  have hsz : sizeLine = 16777216 := rfl
  unfold rIsSum
  have no : (isSum x = false) → (endsD Q).rt (.bl false) S := fun e => by rw [e] at q; exact ends_rt q
  cases x with
  | tup xs =>
    obtain ⟨d', rfl, gs⟩ := gd_tup' hx
    have hl := gs.len
    walk_at "go"
    refine ite_by (fun h2 => ?_) fun h2 => ?_
    · walk_at "go"
      exact no (isSum_n (by have := of_decide_eq_true h2; omega))
    · match xs, h2, gs, hl, q, no with
      | [], h2, _, _, _, _ => simp at h2
      | [_], h2, _, _, _, _ => simp at h2
      | x0 :: x1 :: r, _, gs, hl, q, no =>
        have g0 := gs.mem (x := x0) (by simp)
        have g1 := gs.mem (x := x1) (by simp)
        walk_at "go"
        cases x0 with
        | str z =>
          walk_at "go"
          rw [inBin g0.ok]
          simp only [List.length_cons] at hl
          cases hB : isBin z with
          | true =>
            walk_at "go"
            match r, gs, hl, q, no with
            | [], _, _, q, no => 
              walk_at "go"
              exact no (isSum_1 hB)
            | [x2], gs, _, q, no =>
              walk_at "go"
              have g2 := gs.mem (x := x2) (by simp)
              refine ⟨x1, _, _, _, rfl, g1, by omega, hb, ?_⟩
              have e : isSum (.tup [.str z, x1, x2]) = (isSum x1 && isSum x2) := by simp only [isSum, hB, Bool.true_and]
              rw [e] at q
              cases h1 : isSum x1 with
              | true =>
                rw [h1] at q
                walk_at "go"
                exact ⟨x2, _, _, _, rfl, g2, by omega, hb, ends_rt q⟩
              | false =>
                rw [h1] at q
                walk_at "go"
                exact ends_rt q
            | _ :: _ :: _, _, _, q, no =>
              rw [decide_eq_false (by simp only [List.length_cons]; omega)]
              walk_at "go"
              exact no rfl
          | false =>
            walk_at "go"
            match r, gs, hl, q, no with
            | [], _, _, q, no => 
              walk_at "go"
              have e : isSum (.tup [.str z, x1]) = (decide (z = Str.ofString "num") && isNum x1 || decide (z = Str.ofString "slot") && isWord x1) := by simp only [isSum, hB, Bool.not_false, Bool.true_and]
              rw [e] at q
              have slot : ∀ f : Bool, Q (.bl (f || decide (z = Str.ofString "slot") && isWord x1)) S → f = false → (if decide (z = Str.ofString "slot") = true then (spPure fun x => .bl (isWord x)) [x1] S (endsD Q).rt E00 else (endsD Q).rt (.bl false) S) := fun f q e => by
                subst e
                cases hs : decide (z = Str.ofString "slot") with
                | true => rw [hs] at q; exact ⟨x1, _, _, _, rfl, g1, hb, ends_rt q⟩
                | false => rw [hs] at q; exact ends_rt q
              cases hn : decide (z = Str.ofString "num") with
              | true =>
                rw [hn] at q
                walk_at "go"
                refine ⟨x1, _, _, _, rfl, g1, hb, ?_⟩
                cases h1 : isNum x1 with
                | true => rw [h1] at q; simp only [h1]; walk_at "go"; exact ends_rt q
                | false => rw [h1] at q; simp only [h1]; walk_at "go"; exact slot _ q rfl
              | false =>
                rw [hn] at q
                walk_at "go"
                exact slot _ q rfl
            | [x2], _, _, q, no =>
              walk_at "go"
              exact no (isSum_2 hB)
            | _ :: _ :: _, _, _, q, no =>
              rw [decide_eq_false (by simp only [List.length_cons]; omega)]
              walk_at "go"
              exact no rfl
        | scr _ => cases g0.ok
        | ref _ => cases g0.ok
        | val _ => cases g0.ok
        | _ => walk_at "go"; exact no rfl
  | scr _ => cases hx.ok
  | ref _ => cases hx.ok
  | val _ => cases hx.ok
  | _ => walk_at "go"; exact no rfl
end
/-! ### what is given as slots of a sum -/
def Sm.slots : Sm → List Str
  | .num _ => []
  | .slot x => [x]
  | .bin _ a b => a.slots ++ b.slots
theorem slots_len : ∀ e : Sm, e.slots.length ≤ 2 ^ e.ht
  | .num _ => Nat.zero_le _
  | .slot _ => Nat.le_refl _
  | .bin w a b => by
    have h1 := slots_len a
    have h2 := slots_len b
    have p1 : 2 ^ a.ht ≤ 2 ^ max a.ht b.ht := Nat.pow_le_pow_right (by decide) (by omega)
    have p2 : 2 ^ b.ht ≤ 2 ^ max a.ht b.ht := Nat.pow_le_pow_right (by decide) (by omega)
    have p3 : 2 ^ (max a.ht b.ht + 1) = 2 ^ max a.ht b.ht + 2 ^ max a.ht b.ht := by rw [Nat.pow_succ, Nat.mul_two]
    simp only [Sm.slots, Sm.ht, List.length_append]; omega
theorem mem_insK {k j : Key} {ks : List Key} : k ∈ insK ks j ↔ k ∈ ks ∨ k = j := by
  unfold insK
  split
  · exact ⟨.inl, fun h => h.elim id fun h => by subst h; assumption⟩
  · simp only [List.mem_cons]; exact Or.comm
theorem mem_insAll {k : Key} : ∀ {js ks : List Key}, k ∈ insAll ks js ↔ k ∈ ks ∨ k ∈ js
  | [], ks => by simp [insAll]
  | j :: js, ks => by
    show k ∈ insAll (insK ks j) js ↔ _
    rw [mem_insAll, mem_insK, List.mem_cons, or_assoc]
theorem nodup_insK {j : Key} {ks : List Key} (h : ks.Nodup) : (insK ks j).Nodup := by
  unfold insK
  split
  · exact h
  · exact List.nodup_cons.2 ⟨‹_›, h⟩
theorem nodup_insAll : ∀ {js ks : List Key}, ks.Nodup → (insAll ks js).Nodup
  | [], _, h => h
  | _ :: js, _, h => nodup_insAll (js := js) (nodup_insK h)
def keyS : Key → Option Str
  | .inr z => some z
  | .inl _ => none
/-- texts, each once, sorted -/
def setS (zs : List Str) : List Str := srtS ((insAll [] (zs.map .inr)).filterMap keyS)
theorem insAll_strs : ∀ (zs ys : List Str), ∃ xs : List Str, insAll (ys.map .inr) (zs.map .inr) = xs.map (.inr : Str → Key)
  | [], ys => ⟨ys, rfl⟩
  | z :: zs, ys => by
    show ∃ xs : List Str, insAll (insK (ys.map .inr) (.inr z)) (zs.map .inr) = _
    unfold insK
    split
    · exact insAll_strs zs ys
    · exact insAll_strs zs (z :: ys)
theorem fm_inr (xs : List Str) : (xs.map (.inr : Str → Key)).filterMap keyS = xs := by
  induction xs with
  | nil => rfl
  | cons x r ih => simp only [List.map_cons, List.filterMap_cons, keyS, ih]
theorem setS_mem {zs : List Str} {z : Str} : z ∈ setS zs ↔ z ∈ zs := by
  obtain ⟨xs, e⟩ := insAll_strs zs []
  have m : ∀ z, (.inr z : Key) ∈ insAll [] (zs.map .inr) ↔ (.inr z : Key) ∈ zs.map .inr := fun z => by rw [mem_insAll]; simp
  have m := m z
  unfold setS
  rw [show ([] : List Key) = ([] : List Str).map .inr from rfl, e, fm_inr, (srtS_perm xs).mem_iff]
  rw [show ([] : List Key) = ([] : List Str).map .inr from rfl, e] at m
  simpa using m
theorem ext_setS {zs ys : List Str} (h : ∀ z, z ∈ zs ↔ z ∈ ys) : setS zs = setS ys := by
  obtain ⟨xs, e⟩ := insAll_strs zs []
  obtain ⟨us, f⟩ := insAll_strs ys []
  have nz : xs.Nodup := by
    have := nodup_insAll (js := zs.map .inr) (ks := []) List.nodup_nil
    rw [show ([] : List Key) = ([] : List Str).map .inr from rfl, e] at this
    exact (List.pairwise_map.1 this).imp fun h e => h (congrArg _ e)
  have nu : us.Nodup := by
    have := nodup_insAll (js := ys.map .inr) (ks := []) List.nodup_nil
    rw [show ([] : List Key) = ([] : List Str).map .inr from rfl, f] at this
    exact (List.pairwise_map.1 this).imp fun h e => h (congrArg _ e)
  have mz : ∀ z, z ∈ xs ↔ z ∈ zs := fun z => by
    have m : (.inr z : Key) ∈ insAll [] (zs.map .inr) ↔ (.inr z : Key) ∈ zs.map .inr := by rw [mem_insAll]; simp
    rw [show ([] : List Key) = ([] : List Str).map .inr from rfl, e] at m
    simpa using m
  have mu : ∀ z, z ∈ us ↔ z ∈ ys := fun z => by
    have m : (.inr z : Key) ∈ insAll [] (ys.map .inr) ↔ (.inr z : Key) ∈ ys.map .inr := by rw [mem_insAll]; simp
    rw [show ([] : List Key) = ([] : List Str).map .inr from rfl, f] at m
    simpa using m
  unfold setS
  rw [show ([] : List Key) = ([] : List Str).map .inr from rfl, e, f, fm_inr, fm_inr]
  have pm : xs.Perm us := (List.perm_ext_iff_of_nodup nz nu).2 fun z => by rw [mz, mu, h]
  have p2 := ((srtS_perm xs).trans pm).trans (srtS_perm us).symm
  exact p2.eq_of_pairwise (le := leS) (fun a b _ _ h1 h2 => leS_anti h1 h2) (srtS_pw xs) (srtS_pw us)
theorem ints?_inr (x : Str) (xs : List Str) : ints? ((x :: xs).map (.inr : Str → Key)) = none := rfl
theorem strs?_inr : ∀ xs : List Str, strs? (xs.map (.inr : Str → Key)) = some xs
  | [] => rfl
  | x :: r => by simp only [List.map_cons, strs?, strs?_inr r]; rfl
section
variable {S : Sto} {Q : DK}
theorem setS_nil : setS [] = [] := by
  have h : ∀ z, z ∉ setS [] := fun z hz => by rw [setS_mem] at hz; cases hz
  exact List.eq_nil_iff_forall_not_mem.2 h
theorem qSet_strs {zs : List Str} (hl : zs.length < 64) (q : Q (.lst ((setS zs).map .str)) S) : qSet (insAll [] (zs.map .inr)) S Q := by
  obtain ⟨xs, e⟩ := insAll_strs zs []
  have e : insAll [] (zs.map .inr) = xs.map (.inr : Str → Key) := e
  have l := insAll_len (zs.map (.inr : Str → Key)) []
  rw [e, List.length_map, List.length_map, List.length_nil] at l
  unfold setS at q
  rw [e, fm_inr] at q
  rw [e]
  unfold qSet
  cases xs with
  | nil =>
    rw [show srtS [] = [] from by simp [srtS]] at q
    show Q (.lst ((srtI []).map .int)) S
    rw [show srtI [] = [] from by simp [srtI]]
    exact q
  | cons x r => rw [ints?_inr, strs?_inr]; exact ⟨by omega, q⟩
theorem kLoop_strs {g : DG} {te : DE} {env : Env'} {Q : List Key → Sto → Prop} {zs : List Str} (hl : zs.length + 1 < scanBound) (step : ∀ z ∈ zs, ∀ R : DK, R (.str z) S → g (.str z) env S fun env2 S2 => te env2 S2 R)
    (q : Q (insAll [] (zs.map .inr)) S) : kLoop g dTrue te env (fun _ => True) Q (zs.map .str) [] S := by
  suffices h : ∀ (l : List Str) (acc : List Key), acc.length + l.length + 1 < scanBound → (∀ z ∈ l, z ∈ zs) → Q (insAll acc (l.map .inr)) S → kLoop g dTrue te env (fun _ => True) Q (l.map .str) acc S from
    h zs [] (by simpa using hl) (fun _ h => h) q
  intro l
  induction l with
  | nil => intro acc _ _ q; exact ⟨trivial, q⟩
  | cons z r ih =>
    intro acc hl hm q
    simp only [List.length_cons] at hl
    have hi := insK_len acc (.inr z)
    exact ⟨trivial, step z (hm z (List.mem_cons_self ..)) _ ⟨by omega, ih _ (by omega) (fun y hy => hm y (List.mem_cons_of_mem _ hy)) q⟩⟩
theorem itsOf_rl {a : Addr} {xs : List D} (h : S a = some (.lst xs)) : itsOf S (.ref a) = some xs := by simp only [itsOf, h]
theorem keysIn_strs : ∀ zs : List Str, keysIn (zs.map .str) = some (zs.map .inr)
  | [] => rfl
  | z :: r => by simp only [List.map_cons, keysIn, keyOf, keysIn_strs r]
/-- sorted(set(a list of texts)) -/
theorem gSrtSet_rs {a : Addr} {zs : List Str} (h : S a = some (.lst (zs.map .str))) (hl : zs.length < 64) (q : Q (.lst ((setS zs).map .str)) S) : gSrtSet [.ref a] S Q := by
  have hb : scanBound = 4096 := rfl
  have l := insAll_len (zs.map (.inr : Str → Key)) []
  rw [List.length_map, List.length_nil] at l
  unfold gSrtSet
  simp only [itsOf_rl h, Option.bind_some, keysIn_strs]
  exact ⟨by rw [List.length_map]; omega, qSet_strs hl q⟩
end
/-- the signs of a text that are no letters -/
theorem odd_signs {y : Str} (hok : PyData.strOk y = true) (hl : y.length ≤ sizeLine) {e0 e1 e2 e3 : Option D} {S : Sto} {K : DK}
    (q : K (.bl (!(y.cps.toList.all fun c => decide (97 ≤ c ∧ c ≤ 122)))) S) :
    cLoop (gNm 3) (dTst (dOp fNotIn (dVar 3) (dC (.str (Str.ofString "abcdefghijklmnopqrstuvwxyz"))))) (dVar 3) [e0, e1, e2, e3] (fun _ => True) (fun acc S2 => fNe (.lst acc) (.lst []) S2 K) (y.cps.toList.map fun c => .str ⟨#[c]⟩) [] S := by
  refine cLoop_filter (fun x => !letterB x) id trivial (by rw [List.length_map, Array.length_toList]; exact hl) (fun x hx R1 R2 r1 r2 => ?_) ?_
  · obtain ⟨c, hc, rfl⟩ := List.mem_map.1 hx
    rw [letterB_eq] at r1 r2
    show (if (!decide (c ∈ (Str.ofString "abcdefghijklmnopqrstuvwxyz").cps.toList)) = true then R1 _ _ else R2 _)
    rw [letters_mem]
    cases h : decide (97 ≤ c ∧ c ≤ 122) with
    | true => exact r2 (by rw [h]; rfl)
    | false => exact r1 (by rw [h]; rfl)
  · have hg : ∀ l : List D, (∀ x ∈ l, ∃ c, x = .str ⟨#[c]⟩ ∧ c < 1114112) → Gd 0 1 (2 * l.length) (.lst l) := by
      intro l hl
      refine gd_lst.2 ?_
      induction l with
      | nil => exact gds_nil
      | cons y l ih =>
        obtain ⟨c, rfl, hc⟩ := hl _ (List.mem_cons_self ..)
        refine (Gds.cons (b := 1) (gd_str (by simp [PyData.strOk, hc]) (by simp [Str.length])) (ih fun x hx => hl x (List.mem_cons_of_mem _ hx))).le (Nat.le_refl _) (Nat.le_refl _) (by simp only [List.length_cons]; omega)
    refine (hg _ fun x hx => ?_).ne (m' := 0) (d' := 1) (b' := 0) (gd_lst.2 gds_nil) (by decide) (by decide) ?_
    · rw [List.map_id] at hx
      obtain ⟨c, hc, rfl⟩ := List.mem_map.1 (List.mem_filter.1 hx).1
      refine ⟨c, rfl, ?_⟩
      have := (Array.all_eq_true_iff_forall_mem.1 hok) c (by simpa using hc)
      exact of_decide_eq_true this
    · rw [deq_lst0]
      have e : ∀ l : List Nat, (List.map id (List.filter (fun x => !letterB x) (l.map fun c => D.str ⟨#[c]⟩))).isEmpty = l.all fun c => decide (97 ≤ c ∧ c ≤ 122) := by
        intro l
        induction l with
        | nil => rfl
        | cons c l ih =>
          rw [List.map_cons, List.filter_cons, letterB_eq, List.all_cons, ← ih]
          cases decide (97 ≤ c ∧ c ≤ 122) <;> rfl
      rw [e]
      exact q

end DL


set_option Elab.async false
set_option linter.all false
set_option maxRecDepth 100000
set_option maxHeartbeats 4000000
set_option exponentiation.threshold 4000
set_option format.width 100000
namespace DL
open PySem PySem.Spec PyProof.Rows L2 DL
local macro_rules | `(tactic| walk_at "rd") => `(tactic| simp -implicitDefEqProofs only [sSeq_k, dTabIx_at, dTabIn_at, dTabGet1_at, dTabGet2_at, dTabCall_at, dCallV_at, tval_n, tval_c, spval_n, spval_c, dPop1_at, dPop2_at, dZip3_at, sLk_at, dLk_at, dItW_at, lkOf_s, fSet_41, fSet_42, fSet_43, dC_at, dUn_at, dOp_at, dNil_at, dCons_at, dFn_at, dNot_at, dAnd_at, dOr_at, dIf_at, dTup_at, dLst_at, dLstR_at, dSl_at, 
  dDisp_k, dPairs_n, dPairs_c, dispK_1, dispK_3, dMt_at, dMt0_at, dNoPart_at, dCall_at, dLc_at, dLcR_at, dLc2_at, dLc2R_at, dEmp_at, dGet1_at, dGet2_at, dLstRg_at, dLstRgR_at, dTupRg_at, dTrue_at, dSrtC_at, dSrtC2_at, gNm_at, gSubD_at, sAsg_at, 
  sAsgG_at, sBrk_at, sCnt_at, sExpr_at, sIf_at, sNext_at, sRet_at, sRetN_at, sFor_at, sFgt_at, sWp_at, dTst_at, dAndV_at, dOrV_at, dNotV_at, dPart_at, dVar_at, dIt_at, dRng1_at, dRng2_at, dTru_at, 
  dChain_at, dEnum_at, dZip_at, dR1_at, dR2_at, sPar_at, sPar3_at, sAug_at, sSeq_k, startD, List.length_map, List.map_cons, List.map_nil, List.length_cons, List.length_nil, Nat.reduceAdd, 
  Nat.reduceSub, List.replicate, List.cons_append, List.nil_append, wipeD, RgOk, gs_nil0, gs_cons, gTp_t, gStar12, gMax_ii, gSum_l, fIn_t, fNotIn_t, fIn_l, fNotIn_l, ofS_eq, String.reduceEq, 
  decide_true, decide_false, reduceCtorEq, List.getD_cons_zero, List.getD_cons_succ, List.getElem?_cons_zero, List.getElem?_cons_succ, List.set_cons_zero, List.set_cons_succ, fAdd_ii, fAdd_bi, 
  fAdd_ib, fSub_bi, fEq_bi, gStr_b, fAdd_ss, fAdd_tt, fAdd_ll, fSub_ii, fNeg_i, fDiv_ii, fMod_ii, fPow_ii, fMul_ii, fMul_l, fLt_ii, fLe_ii, fGt_ii, fGe_ii, fEq_ii, fNe_ii, fEq_ss, fNe_ss, fIx_t, 
  fIx_l, fSl_t, fSl_l, fSl_s, fRv_t, fRv_l, gList_t, gList_l, gTuple_t, gTuple_l, gStr_i, gStr_s, gInt_b, gInt_i, gLen_lst, gLen_tup, gLen_str, isi_non_int, isi_non_bool, isi_non_str, isi_non_tuple, 
  isi_non_list, isi_non_dict, isi_bl_int, isi_bl_bool, isi_bl_str, isi_bl_tuple, isi_bl_list, isi_bl_dict, isi_int_int, isi_int_bool, isi_int_str, isi_int_tuple, isi_int_list, isi_int_dict, 
  isi_str_int, isi_str_bool, isi_str_str, isi_str_tuple, isi_str_list, isi_str_dict, isi_tup_int, isi_tup_bool, isi_tup_str, isi_tup_tuple, isi_tup_list, isi_tup_dict, isi_lst_int, isi_lst_bool, 
  isi_lst_str, isi_lst_tuple, isi_lst_list, isi_lst_dict, sz1, Int.natCast_one, Int.natCast_zero, Int.cast_ofNat_Int, Nat.reduceLeDiff, Nat.zero_le, atI_0, atI_1, atI_2, atI_3, atI_4, atI_5, atI_6, atI_7, atI_8, qOpt_s, truOf, Bool.and_true, Bool.true_and, Bool.and_false, Bool.false_and, 
  if_true, if_false, Bool.false_eq_true, true_and, and_true, Bool.not_true, Bool.not_false, ite_true, ite_false, fAddR_ll, gListR_l, gListR_t, ty_lst_s, ty_lst_l, ty_str_s, gApp_s, gExt_sl, gExt_st, gTuple_s, gList_s, gListR_s, gLen_s, fIx_s, fIx_ds, fIx_di, fSet_ds, fSet_di, isDct_s, fGet_ss, fGet_si, dFrz_v, frzR_s, fAddR_s, fAdd_s, su_same, fIn_s1, fNotIn_s1, fIn_s2, fNotIn_s2, fIn_s3, fNotIn_s3, fIn_s4, fNotIn_s4, fIn_s5, fNotIn_s5, fIn_s6, fNotIn_s6, fIn_s7, fNotIn_s7, fEq_bb, fNe_bb, or_true, true_or, or_false, false_or, and_false, false_and])
local macro_rules | `(tactic| walk_at "go") => `(tactic| ((try walk_at "rd"); repeat (first | (refine And.intro (by first | decide | omega) ?_; try walk_at "rd") | (refine late_of ?_; try walk_at "rd"))))
/-! ### programs as they are drawn: the parts -/
inductive CW where
  | put | take | write | add | row
def CW.str : CW → Str
  | .put => "put" | .take => "take" | .write => "write" | .add => "add" | .row => "row"
def CW.fits : CW → Kd → Prop
  | .put, k => k = .set
  | .take, k => k = .set
  | .row, k => k = .list
  | .add, k => k = .sum
  | .write, k => k ≠ .set ∧ k ≠ .list
inductive Atm where
  | read (x : Str) (c : Nat) | cel (w : CW) (c : Nat) (e : Sm) | has (x : Str) (c : Nat) (e : Sm) | lets (x : Str) (e : Sm) | tell (e : Sm) | join (n x : Str) | fail
def atmD : Atm → D
  | .read x c => .tup [.str "read", .str x, .int c]
  | .cel w c e => .tup [.str w.str, .int c, smD e]
  | .has x c e => .tup [.str "has", .str x, .int c, smD e]
  | .lets x e => .tup [.str "let", .str x, smD e]
  | .tell e => .tup [.str "tell", smD e]
  | .join n x => .tup [.str "join", .str n, .str x]
  | .fail => .tup [.str "fail"]
inductive Prg where
  | nil | atm (s : Atm) (r : Prg) | ifs (e : Sm) (p q r : Prg) | fork (n : Str) (p : Prg) (ov : List Str) (r : Prg)
inductive Stp where
  | atm (s : Atm) | ifs (e : Sm) (p q : Prg) | fork (n : Str) (p : Prg) (ov : List Str)
def Prg.con : Stp → Prg → Prg
  | .atm s, r => .atm s r
  | .ifs e p q, r => .ifs e p q r
  | .fork n p ov, r => .fork n p ov r
def Prg.steps : Prg → List Stp
  | .nil => []
  | .atm s r => .atm s :: r.steps
  | .ifs e p q r => .ifs e p q :: r.steps
  | .fork n p ov r => .fork n p ov :: r.steps
def Prg.of : List Stp → Prg
  | [] => .nil
  | s :: l => .con s (Prg.of l)
theorem steps_con (s : Stp) (r : Prg) : (Prg.con s r).steps = s :: r.steps := by cases s <;> rfl
theorem steps_of : ∀ l : List Stp, (Prg.of l).steps = l
  | [] => rfl
  | s :: l => by rw [Prg.of, steps_con, steps_of]
theorem of_steps : ∀ p : Prg, Prg.of p.steps = p
  | .nil => rfl
  | .atm s r => by rw [Prg.steps, Prg.of, of_steps r]; rfl
  | .ifs e p q r => by rw [Prg.steps, Prg.of, of_steps r]; rfl
  | .fork n p ov r => by rw [Prg.steps, Prg.of, of_steps r]; rfl
def prgL : Prg → List D
  | .nil => []
  | .atm s r => atmD s :: prgL r
  | .ifs e p q r => .tup [.str "if", smD e, .tup (prgL p), .tup (prgL q)] :: prgL r
  | .fork n p ov r => .tup [.str "fork", .str n, .tup (prgL p), .tup (ov.map .str)] :: prgL r
def prgD (p : Prg) : D := .tup (prgL p)
def stpD : Stp → D
  | .atm s => atmD s
  | .ifs e p q => .tup [.str "if", smD e, prgD p, prgD q]
  | .fork n p ov => .tup [.str "fork", .str n, prgD p, .tup (ov.map .str)]
theorem prgL_steps : ∀ p : Prg, prgL p = p.steps.map stpD
  | .nil => rfl
  | .atm s r => by rw [prgL, Prg.steps, List.map_cons, prgL_steps r]; rfl
  | .ifs e p q r => by rw [prgL, Prg.steps, List.map_cons, prgL_steps r]; rfl
  | .fork n p ov r => by rw [prgL, Prg.steps, List.map_cons, prgL_steps r]; rfl
theorem prgD_steps (p : Prg) : prgD p = .tup (p.steps.map stpD) := by rw [prgD, prgL_steps]
theorem prgD_of (l : List Stp) : prgD (Prg.of l) = .tup (l.map stpD) := by rw [prgD_steps, steps_of]
/-- how many steps, at all depths -/
def Prg.size : Prg → Nat
  | .nil => 0
  | .atm _ r => 1 + r.size
  | .ifs _ p q r => 1 + p.size + q.size + r.size
  | .fork _ p _ r => 1 + p.size + r.size
def Prg.forks : Prg → Nat
  | .nil => 0
  | .atm _ r => r.forks
  | .ifs _ p q r => p.forks + q.forks + r.forks
  | .fork _ p _ r => 1 + p.forks + r.forks
def Prg.deep : Prg → Nat
  | .nil => 1
  | .atm _ r => r.deep
  | .ifs _ p q r => max (1 + max p.deep q.deep) r.deep
  | .fork _ p _ r => max (1 + p.deep) r.deep
def AtmOk (l : List (Kd × Vl)) : Atm → Prop
  | .read x c => IsSlt x ∧ c < l.length
  | .cel w c e => (∃ p, l[c]? = some p ∧ w.fits p.1) ∧ SmP e 2
  | .has x c e => IsSlt x ∧ (∃ p, l[c]? = some p ∧ p.1 = .set) ∧ SmP e 2
  | .lets x e => IsSlt x ∧ SmP e 2
  | .tell e => SmP e 2
  | .join n x => IsNm n ∧ IsSlt x
  | .fail => True
def PrgOk (l : List (Kd × Vl)) : Prg → Prop
  | .nil => True
  | .atm s r => AtmOk l s ∧ PrgOk l r
  | .ifs e p q r => SmP e 2 ∧ PrgOk l p ∧ PrgOk l q ∧ PrgOk l r
  | .fork n p ov r => IsNm n ∧ ((ov.Nodup ∧ ∀ z ∈ ov, IsNm z) ∧ setS ov = ov) ∧ PrgOk l p ∧ PrgOk l r
def Stp.prg (s : Stp) : Prg := .con s .nil
theorem size_con (s : Stp) (r : Prg) : (Prg.con s r).size = s.prg.size + r.size := by cases s <;> simp only [Prg.con, Stp.prg, Prg.size] <;> omega
theorem forks_con (s : Stp) (r : Prg) : (Prg.con s r).forks = s.prg.forks + r.forks := by cases s <;> simp only [Prg.con, Stp.prg, Prg.forks] <;> omega
theorem ok_con (l : List (Kd × Vl)) (s : Stp) (r : Prg) : PrgOk l (Prg.con s r) ↔ PrgOk l s.prg ∧ PrgOk l r := by cases s <;> simp only [Prg.con, Stp.prg, PrgOk, and_true, and_assoc]
theorem deep_pos : ∀ p : Prg, 1 ≤ p.deep
  | .nil => Nat.le_refl _
  | .atm _ r => deep_pos r
  | .ifs _ _ _ r => Nat.le_trans (deep_pos r) (Nat.le_max_right ..)
  | .fork _ _ _ r => Nat.le_trans (deep_pos r) (Nat.le_max_right ..)
theorem deep_con (s : Stp) (r : Prg) : (Prg.con s r).deep = max s.prg.deep r.deep := by
  have := deep_pos r
  cases s <;> simp only [Prg.con, Stp.prg, Prg.deep] <;> omega
/-- steps one behind another -/
def sizeL (l : List Stp) : Nat := (Prg.of l).size
def forksL (l : List Stp) : Nat := (Prg.of l).forks
theorem sizeL_snoc : ∀ (l : List Stp) (s : Stp), sizeL (l ++ [s]) = sizeL l + s.prg.size
  | [], s => by simp [sizeL, Prg.of, Stp.prg, Prg.size]
  | x :: l, s => by
    have := sizeL_snoc l s
    unfold sizeL at *
    rw [List.cons_append, Prg.of, Prg.of, size_con, size_con, this]; omega
theorem forksL_snoc : ∀ (l : List Stp) (s : Stp), forksL (l ++ [s]) = forksL l + s.prg.forks
  | [], s => by simp [forksL, Prg.of, Stp.prg, Prg.forks]
  | x :: l, s => by
    have := forksL_snoc l s
    unfold forksL at *
    rw [List.cons_append, Prg.of, Prg.of, forks_con, forks_con, this]; omega
theorem ofOk {l : List (Kd × Vl)} : ∀ {ss : List Stp}, (∀ s ∈ ss, PrgOk l s.prg) → PrgOk l (Prg.of ss)
  | [], _ => trivial
  | s :: ss, h => (ok_con l s _).2 ⟨h s (List.mem_cons_self ..), ofOk fun t ht => h t (List.mem_cons_of_mem _ ht)⟩
theorem ofDeep {m : Nat} (hm : 1 ≤ m) : ∀ {ss : List Stp}, (∀ s ∈ ss, s.prg.deep ≤ m) → (Prg.of ss).deep ≤ m
  | [], _ => hm
  | s :: ss, h => by
    rw [Prg.of, deep_con]
    exact Nat.max_le.2 ⟨h s (List.mem_cons_self ..), ofDeep hm fun t ht => h t (List.mem_cons_of_mem _ ht)⟩
theorem size_of_len : ∀ l : List Stp, l.length ≤ sizeL l
  | [] => Nat.le_refl _
  | s :: l => by
    have := size_of_len l
    have h : 1 ≤ s.prg.size := by cases s <;> simp only [Stp.prg, Prg.con, Prg.size] <;> omega
    show l.length + 1 ≤ (Prg.con s (Prg.of l)).size
    rw [size_con]
    have : l.length ≤ (Prg.of l).size := this
    omega
/-! ### names that are held -/
def HdOk (hd : List Str) : Prop := hd.Nodup ∧ ∀ z ∈ hd, IsNm z
theorem HdOk.len {hd : List Str} (h : HdOk hd) : hd.length ≤ 3 := by
  have key : ∀ (u hd : List Str), hd.Nodup → (∀ z ∈ hd, z ∈ u) → hd.length ≤ u.length := by
    intro u
    induction u with
    | nil => intro hd _ h; cases hd with | nil => exact Nat.le_refl _ | cons z r => exact absurd (h z (List.mem_cons_self ..)) (List.not_mem_nil)
    | cons x u ih =>
      intro hd nd h
      have h1 := ih (hd.erase x) (nd.erase x) fun z hz => by
        have hz2 := (nd.mem_erase_iff).1 hz
        rcases List.mem_cons.1 (h z hz2.2) with e | e
        · exact absurd e hz2.1
        · exact e
      rw [List.length_erase] at h1
      rw [List.length_cons]
      split at h1 <;> omega
  exact key (nmL.map Str.ofString) hd h.1 fun z hz => by
    obtain ⟨y, hy, rfl⟩ := h.2 z hz
    exact List.mem_map_of_mem hy
theorem HdOk.nil : HdOk [] := ⟨List.nodup_nil, fun z h => absurd h List.not_mem_nil⟩
theorem HdOk.sub {hd r : List Str} (h : HdOk hd) (s : List.Sublist r hd) : HdOk r := ⟨h.1.sublist s, fun z hz => h.2 z (s.subset hz)⟩
theorem setS_nd (zs : List Str) : (setS zs).Nodup := by
  obtain ⟨xs, e⟩ := insAll_strs zs []
  have nz : xs.Nodup := by
    have := nodup_insAll (js := zs.map .inr) (ks := []) List.nodup_nil
    rw [show ([] : List Key) = ([] : List Str).map .inr from rfl, e] at this
    exact (List.pairwise_map.1 this).imp fun h e => h (congrArg _ e)
  unfold setS
  rw [show ([] : List Key) = ([] : List Str).map .inr from rfl, e, fm_inr]
  exact (srtS_perm xs).nodup_iff.2 nz
theorem setS_idem (zs : List Str) : setS (setS zs) = setS zs := ext_setS fun _ => setS_mem
theorem HdOk.setS {r : List Str} (h : HdOk r) : HdOk (setS r) := ⟨setS_nd r, fun z hz => h.2 z (setS_mem.1 hz)⟩
/-! ### the store of a drawn program -/
def hdO (hd : List Str) : O := .lst (hd.map .str)
def rmO (r0 r1 : Nat) : O := .lst [.int r0, .int r1]
structure Lay (a b h : Addr) : Prop where
  ab : a ≠ b
  ah : a ≠ h
  bh : b ≠ h
def lap (S : Sto) (a b h : Addr) (o : O) (r0 r1 : Nat) (hd : List Str) : Sto := su (su (su S a o) b (rmO r0 r1)) h (hdO hd)
section
variable {S : Sto} {a b h p : Addr} {o o' : O} {r0 r1 r0' r1' : Nat} {hd hd' : List Str} {x y : O}
theorem lap_a (L : Lay a b h) : lap S a b h o r0 r1 hd a = some o := by rw [lap, su_ne L.ah, su_ne L.ab, su_same]
theorem lap_b (L : Lay a b h) : lap S a b h o r0 r1 hd b = some (rmO r0 r1) := by rw [lap, su_ne L.bh, su_same]
theorem lap_h : lap S a b h o r0 r1 hd h = some (hdO hd) := su_same
theorem lap_sa (L : Lay a b h) : su (lap S a b h o r0 r1 hd) a o' = lap S a b h o' r0 r1 hd := by rw [lap, su_comm L.ah.symm, su_comm L.ab.symm, su_su]; rfl
theorem lap_sb (L : Lay a b h) : su (lap S a b h o r0 r1 hd) b (.lst [.int r0', .int r1']) = lap S a b h o r0' r1' hd := by rw [lap, su_comm L.bh.symm, su_su]; rfl
theorem lap_sh : su (lap S a b h o r0 r1 hd) h (.lst (hd'.map .str)) = lap S a b h o r0 r1 hd' := by rw [lap, su_su]; rfl
theorem lap_self (L : Lay a b h) (ha : S a = some o) (hb : S b = some (rmO r0 r1)) (hh : S h = some (hdO hd)) : lap S a b h o r0 r1 hd = S := by
  rw [lap, su_self ha, su_self hb, su_self hh]
theorem lap_lay (L : Lay a b h) : lap (lap S a b h o r0 r1 hd) a b h o' r0' r1' hd' = lap S a b h o' r0' r1' hd' := by
  funext z
  unfold lap su
  by_cases hz : z = h <;> by_cases hb : z = b <;> by_cases ha : z = a <;> simp_all
theorem lap_of (L : Lay a b h) (ha : S a = some o) (hb : S b = some (rmO r0 r1)) (hh : S h = some (hdO hd)) : S = lap S a b h o r0 r1 hd := (lap_self L ha hb hh).symm
theorem lap_none {S : Sto} (n : lap S a b h o r0 r1 hd p = none) : S p = none ∧ a ≠ p ∧ b ≠ p ∧ h ≠ p := by unfold lap at n; exact ⟨none_at (none_at (none_at n)), (ne_at (none_at (none_at n))).symm, (ne_at (none_at n)).symm, (ne_at n).symm⟩
theorem lap_new (n : S p = none) (ap : a ≠ p) (bp : b ≠ p) (hp : h ≠ p) : lap S a b h o r0 r1 hd p = none := by rw [lap, su_ne hp.symm, su_ne bp.symm, su_ne ap.symm]; exact n
/-- within a store that has one more -/
theorem lap_p (hap : a ≠ p) (hbp : b ≠ p) (hhp : h ≠ p) : lap (su (lap S a b h o r0 r1 hd) p x) a b h o' r0' r1' hd' = su (lap S a b h o' r0' r1' hd') p x := by
  funext z
  unfold lap su
  by_cases hp : z = p <;> by_cases hz : z = h <;> by_cases hb : z = b <;> by_cases ha : z = a <;> simp_all
/-- one more is the list held -/
theorem lap_q (hap : a ≠ p) (hbp : b ≠ p) (hhp : h ≠ p) (L : Lay a b h) : lap (su (lap S a b h o r0 r1 hd) p x) a b p o' r0' r1' hd' = su (lap S a b h o' r0' r1' hd) p (hdO hd') := by
  funext z
  unfold lap su
  have h1 := L.ab; have h2 := L.ah; have h3 := L.bh
  by_cases hp : z = p <;> by_cases hz : z = h <;> by_cases hb : z = b <;> by_cases ha : z = a <;> simp_all
theorem lap_q2 {q : Addr} (hap : a ≠ p) (hbp : b ≠ p) (hhp : h ≠ p) (haq : a ≠ q) (hbq : b ≠ q) (hhq : h ≠ q) (hpq : p ≠ q) (L : Lay a b h) : lap (su (su (lap S a b h o r0 r1 hd) p x) q y) a b q o' r0' r1' hd' = su (su (lap S a b h o' r0' r1' hd) p x) q (hdO hd') := by
  funext z
  unfold lap su
  have h1 := L.ab; have h2 := L.ah; have h3 := L.bh
  by_cases hq : z = q <;> by_cases hp : z = p <;> by_cases hz : z = h <;> by_cases hb : z = b <;> by_cases ha : z = a <;> simp_all
end
section
variable {S : Sto} {Q : DK} {a : Addr} {zs : List Str}
theorem any_strs (x : Str) : ((zs.map D.str).any fun z => deq z (.str x)) = decide (x ∈ zs) := by
  induction zs with
  | nil => rfl
  | cons n ns ih =>
    rw [List.map_cons, List.any_cons, ih, deq_str]
    simp only [List.mem_cons, Bool.decide_or]
    congr 1
    exact decide_eq_decide.2 eq_comm
theorem strs_gd (hz : ∀ z ∈ zs, IsNm z) : ∃ b, Gd 0 1 b (.lst (zs.map .str)) := by
  exact ⟨_, gd_lst.2 (gds_map (b := 2) fun z h => gd_str (nm_ok (hz z h)).1 (nm_ok (hz z h)).2.1)⟩
theorem inB_nm {x : Str} {R : Bool → Prop} (hx : IsNm x) (hz : ∀ z ∈ zs, IsNm z) (hs : S a = some (hdO zs)) : fInB (.str x) (.ref a) S R = R (decide (x ∈ zs)) := by
  refine Eq.trans (b := ((shp (rd S (.str x)) = true ∧ shp (.lst (zs.map .str)) = true) ∧ R ((zs.map D.str).any fun z => deq z (rd S (.str x))))) (by simp only [fInB, hs, hdO]) ?_
  rw [show rd S (.str x) = .str x from rfl, any_strs]
  obtain ⟨b, g⟩ := strs_gd hz
  have g2 : Gd 0 0 2 (.str x) := gd_str (nm_ok hx).1 (nm_ok hx).2.1
  exact propext ⟨fun h => h.2, fun h => ⟨⟨g2.shp (by decide), g.shp (by decide)⟩, h⟩⟩
theorem fIn_nm {x : Str} (hx : IsNm x) (hz : ∀ z ∈ zs, IsNm z) (hs : S a = some (hdO zs)) : fIn (.str x) (.ref a) S Q = Q (.bl (decide (x ∈ zs))) S := inB_nm hx hz hs
theorem ne_nil_nm (hz : ∀ z ∈ zs, IsNm z) (hs : S a = some (hdO zs)) (q : Q (.bl (!zs.isEmpty)) S) : fNe (.ref a) (.lst []) S Q := by
  obtain ⟨b, g⟩ := strs_gd hz
  have g0 : Gd 0 1 0 (.lst []) := gd_lst.2 gds_nil
  have e : rd S (.ref a) = .lst (zs.map .str) := by simp only [rd, hs, hdO]
  unfold fNe
  rw [e, g0.rd]
  refine ⟨.inr ⟨g.shp (by decide), g0.shp (by decide)⟩, ?_⟩
  have : deq (.lst (zs.map .str)) (.lst []) = zs.isEmpty := by cases zs <;> rfl
  rw [this]; exact q
end
section
variable {α : Type} {S : Sto} {Q : DK}
theorem ix_map {l : List α} {enc : α → D} {r : Int} (h0 : 0 ≤ r) (h : r < l.length) (q : ∀ (n : Nat) x, r = (n : Int) → l[n]? = some x → Q (enc x) S) : qOpt (atI (l.map enc) r) S Q := by
  obtain ⟨n, rfl⟩ := Int.eq_ofNat_of_zero_le h0
  have hn : n < l.length := by omega
  rw [atI_nat (x := enc l[n]) (by rw [List.getElem?_map, List.getElem?_eq_getElem hn]; rfl)]
  exact q n l[n] rfl (List.getElem?_eq_getElem hn)
end
section
variable {F : Nat → O → Prop} {α : Type} {g : DG} {tt : DT} {te : DE} {env : Env'} {ok : Sto → Prop} {Q : List D → Sto → Prop} {S0 : Sto} {a : Addr} {o : O} {c : Nat}
/-- a comprehension that keeps some, as drawn: one draw a turn -/
theorem cLoop_sf (enc : α → D) {l : List α} (ho : F c o) (hok : ∀ o, ok (su S0 a o)) (hl : l.length ≤ sizeLine)
    (step : ∀ x ∈ l, ∀ c' o, c' < c + l.length → F c' o → ∀ (R1 : D → Sto → Prop) (R2 : Sto → Prop), (∀ o', F (c' + 1) o' → R1 (enc x) (su S0 a o')) → (∀ o', F (c' + 1) o' → R2 (su S0 a o')) → g (enc x) env (su S0 a o) fun env2 S2 => tt env2 S2 fun b S3 => if b = true then te env2 S3 R1 else R2 S3)
    (q : ∀ r o', List.Sublist r l → F (c + l.length) o' → Q (r.map enc) (su S0 a o')) : cLoop g tt te env ok Q (l.map enc) [] (su S0 a o) := by
  have key : ∀ (post pre r : List α) (o : O), l = pre ++ post → List.Sublist r pre → F (c + pre.length) o → cLoop g tt te env ok Q (post.map enc) (r.map enc) (su S0 a o) := by
    intro post
    induction post with
    | nil => intro pre r o e h ho; rw [List.append_nil] at e; subst e; exact ⟨hok _, q r o h ho⟩
    | cons x t ih =>
      intro pre r o e h ho
      have hlen : l.length = pre.length + (t.length + 1) := by rw [e, List.length_append, List.length_cons]
      refine ⟨hok _, ?_⟩
      refine step x (by rw [e]; exact List.mem_append_right _ (List.mem_cons_self ..)) _ o (by omega) ho (fun y S4 => (r.map enc).length < sizeLine ∧ cLoop g tt te env ok Q (t.map enc) (r.map enc ++ [y]) S4) (fun S3 => cLoop g tt te env ok Q (t.map enc) (r.map enc) S3) (fun o' ho' => ⟨by
        rw [List.length_map]
        have h1 := h.length_le
        omega, by
        have := ih (pre ++ [x]) (r ++ [x]) o' (by rw [List.append_assoc]; exact e) (h.append (.refl _)) (by rw [List.length_append, List.length_singleton, ← Nat.add_assoc]; exact ho')
        rw [List.map_append] at this
        exact this⟩) fun o' ho' => ih (pre ++ [x]) r o' (by rw [List.append_assoc]; exact e) (h.trans (List.sublist_append_left _ _)) (by rw [List.length_append, List.length_singleton, ← Nat.add_assoc]; exact ho')
  exact key l [] [] o rfl .slnil (by rw [List.length_nil]; exact ho)
end

end DL


set_option Elab.async false
set_option linter.all false
set_option maxRecDepth 100000
set_option maxHeartbeats 4000000
set_option exponentiation.threshold 4000
set_option format.width 100000
namespace DL
open PySem PySem.Spec PyProof.Rows L2 DL
local macro_rules | `(tactic| walk_at "rd") => `(tactic| simp -implicitDefEqProofs only [sSeq_k, dTabIx_at, dTabIn_at, dTabGet1_at, dTabGet2_at, dTabCall_at, dCallV_at, tval_n, tval_c, spval_n, spval_c, dPop1_at, dPop2_at, dZip3_at, sLk_at, dLk_at, dItW_at, lkOf_s, fSet_41, fSet_42, fSet_43, dC_at, dUn_at, dOp_at, dNil_at, dCons_at, dFn_at, dNot_at, dAnd_at, dOr_at, dIf_at, dTup_at, dLst_at, dLstR_at, dSl_at, 
  dDisp_k, dPairs_n, dPairs_c, dispK_1, dispK_3, dMt_at, dMt0_at, dNoPart_at, dCall_at, dLc_at, dLcR_at, dLc2_at, dLc2R_at, dEmp_at, dGet1_at, dGet2_at, dLstRg_at, dLstRgR_at, dTupRg_at, dTrue_at, dSrtC_at, dSrtC2_at, gNm_at, gSubD_at, sAsg_at, 
  sAsgG_at, sBrk_at, sCnt_at, sExpr_at, sIf_at, sNext_at, sRet_at, sRetN_at, sFor_at, sFgt_at, sWp_at, dTst_at, dAndV_at, dOrV_at, dNotV_at, dPart_at, dVar_at, dIt_at, dRng1_at, dRng2_at, dTru_at, 
  dChain_at, dEnum_at, dZip_at, dR1_at, dR2_at, sPar_at, sPar3_at, sAug_at, sSeq_k, startD, List.length_map, List.map_cons, List.map_nil, List.length_cons, List.length_nil, Nat.reduceAdd, 
  Nat.reduceSub, List.replicate, List.cons_append, List.nil_append, wipeD, RgOk, gs_nil0, gs_cons, gTpL_t, gTpL_l, gStarL12_t, gStarL12_l, gStarL23_t, gStarL23_l, gTp_t, gStar12, gMax_ii, gSum_l, fIn_t, fNotIn_t, fIn_l, fNotIn_l, ofS_eq, String.reduceEq, 
  decide_true, decide_false, reduceCtorEq, List.getD_cons_zero, List.getD_cons_succ, List.getElem?_cons_zero, List.getElem?_cons_succ, List.set_cons_zero, List.set_cons_succ, fAdd_ii, fAdd_bi, 
  fAdd_ib, fSub_bi, fEq_bi, gStr_b, fAdd_ss, fAdd_tt, fAdd_ll, fSub_ii, fNeg_i, fDiv_ii, fMod_ii, fPow_ii, fMul_ii, fMul_l, fLt_ii, fLe_ii, fGt_ii, fGe_ii, fEq_ii, fNe_ii, fEq_ss, fNe_ss, fIx_t, 
  fIx_l, fSl_t, fSl_l, fSl_s, fRv_t, fRv_l, gList_t, gList_l, gTuple_t, gTuple_l, gStr_i, gStr_s, gInt_b, gInt_i, gLen_lst, gLen_tup, gLen_str, isi_non_int, isi_non_bool, isi_non_str, isi_non_tuple, 
  isi_non_list, isi_non_dict, isi_bl_int, isi_bl_bool, isi_bl_str, isi_bl_tuple, isi_bl_list, isi_bl_dict, isi_int_int, isi_int_bool, isi_int_str, isi_int_tuple, isi_int_list, isi_int_dict, 
  isi_str_int, isi_str_bool, isi_str_str, isi_str_tuple, isi_str_list, isi_str_dict, isi_tup_int, isi_tup_bool, isi_tup_str, isi_tup_tuple, isi_tup_list, isi_tup_dict, isi_lst_int, isi_lst_bool, 
  isi_lst_str, isi_lst_tuple, isi_lst_list, isi_lst_dict, sz1, Int.natCast_one, Int.natCast_zero, Int.cast_ofNat_Int, Nat.reduceLeDiff, Nat.zero_le, atI_0, atI_1, atI_2, atI_3, atI_4, atI_5, atI_6, atI_7, atI_8, qOpt_s, truOf, Bool.and_true, Bool.true_and, Bool.and_false, Bool.false_and, 
  if_true, if_false, Bool.false_eq_true, true_and, and_true, Bool.not_true, Bool.not_false, ite_true, ite_false, fAddR_ll, gListR_l, gListR_t, ty_lst_s, ty_lst_l, ty_str_s, gApp_s, gExt_sl, gExt_st, gTuple_s, gList_s, gListR_s, gLen_s, fIx_s, fIx_ds, fIx_di, fSet_ds, fSet_di, isDct_s, fGet_ss, fGet_si, dFrz_v, frzR_s, fAddR_s, fAdd_s, su_same, fIn_s1, fNotIn_s1, fIn_s2, fNotIn_s2, fIn_s3, fNotIn_s3, fIn_s4, fNotIn_s4, fIn_s5, fNotIn_s5, fIn_s6, fNotIn_s6, fIn_s7, fNotIn_s7, fEq_bb, fNe_bb, or_true, true_or, or_false, false_or, and_false, false_and])
local macro_rules | `(tactic| walk_at "go") => `(tactic| ((try walk_at "rd"); repeat (first | (refine And.intro (by first | decide | omega) ?_; try walk_at "rd") | (refine late_of ?_; try walk_at "rd"))))
/-! ### drawn kinds held against texts; what is done to a cell -/
section
variable {S : Sto} {Q : DK}
theorem kdq {k : Kd} (h : KdOk k) {z : String} (hz : "own" ≠ z) : fEq (kdD k) (.str (Str.ofString z)) S Q = Q (.bl (decide (k.name = z))) S := by
  cases k with
  | own e =>
    show fEq (.tup [.str "own", smD e]) (.str (Str.ofString z)) S Q = _
    rw [fEq_own h.ok.1 h.ok.2, show decide (Kd.name (.own e) = z) = false from decide_eq_false hz]
  | _ => show fEq (.str (Str.ofString _)) (.str (Str.ofString z)) S Q = _; rw [fEq_ss, show ∀ x : String, decide (Str.ofString x = Str.ofString z) = decide (x = z) from fun x => decide_eq_decide.2 ⟨ofS_inj, fun h => by rw [h]⟩]; rfl
theorem kdin {k : Kd} (h : KdOk k) {R : Bool → Prop} : fInB (kdD k) (.tup [.str (Str.ofString "set"), .str (Str.ofString "list")]) S R = R k.row := by
  rw [show D.tup [.str (Str.ofString "set"), .str (Str.ofString "list")] = .tup (["set", "list"].map fun z => .str (Str.ofString z)) from rfl, kdIn h.ok]
  cases k <;> rfl
theorem kdnot {k : Kd} (h : KdOk k) : fNotIn (kdD k) (.tup [.str (Str.ofString "set"), .str (Str.ofString "list")]) S Q = Q (.bl (!k.row)) S := kdin h
end
/-- what a cell has behind a word, where it goes with the kind -/
def chg : CW → Kd → Vl → Int → Option Vl
  | .write, .set, _, _ => none
  | .write, .list, _, _ => none
  | .write, _, _, n => some (.n n)
  | .add, .sum, .n i, n => some (.n (i + n))
  | .put, .set, .t ns, n => some (.t (setI (ns ++ [n])))
  | .take, .set, .t ns, n => some (.t (ns.filter fun x => !decide (x = n)))
  | .row, .list, .t ns, n => some (.t (ns ++ [n]))
  | _, _, _, _ => none
theorem kn_set {k : Kd} (h : decide (k.name = "set") = true) : k = .set := by cases k <;> simp [Kd.name] at h ⊢
theorem kn_list {k : Kd} (h : decide (k.name = "list") = true) : k = .list := by cases k <;> simp [Kd.name] at h ⊢
theorem kn_sum {k : Kd} (h : decide (k.name = "sum") = true) : k = .sum := by cases k <;> simp [Kd.name] at h ⊢

end DL


set_option Elab.async false
set_option linter.all false
set_option maxRecDepth 100000
set_option maxHeartbeats 4000000
set_option exponentiation.threshold 4000
set_option format.width 100000
namespace Lw
open PySem PySem.Spec PyProof.Rows L2 DL
local macro_rules | `(tactic| walk_at "rd") => `(tactic| simp -implicitDefEqProofs only [sSeq_k, dXf_at, sTry_at, sTryAs_at, sRaise_at, dTabIx_at, dTabIn_at, dTabGet1_at, dTabGet2_at, dTabCall_at, dCallV_at, tval_n, tval_c, spval_n, spval_c, dPop1_at, dPop2_at, dZip3_at, sLk_at, dLk_at, dItW_at, lkOf_s, fSet_41, fSet_42, fSet_43, dC_at, dUn_at, dOp_at, dNil_at, dCons_at, dFn_at, dNot_at, dAnd_at, dOr_at, dIf_at, dTup_at, dLst_at, dLstR_at, dSl_at, 
  dDisp_k, dPairs_n, dPairs_c, dispK_1, dispK_3, dMt_at, dMt0_at, dNoPart_at, dCall_at, dLc_at, dLcR_at, dLc2_at, dLc2R_at, dEmp_at, dGet1_at, dGet2_at, dLstRg_at, dLstRgR_at, dTupRg_at, dTrue_at, dSrtC_at, dSrtC2_at, gNm_at, gSubD_at, sAsg_at, 
  sAsgG_at, sBrk_at, sCnt_at, sExpr_at, sIf_at, sNext_at, sRet_at, sRetN_at, sFor_at, sFgt_at, sWp_at, dTst_at, dAndV_at, dOrV_at, dNotV_at, dPart_at, dVar_at, dIt_at, dRng1_at, dRng2_at, dTru_at, 
  dChain_at, dEnum_at, dZip_at, dR1_at, dR2_at, sPar_at, sPar3_at, sAug_at, sSeq_k, startD, List.length_map, List.map_cons, List.map_nil, List.length_cons, List.length_nil, Nat.reduceAdd, 
  Nat.reduceSub, List.replicate, List.cons_append, List.nil_append, wipeD, RgOk, gs_nil0, gs_cons, gTpL_t, gTpL_l, gStarL12_t, gStarL12_l, gStarL23_t, gStarL23_l, gTp_t, gStar12, gMax_ii, gSum_l, fIn_t, fNotIn_t, fIn_l, fNotIn_l, ofS_eq, String.reduceEq, 
  decide_true, decide_false, reduceCtorEq, List.getD_cons_zero, List.getD_cons_succ, List.getElem?_cons_zero, List.getElem?_cons_succ, List.set_cons_zero, List.set_cons_succ, fAdd_ii, fAdd_bi, 
  fAdd_ib, fSub_bi, fEq_bi, gStr_b, fAdd_ss, fAdd_tt, fAdd_ll, fSub_ii, fNeg_i, fDiv_ii, fMod_ii, fPow_ii, fMul_ii, fMul_l, fLt_ii, fLe_ii, fGt_ii, fGe_ii, fEq_ii, fNe_ii, fEq_ss, fNe_ss, fIx_t, 
  fIx_l, fSl_t, fSl_l, fSl_s, fRv_t, fRv_l, gList_t, gList_l, gTuple_t, gTuple_l, gStr_i, gStr_s, gInt_b, gInt_i, gLen_lst, gLen_tup, gLen_str, isi_non_int, isi_non_bool, isi_non_str, isi_non_tuple, 
  isi_non_list, isi_non_dict, isi_bl_int, isi_bl_bool, isi_bl_str, isi_bl_tuple, isi_bl_list, isi_bl_dict, isi_int_int, isi_int_bool, isi_int_str, isi_int_tuple, isi_int_list, isi_int_dict, 
  isi_str_int, isi_str_bool, isi_str_str, isi_str_tuple, isi_str_list, isi_str_dict, isi_tup_int, isi_tup_bool, isi_tup_str, isi_tup_tuple, isi_tup_list, isi_tup_dict, isi_lst_int, isi_lst_bool, 
  isi_lst_str, isi_lst_tuple, isi_lst_list, isi_lst_dict, sz1, Int.natCast_one, Int.natCast_zero, Int.cast_ofNat_Int, Nat.reduceLeDiff, Nat.zero_le, atI_0, atI_1, atI_2, atI_3, atI_4, atI_5, atI_6, atI_7, atI_8, qOpt_s, truOf, Bool.and_true, Bool.true_and, Bool.and_false, Bool.false_and, 
  if_true, if_false, Bool.false_eq_true, true_and, and_true, Bool.not_true, Bool.not_false, ite_true, ite_false, fAddR_ll, gListR_l, gListR_t, ty_lst_s, ty_lst_l, ty_str_s, gApp_s, gExt_sl, gExt_st, gTuple_s, gList_s, gListR_s, gLen_s, fIx_s, fIx_ds, fIx_di, fSet_ds, fSet_di, isDct_s, fGet_ss, fGet_si, dFrz_v, frzR_s, fAddR_s, fAdd_s, su_same, fIn_s1, fNotIn_s1, fIn_s2, fNotIn_s2, fIn_s3, fNotIn_s3, fIn_s4, fNotIn_s4, fIn_s5, fNotIn_s5, fIn_s6, fNotIn_s6, fIn_s7, fNotIn_s7, fEq_bb, fNe_bb, or_true, true_or, or_false, false_or, and_false, false_and])
local macro_rules | `(tactic| walk_at "go") => `(tactic| ((try walk_at "rd"); repeat (first | (refine And.intro (by first | decide | omega) ?_; try walk_at "rd") | (refine late_of ?_; try walk_at "rd"))))
/-- a statement, and what is known behind it -/
theorem sSeq_via {t u : DS} {d : DEnds} {env : Env'} {S : Sto} (R : Env' → Sto → Prop) (h1 : ∀ N : Env' → Sto → Prop, (∀ e s, R e s → N e s) → t { d with nx := N } env S) (h2 : ∀ e s, R e s → u d e s) : sSeq t u d env S := h1 _ h2
def w10 : List (String × Option CW) := [("write", some .write), ("add", some .add), ("put", some .put), ("take", some .take), ("row", some .row), ("read", none), ("tell", none), ("", none), ("Write", none), ("set", none)]
def chgO (o : Option CW) (k : Kd) (v : Vl) (n : Int) : Option Vl := o.bind fun w => chg w k v n
section
variable {S : Sto} {Q : DK} {E : XD} {ws : List D} {ea : EN → Addr}
def spDo (f : Vl → Int → Option Vl) : DSp := fun ws S Q _ => ∃ v n r, ws = [vlD v, .int n] ∧ f v n = some r ∧ (∀ ns, v = .t ns → ns.length ≤ 40) ∧ Q (vlD r) S
def fWr (v : Vl) (n : Int) : Option Vl := some (.n n)
def fAd : Vl → Int → Option Vl
  | .n i, n => some (.n (i + n))
  | _, _ => none
def fPu : Vl → Int → Option Vl
  | .t ns, n => some (.t (setI (ns ++ [n])))
  | _, _ => none
def fTa : Vl → Int → Option Vl
  | .t ns, n => some (.t (ns.filter fun x => !decide (x = n)))
  | _, _ => none
def fRo : Vl → Int → Option Vl
  | .t ns, n => some (.t (ns ++ [n]))
  | _, _ => none
theorem wr_ok (h : spDo fWr ws S Q E) : r_do_write E (endsD Q) (startD N_do_write ws) S := by
  obtain ⟨v, n, r, rfl, e, hl, q⟩ := h
  cases e
  unfold r_do_write
  walk_at "go"
  exact ends_rt q
theorem ad_ok (h : spDo fAd ws S Q E) : r_do_add E (endsD Q) (startD N_do_add ws) S := by
  obtain ⟨v, n, r, rfl, e, hl, q⟩ := h
  cases v with
  | t ns => cases e
  | n i =>
    cases e
    unfold r_do_add vlD
    walk_at "go"
    exact ends_rt q
theorem pu_ok (h : spDo fPu ws S Q E) : r_do_put E (endsD Q) (startD N_do_put ws) S := by
  obtain ⟨v, n, r, rfl, e, hl, q⟩ := h
  have hsz : sizeLine = 16777216 := rfl
  have hb : scanBound = 4096 := rfl
  cases v with
  | n i => cases e
  | t ns =>
    cases e
    have hl := hl ns rfl
    unfold r_do_put vlD
    walk_at "go"
    rw [show ns.map D.int ++ [D.int n] = (ns ++ [n]).map D.int by rw [List.map_append]; rfl, gSrtSet_t]
    refine ⟨by rw [List.length_append, List.length_singleton]; omega, ?_⟩
    walk_at "go"
    exact ends_rt q
theorem ta_ok (h : spDo fTa ws S Q E) : r_do_take E (endsD Q) (startD N_do_take ws) S := by
  obtain ⟨v, n, r, rfl, e, hl, q⟩ := h
  have hsz : sizeLine = 16777216 := rfl
  cases v with
  | n i => cases e
  | t ns =>
    cases e
    have hl := hl ns rfl
    unfold r_do_take vlD
    walk_at "go"
    refine cLoop_filterA D.int D.int (fun x => !decide (x = n)) trivial (by omega) (fun x _ R1 R2 r1 r2 => ?_) ?_
    · walk_at "go"
      refine ite_by (fun h => r1 h) fun h => r2 h
    · walk_at "go"
      exact ends_rt q
theorem ro_ok (h : spDo fRo ws S Q E) : r_do_row E (endsD Q) (startD N_do_row ws) S := by
  obtain ⟨v, n, r, rfl, e, hl, q⟩ := h
  have hsz : sizeLine = 16777216 := rfl
  cases v with
  | n i => cases e
  | t ns =>
    cases e
    have hl := hl ns rfl
    unfold r_do_row vlD
    walk_at "go"
    have : ns.map D.int ++ [D.int n] = (ns ++ [n]).map D.int := by rw [List.map_append]; rfl
    rw [this]
    exact ends_rt q
def goB (o : Option CW) (k : Kd) : Bool := match o with
  | some .write => !k.row
  | some .add => decide (k.name = "sum")
  | some .put => decide (k.name = "set")
  | some .take => decide (k.name = "set")
  | some .row => decide (k.name = "list")
  | none => false
def spGo : DSp := fun ws S Q _ => ∃ k z, ws = [.str (Str.ofString z.1), kdD k] ∧ z ∈ w10 ∧ KdOk k ∧ Q (.bl (goB z.2 k)) S
theorem go_ok (h : spGo ws S Q E) : r_goes E (endsD Q) (startD N_goes ws) S := by
  obtain ⟨k, z, rfl, hz, hk, q⟩ := h
  have kd0 : ∀ {S : Sto} {Q : DK}, fEq (kdD k) (.str (Str.ofString "")) S Q = Q (.bl false) S := fun {S Q} => by
    rw [kdq hk (by decide), show decide (k.name = "") = false from by cases k <;> rfl]
  simp only [w10, List.mem_cons, List.not_mem_nil, or_false] at hz
  unfold r_goes
  rcases hz with rfl | rfl | rfl | rfl | rfl | rfl | rfl | rfl | rfl | rfl
  · walk_at "go"
    rw [kdnot hk]
    exact ends_rt q
  all_goals
    walk_at "go"
    intro p hp
  · show fEq (kdD k) (.str (Str.ofString "sum")) _ _
    rw [kdq hk (by decide)]
    exact ⟨S, Sub.new hp, q⟩
  · show fEq (kdD k) (.str (Str.ofString "set")) _ _
    rw [kdq hk (by decide)]
    exact ⟨S, Sub.new hp, q⟩
  · show fEq (kdD k) (.str (Str.ofString "set")) _ _
    rw [kdq hk (by decide)]
    exact ⟨S, Sub.new hp, q⟩
  · show fEq (kdD k) (.str (Str.ofString "list")) _ _
    rw [kdq hk (by decide)]
    exact ⟨S, Sub.new hp, q⟩
  all_goals
    show fEq (kdD k) (.str (Str.ofString "")) _ _
    rw [kd0]
    exact ⟨S, Sub.new hp, q⟩
/-- changed -/
def spChg (ea : EN → Addr) : DSp := fun ws S Q E => ∃ k v z n, ws = [kdD k, vlD v, .str (Str.ofString z.1), .int n] ∧ z ∈ w10 ∧ KdOk k ∧ Fit 40 k v ∧
  (match chgO z.2 k v n with | some r => Q (vlD r) S | none => E (ea .noStep) [("word", .str (Str.ofString z.1))] S)
theorem chg_ok {f1 f2 f3 f4 f5 : Addr} (h : spChg ea ws S Q E) : r_changed spGo (spDo fWr) (spDo fAd) (spDo fPu) (spDo fTa) (spDo fRo) f1 f2 f3 f4 f5 ea E (endsD Q) (startD N_changed ws) S := by
  obtain ⟨k, v, z, n, rfl, hz, hk, hf, q⟩ := h
  have no : chgO z.2 k v n = none → goB z.2 k = false → r_changed spGo (spDo fWr) (spDo fAd) (spDo fPu) (spDo fTa) (spDo fRo) f1 f2 f3 f4 f5 ea E (endsD Q) (startD N_changed [kdD k, vlD v, .str (Str.ofString z.1), .int n]) S := fun h1 h2 => by
    rw [h1] at q
    unfold r_changed
    walk_at "go"
    refine ⟨k, z, rfl, hz, hk, ?_⟩
    rw [h2]
    walk_at "go"
    exact q
  have fl : ∀ {ns : List Int}, v = .t ns → ns.length ≤ 40 := fun {ns} e => by
    subst e
    cases k <;> first | exact hf.1 | exact hf | exact hf.elim
  simp only [w10, List.mem_cons, List.not_mem_nil, or_false] at hz
  rcases hz with rfl | rfl | rfl | rfl | rfl | rfl | rfl | rfl | rfl | rfl
  · by_cases hr : k.row = true
    · exact no (by cases k <;> first | rfl | cases hr) (by show (!k.row) = false; rw [hr]; rfl)
    · have hr : k.row = false := by simpa using hr
      rw [show chgO (some CW.write) k v n = some (.n n) from by cases k <;> first | rfl | cases hr] at q
      unfold r_changed
      walk_at "go"
      refine ⟨k, ("write", some .write), rfl, by simp [w10], hk, ?_⟩
      rw [show goB (some CW.write) k = true from by show (!k.row) = true; rw [hr]; rfl]
      walk_at "go"
      exact ⟨Str.ofString "write", _, _, rfl, rfl, rfl, v, n, .n n, rfl, rfl, fun ns e => fl e, ends_rt q⟩
  · by_cases hk2 : k = .sum
    · subst hk2
      cases v with
      | t ns => exact hf.elim
      | n i =>
        have q' : Q (vlD _) S := q
        unfold r_changed
        walk_at "go"
        refine ⟨.sum, ("add", some .add), rfl, by simp [w10], hk, ?_⟩
        rw [show goB (some CW.add) .sum = true from rfl]
        walk_at "go"
        exact ⟨Str.ofString "add", _, _, rfl, rfl, rfl, _, n, _, rfl, rfl, fun ns e => fl e, ends_rt q'⟩
    · exact no (by cases k <;> first | rfl | exact absurd rfl hk2) (by cases k <;> first | rfl | exact absurd rfl hk2)
  · by_cases hk2 : k = .set
    · subst hk2
      cases v with
      | n i => exact hf.elim
      | t ns =>
        have q' : Q (vlD _) S := q
        unfold r_changed
        walk_at "go"
        refine ⟨.set, ("put", some .put), rfl, by simp [w10], hk, ?_⟩
        rw [show goB (some CW.put) .set = true from rfl]
        walk_at "go"
        exact ⟨Str.ofString "put", _, _, rfl, rfl, rfl, _, n, _, rfl, rfl, fun ns e => fl e, ends_rt q'⟩
    · exact no (by cases k <;> first | rfl | exact absurd rfl hk2) (by cases k <;> first | rfl | exact absurd rfl hk2)
  · by_cases hk2 : k = .set
    · subst hk2
      cases v with
      | n i => exact hf.elim
      | t ns =>
        have q' : Q (vlD _) S := q
        unfold r_changed
        walk_at "go"
        refine ⟨.set, ("take", some .take), rfl, by simp [w10], hk, ?_⟩
        rw [show goB (some CW.take) .set = true from rfl]
        walk_at "go"
        exact ⟨Str.ofString "take", _, _, rfl, rfl, rfl, _, n, _, rfl, rfl, fun ns e => fl e, ends_rt q'⟩
    · exact no (by cases k <;> first | rfl | exact absurd rfl hk2) (by cases k <;> first | rfl | exact absurd rfl hk2)
  · by_cases hk2 : k = .list
    · subst hk2
      cases v with
      | n i => exact hf.elim
      | t ns =>
        have q' : Q (vlD _) S := q
        unfold r_changed
        walk_at "go"
        refine ⟨.list, ("row", some .row), rfl, by simp [w10], hk, ?_⟩
        rw [show goB (some CW.row) .list = true from rfl]
        walk_at "go"
        exact ⟨Str.ofString "row", _, _, rfl, rfl, rfl, _, n, _, rfl, rfl, fun ns e => fl e, ends_rt q'⟩
    · exact no (by cases k <;> first | rfl | exact absurd rfl hk2) (by cases k <;> first | rfl | exact absurd rfl hk2)
  all_goals exact no rfl rfl
/-- what this law has for it -/
def spLDue : DSp := fun ws S Q _ => ∃ k v z n, ws = [kdD k, vlD v, .str (Str.ofString z.1), .int n] ∧ z ∈ w10 ∧ KdOk k ∧ Fit 40 k v ∧ Q (match chgO z.2 k v n with | some r => vlD r | none => .non) S
theorem due_put {ns : List Int} (h : ns.Pairwise (· < ·)) (n : Int) : ns.filter (fun x => decide (x < n)) ++ [n] ++ ns.filter (fun x => decide (n < x)) = setI (ns ++ [n]) := by
  refine rise_eq ?_ (setI_pw _) fun x => ?_
  · refine List.pairwise_append.2 ⟨List.pairwise_append.2 ⟨h.filter _, by simp, fun a ha b hb => ?_⟩, h.filter _, fun a ha b hb => ?_⟩
    · rw [List.mem_singleton.1 hb]; exact of_decide_eq_true (List.mem_filter.1 ha).2
    · have hb := of_decide_eq_true (List.mem_filter.1 hb).2
      rcases List.mem_append.1 ha with ha | ha
      · have := of_decide_eq_true (List.mem_filter.1 ha).2; omega
      · rw [List.mem_singleton.1 ha]; exact hb
  · simp only [setI_mem, List.mem_append, List.mem_filter, List.mem_singleton, decide_eq_true_eq]
    constructor
    · rintro ((⟨h, _⟩ | h) | ⟨h, _⟩)
      · exact .inl h
      · exact .inr h
      · exact .inl h
    · rintro (h | h)
      · rcases Int.lt_trichotomy x n with e | e | e
        · exact .inl (.inl ⟨h, e⟩)
        · exact .inl (.inr e)
        · exact .inr ⟨h, e⟩
      · exact .inl (.inr h)
theorem due_take {ns : List Int} (h : ns.Pairwise (· < ·)) (n : Int) : ns.filter (fun x => decide (x < n)) ++ ns.filter (fun x => decide (n < x)) = ns.filter (fun x => !decide (x = n)) := by
  refine rise_eq (List.pairwise_append.2 ⟨h.filter _, h.filter _, fun a ha b hb => ?_⟩) (h.filter _) fun x => ?_
  · have h1 := of_decide_eq_true (List.mem_filter.1 ha).2
    have h2 := of_decide_eq_true (List.mem_filter.1 hb).2
    omega
  · simp only [List.mem_append, List.mem_filter, decide_eq_true_eq, Bool.not_eq_true', decide_eq_false_iff_not]
    constructor
    · rintro (⟨h, e⟩ | ⟨h, e⟩)
      · exact ⟨h, by omega⟩
      · exact ⟨h, by omega⟩
    · rintro ⟨h, e⟩
      rcases Int.lt_trichotomy x n with e2 | e2 | e2
      · exact .inl ⟨h, e2⟩
      · exact absurd e2 e
      · exact .inr ⟨h, e2⟩
theorem ldue_ok (h : spLDue ws S Q E) : r_law_due E (endsD Q) (startD N_law_due ws) S := by
  obtain ⟨k, v, z, n, rfl, hz, hk, hf, q⟩ := h
  have hsz : sizeLine = 16777216 := rfl
  have nm : ∀ {S : Sto} {Q : DK} {x : String}, "own" ≠ x → Q (.bl (decide (k.name = x))) S → fEq (kdD k) (.str (Str.ofString x)) S Q := fun {S Q x} h q => by rw [kdq hk h]; exact q
  have fl : ∀ {ns : List Int}, v = .t ns → ns.length ≤ 40 := fun {ns} e => by
    subst e
    cases k <;> first | exact hf.1 | exact hf | exact hf.elim
  have flt : ∀ {ns : List Int} {env : Env'} {tt : DT} {p : Int → Bool} {R : List D → Sto → Prop} {S : Sto}, 4 < env.length → ns.length ≤ 40 → (∀ x S (K : Bool → Sto → Prop), K (p x) S → tt (env.set 4 (some (.int x))) S K) → R ((ns.filter p).map D.int) S → cLoop (gNm 4) tt (dVar 4) env (fun _ => True) R (ns.map D.int) [] S := fun {ns env tt p R S} he hl ht q => by
    refine cLoop_filterA D.int D.int p trivial (by omega) (fun x _ R1 R2 r1 r2 => ht x S _ ?_) q
    have e4 : (env.set 4 (some (D.int x)))[4]? = some (some (.int x)) := List.getElem?_set_self he
    cases hp : p x with
    | true =>
      rw [if_pos rfl]
      show match (env.set 4 (some (D.int x)))[4]? with | some (some w) => R1 w S | _ => False
      rw [e4]
      exact r1 hp
    | false => rw [if_neg (by decide)]; exact r2 hp
  simp only [w10, List.mem_cons, List.not_mem_nil, or_false] at hz
  unfold r_law_due
  rcases hz with rfl | rfl | rfl | rfl | rfl | rfl | rfl | rfl | rfl | rfl
  · walk_at "go"
    rw [kdnot hk]
    refine ite_by (fun h => ?_) fun h => ?_
    · walk_at "go"
      have hr : k.row = false := by simpa using h
      rw [show chgO (some CW.write) k v n = some (.n n) from by cases k <;> first | rfl | cases hr] at q
      exact ends_rt q
    · walk_at "go"
      have hr : k.row = true := by simpa using h
      rw [show chgO (some CW.write) k v n = none from by cases k <;> first | rfl | cases hr] at q
      exact ends_rt q
  · walk_at "go"
    refine nm (by decide) ?_
    refine ite_by (fun h => ?_) fun h => ?_
    · obtain rfl := kn_sum h
      cases v with
      | t ns => exact hf.elim
      | n i =>
        unfold vlD
        walk_at "go"
        rw [show i - (0 - n) = i + n by omega]
        exact ends_rt q
    · walk_at "go"
      rw [show chgO (some CW.add) k v n = none from by cases k <;> first | rfl | exact absurd h (by decide)] at q
      exact ends_rt q
  · walk_at "go"
    refine nm (by decide) ?_
    refine ite_by (fun h => ?_) fun h => ?_
    · obtain rfl := kn_set h
      cases v with
      | n i => exact hf.elim
      | t ns =>
        unfold vlD
        have hl := fl rfl
        have l1 := List.length_filter_le (fun x => decide (x < n)) ns
        have l2 := List.length_filter_le (fun x => decide (n < x)) ns
        walk_at "go"
        refine flt (p := fun x => decide (x < n)) (by simp only [List.length_cons, List.length_nil]; omega) hl (fun x S K k => by walk_at "go"; exact k) ?_
        walk_at "go"
        refine flt (p := fun x => decide (n < x)) (by simp only [List.length_cons, List.length_nil]; omega) hl (fun x S K k => by walk_at "go"; exact k) ?_
        walk_at "go"
        refine ⟨by simp only [List.length_append, List.length_map, List.length_singleton]; omega, ?_⟩
        rw [show (ns.filter fun x => decide (x < n)).map D.int ++ [D.int n] ++ (ns.filter fun x => decide (n < x)).map D.int = (setI (ns ++ [n])).map D.int from by rw [← due_put hf.2 n]; simp only [List.map_append, List.map_cons, List.map_nil]]
        exact ends_rt q
    · walk_at "go"
      rw [show chgO (some CW.put) k v n = none from by cases k <;> first | rfl | exact absurd h (by decide)] at q
      exact ends_rt q
  · walk_at "go"
    refine nm (by decide) ?_
    refine ite_by (fun h => ?_) fun h => ?_
    · obtain rfl := kn_set h
      cases v with
      | n i => exact hf.elim
      | t ns =>
        unfold vlD
        have hl := fl rfl
        have l1 := List.length_filter_le (fun x => decide (x < n)) ns
        have l2 := List.length_filter_le (fun x => decide (n < x)) ns
        walk_at "go"
        refine flt (p := fun x => decide (x < n)) (by simp only [List.length_cons, List.length_nil]; omega) hl (fun x S K k => by walk_at "go"; exact k) ?_
        walk_at "go"
        refine flt (p := fun x => decide (n < x)) (by simp only [List.length_cons, List.length_nil]; omega) hl (fun x S K k => by walk_at "go"; exact k) ?_
        walk_at "go"
        rw [show (ns.filter fun x => decide (x < n)).map D.int ++ (ns.filter fun x => decide (n < x)).map D.int = (ns.filter fun x => !decide (x = n)).map D.int from by rw [← due_take hf.2 n]; simp only [List.map_append]]
        exact ends_rt q
    · walk_at "go"
      rw [show chgO (some CW.take) k v n = none from by cases k <;> first | rfl | exact absurd h (by decide)] at q
      exact ends_rt q
  · walk_at "go"
    refine nm (by decide) ?_
    refine ite_by (fun h => ?_) fun h => ?_
    · obtain rfl := kn_list h
      cases v with
      | n i => exact hf.elim
      | t ns =>
        unfold vlD
        have hl := fl rfl
        walk_at "go"
        rw [show ns.map D.int ++ [D.int n] = (ns ++ [n]).map D.int from by simp only [List.map_append, List.map_cons, List.map_nil]]
        exact ends_rt q
    · walk_at "go"
      rw [show chgO (some CW.row) k v n = none from by cases k <;> first | rfl | exact absurd h (by decide)] at q
      exact ends_rt q
  all_goals
    walk_at "go"
    exact ends_rt q
/-- what is told, or refused -/
def told4 (k : Kd) (v : Vl) (z : String × Option CW) (n : Int) : D := match chgO z.2 k v n with
  | some r => .tup [.str "told", vlD r]
  | none => .tup [.str "no", .str (Str.ofString z.1)]
def spTold : DSp := fun ws S Q _ => ∃ k v z n, ws = [kdD k, vlD v, .str (Str.ofString z.1), .int n] ∧ z ∈ w10 ∧ KdOk k ∧ Fit 40 k v ∧ Q (told4 k v z n) S
theorem told_ok (h : spTold ws S Q E) : r_law_told (spChg ea) ea E (endsD Q) (startD N_law_told ws) S := by
  obtain ⟨k, v, z, n, rfl, hz, hk, hf, q⟩ := h
  unfold r_law_told
  walk_at "go"
  refine ⟨k, v, z, n, rfl, hz, hk, hf, ?_⟩
  unfold told4 at q
  cases hc : chgO z.2 k v n with
  | some r =>
    rw [hc] at q
    walk_at "go"
    exact ends_rt q
  | none =>
    rw [hc] at q
    refine wCl_by .noStep (by decide) (by decide) fun a dd => ?_
    refine gIsE_one true (by decide) ?_
    walk_at "go"
    refine gIsE_tup false (by decide) ?_
    walk_at "go"
    exact ends_rt q
theorem told_gd {k : Kd} {v : Vl} {z : String × Option CW} {n : Int} (hz : z ∈ w10) (hk : KdOk k) (hf : Fit 40 k v) (hs : Sml NB v) (hn : n.natAbs ≤ NB) : Gd (2 * NB) 2 200 (told4 k v z n) := by
  unfold told4
  have hNB : NB ≤ 2 * NB := by omega
  cases hc : chgO z.2 k v n with
  | none =>
    simp only [w10, List.mem_cons, List.not_mem_nil, or_false] at hz
    refine gd_tup.2 ((Gds.cons (gd_txt (b := 10) (by decide)) (gds1 (gd_txt (b := 10) ?_))).le (Nat.le_refl _) (Nat.le_refl _) (by decide))
    rcases hz with rfl | rfl | rfl | rfl | rfl | rfl | rfl | rfl | rfl | rfl <;> decide
  | some r =>
    refine gd_tup.2 ((Gds.cons (gd_txt (b := 10) (by decide)) (gds1 (b := 100) ?_)).le (Nat.le_refl _) (Nat.le_refl _) (by decide))
    have ht : ∀ {ns : List Int}, (∀ i ∈ ns, i.natAbs ≤ 2 * NB) → ns.length ≤ 41 → Gd (2 * NB) 1 100 (vlD (.t ns)) := fun {ns} h1 h2 => gd_tup.2 (gds_ints h1 (by omega))
    have hi : ∀ {i : Int}, i.natAbs ≤ 2 * NB → Gd (2 * NB) 1 100 (vlD (.n i)) := fun {i} h => (gd_int h).le (Nat.le_refl _) (Nat.zero_le _) (Nat.zero_le _)
    unfold chgO at hc
    cases hw : z.2 with
    | none => rw [hw] at hc; cases hc
    | some w =>
      rw [hw] at hc
      have hc : chg w k v n = some r := hc
      cases w <;> cases k <;> cases v <;> first | cases hc | skip
      all_goals first | exact hi (by omega) | skip
      all_goals first | exact hf.elim | skip
      all_goals first | exact hi (by have : Int.natAbs _ ≤ NB := hs; omega) | skip
      · rename_i ns
        refine ht (fun i hi => ?_) ?_
        · rcases List.mem_append.1 (setI_mem.1 hi) with h | h
          · have := hs i h; omega
          · rw [List.mem_singleton.1 h]; omega
        · have := setI_len (ns ++ [n]); rw [List.length_append, List.length_singleton] at this; have := hf.1; omega
      · rename_i ns
        refine ht (fun i hi => ?_) ?_
        · have := hs i (List.mem_filter.1 hi).1; omega
        · have := List.length_filter_le (fun x => !decide (x = n)) ns; have := hf.1; omega
      · rename_i ns
        refine ht (fun i hi => ?_) ?_
        · rcases List.mem_append.1 hi with h | h
          · have := hs i h; omega
          · rw [List.mem_singleton.1 h]; omega
        · rw [List.length_append, List.length_singleton]; have : ns.length ≤ 40 := hf; omega
def spLaw : DSp := fun ws S Q _ => ∃ ns : List Int, ws = [.scr (ns.map .int)] ∧ ns.length ≤ 63 ∧ (∀ S', Q (.bl true) S')
theorem law_ok (h : spLaw ws S Q E) : r_law spFeed spKind spHas spDraw spNum spLDue spTold (spChg ea) E (endsD Q) (startD N_law ws) S := by
  obtain ⟨ns, rfl, hn, q⟩ := h
  have hsz : sizeLine = 16777216 := rfl
  unfold r_law
  walk_at "go"
  refine ⟨ns, rfl, hn, fun a o ha ho => ?_⟩
  walk_at "go"
  refine cLoop_draw (fun k : Nat => D.int k) kdD (fun _ k => KdOk k) ho (fun _ => trivial) (by rw [List.length_range]; decide) (fun x _ o ho R r => ?_) fun ks o hks ho => ?_
  · walk_at "go"
    exact kind_su ho fun k o hk ho => r k o hk ho
  have kl := hks.length
  rw [List.length_range] at kl
  have kl : ks.length = 8 := kl
  walk_at "go"
  have hkk : ∀ k ∈ ks ++ [Kd.set, .list, .sum, .plain, .most], KdOk k := fun k hk => by
    rcases List.mem_append.1 hk with hk | hk
    · obtain ⟨_, _, h⟩ := hks.mem hk; exact h
    · simp only [List.mem_cons, List.not_mem_nil, or_false] at hk
      rcases hk with rfl | rfl | rfl | rfl | rfl <;> exact ⟨trivial, by decide, trivial, rfl⟩
  rw [show ks.map kdD ++ [D.str (Str.ofString "set"), .str (Str.ofString "list"), .str (Str.ofString "sum"), .str (Str.ofString "plain"), .str (Str.ofString "most")] = (ks ++ [Kd.set, .list, .sum, .plain, .most]).map kdD from by rw [List.map_append]; rfl]
  generalize ks ++ [Kd.set, .list, .sum, .plain, .most] = KK at *
  have nes : ∀ {x : Str} {S : Sto} {Q : DK}, Q (.bl false) S → fNe (.str x) (.str x) S Q := fun {x S Q} h => by rw [fNe_ss, decide_eq_true rfl]; exact h
  have b1 : 2 * NB < 10 ^ 570 := by decide +kernel
  have b2 : NB < 10 ^ 570 := by decide +kernel
  have nb3 : 3 ≤ NB := by decide +kernel
  refine sLoop_A kdD (fun pre env S' => env = [some (.scr (ns.map .int)), some (.ref a), some (.lst (KK.map kdD)), none, none, none, none, none, none, none, none, none] ∧ ∃ o, S' = su S a o ∧ FeedO o) (fun _ _ _ _ => trivial) ⟨rfl, o, rfl, ho⟩ (fun pre k post e env S' ⟨e1, o, e2, ho⟩ R nx => ?_) fun env S' ⟨e1, o, e2, ho⟩ => ?_
  · subst e1 e2
    have hk : KdOk k := hkk k (by rw [e]; exact List.mem_append_right _ (List.mem_cons_self ..))
    generalize KK.map kdD = kd0 at *
    walk_at "go"
    refine has_su hk.ok ho fun v o hf hs ho => ?_
    refine late_of ?_
    refine sSeq_via (fun env' S' => ∃ (i : Int) (o : O), i.natAbs ≤ NB ∧ FeedO o ∧ env' = [some (.scr (ns.map .int)), some (.ref a), some (.lst kd0), none, some (kdD k), some (vlD v), some (.int i), none, none, none, none, none] ∧ S' = su S a o) (fun N hN => ?_) fun env' S' ⟨i, o, hi, ho, e1, e2⟩ => ?_
    · cases v with
      | n i =>
        rw [show vlD (.n i) = .int i from rfl] at *
        walk_at "go"
        exact hN _ _ ⟨3, o, nb3, ho, rfl, rfl⟩
      | t xs =>
        have hl : xs.length ≤ 40 := by cases k <;> first | exact hf.1 | exact hf | exact hf.elim
        rw [show vlD (.t xs) = .tup (xs.map .int) from rfl] at *
        walk_at "go"
        refine Gd.ne (m := NB) (d := 1) (b := 40) (gd_tup.2 (gds_ints hs hl)) (show Gd 0 1 0 (D.tup []) from ⟨by decide, by decide, by decide⟩) (by decide) (by decide) ?_
        rw [deq_tup0]
        cases xs with
        | nil =>
          walk_at "go"
          exact hN _ _ ⟨3, o, nb3, ho, rfl, rfl⟩
        | cons x xs =>
          rw [List.length_cons] at hl
          walk_at "go"
          rw [show (D.int x :: List.map D.int xs).isEmpty = false from rfl]
          walk_at "go"
          refine draw_su ho (by omega) (by omega) fun r o h0 h1 ho => ?_
          walk_at "go"
          refine ix_P (fun w => ∃ i : Int, w = .int i ∧ i.natAbs ≤ NB) h0 (by simpa using h1) (fun w hw => ?_) fun w ⟨i, e, hi⟩ => ?_
          · rcases List.mem_cons.1 hw with h | h
            · exact ⟨x, h, hs x (List.mem_cons_self ..)⟩
            · obtain ⟨y, hy, e⟩ := List.mem_map.1 h
              exact ⟨y, e.symm, hs y (List.mem_cons_of_mem _ hy)⟩
          · subst e
            exact hN _ _ ⟨i, o, hi, ho, rfl, rfl⟩
    subst e1 e2
    walk_at "go"
    have gkv : Gd NB 7 1500 (D.tup [kdD k, vlD v]) := by
      have hl : Gd NB 1 40 (vlD v) := vl_gd hf hs
      exact gd_tup.2 ((Gds.cons (kd_gd hk) (gds1 (hl.le (Nat.le_refl _) (by decide) (Nat.le_refl _)))).le (Nat.le_refl _) (Nat.le_refl _) (by decide))
    have rkv : ∀ {T : Sto} {K : DK}, K (.str (shown (D.tup [kdD k, vlD v]))) T → gRepr [D.tup [kdD k, vlD v]] T K := fun {T K} kk => gkv.repr b2 (by decide) (by decide) kk
    refine rkv ?_
    generalize shown (D.tup [kdD k, vlD v]) = kept at *
    walk_at "go"
    refine num_su ho fun i2 o hi2 ho => ?_
    walk_at "go"
    rw [show [D.int i, .int i2, .int (-1), .int 0] = [i, i2, -1, 0].map .int from rfl]
    have hfig : ∀ n ∈ [i, i2, -1, 0], n.natAbs ≤ NB := fun n hn => by
      simp only [List.mem_cons, List.not_mem_nil, or_false] at hn
      rcases hn with rfl | rfl | rfl | rfl
      · exact hi
      · exact hi2
      · exact Nat.le_trans (by decide) nb3
      · exact Nat.zero_le _
    generalize [i, i2, -1, 0] = figs at *
    refine sLoop_keep D.int trivial (fun n hn K hK => ?_) ?_
    · have hn := hfig n hn
      walk_at "go"
      rw [show [D.str (Str.ofString "write"), .str (Str.ofString "add"), .str (Str.ofString "put"), .str (Str.ofString "take"), .str (Str.ofString "row"), .str (Str.ofString "read"), .str (Str.ofString "tell"), .str (Str.ofString ""), .str (Str.ofString "Write"), .str (Str.ofString "set")] = w10.map fun z => .str (Str.ofString z.1) from rfl]
      refine sLoop_keep (fun z : String × Option CW => D.str (Str.ofString z.1)) trivial (fun z hz K2 hK2 => ?_) ?_
      · have rt : ∀ {T : Sto} {K : DK}, K (.str (shown (told4 k v z n))) T → gRepr [told4 k v z n] T K := fun {T K} kk => (told_gd hz hk hf hs hn).repr b1 (by decide) (by decide) kk
        walk_at "go"
        refine ⟨k, v, z, n, rfl, hz, hk, hf, ?_⟩
        have fin : ∀ {T : Sto} {K : DK}, K (.bl false) T → spTold [kdD k, vlD v, .str (Str.ofString z.1), .int n] T (fun x S1 => gRepr [x] S1 fun x S1 => gRepr [told4 k v z n] S1 fun y S2 => fNe x y S2 K) E00 := fun {T K} kk => ⟨k, v, z, n, rfl, hz, hk, hf, rt (rt (nes kk))⟩
        cases hc : chgO z.2 k v n with
        | none =>
          have ht : told4 k v z n = .tup [.str (Str.ofString "no"), .str (Str.ofString z.1)] := by unfold told4; rw [hc]
          rw [ht] at fin
          walk_at "go"
          refine fin ?_
          walk_at "go"
          exact ⟨_, .refl, hK2⟩
        | some r =>
          have ht : told4 k v z n = .tup [.str (Str.ofString "told"), vlD r] := by unfold told4; rw [hc]
          rw [ht] at fin
          cases r <;> (
            unfold vlD at *
            walk_at "go"
            refine fin ?_
            walk_at "go"
            exact ⟨_, .refl, hK2⟩)
      · walk_at "go"
        rw [kdnot hk]
        refine ite_by (fun h => ?_) fun h => ?_
        · have hr : k.row = false := by simpa using h
          refine ⟨k, v, ("write", some .write), n, rfl, by simp [w10], hk, hf, ?_⟩
          rw [show chgO (some CW.write) k v n = some (.n n) from by cases k <;> first | rfl | cases hr]
          show fNe (.int n) (.int n) _ _
          rw [fNe_ii, decide_eq_true rfl]
          walk_at "go"
          exact ⟨_, .refl, hK⟩
        · exact ⟨_, .refl, hK⟩
    · walk_at "go"
      refine rkv (nes ?_)
      exact ⟨_, .refl, nx _ _ ⟨rfl, o, rfl, ho⟩⟩
  · subst e1 e2
    walk_at "go"
    exact ends_rt (q _)
end

end Lw


set_option Elab.async false
set_option linter.all false
set_option maxRecDepth 100000
set_option maxHeartbeats 4000000
namespace DL
open PySem PySem.Spec PyProof.Rows L2
/-! DHook: DTab's hook, the statics seen as well (reading an attribute of a class asks them) -/
def asZ (g : Addr → Option Obj) (n : Nat) : List Addr := He.asD g n ++ [cStatics]
def hookZ (n : Nat) (fa : List He.Fa) (fn : List He.DefD) (xt : PySem.W.Frag → Bool) (ts : List TabK) : PySem.W.Hook where
  α := (He.AlD × Bool) × List (Option (List (Option (Str × Int))))
  obs := fun s => ((He.obsD fa fn (He.frG s.heap.get? (asZ s.heap.get? n)), xt (He.frG s.heap.get? (asZ s.heap.get? n))), ts.map fun t => He.dicW (He.frG s.heap.get? (asZ s.heap.get? n)) (He.ga (He.frG s.heap.get? (asZ s.heap.get? n)) t.1))
  val := fun w => ((He.valD fn, true), ts.map fun t => some (He.keysIn w.params t.2))
  says := fun w h => ∃ K, K.In h ∧ He.SaysD fa fn K ∧ xt K = true ∧ ts.map (fun t => He.dicW K (He.ga K t.1)) = ts.map fun t => some (He.keysIn w.params t.2)
  of := fun w s e => ⟨He.frG s.heap.get? (asZ s.heap.get? n), He.frG_in, congrArg (fun z : (He.AlD × Bool) × List (Option (List (Option (Str × Int)))) => z.1.1) e, congrArg (fun z : (He.AlD × Bool) × List (Option (List (Option (Str × Int)))) => z.1.2) e, congrArg (fun z : (He.AlD × Bool) × List (Option (List (Option (Str × Int)))) => z.2) e⟩
  keeps := fun w h h' ⟨K, i, c⟩ hk => ⟨K, fun b o e => hk b o (i b o e), c⟩
def obZ (n : Nat) (fa : List He.Fa) (fn : List He.DefD) (xt : PySem.W.Frag → Bool) (ts : List TabK) (s : PySem.W.SharedT) : (He.AlD × Bool) × List (Option (List (Option (Str × Int)))) :=
  ((He.obsD fa fn (He.frG (HandSHeadRun.getT s) (asZ (HandSHeadRun.getT s) n)), xt (He.frG (HandSHeadRun.getT s) (asZ (HandSHeadRun.getT s) n))), ts.map fun t => He.dicW (He.frG (HandSHeadRun.getT s) (asZ (HandSHeadRun.getT s) n)) (He.ga (He.frG (HandSHeadRun.getT s) (asZ (HandSHeadRun.getT s) n)) t.1))
theorem obZ_eq {n : Nat} {fa : List He.Fa} {fn : List He.DefD} {xt : PySem.W.Frag → Bool} {ts : List TabK} (s : PySem.W.SharedT) : obZ n fa fn xt ts s = (hookZ n fa fn xt ts).obs s.abs := by
  have e : HandSHeadRun.getT s = s.abs.heap.get? := funext (HandSHeadRun.getT_eq s)
  unfold obZ
  rw [e]
  rfl
end DL


set_option Elab.async false
set_option linter.all false
set_option maxRecDepth 100000
set_option maxHeartbeats 0
namespace Lw
open PySem PySem.Spec PyProof.Rows L2 DL
section
variable {P : Program} {w : World} {K : PySem.W.Frag} {mg : Str → Option Value} {base : Heap}

theorem g_do_write (T : Tx K mg w) : FnG P w K mg base CX0 1 T.f_do_write T.fd_do_write p_do_write (spDo fWr) :=
  FnG.def_ T.F_do_write sc_do_write (by intro ws S Q E h; first | (obtain ⟨rfl, _⟩ := h <;> rfl) | (obtain ⟨_, rfl, _⟩ := h <;> rfl) | (obtain ⟨_, _, rfl, _⟩ := h <;> rfl) | (obtain ⟨_, _, _, rfl, _⟩ := h <;> rfl) | (obtain ⟨_, _, _, _, rfl, _⟩ := h <;> rfl) | (obtain ⟨_, _, _, _, _, rfl, _⟩ := h <;> rfl) | (obtain ⟨_, _, _, _, _, _, rfl, _⟩ := h <;> rfl) | (obtain ⟨_, _, _, _, _, _, _, rfl, _⟩ := h <;> rfl) | (obtain ⟨_, _, _, _, _, _, _, _, rfl, _⟩ := h <;> rfl) | (obtain ⟨_, _, _, _, _, _, _, _, _, rfl, _⟩ := h <;> rfl) | (obtain ⟨_, _, _, _, _, _, _, _, _, _, rfl, _⟩ := h <;> rfl) | (obtain ⟨_, _, _, _, _, _, _, _, _, _, _, rfl, _⟩ := h <;> rfl) | (obtain ⟨_, _, _, _, _, _, _, _, _, _, _, _, rfl, _⟩ := h <;> rfl) | (obtain ⟨_, _, _, _, _, _, _, _, _, _, _, _, _, rfl, _⟩ := h <;> rfl) | (rcases h with ⟨_, _, _, rfl, _⟩ | ⟨_, _, _, rfl, _⟩ <;> rfl) | (rcases h with ⟨_, rfl, _⟩ | ⟨_, rfl, _⟩ <;> rfl)) fun cdv A outer s H E E' hr hG => ⟨_, w_do_write T hr hG, fun ws S Q h => wr_ok h⟩
theorem g_do_add (T : Tx K mg w) : FnG P w K mg base CX0 1 T.f_do_add T.fd_do_add p_do_add (spDo fAd) :=
  FnG.def_ T.F_do_add sc_do_add (by intro ws S Q E h; first | (obtain ⟨rfl, _⟩ := h <;> rfl) | (obtain ⟨_, rfl, _⟩ := h <;> rfl) | (obtain ⟨_, _, rfl, _⟩ := h <;> rfl) | (obtain ⟨_, _, _, rfl, _⟩ := h <;> rfl) | (obtain ⟨_, _, _, _, rfl, _⟩ := h <;> rfl) | (obtain ⟨_, _, _, _, _, rfl, _⟩ := h <;> rfl) | (obtain ⟨_, _, _, _, _, _, rfl, _⟩ := h <;> rfl) | (obtain ⟨_, _, _, _, _, _, _, rfl, _⟩ := h <;> rfl) | (obtain ⟨_, _, _, _, _, _, _, _, rfl, _⟩ := h <;> rfl) | (obtain ⟨_, _, _, _, _, _, _, _, _, rfl, _⟩ := h <;> rfl) | (obtain ⟨_, _, _, _, _, _, _, _, _, _, rfl, _⟩ := h <;> rfl) | (obtain ⟨_, _, _, _, _, _, _, _, _, _, _, rfl, _⟩ := h <;> rfl) | (obtain ⟨_, _, _, _, _, _, _, _, _, _, _, _, rfl, _⟩ := h <;> rfl) | (obtain ⟨_, _, _, _, _, _, _, _, _, _, _, _, _, rfl, _⟩ := h <;> rfl) | (rcases h with ⟨_, _, _, rfl, _⟩ | ⟨_, _, _, rfl, _⟩ <;> rfl) | (rcases h with ⟨_, rfl, _⟩ | ⟨_, rfl, _⟩ <;> rfl)) fun cdv A outer s H E E' hr hG => ⟨_, w_do_add T hr hG, fun ws S Q h => ad_ok h⟩
theorem g_do_put (T : Tx K mg w) : FnG P w K mg base CX0 1 T.f_do_put T.fd_do_put p_do_put (spDo fPu) :=
  FnG.def_ T.F_do_put sc_do_put (by intro ws S Q E h; first | (obtain ⟨rfl, _⟩ := h <;> rfl) | (obtain ⟨_, rfl, _⟩ := h <;> rfl) | (obtain ⟨_, _, rfl, _⟩ := h <;> rfl) | (obtain ⟨_, _, _, rfl, _⟩ := h <;> rfl) | (obtain ⟨_, _, _, _, rfl, _⟩ := h <;> rfl) | (obtain ⟨_, _, _, _, _, rfl, _⟩ := h <;> rfl) | (obtain ⟨_, _, _, _, _, _, rfl, _⟩ := h <;> rfl) | (obtain ⟨_, _, _, _, _, _, _, rfl, _⟩ := h <;> rfl) | (obtain ⟨_, _, _, _, _, _, _, _, rfl, _⟩ := h <;> rfl) | (obtain ⟨_, _, _, _, _, _, _, _, _, rfl, _⟩ := h <;> rfl) | (obtain ⟨_, _, _, _, _, _, _, _, _, _, rfl, _⟩ := h <;> rfl) | (obtain ⟨_, _, _, _, _, _, _, _, _, _, _, rfl, _⟩ := h <;> rfl) | (obtain ⟨_, _, _, _, _, _, _, _, _, _, _, _, rfl, _⟩ := h <;> rfl) | (obtain ⟨_, _, _, _, _, _, _, _, _, _, _, _, _, rfl, _⟩ := h <;> rfl) | (rcases h with ⟨_, _, _, rfl, _⟩ | ⟨_, _, _, rfl, _⟩ <;> rfl) | (rcases h with ⟨_, rfl, _⟩ | ⟨_, rfl, _⟩ <;> rfl)) fun cdv A outer s H E E' hr hG => ⟨_, w_do_put T hr hG, fun ws S Q h => pu_ok h⟩
theorem g_do_take (T : Tx K mg w) : FnG P w K mg base CX0 1 T.f_do_take T.fd_do_take p_do_take (spDo fTa) :=
  FnG.def_ T.F_do_take sc_do_take (by intro ws S Q E h; first | (obtain ⟨rfl, _⟩ := h <;> rfl) | (obtain ⟨_, rfl, _⟩ := h <;> rfl) | (obtain ⟨_, _, rfl, _⟩ := h <;> rfl) | (obtain ⟨_, _, _, rfl, _⟩ := h <;> rfl) | (obtain ⟨_, _, _, _, rfl, _⟩ := h <;> rfl) | (obtain ⟨_, _, _, _, _, rfl, _⟩ := h <;> rfl) | (obtain ⟨_, _, _, _, _, _, rfl, _⟩ := h <;> rfl) | (obtain ⟨_, _, _, _, _, _, _, rfl, _⟩ := h <;> rfl) | (obtain ⟨_, _, _, _, _, _, _, _, rfl, _⟩ := h <;> rfl) | (obtain ⟨_, _, _, _, _, _, _, _, _, rfl, _⟩ := h <;> rfl) | (obtain ⟨_, _, _, _, _, _, _, _, _, _, rfl, _⟩ := h <;> rfl) | (obtain ⟨_, _, _, _, _, _, _, _, _, _, _, rfl, _⟩ := h <;> rfl) | (obtain ⟨_, _, _, _, _, _, _, _, _, _, _, _, rfl, _⟩ := h <;> rfl) | (obtain ⟨_, _, _, _, _, _, _, _, _, _, _, _, _, rfl, _⟩ := h <;> rfl) | (rcases h with ⟨_, _, _, rfl, _⟩ | ⟨_, _, _, rfl, _⟩ <;> rfl) | (rcases h with ⟨_, rfl, _⟩ | ⟨_, rfl, _⟩ <;> rfl)) fun cdv A outer s H E E' hr hG => ⟨_, w_do_take T hr hG, fun ws S Q h => ta_ok h⟩
theorem g_do_row (T : Tx K mg w) : FnG P w K mg base CX0 1 T.f_do_row T.fd_do_row p_do_row (spDo fRo) :=
  FnG.def_ T.F_do_row sc_do_row (by intro ws S Q E h; first | (obtain ⟨rfl, _⟩ := h <;> rfl) | (obtain ⟨_, rfl, _⟩ := h <;> rfl) | (obtain ⟨_, _, rfl, _⟩ := h <;> rfl) | (obtain ⟨_, _, _, rfl, _⟩ := h <;> rfl) | (obtain ⟨_, _, _, _, rfl, _⟩ := h <;> rfl) | (obtain ⟨_, _, _, _, _, rfl, _⟩ := h <;> rfl) | (obtain ⟨_, _, _, _, _, _, rfl, _⟩ := h <;> rfl) | (obtain ⟨_, _, _, _, _, _, _, rfl, _⟩ := h <;> rfl) | (obtain ⟨_, _, _, _, _, _, _, _, rfl, _⟩ := h <;> rfl) | (obtain ⟨_, _, _, _, _, _, _, _, _, rfl, _⟩ := h <;> rfl) | (obtain ⟨_, _, _, _, _, _, _, _, _, _, rfl, _⟩ := h <;> rfl) | (obtain ⟨_, _, _, _, _, _, _, _, _, _, _, rfl, _⟩ := h <;> rfl) | (obtain ⟨_, _, _, _, _, _, _, _, _, _, _, _, rfl, _⟩ := h <;> rfl) | (obtain ⟨_, _, _, _, _, _, _, _, _, _, _, _, _, rfl, _⟩ := h <;> rfl) | (rcases h with ⟨_, _, _, rfl, _⟩ | ⟨_, _, _, rfl, _⟩ <;> rfl) | (rcases h with ⟨_, rfl, _⟩ | ⟨_, rfl, _⟩ <;> rfl)) fun cdv A outer s H E E' hr hG => ⟨_, w_do_row T hr hG, fun ws S Q h => ro_ok h⟩
theorem g_goes (T : Tx K mg w) : FnG P w K mg base CX0 1 T.f_goes T.fd_goes p_goes (spGo) :=
  FnG.def_ T.F_goes sc_goes (by intro ws S Q E h; first | (obtain ⟨rfl, _⟩ := h <;> rfl) | (obtain ⟨_, rfl, _⟩ := h <;> rfl) | (obtain ⟨_, _, rfl, _⟩ := h <;> rfl) | (obtain ⟨_, _, _, rfl, _⟩ := h <;> rfl) | (obtain ⟨_, _, _, _, rfl, _⟩ := h <;> rfl) | (obtain ⟨_, _, _, _, _, rfl, _⟩ := h <;> rfl) | (obtain ⟨_, _, _, _, _, _, rfl, _⟩ := h <;> rfl) | (obtain ⟨_, _, _, _, _, _, _, rfl, _⟩ := h <;> rfl) | (obtain ⟨_, _, _, _, _, _, _, _, rfl, _⟩ := h <;> rfl) | (obtain ⟨_, _, _, _, _, _, _, _, _, rfl, _⟩ := h <;> rfl) | (obtain ⟨_, _, _, _, _, _, _, _, _, _, rfl, _⟩ := h <;> rfl) | (obtain ⟨_, _, _, _, _, _, _, _, _, _, _, rfl, _⟩ := h <;> rfl) | (obtain ⟨_, _, _, _, _, _, _, _, _, _, _, _, rfl, _⟩ := h <;> rfl) | (obtain ⟨_, _, _, _, _, _, _, _, _, _, _, _, _, rfl, _⟩ := h <;> rfl) | (rcases h with ⟨_, _, _, rfl, _⟩ | ⟨_, _, _, rfl, _⟩ <;> rfl) | (rcases h with ⟨_, rfl, _⟩ | ⟨_, rfl, _⟩ <;> rfl)) fun cdv A outer s H E E' hr hG => ⟨_, w_goes T hr hG, fun ws S Q h => go_ok h⟩
theorem g_changed (T : Tx K mg w) : FnG P w K mg base (L2.CX P w) 5 T.f_changed T.fd_changed p_changed (spChg T.ea) :=
  FnG.def_ T.F_changed sc_changed (by intro ws S Q E h; first | (obtain ⟨rfl, _⟩ := h <;> rfl) | (obtain ⟨_, rfl, _⟩ := h <;> rfl) | (obtain ⟨_, _, rfl, _⟩ := h <;> rfl) | (obtain ⟨_, _, _, rfl, _⟩ := h <;> rfl) | (obtain ⟨_, _, _, _, rfl, _⟩ := h <;> rfl) | (obtain ⟨_, _, _, _, _, rfl, _⟩ := h <;> rfl) | (obtain ⟨_, _, _, _, _, _, rfl, _⟩ := h <;> rfl) | (obtain ⟨_, _, _, _, _, _, _, rfl, _⟩ := h <;> rfl) | (obtain ⟨_, _, _, _, _, _, _, _, rfl, _⟩ := h <;> rfl) | (obtain ⟨_, _, _, _, _, _, _, _, _, rfl, _⟩ := h <;> rfl) | (obtain ⟨_, _, _, _, _, _, _, _, _, _, rfl, _⟩ := h <;> rfl) | (obtain ⟨_, _, _, _, _, _, _, _, _, _, _, rfl, _⟩ := h <;> rfl) | (obtain ⟨_, _, _, _, _, _, _, _, _, _, _, _, rfl, _⟩ := h <;> rfl) | (obtain ⟨_, _, _, _, _, _, _, _, _, _, _, _, _, rfl, _⟩ := h <;> rfl) | (rcases h with ⟨_, _, _, rfl, _⟩ | ⟨_, _, _, rfl, _⟩ <;> rfl) | (rcases h with ⟨_, rfl, _⟩ | ⟨_, rfl, _⟩ <;> rfl)) fun cdv A outer s H E E' hr hG => ⟨_, w_changed T hr hG (g_goes T) (by first | omega | decide | exact Nat.le_trans (by decide) (Nat.le_add_right _ _)) (g_do_write T) (by first | omega | decide | exact Nat.le_trans (by decide) (Nat.le_add_right _ _)) (g_do_add T) (by first | omega | decide | exact Nat.le_trans (by decide) (Nat.le_add_right _ _)) (g_do_put T) (by first | omega | decide | exact Nat.le_trans (by decide) (Nat.le_add_right _ _)) (g_do_take T) (by first | omega | decide | exact Nat.le_trans (by decide) (Nat.le_add_right _ _)) (g_do_row T) (by first | omega | decide | exact Nat.le_trans (by decide) (Nat.le_add_right _ _)) (mk_NoStep T) (by first | omega | decide | exact Nat.le_trans (by decide) (Nat.le_add_right _ _)), fun ws S Q h => chg_ok h⟩
theorem g_law_feed (T : Tx K mg w) : FnG P w K mg base CX0 1 T.f_law_feed T.fd_law_feed p_law_feed (spFeed) :=
  FnG.def_ T.F_law_feed sc_law_feed (by intro ws S Q E h; first | (obtain ⟨rfl, _⟩ := h <;> rfl) | (obtain ⟨_, rfl, _⟩ := h <;> rfl) | (obtain ⟨_, _, rfl, _⟩ := h <;> rfl) | (obtain ⟨_, _, _, rfl, _⟩ := h <;> rfl) | (obtain ⟨_, _, _, _, rfl, _⟩ := h <;> rfl) | (obtain ⟨_, _, _, _, _, rfl, _⟩ := h <;> rfl) | (obtain ⟨_, _, _, _, _, _, rfl, _⟩ := h <;> rfl) | (obtain ⟨_, _, _, _, _, _, _, rfl, _⟩ := h <;> rfl) | (obtain ⟨_, _, _, _, _, _, _, _, rfl, _⟩ := h <;> rfl) | (obtain ⟨_, _, _, _, _, _, _, _, _, rfl, _⟩ := h <;> rfl) | (obtain ⟨_, _, _, _, _, _, _, _, _, _, rfl, _⟩ := h <;> rfl) | (obtain ⟨_, _, _, _, _, _, _, _, _, _, _, rfl, _⟩ := h <;> rfl) | (obtain ⟨_, _, _, _, _, _, _, _, _, _, _, _, rfl, _⟩ := h <;> rfl) | (obtain ⟨_, _, _, _, _, _, _, _, _, _, _, _, _, rfl, _⟩ := h <;> rfl) | (rcases h with ⟨_, _, _, rfl, _⟩ | ⟨_, _, _, rfl, _⟩ <;> rfl) | (rcases h with ⟨_, rfl, _⟩ | ⟨_, rfl, _⟩ <;> rfl)) fun cdv A outer s H E E' hr hG => ⟨_, w_law_feed T hr hG, fun ws S Q h => feed_ok (p := fd1) h⟩
theorem g_law_draw (T : Tx K mg w) : FnG P w K mg base CX0 1 T.f_law_draw T.fd_law_draw p_law_draw (spDraw) :=
  FnG.def_ T.F_law_draw sc_law_draw (by intro ws S Q E h; first | (obtain ⟨rfl, _⟩ := h <;> rfl) | (obtain ⟨_, rfl, _⟩ := h <;> rfl) | (obtain ⟨_, _, rfl, _⟩ := h <;> rfl) | (obtain ⟨_, _, _, rfl, _⟩ := h <;> rfl) | (obtain ⟨_, _, _, _, rfl, _⟩ := h <;> rfl) | (obtain ⟨_, _, _, _, _, rfl, _⟩ := h <;> rfl) | (obtain ⟨_, _, _, _, _, _, rfl, _⟩ := h <;> rfl) | (obtain ⟨_, _, _, _, _, _, _, rfl, _⟩ := h <;> rfl) | (obtain ⟨_, _, _, _, _, _, _, _, rfl, _⟩ := h <;> rfl) | (obtain ⟨_, _, _, _, _, _, _, _, _, rfl, _⟩ := h <;> rfl) | (obtain ⟨_, _, _, _, _, _, _, _, _, _, rfl, _⟩ := h <;> rfl) | (obtain ⟨_, _, _, _, _, _, _, _, _, _, _, rfl, _⟩ := h <;> rfl) | (obtain ⟨_, _, _, _, _, _, _, _, _, _, _, _, rfl, _⟩ := h <;> rfl) | (obtain ⟨_, _, _, _, _, _, _, _, _, _, _, _, _, rfl, _⟩ := h <;> rfl) | (rcases h with ⟨_, _, _, rfl, _⟩ | ⟨_, _, _, rfl, _⟩ <;> rfl) | (rcases h with ⟨_, rfl, _⟩ | ⟨_, rfl, _⟩ <;> rfl)) fun cdv A outer s H E E' hr hG => ⟨_, w_law_draw T hr hG, fun ws S Q h => draw_ok fd1_ok h⟩
theorem g_law_number (T : Tx K mg w) : FnG P w K mg base CX0 2 T.f_law_number T.fd_law_number p_law_number (spNum) :=
  FnG.def_ T.F_law_number sc_law_number (by intro ws S Q E h; first | (obtain ⟨rfl, _⟩ := h <;> rfl) | (obtain ⟨_, rfl, _⟩ := h <;> rfl) | (obtain ⟨_, _, rfl, _⟩ := h <;> rfl) | (obtain ⟨_, _, _, rfl, _⟩ := h <;> rfl) | (obtain ⟨_, _, _, _, rfl, _⟩ := h <;> rfl) | (obtain ⟨_, _, _, _, _, rfl, _⟩ := h <;> rfl) | (obtain ⟨_, _, _, _, _, _, rfl, _⟩ := h <;> rfl) | (obtain ⟨_, _, _, _, _, _, _, rfl, _⟩ := h <;> rfl) | (obtain ⟨_, _, _, _, _, _, _, _, rfl, _⟩ := h <;> rfl) | (obtain ⟨_, _, _, _, _, _, _, _, _, rfl, _⟩ := h <;> rfl) | (obtain ⟨_, _, _, _, _, _, _, _, _, _, rfl, _⟩ := h <;> rfl) | (obtain ⟨_, _, _, _, _, _, _, _, _, _, _, rfl, _⟩ := h <;> rfl) | (obtain ⟨_, _, _, _, _, _, _, _, _, _, _, _, rfl, _⟩ := h <;> rfl) | (obtain ⟨_, _, _, _, _, _, _, _, _, _, _, _, _, rfl, _⟩ := h <;> rfl) | (rcases h with ⟨_, _, _, rfl, _⟩ | ⟨_, _, _, rfl, _⟩ <;> rfl) | (rcases h with ⟨_, rfl, _⟩ | ⟨_, rfl, _⟩ <;> rfl)) fun cdv A outer s H E E' hr hG => ⟨_, w_law_number T hr hG (g_law_draw T) (by first | omega | decide | exact Nat.le_trans (by decide) (Nat.le_add_right _ _)), fun ws S Q h => num_ok h⟩
theorem g_law_sum (T : Tx K mg w) : ∀ n : Nat, FnG P w K mg base CX0 (2 + n) T.f_law_sum T.fd_law_sum p_law_sum (spSum n)
  | 0 => FnG.void (by intro ws S Q E h; obtain ⟨_, _, _, _, _, h, _⟩ := h; omega)
  | n + 1 => FnG.def_ T.F_law_sum sc_law_sum (by intro ws S Q E h; first | (obtain ⟨rfl, _⟩ := h <;> rfl) | (obtain ⟨_, rfl, _⟩ := h <;> rfl) | (obtain ⟨_, _, rfl, _⟩ := h <;> rfl) | (obtain ⟨_, _, _, rfl, _⟩ := h <;> rfl) | (obtain ⟨_, _, _, _, rfl, _⟩ := h <;> rfl) | (obtain ⟨_, _, _, _, _, rfl, _⟩ := h <;> rfl) | (obtain ⟨_, _, _, _, _, _, rfl, _⟩ := h <;> rfl) | (obtain ⟨_, _, _, _, _, _, _, rfl, _⟩ := h <;> rfl) | (obtain ⟨_, _, _, _, _, _, _, _, rfl, _⟩ := h <;> rfl) | (obtain ⟨_, _, _, _, _, _, _, _, _, rfl, _⟩ := h <;> rfl) | (obtain ⟨_, _, _, _, _, _, _, _, _, _, rfl, _⟩ := h <;> rfl) | (obtain ⟨_, _, _, _, _, _, _, _, _, _, _, rfl, _⟩ := h <;> rfl) | (obtain ⟨_, _, _, _, _, _, _, _, _, _, _, _, rfl, _⟩ := h <;> rfl) | (obtain ⟨_, _, _, _, _, _, _, _, _, _, _, _, _, rfl, _⟩ := h <;> rfl) | (rcases h with ⟨_, _, _, rfl, _⟩ | ⟨_, _, _, rfl, _⟩ <;> rfl) | (rcases h with ⟨_, rfl, _⟩ | ⟨_, rfl, _⟩ <;> rfl)) fun cdv A outer s H E E' hr hG => ⟨_, w_law_sum T hr hG (g_law_draw T) (by first | omega | decide | exact Nat.le_trans (by decide) (Nat.le_add_right _ _)) (g_law_sum T n) (Nat.le_refl _), fun ws S Q h => sum_ok h⟩
theorem g_law_has (T : Tx K mg w) : FnG P w K mg base CX0 3 T.f_law_has T.fd_law_has p_law_has (spHas) :=
  FnG.def_ T.F_law_has sc_law_has (by intro ws S Q E h; first | (obtain ⟨rfl, _⟩ := h <;> rfl) | (obtain ⟨_, rfl, _⟩ := h <;> rfl) | (obtain ⟨_, _, rfl, _⟩ := h <;> rfl) | (obtain ⟨_, _, _, rfl, _⟩ := h <;> rfl) | (obtain ⟨_, _, _, _, rfl, _⟩ := h <;> rfl) | (obtain ⟨_, _, _, _, _, rfl, _⟩ := h <;> rfl) | (obtain ⟨_, _, _, _, _, _, rfl, _⟩ := h <;> rfl) | (obtain ⟨_, _, _, _, _, _, _, rfl, _⟩ := h <;> rfl) | (obtain ⟨_, _, _, _, _, _, _, _, rfl, _⟩ := h <;> rfl) | (obtain ⟨_, _, _, _, _, _, _, _, _, rfl, _⟩ := h <;> rfl) | (obtain ⟨_, _, _, _, _, _, _, _, _, _, rfl, _⟩ := h <;> rfl) | (obtain ⟨_, _, _, _, _, _, _, _, _, _, _, rfl, _⟩ := h <;> rfl) | (obtain ⟨_, _, _, _, _, _, _, _, _, _, _, _, rfl, _⟩ := h <;> rfl) | (obtain ⟨_, _, _, _, _, _, _, _, _, _, _, _, _, rfl, _⟩ := h <;> rfl) | (rcases h with ⟨_, _, _, rfl, _⟩ | ⟨_, _, _, rfl, _⟩ <;> rfl) | (rcases h with ⟨_, rfl, _⟩ | ⟨_, rfl, _⟩ <;> rfl)) fun cdv A outer s H E E' hr hG => ⟨_, w_law_has T hr hG (g_law_number T) (by first | omega | decide | exact Nat.le_trans (by decide) (Nat.le_add_right _ _)) (g_law_draw T) (by first | omega | decide | exact Nat.le_trans (by decide) (Nat.le_add_right _ _)), fun ws S Q h => has_ok h⟩
theorem g_law_kind (T : Tx K mg w) : FnG P w K mg base CX0 8 T.f_law_kind T.fd_law_kind p_law_kind (spKind) :=
  FnG.def_ T.F_law_kind sc_law_kind (by intro ws S Q E h; first | (obtain ⟨rfl, _⟩ := h <;> rfl) | (obtain ⟨_, rfl, _⟩ := h <;> rfl) | (obtain ⟨_, _, rfl, _⟩ := h <;> rfl) | (obtain ⟨_, _, _, rfl, _⟩ := h <;> rfl) | (obtain ⟨_, _, _, _, rfl, _⟩ := h <;> rfl) | (obtain ⟨_, _, _, _, _, rfl, _⟩ := h <;> rfl) | (obtain ⟨_, _, _, _, _, _, rfl, _⟩ := h <;> rfl) | (obtain ⟨_, _, _, _, _, _, _, rfl, _⟩ := h <;> rfl) | (obtain ⟨_, _, _, _, _, _, _, _, rfl, _⟩ := h <;> rfl) | (obtain ⟨_, _, _, _, _, _, _, _, _, rfl, _⟩ := h <;> rfl) | (obtain ⟨_, _, _, _, _, _, _, _, _, _, rfl, _⟩ := h <;> rfl) | (obtain ⟨_, _, _, _, _, _, _, _, _, _, _, rfl, _⟩ := h <;> rfl) | (obtain ⟨_, _, _, _, _, _, _, _, _, _, _, _, rfl, _⟩ := h <;> rfl) | (obtain ⟨_, _, _, _, _, _, _, _, _, _, _, _, _, rfl, _⟩ := h <;> rfl) | (rcases h with ⟨_, _, _, rfl, _⟩ | ⟨_, _, _, rfl, _⟩ <;> rfl) | (rcases h with ⟨_, rfl, _⟩ | ⟨_, rfl, _⟩ <;> rfl)) fun cdv A outer s H E E' hr hG => ⟨_, w_law_kind T hr hG (g_law_draw T) (by first | omega | decide | exact Nat.le_trans (by decide) (Nat.le_add_right _ _)) (g_law_sum T (4)) (by first | omega | decide | exact Nat.le_trans (by decide) (Nat.le_add_right _ _)), fun ws S Q h => kind_ok h⟩
theorem g_law_due (T : Tx K mg w) : FnG P w K mg base CX0 1 T.f_law_due T.fd_law_due p_law_due (spLDue) :=
  FnG.def_ T.F_law_due sc_law_due (by intro ws S Q E h; first | (obtain ⟨rfl, _⟩ := h <;> rfl) | (obtain ⟨_, rfl, _⟩ := h <;> rfl) | (obtain ⟨_, _, rfl, _⟩ := h <;> rfl) | (obtain ⟨_, _, _, rfl, _⟩ := h <;> rfl) | (obtain ⟨_, _, _, _, rfl, _⟩ := h <;> rfl) | (obtain ⟨_, _, _, _, _, rfl, _⟩ := h <;> rfl) | (obtain ⟨_, _, _, _, _, _, rfl, _⟩ := h <;> rfl) | (obtain ⟨_, _, _, _, _, _, _, rfl, _⟩ := h <;> rfl) | (obtain ⟨_, _, _, _, _, _, _, _, rfl, _⟩ := h <;> rfl) | (obtain ⟨_, _, _, _, _, _, _, _, _, rfl, _⟩ := h <;> rfl) | (obtain ⟨_, _, _, _, _, _, _, _, _, _, rfl, _⟩ := h <;> rfl) | (obtain ⟨_, _, _, _, _, _, _, _, _, _, _, rfl, _⟩ := h <;> rfl) | (obtain ⟨_, _, _, _, _, _, _, _, _, _, _, _, rfl, _⟩ := h <;> rfl) | (obtain ⟨_, _, _, _, _, _, _, _, _, _, _, _, _, rfl, _⟩ := h <;> rfl) | (rcases h with ⟨_, _, _, rfl, _⟩ | ⟨_, _, _, rfl, _⟩ <;> rfl) | (rcases h with ⟨_, rfl, _⟩ | ⟨_, rfl, _⟩ <;> rfl)) fun cdv A outer s H E E' hr hG => ⟨_, w_law_due T hr hG, fun ws S Q h => ldue_ok h⟩
theorem g_law_told (T : Tx K mg w) : FnG P w K mg base CX0 8 T.f_law_told T.fd_law_told p_law_told (spTold) :=
  FnG.def_ T.F_law_told sc_law_told (by intro ws S Q E h; first | (obtain ⟨rfl, _⟩ := h <;> rfl) | (obtain ⟨_, rfl, _⟩ := h <;> rfl) | (obtain ⟨_, _, rfl, _⟩ := h <;> rfl) | (obtain ⟨_, _, _, rfl, _⟩ := h <;> rfl) | (obtain ⟨_, _, _, _, rfl, _⟩ := h <;> rfl) | (obtain ⟨_, _, _, _, _, rfl, _⟩ := h <;> rfl) | (obtain ⟨_, _, _, _, _, _, rfl, _⟩ := h <;> rfl) | (obtain ⟨_, _, _, _, _, _, _, rfl, _⟩ := h <;> rfl) | (obtain ⟨_, _, _, _, _, _, _, _, rfl, _⟩ := h <;> rfl) | (obtain ⟨_, _, _, _, _, _, _, _, _, rfl, _⟩ := h <;> rfl) | (obtain ⟨_, _, _, _, _, _, _, _, _, _, rfl, _⟩ := h <;> rfl) | (obtain ⟨_, _, _, _, _, _, _, _, _, _, _, rfl, _⟩ := h <;> rfl) | (obtain ⟨_, _, _, _, _, _, _, _, _, _, _, _, rfl, _⟩ := h <;> rfl) | (obtain ⟨_, _, _, _, _, _, _, _, _, _, _, _, _, rfl, _⟩ := h <;> rfl) | (rcases h with ⟨_, _, _, rfl, _⟩ | ⟨_, _, _, rfl, _⟩ <;> rfl) | (rcases h with ⟨_, rfl, _⟩ | ⟨_, rfl, _⟩ <;> rfl)) fun cdv A outer s H E E' hr hG => ⟨_, w_law_told T hr hG (g_changed T) (by first | omega | decide | exact Nat.le_trans (by decide) (Nat.le_add_right _ _)), fun ws S Q h => told_ok h⟩
theorem g_law (T : Tx K mg w) : FnG P w K mg base CX0 12 T.f_law T.fd_law p_law (spLaw) :=
  FnG.def_ T.F_law sc_law (by intro ws S Q E h; first | (obtain ⟨rfl, _⟩ := h <;> rfl) | (obtain ⟨_, rfl, _⟩ := h <;> rfl) | (obtain ⟨_, _, rfl, _⟩ := h <;> rfl) | (obtain ⟨_, _, _, rfl, _⟩ := h <;> rfl) | (obtain ⟨_, _, _, _, rfl, _⟩ := h <;> rfl) | (obtain ⟨_, _, _, _, _, rfl, _⟩ := h <;> rfl) | (obtain ⟨_, _, _, _, _, _, rfl, _⟩ := h <;> rfl) | (obtain ⟨_, _, _, _, _, _, _, rfl, _⟩ := h <;> rfl) | (obtain ⟨_, _, _, _, _, _, _, _, rfl, _⟩ := h <;> rfl) | (obtain ⟨_, _, _, _, _, _, _, _, _, rfl, _⟩ := h <;> rfl) | (obtain ⟨_, _, _, _, _, _, _, _, _, _, rfl, _⟩ := h <;> rfl) | (obtain ⟨_, _, _, _, _, _, _, _, _, _, _, rfl, _⟩ := h <;> rfl) | (obtain ⟨_, _, _, _, _, _, _, _, _, _, _, _, rfl, _⟩ := h <;> rfl) | (obtain ⟨_, _, _, _, _, _, _, _, _, _, _, _, _, rfl, _⟩ := h <;> rfl) | (rcases h with ⟨_, _, _, rfl, _⟩ | ⟨_, _, _, rfl, _⟩ <;> rfl) | (rcases h with ⟨_, rfl, _⟩ | ⟨_, rfl, _⟩ <;> rfl)) fun cdv A outer s H E E' hr hG => ⟨_, w_law T hr hG (g_law_feed T) (by first | omega | decide | exact Nat.le_trans (by decide) (Nat.le_add_right _ _)) (g_law_kind T) (by first | omega | decide | exact Nat.le_trans (by decide) (Nat.le_add_right _ _)) (g_law_has T) (by first | omega | decide | exact Nat.le_trans (by decide) (Nat.le_add_right _ _)) (g_law_draw T) (by first | omega | decide | exact Nat.le_trans (by decide) (Nat.le_add_right _ _)) (g_law_number T) (by first | omega | decide | exact Nat.le_trans (by decide) (Nat.le_add_right _ _)) (g_law_due T) (by first | omega | decide | exact Nat.le_trans (by decide) (Nat.le_add_right _ _)) (g_law_told T) (by first | omega | decide | exact Nat.le_trans (by decide) (Nat.le_add_right _ _)) (g_changed T) (by first | omega | decide | exact Nat.le_trans (by decide) (Nat.le_add_right _ _)), fun ws S Q h => law_ok h⟩

end
abbrev hk : PySem.W.Hook := hookZ 6 fa fn xt ts
def ob (s : PySem.W.SharedT) : (He.AlD × Bool) × List (Option (List (Option (Str × Int)))) := obZ 6 fa fn xt ts s
theorem ob_eq (s : PySem.W.SharedT) : ob s = hk.obs s.abs := obZ_eq s
theorem runf (w : World) : HandSHeadRun.RunEq (PySem.W.OpenLaw.row PySem.Challenge.rw_forkjoins_k04_changed) (PySem.W.view (PySem.W.OpenLaw.row PySem.Challenge.rw_forkjoins_k04_changed).prog [26]) hk ob 3000 ["__name__", "JoinError", "PaperError", "RunError", "TextError", "NoRevision", "NoStep", "NoBack", "do_write", "do_add", "do_put", "do_take", "do_row", "DEEDS", "goes", "changed", "_law_feed", "_law_draw", "_law_number", "_law_sum", "_law_has", "_law_kind", "_law_due", "_law_told"] (w.withFollow "special-get-raises" false) := by
  intro os
  kernel_rfl
theorem runt (w : World) : HandSHeadRun.RunEq (PySem.W.OpenLaw.row PySem.Challenge.rw_forkjoins_k04_changed) (PySem.W.view (PySem.W.OpenLaw.row PySem.Challenge.rw_forkjoins_k04_changed).prog [26]) hk ob 3000 ["__name__", "JoinError", "PaperError", "RunError", "TextError", "NoRevision", "NoStep", "NoBack", "do_write", "do_add", "do_put", "do_take", "do_row", "DEEDS", "goes", "changed", "_law_feed", "_law_draw", "_law_number", "_law_sum", "_law_has", "_law_kind", "_law_due", "_law_told"] (w.withFollow "special-get-raises" true) := by
  intro os
  kernel_rfl
theorem run (w : World) : HandSHeadRun.RunEq (PySem.W.OpenLaw.row PySem.Challenge.rw_forkjoins_k04_changed) (PySem.W.view (PySem.W.OpenLaw.row PySem.Challenge.rw_forkjoins_k04_changed).prog [26]) hk ob 3000 ["__name__", "JoinError", "PaperError", "RunError", "TextError", "NoRevision", "NoStep", "NoBack", "do_write", "do_add", "do_put", "do_take", "do_row", "DEEDS", "goes", "changed", "_law_feed", "_law_draw", "_law_number", "_law_sum", "_law_has", "_law_kind", "_law_due", "_law_told"] w :=
  PySem.W.byRow2 "special-get-raises" (P := fun w => HandSHeadRun.RunEq (PySem.W.OpenLaw.row PySem.Challenge.rw_forkjoins_k04_changed) (PySem.W.view (PySem.W.OpenLaw.row PySem.Challenge.rw_forkjoins_k04_changed).prog [26]) hk ob 3000 ["__name__", "JoinError", "PaperError", "RunError", "TextError", "NoRevision", "NoStep", "NoBack", "do_write", "do_add", "do_put", "do_take", "do_row", "DEEDS", "goes", "changed", "_law_feed", "_law_draw", "_law_number", "_law_sum", "_law_has", "_law_kind", "_law_due", "_law_told"] w) runf runt w
end Lw
open PySem PySem.W PySem.Calls PyProof.Rows
theorem PySem.Challenge.cw_forkjoins_k04_changed_holds : PySem.Challenge.rw_forkjoins_k04_changed.Holds := by
  w_on; o_law
  refine HandSHeadRun.head_any (r := OpenLaw.row PySem.Challenge.rw_forkjoins_k04_changed) (q := view (OpenLaw.row PySem.Challenge.rw_forkjoins_k04_changed).prog [26]) (H := Lw.hk) (ob := Lw.ob) (M := 3000) (loose := ["__name__", "JoinError", "PaperError", "RunError", "TextError", "NoRevision", "NoStep", "NoBack", "do_write", "do_add", "do_put", "do_take", "do_row", "DEEDS", "goes", "changed", "_law_feed", "_law_draw", "_law_number", "_law_sum", "_law_has", "_law_kind", "_law_due", "_law_told"]) (d := HandSHeadRun.topDef (OpenLaw.row PySem.Challenge.rw_forkjoins_k04_changed).prog 26) (kwd := []) Lw.ob_eq
    (by kernel_rfl) (fun s => by kernel_rfl) Lw.run (by kernel_rfl) (by kernel_rfl) (by kernel_rfl) (by rfl) (by first | assumption | decide +kernel) (by decide +kernel) ⟨rfl, rfl, rfl, rfl, rfl, by decide +kernel⟩ ?hw ?hc
  case hw => w_witness2
  case hc =>
    refine DL.walkG (l := PySem.Challenge.rw_forkjoins_k04_changed) (n := 63) (k := 12) (x := "_law_script") (CX := L2.CX0) rfl (by decide) (by kernel_rfl) ⟨rfl, by decide, by decide⟩ ?F (fun _ _ _ _ z => z)
    intro w mg fa h Y G hmg0
    obtain ⟨K, KX, c, cx, ct⟩ := Y
    obtain ⟨T⟩ := Lw.tx KX G c cx ct
    have hmg : mg ("law" : PySem.Str) = some (.ref fa) := by
      have e : (HandSHeadRun.topDef (OpenLaw.row PySem.Challenge.rw_forkjoins_k04_changed).prog 26).name = ("law" : PySem.Str) := by kernel_rfl
      rw [← e]
      exact hmg0
    have e := hmg.symm.trans T.m_law
    cases e
    have b := L2.FunD.bindsA (ps := ["_law_script"]) T.F_law fun _ _ _ _ _ _ us hl => match us, hl with | [_], _ => rfl
    exact ⟨K, T.fd_law, Lw.spLaw, KX, fun s v => b s [v] rfl, fun ns hl => ⟨ns, rfl, hl, fun _ => rfl⟩, fun base _ _ => Lw.g_law T⟩


