import PyProof.Rows.All
import Wide.All
import OpenK.AllK
import Wide.FinOn
import HandS.Base
import HandS.Call
import HandS.List
import HandS.Comp
import HandS.Ends
import HandS.Dict
import HandS.Iter
import HandS.Text
import HandS.TupAny
import HandS.IsInst
import HandS.Flow
import HandS.RaiseMore
import HandS.Wide
import HandS.Deep
import PyProof.Rows.InDataRows
import PyProof.ReprRoads
import HandS.Defaults
import HandS.Star
import HandS.More
import HandS.Words
import HandS.WordsExc
import HandS.Head0
import HandS.Head1
import HandS.Head2
import HandS.HeadEnd
import HandS.HeadHook1
import HandS.HeadHook2
import KE.KRevSl
import Lean
import PySem.Challenge.RW_forkjoins_k01_kinds
set_option Elab.async false
set_option linter.all false
set_option maxRecDepth 100000
set_option maxHeartbeats 4000000
namespace DL
open PySem PySem.Spec PyProof.Rows L2

/-! ### data -/
/-- tup, lst: never changed; scr: a list that is read alone; ref a: what stands in the store at a; val: any value of the machine's -/
inductive D where
  | non | bl (b : Bool) | int (i : Int) | str (x : Str) | tup (xs : List D) | lst (xs : List D) | scr (xs : List D) | ref (a : Addr) | val (v : V)

mutual
inductive RD (K : PySem.W.Frag) (I : Hp) : D → V → Prop
  | non : RD K I .non .non
  | bl (b : Bool) : RD K I (.bl b) (.bl b)
  | int (i : Int) : RD K I (.int i) (.int i)
  | str (x : Str) : RD K I (.str x) (.str x)
  | tup {a : Addr} {xs : List D} {vs : List V} : SqT K I a vs → RDs K I xs vs → RD K I (.tup xs) (.ref a)
  | lst {a : Addr} {xs : List D} {vs : List V} : I a = some (.lst vs) → RDs K I xs vs → RD K I (.lst xs) (.ref a)
  | scr {a : Addr} {xs : List D} {vs : List V} : SqL K I a vs → RDs K I xs vs → RD K I (.scr xs) (.ref a)
  | ref (a : Addr) : RD K I (.ref a) (.ref a)
  | val (v : V) : RD K I (.val v) v
inductive RDs (K : PySem.W.Frag) (I : Hp) : List D → List V → Prop
  | nil : RDs K I [] []
  | cons {x : D} {xs : List D} {v : V} {vs : List V} : RD K I x v → RDs K I xs vs → RDs K I (x :: xs) (v :: vs)
end

def Le (I I' : Hp) : Prop := ∀ a o, I a = some o → I' a = some o
theorem Le.refl {I : Hp} : Le I I := fun _ _ h => h
theorem Le.trans {I J L : Hp} (h : Le I J) (k : Le J L) : Le I L := fun a o e => k a o (h a o e)
theorem Rd.le {I I' : Hp} (l : Le I I') {a : Addr} {u : HO} (h : Rd I a u) : Rd I' a u := by
  rcases h with h | ⟨o, h⟩
  · exact .inl (l _ _ h)
  · exact .inr ⟨o, l _ _ h⟩
theorem SqL.le {K : PySem.W.Frag} {I I' : Hp} (l : Le I I') {a : Addr} {vs : List V} (h : SqL K I a vs) : SqL K I' a vs := h.imp (Rd.le l) id
theorem SqT.le {K : PySem.W.Frag} {I I' : Hp} (l : Le I I') {a : Addr} {vs : List V} (h : SqT K I a vs) : SqT K I' a vs := h.imp (Rd.le l) id
mutual
theorem RD.le {K : PySem.W.Frag} {I I' : Hp} (l : Le I I') : ∀ {x : D} {v : V}, RD K I x v → RD K I' x v
  | _, _, .non => .non
  | _, _, .bl b => .bl b
  | _, _, .int i => .int i
  | _, _, .str x => .str x
  | _, _, .tup h r => .tup (SqT.le l h) (RDs.le l r)
  | _, _, .lst h r => .lst (l _ _ h) (RDs.le l r)
  | _, _, .scr h r => .scr (SqL.le l h) (RDs.le l r)
  | _, _, .ref a => .ref a
  | _, _, .val v => .val v
theorem RDs.le {K : PySem.W.Frag} {I I' : Hp} (l : Le I I') : ∀ {xs : List D} {vs : List V}, RDs K I xs vs → RDs K I' xs vs
  | _, _, .nil => .nil
  | _, _, .cons r t => .cons (RD.le l r) (RDs.le l t)
end
section
variable {K : PySem.W.Frag} {I : Hp}
theorem RDs.length : ∀ {xs : List D} {vs : List V}, RDs K I xs vs → xs.length = vs.length
  | _, _, .nil => rfl
  | _, _, .cons _ t => congrArg (· + 1) (RDs.length t)
theorem RDs.get : ∀ {xs : List D} {vs : List V} {i : Nat} {x : D}, RDs K I xs vs → xs[i]? = some x → ∃ v, vs[i]? = some v ∧ RD K I x v
  | _, _, _, _, .nil, e => by simp at e
  | _, _, 0, _, .cons r _, e => by simp at e; subst e; exact ⟨_, rfl, r⟩
  | _, _, i + 1, x, .cons _ t, e => by
    obtain ⟨v, h1, h2⟩ := RDs.get (i := i) (x := x) t (by simpa using e)
    exact ⟨v, by simpa using h1, h2⟩
theorem RDs.get' : ∀ {xs : List D} {vs : List V} {i : Nat} {v : V}, RDs K I xs vs → vs[i]? = some v → ∃ x, xs[i]? = some x ∧ RD K I x v
  | _, _, _, _, .nil, e => by simp at e
  | _, _, 0, _, .cons r _, e => by simp at e; subst e; exact ⟨_, rfl, r⟩
  | _, _, i + 1, x, .cons _ t, e => by
    obtain ⟨v, h1, h2⟩ := RDs.get' (i := i) t (by simpa using e)
    exact ⟨v, by simpa using h1, h2⟩
theorem RDs.append : ∀ {xs ys : List D} {vs ws : List V}, RDs K I xs vs → RDs K I ys ws → RDs K I (xs ++ ys) (vs ++ ws)
  | _, _, _, _, .nil, s => s
  | _, _, _, _, .cons r t, s => .cons r (RDs.append t s)
theorem RDs.take : ∀ {xs : List D} {vs : List V} (n : Nat), RDs K I xs vs → RDs K I (xs.take n) (vs.take n)
  | _, _, 0, _ => .nil
  | _, _, _ + 1, .nil => .nil
  | _, _, n + 1, .cons r t => .cons r (RDs.take n t)
theorem RDs.drop : ∀ {xs : List D} {vs : List V} (n : Nat), RDs K I xs vs → RDs K I (xs.drop n) (vs.drop n)
  | _, _, 0, r => r
  | _, _, _ + 1, .nil => .nil
  | _, _, n + 1, .cons _ t => RDs.drop n t
theorem RDs.reverse {xs : List D} {vs : List V} (h : RDs K I xs vs) : RDs K I xs.reverse vs.reverse := by
  induction h using RDs.rec (motive_1 := fun _ _ _ => True) with
  | nil => exact .nil
  | cons r t _ ih => rw [List.reverse_cons, List.reverse_cons]; exact ih.append (.cons r .nil)
  | _ => trivial
theorem RDs.set {x : D} {v : V} (r : RD K I x v) : ∀ {xs : List D} {vs : List V} (i : Nat), RDs K I xs vs → RDs K I (xs.set i x) (vs.set i v)
  | _, _, _, .nil => .nil
  | _, _, 0, .cons _ t => .cons r t
  | _, _, i + 1, .cons q t => .cons q (RDs.set r i t)
theorem RDs.dropLast {xs : List D} {vs : List V} (h : RDs K I xs vs) : RDs K I xs.dropLast vs.dropLast := by
  rw [List.dropLast_eq_take, List.dropLast_eq_take, h.length]; exact h.take _
end

/-! ### the store of what is changed -/
inductive O where
  | lst (xs : List D)
  | dK (kvs : List (Key × D))
  | dT (kvs : List (List Key × D))
  | ins (C dx : Addr) (fs : List (Str × D))
  | own (x : Addr)
  | xd (fs : List (Str × D))
abbrev Sto := Addr → Option O
def su (S : Sto) (a : Addr) (o : O) : Sto := fun b => if b = a then some o else S b
theorem su_same {S : Sto} {a : Addr} {o : O} : su S a o a = some o := by unfold su; rw [if_pos rfl]
theorem su_ne {S : Sto} {a b : Addr} {o : O} (h : b ≠ a) : su S a o b = S b := by unfold su; rw [if_neg h]
theorem su_su {S : Sto} {a : Addr} {o u : O} : su (su S a o) a u = su S a u := by
  funext b; unfold su; split <;> rfl
theorem su_self {S : Sto} {a : Addr} {o : O} (h : S a = some o) : su S a o = S := by
  funext b; unfold su; split
  · rename_i e; rw [e, h]
  · rfl
theorem su_comm {S : Sto} {a b : Addr} {o u : O} (h : a ≠ b) : su (su S a o) b u = su (su S b u) a o := by
  funext c; unfold su
  by_cases e : c = b
  · subst e; rw [if_pos rfl, if_neg (Ne.symm h), if_pos rfl]
  · by_cases e2 : c = a
    · subst e2; rw [if_neg e, if_pos rfl, if_pos rfl]
    · rw [if_neg e, if_neg e2, if_neg e2, if_neg e]
/-- S0 is S with some of it forgotten -/
def Sub (S0 S : Sto) : Prop := ∀ a o, S0 a = some o → S a = some o
theorem Sub.refl {S : Sto} : Sub S S := fun _ _ h => h
theorem Sub.trans {S T U : Sto} (h : Sub S T) (k : Sub T U) : Sub S U := fun a o e => k a o (h a o e)
theorem Sub.new {S : Sto} {a : Addr} {o : O} (h : S a = none) : Sub S (su S a o) := fun b u e => by
  rw [su_ne (by rintro rfl; rw [h] at e; cases e)]; exact e
theorem Sub.su {S0 S : Sto} {a : Addr} {o : O} (h : Sub S0 S) : Sub (su S0 a o) (su S a o) := fun b u e => by
  by_cases hb : b = a
  · subst hb; rw [su_same] at e ⊢; exact e
  · rw [su_ne hb] at e ⊢; exact h b u e

def RKV {κ : Type} (K : PySem.W.Frag) (I : Hp) : List (κ × D) → List (κ × V) → Prop := Paired fun (p : κ × D) (q : κ × V) => p.1 = q.1 ∧ RD K I p.2 q.2
theorem RKV.le {κ : Type} {K : PySem.W.Frag} {I I' : Hp} (l : Le I I') {xs : List (κ × D)} {ys : List (κ × V)} (h : RKV K I xs ys) : RKV K I' xs ys := Paired.mapP h fun _ _ z => ⟨z.1, z.2.le l⟩
def RO (K : PySem.W.Frag) (I : Hp) : O → HO → Prop
  | .lst xs, .lst vs => RDs K I xs vs
  | .dK kvs, .dK us => RKV K I kvs us
  | .dT kvs, .dT us => RKV K I kvs us
  | .ins C dx fs, .ins C' dx' gs => C = C' ∧ dx = dx' ∧ RKV K I fs gs
  | .own x, .own y => x = y
  | .xd fs, .xd gs => RKV K I fs gs
  | _, _ => False
theorem RO.le {K : PySem.W.Frag} {I I' : Hp} (l : Le I I') {o : O} {u : HO} (h : RO K I o u) : RO K I' o u := by
  cases o <;> cases u <;> first | exact h.elim | exact RDs.le l h | exact RKV.le l h | exact ⟨h.1, h.2.1, h.2.2.le l⟩ | exact h

/-- what has stayed from one state to a later one -/
structure Ext (I : Hp) (S : Sto) (H : Hp) (I' : Hp) (S' : Sto) (H' : Hp) : Prop where
  le : Le I I'
  fr : ∀ a o, H a = some o → S a = none → H' a = some o ∧ S' a = none ∧ I' a = I a
theorem Ext.refl {I H : Hp} {S : Sto} : Ext I S H I S H := ⟨.refl, fun _ _ h k => ⟨h, k, rfl⟩⟩
theorem Ext.trans {I H I1 H1 I2 H2 : Hp} {S S1 S2 : Sto} (a : Ext I S H I1 S1 H1) (b : Ext I1 S1 H1 I2 S2 H2) : Ext I S H I2 S2 H2 :=
  ⟨a.le.trans b.le, fun c o h k => let ⟨h1, k1, i1⟩ := a.fr c o h k; let ⟨h2, k2, i2⟩ := b.fr c o h1 k1; ⟨h2, k2, i2.trans i1⟩⟩
/-- what is wanted of an exception: its class, its fields, the store -/
abbrev XD := Addr → List (Str × D) → Sto → Prop
/-- the same of the heap beside it -/
structure Wi where
  E : XD
  E' : XK
/-- the data stands in the heap -/
structure Sim0 (K : PySem.W.Frag) (I : Hp) (S : Sto) (H : Hp) : Prop where
  im : Le I H
  st : ∀ a o, S a = some o → I a = none ∧ ∃ u, RO K I o u ∧ H a = some u
def KX (K : PySem.W.Frag) (I : Hp) (S : Sto) (H : Hp) (E : XD) (E' : XK) : Prop := ∀ I' S' H' C d fs gs, Ext I S H I' S' H' → Sim0 K I' S' H' → RKV K I' fs gs → H' d = some (.xd gs) → S' d = none → I' d = none → E C fs S' → E' (.ref C) (some d) H'
theorem KX.ext {K : PySem.W.Frag} {I H I1 H1 : Hp} {S S1 : Sto} {E : XD} {E' : XK} (e : Ext I S H I1 S1 H1) (k : KX K I S H E E') : KX K I1 S1 H1 E E' := fun I' S' H' C d fs gs x => k I' S' H' C d fs gs (e.trans x)
/-- .. and an exception's wishes are one -/
structure Sim (K : PySem.W.Frag) (wi : Wi) (I : Hp) (S : Sto) (H : Hp) : Prop extends Sim0 K I S H where
  kx : KX K I S H wi.E wi.E'

theorem Sub.none {S0 S : Sto} (h : Sub S0 S) {a : Addr} (k : S a = none) : S0 a = none := by
  cases q : S0 a with
  | none => rfl
  | some u => rw [h a u q] at k; cases k
theorem Ext.sub {I H I' H' : Hp} {S S' S0 : Sto} (s : Ext I S H I' S' H') (h : Sub S0 S') : Ext I S H I' S0 H' :=
  ⟨s.le, fun a o e k => let ⟨h1, k1, i1⟩ := s.fr a o e k; ⟨h1, h.none k1, i1⟩⟩
theorem Sim.sub {K : PySem.W.Frag} {I H : Hp} {S S0 : Sto} (s : Sim K wi I S H) (h : Sub S0 S) : Sim K wi I S0 H := ⟨⟨s.im, fun a o e => s.st a o (h a o e)⟩, s.kx.ext (Ext.sub .refl h)⟩
/-- a new object that is never changed -/
theorem Sim.newI {K : PySem.W.Frag} {I H : Hp} {S : Sto} {p : Addr} {u : HO} (s : Sim K wi I S H) (hp : H p = none) : Sim K wi (upd I p u) S (upd H p u) ∧ Ext I S H (upd I p u) S (upd H p u) := by
  have hI : ∀ a o, I a = some o → a ≠ p := fun a o e z => by subst z; rw [s.im a o e] at hp; cases hp
  have hS : ∀ a o, S a = some o → a ≠ p := fun a o e z => by
    subst z
    obtain ⟨_, u, _, e2⟩ := s.st a o e
    rw [e2] at hp; cases hp
  have le : Le I (upd I p u) := fun a o e => by rw [upd_ne (hI a o e)]; exact e
  have ex : Ext I S H (upd I p u) S (upd H p u) := ⟨le, fun a o e k => ⟨by rw [upd_ne (ne_of_none e hp)]; exact e, k, by rw [upd_ne (ne_of_none e hp)]⟩⟩
  refine ⟨⟨⟨fun a o e => ?_, fun a o e => ?_⟩, s.kx.ext ex⟩, ex⟩
  · by_cases h : a = p
    · subst h; rw [upd_same] at e ⊢; exact e
    · rw [upd_ne h] at e ⊢; exact s.im a o e
  · obtain ⟨h1, v, h2, h3⟩ := s.st a o e
    have h := hS a o e
    exact ⟨by rw [upd_ne h]; exact h1, v, h2.le le, by rw [upd_ne h]; exact h3⟩
/-- a new object that may be changed -/
theorem Sim.newS {K : PySem.W.Frag} {I H : Hp} {S : Sto} {p : Addr} {o : O} {u : HO} (s : Sim K wi I S H) (hp : H p = none) (r : RO K I o u) : S p = none ∧ Sim K wi I (su S p o) (upd H p u) ∧ Ext I S H I (su S p o) (upd H p u) := by
  have hI : ∀ a o, I a = some o → a ≠ p := fun a o e z => by subst z; rw [s.im a o e] at hp; cases hp
  have hS : ∀ a o, S a = some o → a ≠ p := fun a o e z => by
    subst z
    obtain ⟨_, u, _, e2⟩ := s.st a o e
    rw [e2] at hp; cases hp
  have ex : Ext I S H I (su S p o) (upd H p u) := ⟨.refl, fun a o e k => ⟨by rw [upd_ne (ne_of_none e hp)]; exact e, by rw [su_ne (ne_of_none e hp)]; exact k, rfl⟩⟩
  refine ⟨?_, ⟨⟨fun a o e => by rw [upd_ne (hI a o e)]; exact s.im a o e, fun a o e => ?_⟩, s.kx.ext ex⟩, ex⟩
  · cases q : S p with
    | none => rfl
    | some o => exact absurd rfl (hS p o q)
  · by_cases h : a = p
    · subst h
      rw [su_same] at e; cases e
      refine ⟨?_, u, r, upd_same⟩
      cases q : I a with
      | none => rfl
      | some v => exact absurd rfl (hI a v q)
    · rw [su_ne h] at e
      obtain ⟨h1, v, h2, h3⟩ := s.st a o e
      exact ⟨h1, v, h2, by rw [upd_ne h]; exact h3⟩
/-- an object is changed -/
theorem Sim.wr {K : PySem.W.Frag} {I H : Hp} {S : Sto} {p : Addr} {o0 o : O} {u : HO} (s : Sim K wi I S H) (hp : S p = some o0) (r : RO K I o u) : Sim K wi I (su S p o) (upd H p u) ∧ Ext I S H I (su S p o) (upd H p u) := by
  obtain ⟨hI0, _⟩ := s.st p o0 hp
  have hI : ∀ a o, I a = some o → a ≠ p := fun a o e z => by subst z; rw [hI0] at e; cases e
  have ex : Ext I S H I (su S p o) (upd H p u) := ⟨.refl, fun a o e k => by
    have h : a ≠ p := by rintro rfl; rw [hp] at k; cases k
    exact ⟨by rw [upd_ne h]; exact e, by rw [su_ne h]; exact k, rfl⟩⟩
  refine ⟨⟨⟨fun a o e => by rw [upd_ne (hI a o e)]; exact s.im a o e, fun a o e => ?_⟩, s.kx.ext ex⟩, ex⟩
  by_cases h : a = p
  · subst h
    rw [su_same] at e; cases e
    exact ⟨hI0, u, r, upd_same⟩
  · rw [su_ne h] at e
    obtain ⟨h1, v, h2, h3⟩ := s.st a o e
    exact ⟨h1, v, h2, by rw [upd_ne h]; exact h3⟩
def sdel (S : Sto) (a : Addr) : Sto := fun b => if b = a then none else S b
theorem Sub.sdel {S : Sto} {a : Addr} : Sub (sdel S a) S := fun b o e => by
  unfold DL.sdel at e
  split at e
  · cases e
  · exact e
/-- a list of the store is for ever as it is now -/
theorem Sim.frz {K : PySem.W.Frag} {I H : Hp} {S : Sto} {a : Addr} {xs : List D} {vs : List V} (s : Sim K wi I S H) (e : S a = some (.lst xs)) (r : RDs K I xs vs) (hv : H a = some (.lst vs)) :
    Sim K wi (upd I a (.lst vs)) (sdel S a) H ∧ Ext I S H (upd I a (.lst vs)) (sdel S a) H ∧ RD K (upd I a (.lst vs)) (.lst xs) (.ref a) := by
  have hn : I a = none := (s.st a _ e).1
  have le : Le I (upd I a (.lst vs)) := fun b o q => by rw [upd_ne (ne_of_none q hn)]; exact q
  have ex : Ext I S H (upd I a (.lst vs)) (sdel S a) H := ⟨le, fun b o q k => by
    have hb : b ≠ a := by rintro rfl; rw [e] at k; cases k
    exact ⟨q, by unfold DL.sdel; rw [if_neg hb]; exact k, by rw [upd_ne hb]⟩⟩
  refine ⟨⟨⟨fun b o q => ?_, fun b o q => ?_⟩, s.kx.ext ex⟩, ex, .lst upd_same (r.le le)⟩
  · by_cases h : b = a
    · subst h; rw [upd_same] at q; cases q; exact hv
    · rw [upd_ne h] at q; exact s.im b o q
  · have hb : b ≠ a := by rintro rfl; unfold DL.sdel at q; rw [if_pos rfl] at q; cases q
    have q' : S b = some o := Sub.sdel b o q
    obtain ⟨h1, u, h2, h3⟩ := s.st b o q'
    exact ⟨by rw [upd_ne hb]; exact h1, u, h2.le le, h3⟩

/-! ### the names' values -/
abbrev Env' := List (Option D)
structure ER (K : PySem.W.Frag) (I : Hp) (env : Env') (σ : L2.St) : Prop where
  len : env.length = σ.length
  at' : ∀ (i : Nat) w, env[i]? = some (some w) → ∃ v, σ[i]? = some (some v) ∧ RD K I w v
theorem ER.le {K : PySem.W.Frag} {I I' : Hp} (l : Le I I') {env : Env'} {σ : L2.St} (h : ER K I env σ) : ER K I' env σ :=
  ⟨h.len, fun i w e => let ⟨v, h1, h2⟩ := h.at' i w e; ⟨v, h1, h2.le l⟩⟩
theorem ER.set {K : PySem.W.Frag} {I : Hp} {env : Env'} {σ : L2.St} (h : ER K I env σ) (i : Nat) {w : D} {v : V} (r : RD K I w v) : ER K I (env.set i (some w)) (σ.set i (some v)) := by
  refine ⟨by rw [List.length_set, List.length_set]; exact h.len, fun j x e => ?_⟩
  by_cases hj : i = j
  · subst hj
    by_cases hl : i < env.length
    · rw [List.getElem?_set_self hl] at e
      cases e
      exact ⟨v, by rw [List.getElem?_set_self (by rw [← h.len]; exact hl)], r⟩
    · rw [List.getElem?_eq_none (by simpa using hl)] at e; cases e
  · rw [List.getElem?_set_ne hj] at e
    rw [List.getElem?_set_ne hj]
    exact h.at' j x e

/-! ### judgements -/
abbrev DK := D → Sto → Prop
abbrev DE := Env' → Sto → DK → Prop
abbrev DT := Env' → Sto → (Bool → Sto → Prop) → Prop
abbrev DA := Env' → Sto → (List D → Sto → Prop) → Prop
structure DEnds where
  nx : Env' → Sto → Prop
  rt : DK
  bk : Env' → Sto → Prop := fun _ _ => False
  ct : Env' → Sto → Prop := fun _ _ => False
abbrev DS := DEnds → Env' → Sto → Prop

/-- what an end of data asks of an end in the heap, from a state on -/
def KQ (K : PySem.W.Frag) (wi : Wi) (I : Hp) (S : Sto) (H : Hp) (Q : DK) (Q' : VK) : Prop := ∀ I' w v S' H', Ext I S H I' S' H' → Sim K wi I' S' H' → RD K I' w v → Q w S' → Q' v H'
def KB (K : PySem.W.Frag) (wi : Wi) (I : Hp) (S : Sto) (H : Hp) (Q : Bool → Sto → Prop) (Q' : Bool → Hp → Prop) : Prop := ∀ I' b S' H', Ext I S H I' S' H' → Sim K wi I' S' H' → Q b S' → Q' b H'
def KA (K : PySem.W.Frag) (wi : Wi) (I : Hp) (S : Sto) (H : Hp) (Q : List D → Sto → Prop) (Q' : List V → Hp → Prop) : Prop := ∀ I' ws vs S' H', Ext I S H I' S' H' → Sim K wi I' S' H' → RDs K I' ws vs → Q ws S' → Q' vs H'
def KN (K : PySem.W.Frag) (wi : Wi) (I : Hp) (S : Sto) (H : Hp) (Q : Env' → Sto → Prop) (Q' : L2.St → Hp → Prop) : Prop := ∀ I' env σ S' H', Ext I S H I' S' H' → Sim K wi I' S' H' → ER K I' env σ → Q env S' → Q' σ H'
def lift (K : PySem.W.Frag) (wi : Wi) (t : DE) : TE := fun σ H Q' => ∃ I env S Q, Sim K wi I S H ∧ ER K I env σ ∧ t env S Q ∧ KQ K wi I S H Q Q'
def liftT (K : PySem.W.Frag) (wi : Wi) (t : DT) : TT := fun σ H Q' => ∃ I env S Q, Sim K wi I S H ∧ ER K I env σ ∧ t env S Q ∧ KB K wi I S H Q Q'
def liftA (K : PySem.W.Frag) (wi : Wi) (t : DA) : TA := fun σ H Q' => ∃ I env S Q, Sim K wi I S H ∧ ER K I env σ ∧ t env S Q ∧ KA K wi I S H Q Q'
structure KD (K : PySem.W.Frag) (wi : Wi) (I : Hp) (S : Sto) (H : Hp) (d : DEnds) (D' : Ends) : Prop where
  nx : KN K wi I S H d.nx D'.nx
  rt : KQ K wi I S H d.rt D'.rt
  bk : KN K wi I S H d.bk D'.bk
  ct : KN K wi I S H d.ct D'.ct
def liftS (K : PySem.W.Frag) (wi : Wi) (t : DS) : TS := fun D' σ H => ∃ I env S d, Sim K wi I S H ∧ ER K I env σ ∧ t d env S ∧ KD K wi I S H d D'
theorem KQ.ext {K : PySem.W.Frag} {I H I1 H1 : Hp} {S S1 : Sto} {Q : DK} {Q' : VK} (e : Ext I S H I1 S1 H1) (k : KQ K wi I S H Q Q') : KQ K wi I1 S1 H1 Q Q' := fun I' w v S' H' x => k I' w v S' H' (e.trans x)
theorem KB.ext {K : PySem.W.Frag} {I H I1 H1 : Hp} {S S1 : Sto} {Q : Bool → Sto → Prop} {Q' : Bool → Hp → Prop} (e : Ext I S H I1 S1 H1) (k : KB K wi I S H Q Q') : KB K wi I1 S1 H1 Q Q' := fun I' w S' H' x => k I' w S' H' (e.trans x)
theorem KA.ext {K : PySem.W.Frag} {I H I1 H1 : Hp} {S S1 : Sto} {Q : List D → Sto → Prop} {Q' : List V → Hp → Prop} (e : Ext I S H I1 S1 H1) (k : KA K wi I S H Q Q') : KA K wi I1 S1 H1 Q Q' := fun I' w v S' H' x => k I' w v S' H' (e.trans x)
theorem KN.ext {K : PySem.W.Frag} {I H I1 H1 : Hp} {S S1 : Sto} {Q : Env' → Sto → Prop} {Q' : L2.St → Hp → Prop} (e : Ext I S H I1 S1 H1) (k : KN K wi I S H Q Q') : KN K wi I1 S1 H1 Q Q' := fun I' w v S' H' x => k I' w v S' H' (e.trans x)
theorem KD.ext {K : PySem.W.Frag} {I H I1 H1 : Hp} {S S1 : Sto} {d : DEnds} {D' : Ends} (e : Ext I S H I1 S1 H1) (k : KD K wi I S H d D') : KD K wi I1 S1 H1 d D' := ⟨k.nx.ext e, k.rt.ext e, k.bk.ext e, k.ct.ext e⟩

abbrev ME (X : Cx) (wi : Wi) (e : Expr) (t : DE) : Prop := PE X e (lift X.K wi t)
abbrev MT (X : Cx) (wi : Wi) (e : Expr) (t : DT) : Prop := PT X e (liftT X.K wi t)
abbrev MW (X : Cx) (wi : Wi) (e : Expr) (t : DT) : Prop := PW X e (liftT X.K wi t)
abbrev MA (X : Cx) (wi : Wi) (es : List Expr) (t : DA) : Prop := PA X es (liftA X.K wi t)
abbrev MS (X : Cx) (wi : Wi) (st : Stmt) (t : DS) : Prop := PS X st (liftS X.K wi t)
abbrev MSs (X : Cx) (wi : Wi) (st : List Stmt) (t : DS) : Prop := PSs X st (liftS X.K wi t)

section
variable {X : Cx} {e : Expr}
theorem PE.of {t t' : TE} (h : PE X e t) (i : ∀ σ H Q, t' σ H Q → t σ H Q) : PE X e t' := ⟨fun pins s σ H Q I hw => h.run pins s σ H Q I (i σ H Q hw)⟩
theorem PT.of {t t' : TT} (h : PT X e t) (i : ∀ σ H Q, t' σ H Q → t σ H Q) : PT X e t' := ⟨fun pins s σ H Q I hw => h.run pins s σ H Q I (i σ H Q hw)⟩
theorem PW.of {t t' : TT} (h : PW X e t) (i : ∀ σ H Q, t' σ H Q → t σ H Q) : PW X e t' := ⟨fun wh pins s σ H Q I hw => h.run wh pins s σ H Q I (i σ H Q hw)⟩
theorem PA.of {es : List Expr} {t t' : TA} (h : PA X es t) (i : ∀ σ H Q, t' σ H Q → t σ H Q) : PA X es t' := ⟨fun pos pins s σ H Q I hw => h.run pos pins s σ H Q I (i σ H Q hw)⟩
theorem PS.of {st : Stmt} {t t' : TS} (h : PS X st t) (i : ∀ D σ H, t' D σ H → t D σ H) : PS X st t' := ⟨fun pins s σ H D I hw => h.run pins s σ H D I (i D σ H hw)⟩
theorem PSs.of {st : List Stmt} {t t' : TS} (h : PSs X st t) (i : ∀ D σ H, t' D σ H → t D σ H) : PSs X st t' := ⟨fun pins s σ H D I hw => h.run pins s σ H D I (i D σ H hw)⟩
end
end DL


set_option Elab.async false
set_option linter.all false
set_option maxRecDepth 100000
set_option maxHeartbeats 4000000
namespace DL
open PySem PySem.Spec PyProof.Rows L2

/-! ### readings -/
def dVar (i : Nat) : DE := fun env S Q => match env[i]? with
  | some (some w) => Q w S
  | _ => False
def dC (w : D) : DE := fun _ S Q => Q w S
def dUn (f : D → Sto → DK → Prop) (ta : DE) : DE := fun env S Q => ta env S fun x S1 => f x S1 Q
def dOp (f : D → D → Sto → DK → Prop) (ta tb : DE) : DE := fun env S Q => ta env S fun x S1 => tb env S1 fun y S2 => f x y S2 Q
def dNil : DA := fun _ S Q => Q [] S
def dCons (ta : DE) (tr : DA) : DA := fun env S Q => ta env S fun x S1 => tr env S1 fun xs S2 => Q (x :: xs) S2
def dFn (f : List D → Sto → DK → Prop) (t : DA) : DE := fun env S Q => t env S fun xs S1 => f xs S1 Q
/-- a value as a test: a bool -/
def dTst (t : DE) : DT := fun env S Q => t env S fun w S1 => match w with
  | .bl b => Q b S1
  | _ => False
def dNot (t : DT) : DT := fun env S Q => t env S fun b S1 => Q (!b) S1
def dAnd (t u : DT) : DT := fun env S Q => t env S fun b S1 => if b = true then u env S1 Q else Q false S1
def dOr (t u : DT) : DT := fun env S Q => t env S fun b S1 => if b = true then Q true S1 else u env S1 Q
def dIf (t : DT) (ta tb : DE) : DE := fun env S Q => t env S fun b S1 => if b = true then ta env S1 Q else tb env S1 Q
/-- and, or of values, the first a bool -/
def dAndV (ta tb : DE) : DE := fun env S Q => ta env S fun w S1 => match w with
  | .bl b => if b = true then tb env S1 Q else Q (.bl false) S1
  | _ => False
def dOrV (ta tb : DE) : DE := fun env S Q => ta env S fun w S1 => match w with
  | .bl b => if b = true then Q (.bl true) S1 else tb env S1 Q
  | _ => False
def dNotV (ta : DE) : DE := fun env S Q => ta env S fun w S1 => match w with
  | .bl b => Q (.bl (!b)) S1
  | _ => False

/-! ### rules by values -/
def rOf (K : PySem.W.Frag) (wi : Wi) (g : D → D → Sto → DK → Prop) : R2 := fun v u H Q' => ∃ I S x y Q, Sim K wi I S H ∧ RD K I x v ∧ RD K I y u ∧ g x y S Q ∧ KQ K wi I S H Q Q'
def r1Of (K : PySem.W.Frag) (wi : Wi) (g : D → Sto → DK → Prop) : V → Hp → VK → Prop := fun v H Q' => ∃ I S x Q, Sim K wi I S H ∧ RD K I x v ∧ g x S Q ∧ KQ K wi I S H Q Q'
def rcOf (K : PySem.W.Frag) (wi : Wi) (g : List D → Sto → DK → Prop) : List V → Hp → VK → Prop := fun vs H Q' => ∃ I S xs Q, Sim K wi I S H ∧ RDs K I xs vs ∧ g xs S Q ∧ KQ K wi I S H Q Q'
abbrev OpM (X : Cx) (wi : Wi) (f : Value → Value → Sem Value) (g : D → D → Sto → DK → Prop) : Prop := OpR X f (rOf X.K wi g)
abbrev UnM (X : Cx) (wi : Wi) (f : Value → Sem Value) (g : D → Sto → DK → Prop) : Prop := UnR X f (r1Of X.K wi g)
abbrev CallM (X : Cx) (wi : Wi) (f : Value) (g : List D → Sto → DK → Prop) : Prop := CallR X f (rcOf X.K wi g)

section
variable {X : Cx} {a b c e : Expr} {es : List Expr} {ta tb : DE} {tA uB : DT} {t : DA} {pos : Pos}

/-! ### names, constants -/
theorem lift_var {K : PySem.W.Frag} {i : Nat} {σ : L2.St} {H : Hp} {Q : VK} (h : lift K wi (dVar i) σ H Q) : tVar i σ H Q := by
  obtain ⟨I, env, S, Qd, sim, er, h, k⟩ := h
  unfold dVar at h
  split at h
  · rename_i w hw
    obtain ⟨v, hv, r⟩ := er.at' i w hw
    exact ⟨v, hv, k I w v S H .refl sim r h⟩
  · exact h.elim
theorem mv (i : Nat) {x : Str} {pos : Pos} (hN : X.N[i]? = some x := by rfl) (hv : Vis X.env.scope x := by first | exact Or.inl rfl | exact Or.inr (Or.inl rfl) | exact Or.inr (Or.inr rfl)) (hd : (x == ("__debug__" : Str)) = false := by decide)
    (hcd : (x == ("__classdict__" : Str)) = false := by decide) : ME X wi (.Name x pos) (dVar i) := PE.of (pe_var hN hv hd hcd) fun _ _ _ => lift_var
theorem lift_c {K : PySem.W.Frag} {w : D} {v : V} (r : ∀ I, RD K I w v) {σ : L2.St} {H : Hp} {Q : VK} (h : lift K wi (dC w) σ H Q) : tC v σ H Q := by
  obtain ⟨I, env, S, Qd, sim, er, h, k⟩ := h
  exact k I w v S H .refl sim (r I) h
theorem mInt {i j pos} : ME X wi (.Constant (.int i) j pos) (dC (.int i)) := PE.of pe_int fun _ _ _ => lift_c fun _ => .int i
theorem mBl {i j pos} : ME X wi (.Constant (.bool i) j pos) (dC (.bl i)) := PE.of pe_bl fun _ _ _ => lift_c fun _ => .bl i
theorem mNon {j pos} : ME X wi (.Constant .none j pos) (dC .non) := PE.of pe_non fun _ _ _ => lift_c fun _ => .non
theorem mStr {x j pos} : ME X wi (.Constant (.str x) j pos) (dC (.str x)) := PE.of pe_str fun _ _ _ => lift_c fun _ => .str x
/-- a constant of the module -/
structure GC (K : PySem.W.Frag) (mg : Str → Option Value) (x : Str) (w : D) : Prop where
  ex : ∃ v u, mg x = some u ∧ RelV v u ∧ ∀ I, RD K I w v
theorem mGlob {x : Str} {w : D} {pos : Pos} (hg : Gl X x) (h : GC X.K X.mg x w) (hd : (x == ("__debug__" : Str)) = false := by decide) : ME X wi (.Name x pos) (dC w) := by
  obtain ⟨v, u, hm, r, q⟩ := h.ex
  exact PE.of (pe_glob hg hm r hd) fun _ _ _ => lift_c q

/-! ### operators -/
theorem lift_op {K : PySem.W.Frag} {g : D → D → Sto → DK → Prop} {σ : L2.St} {H : Hp} {Q : VK} (h : lift K wi (dOp g ta tb) σ H Q) : tOp (rOf K wi g) (lift K wi ta) (lift K wi tb) σ H Q := by
  obtain ⟨I, env, S, Qd, sim, er, h, k⟩ := h
  refine ⟨I, env, S, _, sim, er, h, fun I1 w1 v1 S1 H1 e1 s1 r1 h1 => ?_⟩
  refine ⟨I1, env, S1, _, s1, er.le e1.le, h1, fun I2 w2 v2 S2 H2 e2 s2 r2 h2 => ?_⟩
  exact ⟨I2, S2, w1, w2, Qd, s2, r1.le e2.le, r2, h2, k.ext (e1.trans e2)⟩
theorem mOp {op : Operator} {g : D → D → Sto → DK → Prop} (ho : OpM X wi (binaryOp op) g) (ha : ME X wi a ta) (hb : ME X wi b tb) : ME X wi (.BinOp a op b pos) (dOp g ta tb) :=
  PE.of (pe_op ho ha hb) fun _ _ _ => lift_op
theorem lift_un {K : PySem.W.Frag} {g : D → Sto → DK → Prop} {σ : L2.St} {H : Hp} {Q : VK} (h : lift K wi (dUn g ta) σ H Q) : tUn (r1Of K wi g) (lift K wi ta) σ H Q := by
  obtain ⟨I, env, S, Qd, sim, er, h, k⟩ := h
  refine ⟨I, env, S, _, sim, er, h, fun I1 w1 v1 S1 H1 e1 s1 r1 h1 => ?_⟩
  exact ⟨I1, S1, w1, Qd, s1, r1, h1, k.ext e1⟩
theorem mUn {op : UnaryOp} {g : D → Sto → DK → Prop} (ho : UnM X wi (unaryOp op) g) (ha : ME X wi a ta) : ME X wi (.UnaryOp op a pos) (dUn g ta) :=
  PE.of (pe_un ho ha) fun _ _ _ => lift_un
theorem mCmp {op : CmpOp} {g : D → D → Sto → DK → Prop} (ho : OpM X wi (compareOp op) g) (ha : ME X wi a ta) (hb : ME X wi b tb) (hm : behindInMarks op b = false := by first | exact nomark _ | rfl) : ME X wi (.Compare a [op] [b] pos) (dOp g ta tb) :=
  PE.of (pe_cmpR ho ha hb hm) fun _ _ _ => lift_op
theorem lift_tst {K : PySem.W.Frag} {t : DE} {σ : L2.St} {H : Hp} {Q : Bool → Hp → Prop} (h : liftT K wi (dTst t) σ H Q) : tB (lift K wi t) σ H Q := by
  obtain ⟨I, env, S, Qd, sim, er, h, k⟩ := h
  refine ⟨I, env, S, _, sim, er, h, fun I1 w1 v1 S1 H1 e1 s1 r1 h1 => ?_⟩
  cases w1 <;> try exact h1.elim
  cases r1
  exact ⟨_, rfl, k I1 _ S1 H1 e1 s1 h1⟩
theorem mCmpT {op : CmpOp} {g : D → D → Sto → DK → Prop} (ho : OpM X wi (compareOp op) g) (ha : ME X wi a ta) (hb : ME X wi b tb) (hm : behindInMarks op b = false := by first | exact nomark _ | rfl) : MT X wi (.Compare a [op] [b] pos) (dTst (dOp g ta tb)) := by
  refine PT.of (pt_cmpR ho ha hb hm) fun σ H Q h => ?_
  obtain ⟨I, env, S, Qd, sim, er, h, k⟩ := lift_tst h
  exact lift_op ⟨I, env, S, Qd, sim, er, h, k⟩
/-- an expression whose value is a bool -/
theorem mVal {t : DE} (h : ME X wi e t) (he : ∀ whole, isTrue e X.env whole = (do let v ← whole; standAt e.pos; holding [v] (truthy v)) := by intro _; rfl) : MT X wi e (dTst t) := PT.of (pt_val h he) fun _ _ _ => lift_tst
theorem mNotT (ha : MT X wi a tA) : MT X wi (.UnaryOp .Not a pos) (dNot tA) := by
  refine PT.of (pt_not ha) fun σ H Q h => ?_
  obtain ⟨I, env, S, Qd, sim, er, h, k⟩ := h
  exact ⟨I, env, S, _, sim, er, h, fun I1 b S1 H1 e1 s1 h1 => k I1 _ S1 H1 e1 s1 h1⟩
theorem mAnd1 (ha : MT X wi a tA) : MW X wi (.BoolOp .And [a] pos) tA := pw_and1 ha
theorem mOr1 (ha : MT X wi a tA) : MW X wi (.BoolOp .Or [a] pos) tA := pw_or1 ha
theorem mAnd {rest : List Expr} (ha : MT X wi a tA) (hb : MW X wi (.BoolOp .And (b :: rest) pos) uB) : MW X wi (.BoolOp .And (a :: b :: rest) pos) (dAnd tA uB) := by
  refine PW.of (pw_and ha hb) fun σ H Q h => ?_
  obtain ⟨I, env, S, Qd, sim, er, h, k⟩ := h
  refine ⟨I, env, S, _, sim, er, h, fun I1 c S1 H1 e1 s1 h1 => ?_⟩
  cases c
  · exact k I1 _ S1 H1 e1 s1 h1
  · exact ⟨I1, env, S1, Qd, s1, er.le e1.le, h1, k.ext e1⟩
theorem mOr {rest : List Expr} (ha : MT X wi a tA) (hb : MW X wi (.BoolOp .Or (b :: rest) pos) uB) : MW X wi (.BoolOp .Or (a :: b :: rest) pos) (dOr tA uB) := by
  refine PW.of (pw_or ha hb) fun σ H Q h => ?_
  obtain ⟨I, env, S, Qd, sim, er, h, k⟩ := h
  refine ⟨I, env, S, _, sim, er, h, fun I1 c S1 H1 e1 s1 h1 => ?_⟩
  cases c
  · exact ⟨I1, env, S1, Qd, s1, er.le e1.le, h1, k.ext e1⟩
  · exact k I1 _ S1 H1 e1 s1 h1
theorem mW (h : MW X wi e tA) : MT X wi e tA := h.pt
theorem mOne {op} (h : ME X wi a ta) : ME X wi (.BoolOp op [a] pos) ta := pe_one h
theorem mAndV {rest : List Expr} (ha : ME X wi a ta) (hb : ME X wi (.BoolOp .And (b :: rest) pos) tb) : ME X wi (.BoolOp .And (a :: b :: rest) pos) (dAndV ta tb) := by
  refine PE.of (pe_and ha hb) fun σ H Q h => ?_
  obtain ⟨I, env, S, Qd, sim, er, h, k⟩ := h
  refine ⟨I, env, S, _, sim, er, h, fun I1 w1 v1 S1 H1 e1 s1 r1 h1 => ?_⟩
  cases w1 <;> try exact h1.elim
  rename_i c
  cases r1
  refine ⟨c, rfl, ?_⟩
  cases c
  · exact k I1 _ _ S1 H1 e1 s1 (.bl false) h1
  · exact ⟨I1, env, S1, Qd, s1, er.le e1.le, h1, k.ext e1⟩
theorem mOrV {rest : List Expr} (ha : ME X wi a ta) (hb : ME X wi (.BoolOp .Or (b :: rest) pos) tb) : ME X wi (.BoolOp .Or (a :: b :: rest) pos) (dOrV ta tb) := by
  refine PE.of (pe_or ha hb) fun σ H Q h => ?_
  obtain ⟨I, env, S, Qd, sim, er, h, k⟩ := h
  refine ⟨I, env, S, _, sim, er, h, fun I1 w1 v1 S1 H1 e1 s1 r1 h1 => ?_⟩
  cases w1 <;> try exact h1.elim
  rename_i c
  cases r1
  refine ⟨c, rfl, ?_⟩
  cases c
  · exact ⟨I1, env, S1, Qd, s1, er.le e1.le, h1, k.ext e1⟩
  · exact k I1 _ _ S1 H1 e1 s1 (.bl true) h1
theorem mNotV (ha : ME X wi a ta) : ME X wi (.UnaryOp .Not a pos) (dNotV ta) := by
  refine PE.of (pe_not ha) fun σ H Q h => ?_
  obtain ⟨I, env, S, Qd, sim, er, h, k⟩ := h
  refine ⟨I, env, S, _, sim, er, h, fun I1 w1 v1 S1 H1 e1 s1 r1 h1 => ?_⟩
  cases w1 <;> try exact h1.elim
  cases r1
  exact ⟨_, rfl, k I1 _ _ S1 H1 e1 s1 (.bl _) h1⟩
theorem mIfE (hc : MT X wi c tA) (ha : ME X wi a ta) (hb : ME X wi b tb) : ME X wi (.IfExp c a b pos) (dIf tA ta tb) := by
  refine PE.of (pe_ifExp hc ha hb) fun σ H Q h => ?_
  obtain ⟨I, env, S, Qd, sim, er, h, k⟩ := h
  refine ⟨I, env, S, _, sim, er, h, fun I1 d S1 H1 e1 s1 h1 => ?_⟩
  cases d
  · exact ⟨I1, env, S1, Qd, s1, er.le e1.le, h1, k.ext e1⟩
  · exact ⟨I1, env, S1, Qd, s1, er.le e1.le, h1, k.ext e1⟩

/-! ### arguments, displays -/
theorem mNil : MA X wi [] dNil := PA.of pa_nil fun σ H Q h => by
  obtain ⟨I, env, S, Qd, sim, er, h, k⟩ := h
  exact k I [] [] S H .refl sim .nil h
theorem mCons (ha : ME X wi e ta) (hr : MA X wi es t) (hs : starEach (e :: es) X.env = (false, eval e X.env) :: starEach es X.env := by rfl) : MA X wi (e :: es) (dCons ta t) := by
  refine PA.of (pa_cons ha hr hs) fun σ H Q h => ?_
  obtain ⟨I, env, S, Qd, sim, er, h, k⟩ := h
  refine ⟨I, env, S, _, sim, er, h, fun I1 w1 v1 S1 H1 e1 s1 r1 h1 => ?_⟩
  refine ⟨I1, env, S1, _, s1, er.le e1.le, h1, fun I2 ws vs S2 H2 e2 s2 r2 h2 => ?_⟩
  exact k I2 _ _ S2 H2 (e1.trans e2) s2 (.cons (r1.le e2.le) r2) h2
def dTup (t : DA) : DE := fun env S Q => t env S fun xs S1 => xs.length ≤ sizeLine ∧ Q (.tup xs) S1
def dLst (t : DA) : DE := fun env S Q => t env S fun xs S1 => xs.length ≤ sizeLine ∧ Q (.lst xs) S1
/-- a list that will be changed -/
def dLstR (t : DA) : DE := fun env S Q => t env S fun xs S1 => xs.length ≤ sizeLine ∧ ∀ p, S1 p = none → Q (.ref p) (su S1 p (.lst xs))
theorem KQ.newI {K : PySem.W.Frag} {I H : Hp} {S : Sto} {Q : DK} {Q' : VK} {p : Addr} {u : HO} {w : D} (k : KQ K wi I S H Q Q') (sim : Sim K wi I S H) (hp : H p = none) (r : RD K (upd I p u) w (.ref p)) (q : Q w S) : Q' (.ref p) (upd H p u) := by
  obtain ⟨s2, e2⟩ := sim.newI (u := u) hp
  exact k _ w _ _ _ e2 s2 r q
theorem KQ.newS {K : PySem.W.Frag} {I H : Hp} {S : Sto} {Q : DK} {Q' : VK} {p : Addr} {u : HO} {o : O} (k : KQ K wi I S H Q Q') (sim : Sim K wi I S H) (hp : H p = none) (r : RO K I o u) (q : ∀ p, S p = none → Q (.ref p) (su S p o)) : Q' (.ref p) (upd H p u) := by
  obtain ⟨h0, s2, e2⟩ := sim.newS hp r
  exact k _ (.ref p) _ _ _ e2 s2 (.ref p) (q p h0)
theorem RDs.newI {K : PySem.W.Frag} {I : Hp} {p : Addr} {u : HO} {xs : List D} {vs : List V} (r : RDs K I xs vs) (hp : I p = none) : RDs K (upd I p u) xs vs := r.le fun a o e => by rw [upd_ne (ne_of_none e hp)]; exact e
theorem Sim.free {K : PySem.W.Frag} {I H : Hp} {S : Sto} {p : Addr} (sim : Sim K wi I S H) (hp : H p = none) : I p = none := by
  cases q : I p with
  | none => rfl
  | some u => rw [sim.im p u q] at hp; cases hp
theorem mTup {x1} (h : MA X wi es t) : ME X wi (.Tuple es x1 pos) (dTup t) := by
  refine PE.of (pe_tup h) fun σ H Q h => ?_
  obtain ⟨I, env, S, Qd, sim, er, h, k⟩ := h
  refine ⟨I, env, S, _, sim, er, h, fun I1 ws vs S1 H1 e1 s1 r1 h1 => ⟨by rw [← r1.length]; exact h1.1, fun p hp => ?_⟩⟩
  exact (k.ext e1).newI s1 hp (.tup (SqT.of upd_same) (r1.newI (s1.free hp))) h1.2
theorem mLst (h : MA X wi es t) : ME X wi (.List es pos) (dLst t) := by
  refine PE.of (pe_lst h) fun σ H Q h => ?_
  obtain ⟨I, env, S, Qd, sim, er, h, k⟩ := h
  refine ⟨I, env, S, _, sim, er, h, fun I1 ws vs S1 H1 e1 s1 r1 h1 => ⟨by rw [← r1.length]; exact h1.1, fun p hp => ?_⟩⟩
  exact (k.ext e1).newI s1 hp (.lst upd_same (r1.newI (s1.free hp))) h1.2
theorem mLstR (h : MA X wi es t) : ME X wi (.List es pos) (dLstR t) := by
  refine PE.of (pe_lst h) fun σ H Q h => ?_
  obtain ⟨I, env, S, Qd, sim, er, h, k⟩ := h
  refine ⟨I, env, S, _, sim, er, h, fun I1 ws vs S1 H1 e1 s1 r1 h1 => ⟨by rw [← r1.length]; exact h1.1, fun p hp => ?_⟩⟩
  exact (k.ext e1).newS s1 hp (show RO X.K I1 (.lst ws) (.lst vs) from r1) h1.2
/-- a list of the store, for ever as it is now -/
def dFrz (t : DE) : DE := fun env S Q => t env S fun w S1 => match w with
  | .ref a => (match S1 a with
    | some (.lst xs) => Q (.lst xs) (sdel S1 a)
    | _ => False)
  | _ => False
theorem mFrz {e : Expr} {t : DE} (h : ME X wi e t) : ME X wi e (dFrz t) := by
  refine PE.of h fun σ H Q h => ?_
  obtain ⟨I, env, S, Qd, sim, er, h, k⟩ := h
  refine ⟨I, env, S, _, sim, er, h, fun I1 w1 v1 S1 H1 e1 s1 r1 h1 => ?_⟩
  cases w1 <;> try exact h1.elim
  cases r1
  rename_i a
  have h1' : (match S1 a with | some (.lst xs) => Qd (.lst xs) (sdel S1 a) | _ => False) := h1
  split at h1'
  · rename_i xs e0
    obtain ⟨_, u, r, hu⟩ := s1.st a _ e0
    cases u <;> try exact r.elim
    obtain ⟨s2, e2, r2⟩ := s1.frz e0 r hu
    exact k _ _ _ _ _ (e1.trans e2) s2 r2 h1'
  · exact h1'.elim
end
end DL


set_option Elab.async false
set_option linter.all false
set_option maxRecDepth 100000
set_option maxHeartbeats 4000000
namespace DL
open PySem PySem.Spec PyProof.Rows L2

/-! ### data as the library's data -/
mutual
def toPy : D → PyData
  | .non => .none
  | .bl b => .bool b
  | .int i => .int i
  | .str x => .str x
  | .tup xs => .tuple (toPys xs)
  | .lst xs => .list (toPys xs)
  | .scr xs => .list (toPys xs)
  | .ref _ => .none
  | .val _ => .none
def toPys : List D → List PyData
  | [] => []
  | x :: xs => toPy x :: toPys xs
end
mutual
/-- nothing within that stands in the store, nothing but data -/
def pur : D → Bool
  | .non | .bl _ | .int _ => true
  | .str x => PyData.strOk x
  | .tup xs | .lst xs | .scr xs => purs xs
  | .ref _ | .val _ => false
def purs : List D → Bool
  | [] => true
  | x :: xs => pur x && purs xs
end
mutual
def dep : D → Nat
  | .tup xs | .lst xs | .scr xs => deps xs + 1
  | _ => 0
def deps : List D → Nat
  | [] => 0
  | x :: xs => max (dep x) (deps xs)
end
mutual
/-- lists of the store read where they stand -/
def rd (S : Sto) : D → D
  | .ref a => (match S a with
    | some (.lst xs) => .lst xs
    | _ => .ref a)
  | .tup xs => .tup (rds S xs)
  | x => x
def rds (S : Sto) : List D → List D
  | [] => []
  | x :: xs => rd S x :: rds S xs
end
mutual
theorem RD.dp {K : PySem.W.Frag} {I H : Hp} (l : Le I H) : ∀ {x : D} {v : V}, RD K I x v → pur x = true → Dp K H v (toPy x)
  | _, _, .non, _ => .non
  | _, _, .bl b, _ => .bl b
  | _, _, .int i, _ => .int i
  | _, _, .str x, _ => .str x
  | _, _, .tup h r, p => .tup (SqT.le l h) (RDs.dp l r p)
  | _, _, .lst h r, p => .lst (SqL.of (l _ _ h)) (RDs.dp l r p)
  | _, _, .scr h r, p => .lst (SqL.le l h) (RDs.dp l r p)
theorem RDs.dp {K : PySem.W.Frag} {I H : Hp} (l : Le I H) : ∀ {xs : List D} {vs : List V}, RDs K I xs vs → purs xs = true → DpAll K H vs (toPys xs)
  | _, _, .nil, _ => .nil
  | _, _, .cons r t, p => by
    have p' := Bool.and_eq_true_iff.mp p
    exact .cons (RD.dp l r p'.1) (RDs.dp l t p'.2)
end
mutual
theorem RD.rdp {K : PySem.W.Frag} {I H : Hp} {S : Sto} (s : Sim K wi I S H) : ∀ {x : D} {v : V}, RD K I x v → pur (rd S x) = true → Dp K H v (toPy (rd S x))
  | _, _, .non, p => RD.dp s.im .non p
  | _, _, .bl b, p => RD.dp s.im (.bl b) p
  | _, _, .int i, p => RD.dp s.im (.int i) p
  | _, _, .str x, p => RD.dp s.im (.str x) p
  | _, _, .lst h r, p => RD.dp s.im (.lst h r) p
  | _, _, .scr h r, p => RD.dp s.im (.scr h r) p
  | _, _, .tup h r, p => .tup (SqT.le s.im h) (RDs.rdp s r p)
  | _, _, .ref a, p => by
    unfold rd at p ⊢
    split at p
    · rename_i xs e
      obtain ⟨_, u, r, hu⟩ := s.st a _ e
      cases u <;> try exact r.elim
      exact .lst (SqL.of hu) (RDs.dp s.im r p)
    · cases p
theorem RDs.rdp {K : PySem.W.Frag} {I H : Hp} {S : Sto} (s : Sim K wi I S H) : ∀ {xs : List D} {vs : List V}, RDs K I xs vs → purs (rds S xs) = true → DpAll K H vs (toPys (rds S xs))
  | _, _, .nil, _ => .nil
  | _, _, .cons r t, p => by
    have p' := Bool.and_eq_true_iff.mp p
    exact .cons (RD.rdp s r p'.1) (RDs.rdp s t p'.2)
end
mutual
theorem canLay_toPy : ∀ x : D, pur x = true → (toPy x).canLay0 = true
  | .non, _ => rfl
  | .bl b, _ => rfl
  | .int i, _ => rfl
  | .str x, h => h
  | .tup xs, h => canLay_toPys xs h
  | .lst xs, h => canLay_toPys xs h
  | .scr xs, h => canLay_toPys xs h
theorem canLay_toPys : ∀ xs : List D, purs xs = true → PyData.canLayAll0 (toPys xs) = true
  | [], _ => rfl
  | x :: xs, h => by
    have h' := Bool.and_eq_true_iff.mp h
    show ((toPy x).canLay0 && PyData.canLayAll0 (toPys xs)) = true
    rw [canLay_toPy x h'.1, canLay_toPys xs h'.2]; rfl
end
mutual
theorem depth_toPy : ∀ x : D, (toPy x).depth = dep x
  | .non => rfl
  | .bl b => rfl
  | .int i => rfl
  | .str x => rfl
  | .tup xs => by show PyData.depth (.tuple (toPys xs)) = deps xs + 1; rw [PyData.depth, depth_toPys xs]
  | .lst xs => by show PyData.depth (.list (toPys xs)) = deps xs + 1; rw [PyData.depth, depth_toPys xs]
  | .scr xs => by show PyData.depth (.list (toPys xs)) = deps xs + 1; rw [PyData.depth, depth_toPys xs]
  | .ref _ => rfl
  | .val _ => rfl
theorem depth_toPys : ∀ xs : List D, PyData.depthAll (toPys xs) = deps xs
  | [] => rfl
  | x :: xs => by
    show PyData.depthAll (toPy x :: toPys xs) = max (dep x) (deps xs)
    rw [PyData.depthAll, depth_toPy x, depth_toPys xs]
end
theorem shaped_toPy {x : D} (p : pur x = true) (h : dep x ≤ 64) : SeqAt.shaped (toPy x) = true := by
  unfold SeqAt.shaped
  rw [canLay_toPy x p, Bool.true_and, decide_eq_true_eq, depth_toPy]
  exact h
/-- Python's == of data -/
def deq (x y : D) : Bool := PyData.eqv (toPy x) (toPy y)
/-- what repr tells -/
def shown (x : D) : Str := PyData.shown (toPy x)
def shb (x : D) : Bool := (toPy x).showable

/-! ### operations -/
def b2 (b : Bool) : Int := if b = true then 1 else 0
def lsOf (S : Sto) : D → Option (List D)
  | .lst xs => some xs
  | .ref a => (match S a with
    | some (.lst xs) => some xs
    | _ => none)
  | _ => none
def fAdd (x y : D) (S : Sto) (Q : DK) : Prop :=
  match x, y with
  | .int i, .int j => Q (.int (i + j)) S
  | .int i, .bl k => Q (.int (i + b2 k)) S
  | .bl k, .int j => Q (.int (b2 k + j)) S
  | .str a, .str b => a.length + b.length ≤ sizeLine ∧ Q (.str (a ++ b)) S
  | .tup xs, .tup ys => xs.length + ys.length ≤ sizeLine ∧ Q (.tup (xs ++ ys)) S
  | x, y => match lsOf S x, lsOf S y with
    | some xs, some ys => xs.length + ys.length ≤ sizeLine ∧ Q (.lst (xs ++ ys)) S
    | _, _ => False
def fSub (x y : D) (S : Sto) (Q : DK) : Prop :=
  match x, y with
  | .int i, .int j => Q (.int (i - j)) S
  | .bl k, .int j => Q (.int (b2 k - j)) S
  | _, _ => False
def fMul (x y : D) (S : Sto) (Q : DK) : Prop :=
  match x, y with
  | .int i, .int j => CMul i j ∧ Q (.int (i * j)) S
  | x, .int k => (match lsOf S x with
    | some xs => (-(2 ^ 63) ≤ k ∧ k < 2 ^ 63 ∧ xs.length * k.toNat ≤ sizeLine) ∧ Q (.lst (List.replicate k.toNat xs).flatten) S
    | none => False)
  | _, _ => False
def fDiv (x y : D) (S : Sto) (Q : DK) : Prop :=
  match x, y with
  | .int i, .int j => (0 < j ∧ j < 1073741824) ∧ Q (.int (i / j)) S
  | _, _ => False
def fMod (x y : D) (S : Sto) (Q : DK) : Prop :=
  match x, y with
  | .int i, .int j => 0 < j ∧ Q (.int (i % j)) S
  | _, _ => False
def fPow (x y : D) (S : Sto) (Q : DK) : Prop :=
  match x, y with
  | .int i, .int j => CPow i j ∧ Q (.int (i ^ j.toNat)) S
  | _, _ => False
def fNeg (x : D) (S : Sto) (Q : DK) : Prop :=
  match x with
  | .int i => Q (.int (-i)) S
  | _ => False
def shp (x : D) : Bool := pur x && decide (dep x ≤ 64)
/-- two texts -/
def txts (x y : D) : Bool := match x, y with | .str _, .str _ => true | _, _ => false
def fEq (x y : D) (S : Sto) (Q : DK) : Prop := (txts x y = true ∨ (shp (rd S x) = true ∧ shp (rd S y) = true)) ∧ Q (.bl (deq (rd S x) (rd S y))) S
def fNe (x y : D) (S : Sto) (Q : DK) : Prop := (txts x y = true ∨ (shp (rd S x) = true ∧ shp (rd S y) = true)) ∧ Q (.bl (!deq (rd S x) (rd S y))) S
def fLt (x y : D) (S : Sto) (Q : DK) : Prop :=
  match x, y with
  | .int i, .int j => Q (.bl (decide (i < j))) S
  | .str a, .str b => Q (.bl (decide (a.cps.toList < b.cps.toList))) S
  | _, _ => False
def fLe (x y : D) (S : Sto) (Q : DK) : Prop :=
  match x, y with
  | .int i, .int j => Q (.bl (decide (i ≤ j))) S
  | _, _ => False
def fGt (x y : D) (S : Sto) (Q : DK) : Prop :=
  match x, y with
  | .int i, .int j => Q (.bl (decide (j < i))) S
  | _, _ => False
def fGe (x y : D) (S : Sto) (Q : DK) : Prop :=
  match x, y with
  | .int i, .int j => Q (.bl (decide (j ≤ i))) S
  | _, _ => False
def isNon : D → Bool
  | .non => true
  | _ => false
def fIs (x y : D) (S : Sto) (Q : DK) : Prop :=
  match x, y with
  | .val _, _ => False
  | x, .non => Q (.bl (isNon x)) S
  | _, _ => False
def fIsNot (x y : D) (S : Sto) (Q : DK) : Prop :=
  match x, y with
  | .val _, _ => False
  | x, .non => Q (.bl (!isNon x)) S
  | _, _ => False

section
variable {X : Cx}
theorem lsOf_at {K : PySem.W.Frag} {I H : Hp} {S : Sto} (s : Sim K wi I S H) {x : D} {v : V} {xs : List D} (r : RD K I x v) (h : lsOf S x = some xs) : ∃ a vs, v = .ref a ∧ H a = some (.lst vs) ∧ RDs K I xs vs := by
  cases r <;> try cases h
  · rename_i a vs h1 h2
    exact ⟨a, vs, rfl, s.im _ _ h1, h2⟩
  · rename_i a
    have h' : (match S a with | some (.lst ys) => some ys | _ => none) = some xs := h
    split at h'
    · rename_i ys e
      cases h'
      obtain ⟨_, u, r, hu⟩ := s.st a _ e
      cases u <;> try exact r.elim
      exact ⟨a, _, rfl, hu, r⟩
    · cases h'
theorem oAdd_l {pins : List (Addr × Obj)} {s : Shared} {σ : L2.St} {H : Hp} {Q' : VK} {v u : V} {vv uu : Value} {Ih : Hp} {S : Sto} {x y : D} {Q : DK} (I : Inv X pins σ H s) (rv : RelV v vv) (ru : RelV u uu) (sim : Sim X.K wi Ih S H) (rx : RD X.K Ih x v) (ry : RD X.K Ih y u)
    (h : match lsOf S x, lsOf S y with
      | some xs, some ys => xs.length + ys.length ≤ sizeLine ∧ Q (.lst (xs ++ ys)) S
      | _, _ => False) (k : KQ X.K wi Ih S H Q Q') : wpAny (model X.prog X.w) X.A (binaryOp .Add vv uu) (EP X pins σ Q') X.xe s := by
  split at h
  · rename_i xs ys e1 e2
    obtain ⟨a, vs, rfl, h1, r1⟩ := lsOf_at sim rx e1
    obtain ⟨b, us, rfl, h2, r2⟩ := lsOf_at sim ry e2
    refine op_cat pins s σ H _ _ _ _ Q' I rv ru ⟨a, b, vs, us, rfl, rfl, h1, h2, by rw [← r1.length, ← r2.length]; exact h.1, fun p hp => ?_⟩
    exact k.newI sim hp (.lst upd_same ((r1.append r2).newI (sim.free hp))) h.2
  · exact h.elim
theorem oAdd : OpM X wi (binaryOp .Add) fAdd := by
  intro pins s σ H v u vv uu Q' I rv ru ⟨Ih, S, x, y, Q, sim, rx, ry, h, k⟩
  unfold fAdd at h
  split at h
  · cases rx; cases ry
    exact op_add pins s σ H _ _ _ _ Q' I rv ru ⟨_, _, rfl, rfl, k _ _ _ _ _ .refl sim (.int _) h⟩
  · cases rx; cases ry
    exact op_add_ib pins s σ H _ _ _ _ Q' I rv ru ⟨_, _, rfl, rfl, k _ _ _ _ _ .refl sim (.int _) h⟩
  · cases rx; cases ry
    obtain ⟨t, rfl⟩ := ru
    cases rv
    exact PySem.IntBool.add_bool_int ⟨V.int _, H, I.tok _, ⟨_, rfl⟩, k _ _ _ _ _ .refl sim (.int _) h⟩
  · cases rx; cases ry
    exact op_add_str pins s σ H _ _ _ _ Q' I rv ru ⟨_, _, rfl, rfl, h.1, k _ _ _ _ _ .refl sim (.str _) h.2⟩
  · rename_i xs ys
    cases rx with
    | @tup a _ vs h1 r1 =>
      cases ry with
      | @tup b _ us h2 r2 =>
        refine op_catA pins s σ H _ _ _ _ Q' I rv ru ⟨a, b, vs, us, rfl, rfl, SqT.le sim.im h1, SqT.le sim.im h2, by rw [← r1.length, ← r2.length]; exact h.1, fun e => ?_, fun _ e => ?_, fun _ _ p hp => ?_⟩
        · subst e
          cases r1
          exact k _ _ _ _ _ .refl sim (.tup h2 r2) h.2
        · subst e
          cases r2
          have h' := h.2
          rw [List.append_nil] at h'
          exact k _ _ _ _ _ .refl sim (.tup h1 r1) h'
        · exact k.newI sim hp (.tup (SqT.of upd_same) ((r1.append r2).newI (sim.free hp))) h.2
  · exact oAdd_l I rv ru sim rx ry h k
theorem oSub : OpM X wi (binaryOp .Sub) fSub := by
  intro pins s σ H v u vv uu Q' I rv ru ⟨Ih, S, x, y, Q, sim, rx, ry, h, k⟩
  unfold fSub at h
  split at h
  · cases rx; cases ry
    exact op_sub pins s σ H _ _ _ _ Q' I rv ru ⟨_, _, rfl, rfl, k _ _ _ _ _ .refl sim (.int _) h⟩
  · cases rx; cases ry
    obtain ⟨t, rfl⟩ := ru
    cases rv
    exact PySem.IntBool.sub_bool_int ⟨V.int _, H, I.tok _, ⟨_, rfl⟩, k _ _ _ _ _ .refl sim (.int _) h⟩
  · exact h.elim
theorem RDs.rep {K : PySem.W.Frag} {I : Hp} {xs : List D} {vs : List V} (r : RDs K I xs vs) : ∀ k : Nat, RDs K I (List.replicate k xs).flatten (List.replicate k vs).flatten
  | 0 => .nil
  | k + 1 => by rw [List.replicate_succ, List.replicate_succ, List.flatten_cons, List.flatten_cons]; exact r.append (RDs.rep r k)
theorem oMul : OpM X wi (binaryOp .Mult) fMul := by
  intro pins s σ H v u vv uu Q' I rv ru ⟨Ih, S, x, y, Q, sim, rx, ry, h, k⟩
  unfold fMul at h
  split at h
  · cases rx; cases ry
    exact op_mul pins s σ H _ _ _ _ Q' I rv ru ⟨_, _, rfl, rfl, h.1, k _ _ _ _ _ .refl sim (.int _) h.2⟩
  · split at h
    · rename_i xs e1
      obtain ⟨a, vs, rfl, h1, r1⟩ := lsOf_at sim rx e1
      cases ry
      refine op_rep pins s σ H _ _ _ _ Q' I rv ru ⟨a, _, vs, rfl, rfl, h1, h.1.1, h.1.2.1, by rw [← r1.length]; exact h.1.2.2, fun p hp => ?_⟩
      exact k.newI sim hp (.lst upd_same ((r1.rep _).newI (sim.free hp))) h.2
    · exact h.elim
  · exact h.elim
theorem oDiv : OpM X wi (binaryOp .FloorDiv) fDiv := by
  intro pins s σ H v u vv uu Q' I rv ru ⟨Ih, S, x, y, Q, sim, rx, ry, h, k⟩
  unfold fDiv at h
  split at h
  · cases rx; cases ry
    exact op_fdiv pins s σ H _ _ _ _ Q' I rv ru ⟨_, _, rfl, rfl, h.1, k _ _ _ _ _ .refl sim (.int _) h.2⟩
  · exact h.elim
theorem oMod : OpM X wi (binaryOp .Mod) fMod := by
  intro pins s σ H v u vv uu Q' I rv ru ⟨Ih, S, x, y, Q, sim, rx, ry, h, k⟩
  unfold fMod at h
  split at h
  · cases rx; cases ry
    exact op_mod pins s σ H _ _ _ _ Q' I rv ru ⟨_, _, rfl, rfl, h.1, k _ _ _ _ _ .refl sim (.int _) h.2⟩
  · exact h.elim
theorem oPow : OpM X wi (binaryOp .Pow) fPow := by
  intro pins s σ H v u vv uu Q' I rv ru ⟨Ih, S, x, y, Q, sim, rx, ry, h, k⟩
  unfold fPow at h
  split at h
  · cases rx; cases ry
    exact op_pow pins s σ H _ _ _ _ Q' I rv ru ⟨_, _, rfl, rfl, h.1, k _ _ _ _ _ .refl sim (.int _) h.2⟩
  · exact h.elim
theorem uNeg : UnM X wi (unaryOp .USub) fNeg := by
  intro pins s σ H v vv Q' I rv ⟨Ih, S, x, Q, sim, rx, h, k⟩
  unfold fNeg at h
  split at h
  · cases rx
    exact un_neg pins s σ H _ _ Q' I rv ⟨_, rfl, k _ _ _ _ _ .refl sim (.int _) h⟩
  · exact h.elim
theorem oEq (hu : X.A.units + 64 < cLine) : OpM X wi (compareOp .Eq) fEq := by
  intro pins s σ H v u vv uu Q' I rv ru ⟨Ih, S, x, y, Q, sim, rx, ry, ⟨hh, h⟩, k⟩
  rcases hh with ht | ⟨h1, h2⟩
  · unfold txts at ht
    split at ht
    · cases rx; cases ry
      rename_i a b
      refine op_eq pins s σ H _ _ _ _ Q' I rv ru ⟨rfl, k _ _ _ _ _ .refl sim (.bl _) ?_⟩
      have e : deq (rd S (.str a)) (rd S (.str b)) = decide (V.str a = V.str b) := by
        show PyData.eqv (.str a) (.str b) = _
        simp only [PyData.eqv]
        by_cases h : a = b <;> simp [h]
      rw [e] at h
      exact h
    · cases ht
  have p1 := Bool.and_eq_true_iff.mp h1
  have p2 := Bool.and_eq_true_iff.mp h2
  exact op_eqD hu pins s σ H _ _ _ _ Q' I rv ru ⟨_, _, rx.rdp sim p1.1, ry.rdp sim p2.1, shaped_toPy p1.1 (of_decide_eq_true p1.2), shaped_toPy p2.1 (of_decide_eq_true p2.2), k _ _ _ _ _ .refl sim (.bl _) h⟩
theorem oNe (hu : X.A.units + 64 < cLine) : OpM X wi (compareOp .NotEq) fNe := by
  intro pins s σ H v u vv uu Q' I rv ru ⟨Ih, S, x, y, Q, sim, rx, ry, ⟨hh, h⟩, k⟩
  rcases hh with ht | ⟨h1, h2⟩
  · unfold txts at ht
    split at ht
    · cases rx; cases ry
      rename_i a b
      refine op_ne pins s σ H _ _ _ _ Q' I rv ru ⟨rfl, k _ _ _ _ _ .refl sim (.bl _) ?_⟩
      have e : deq (rd S (.str a)) (rd S (.str b)) = decide (V.str a = V.str b) := by
        show PyData.eqv (.str a) (.str b) = _
        simp only [PyData.eqv]
        by_cases h : a = b <;> simp [h]
      rw [e] at h
      exact h
    · cases ht
  have p1 := Bool.and_eq_true_iff.mp h1
  have p2 := Bool.and_eq_true_iff.mp h2
  exact op_neD hu pins s σ H _ _ _ _ Q' I rv ru ⟨_, _, rx.rdp sim p1.1, ry.rdp sim p2.1, shaped_toPy p1.1 (of_decide_eq_true p1.2), shaped_toPy p2.1 (of_decide_eq_true p2.2), k _ _ _ _ _ .refl sim (.bl _) h⟩
theorem oLt : OpM X wi (compareOp .Lt) fLt := by
  intro pins s σ H v u vv uu Q' I rv ru ⟨Ih, S, x, y, Q, sim, rx, ry, h, k⟩
  unfold fLt at h
  split at h
  · cases rx; cases ry
    exact op_lt pins s σ H _ _ _ _ Q' I rv ru ⟨_, _, rfl, rfl, k _ _ _ _ _ .refl sim (.bl _) h⟩
  · cases rx; cases ry
    exact op_lt_str pins s σ H _ _ _ _ Q' I rv ru ⟨_, _, rfl, rfl, k _ _ _ _ _ .refl sim (.bl _) h⟩
  · exact h.elim
theorem oLe : OpM X wi (compareOp .LtE) fLe := by
  intro pins s σ H v u vv uu Q' I rv ru ⟨Ih, S, x, y, Q, sim, rx, ry, h, k⟩
  unfold fLe at h
  split at h
  · cases rx; cases ry
    exact op_le pins s σ H _ _ _ _ Q' I rv ru ⟨_, _, rfl, rfl, k _ _ _ _ _ .refl sim (.bl _) h⟩
  · exact h.elim
theorem oGt : OpM X wi (compareOp .Gt) fGt := by
  intro pins s σ H v u vv uu Q' I rv ru ⟨Ih, S, x, y, Q, sim, rx, ry, h, k⟩
  unfold fGt at h
  split at h
  · cases rx; cases ry
    exact op_gt pins s σ H _ _ _ _ Q' I rv ru ⟨_, _, rfl, rfl, k _ _ _ _ _ .refl sim (.bl _) h⟩
  · exact h.elim
theorem oGe : OpM X wi (compareOp .GtE) fGe := by
  intro pins s σ H v u vv uu Q' I rv ru ⟨Ih, S, x, y, Q, sim, rx, ry, h, k⟩
  unfold fGe at h
  split at h
  · cases rx; cases ry
    exact op_ge pins s σ H _ _ _ _ Q' I rv ru ⟨_, _, rfl, rfl, k _ _ _ _ _ .refl sim (.bl _) h⟩
  · exact h.elim
theorem isNon_of {K : PySem.W.Frag} {I : Hp} {x : D} {v : V} (r : RD K I x v) (h : ∀ w, x ≠ .val w) : decide (v = .non) = isNon x := by
  cases r <;> first | rfl | exact absurd rfl (h _)
theorem oIs : OpM X wi (compareOp .Is) fIs := by
  intro pins s σ H v u vv uu Q' I rv ru ⟨Ih, S, x, y, Q, sim, rx, ry, h, k⟩
  unfold fIs at h
  split at h
  · exact h.elim
  · rename_i hx
    cases ry
    refine op_isN pins s σ H _ _ _ _ Q' I rv ru ⟨rfl, ?_⟩
    rw [isNon_of rx hx]
    exact k _ _ _ _ _ .refl sim (.bl _) h
  · exact h.elim
theorem oIsNot : OpM X wi (compareOp .IsNot) fIsNot := by
  intro pins s σ H v u vv uu Q' I rv ru ⟨Ih, S, x, y, Q, sim, rx, ry, h, k⟩
  unfold fIsNot at h
  split at h
  · exact h.elim
  · rename_i hx
    cases ry
    refine op_notN pins s σ H _ _ _ _ Q' I rv ru ⟨rfl, ?_⟩
    rw [isNon_of rx hx]
    exact k _ _ _ _ _ .refl sim (.bl _) h
  · exact h.elim
end
end DL


set_option Elab.async false
set_option linter.all false
set_option maxRecDepth 100000
set_option maxHeartbeats 4000000
namespace DL
open PySem PySem.Spec PyProof.Rows L2

/-! ### subscripts -/
def keyOf : D → Option Key
  | .int i => some (.inl i)
  | .str x => some (.inr x)
  | _ => none
def dval {κ : Type} [DecidableEq κ] (kvs : List (κ × D)) (k : κ) : Option D := (kvs.find? fun kv => decide (kv.1 = k)).map (·.2)
def dput {κ : Type} [DecidableEq κ] (kvs : List (κ × D)) (k : κ) (v : D) : List (κ × D) :=
  if (kvs.any fun kv => decide (kv.1 = k)) = true then kvs.map fun kv => if kv.1 = k then (kv.1, v) else kv else kvs ++ [(k, v)]
def ddrop {κ : Type} [DecidableEq κ] (kvs : List (κ × D)) (k : κ) : List (κ × D) := kvs.filter fun kv => decide (kv.1 ≠ k)
def qOpt (o : Option D) (S : Sto) (Q : DK) : Prop := match o with
  | some v => Q v S
  | none => False
def fIx (x y : D) (S : Sto) (Q : DK) : Prop :=
  match x, y with
  | .tup xs, .int i => qOpt (atI xs i) S Q
  | .lst xs, .int i => qOpt (atI xs i) S Q
  | .str z, .int i => z.length ≤ sizeLine ∧ (match atI z.cps.toList i with
    | some c => Q (.str ⟨#[c]⟩) S
    | none => False)
  | .ref a, y => (match S a with
    | some (.lst xs) => (match y with
      | .int i => qOpt (atI xs i) S Q
      | _ => False)
    | some (.dK kvs) => (match keyOf y with
      | some k => qOpt (dval kvs k) S Q
      | none => False)
    | _ => False)
  | _, _ => False
def rixOf (K : PySem.W.Frag) (wi : Wi) (g : D → D → Sto → DK → Prop) : R2 := rOf K wi g
abbrev IxM (X : Cx) (wi : Wi) (g : D → D → Sto → DK → Prop) : Prop := IxR X (rOf X.K wi g)
section
variable {X : Cx}
theorem RDs.atI {K : PySem.W.Frag} {I : Hp} {xs : List D} {vs : List V} {i : Int} {x : D} (r : RDs K I xs vs) (h : L2.atI xs i = some x) : ∃ v, L2.atI vs i = some v ∧ RD K I x v := by
  unfold L2.atI at h ⊢
  rw [← r.length]
  cases e : ixN xs.length i with
  | none => rw [e] at h; cases h
  | some j =>
    rw [e] at h
    exact r.get h
theorem RKV.val {κ : Type} [DecidableEq κ] {K : PySem.W.Frag} {I : Hp} {k : κ} : ∀ {xs : List (κ × D)} {ys : List (κ × V)} {x : D}, RKV K I xs ys → dval xs k = some x → ∃ v, valV ys k = some v ∧ RD K I x v
  | _, _, _, .nil, h => by cases h
  | p :: xs, q :: ys, x, .cons ⟨e, r⟩ t, h => by
    by_cases hk : p.1 = k
    · have h' : some p.2 = some x := by rw [← h]; simp [dval, List.find?_cons, hk]
      cases h'
      exact ⟨q.2, by simp [valV, List.find?_cons, ← e, hk], r⟩
    · have h' : dval xs k = some x := by rw [← h]; simp [dval, List.find?_cons, hk]
      obtain ⟨v, h1, h2⟩ := RKV.val t h'
      refine ⟨v, ?_, h2⟩
      rw [← h1]
      simp [valV, List.find?_cons, ← e, hk]
theorem RKV.none {κ : Type} [DecidableEq κ] {K : PySem.W.Frag} {I : Hp} {k : κ} : ∀ {xs : List (κ × D)} {ys : List (κ × V)}, RKV K I xs ys → dval xs k = .none → valV ys k = .none
  | _, _, .nil, h => rfl
  | p :: xs, q :: ys, .cons ⟨e, r⟩ t, h => by
    by_cases hk : p.1 = k
    · have h' : some p.2 = (.none : Option D) := by rw [← h]; simp [dval, List.find?_cons, hk]
      cases h'
    · have h' : dval xs k = .none := by rw [← h]; simp [dval, List.find?_cons, hk]
      rw [← RKV.none t h']
      simp [valV, List.find?_cons, ← e, hk]
theorem RD.key {K : PySem.W.Frag} {I : Hp} {y : D} {u : V} {k : Key} (r : RD K I y u) (h : keyOf y = some k) : u = kV k := by
  cases r <;> cases h <;> rfl
theorem st_lst {K : PySem.W.Frag} {I H : Hp} {S : Sto} {a : Addr} {xs : List D} (sim : Sim K wi I S H) (e : S a = some (.lst xs)) : ∃ vs, H a = some (.lst vs) ∧ RDs K I xs vs := by
  obtain ⟨_, u, r, hu⟩ := sim.st a _ e
  cases u <;> try exact r.elim
  exact ⟨_, hu, r⟩
theorem st_dK {K : PySem.W.Frag} {I H : Hp} {S : Sto} {a : Addr} {kvs : List (Key × D)} (sim : Sim K wi I S H) (e : S a = some (.dK kvs)) : ∃ us, H a = some (.dK us) ∧ RKV K I kvs us := by
  obtain ⟨_, u, r, hu⟩ := sim.st a _ e
  cases u <;> try exact r.elim
  exact ⟨_, hu, r⟩
theorem iIx (hu : X.A.units + 1 < cLine) : IxM X wi fIx := by
  intro value slice pins s σ H v u vv uu Q' I rv ru ⟨Ih, S, x, y, Q, sim, rx, ry, h, k⟩ hs
  have q1 : ∀ {xs : List D} {vs : List V} {i : Int}, RDs X.K Ih xs vs → qOpt (L2.atI xs i) S Q → ∃ w, L2.atI vs i = some w ∧ Q' w H := fun {xs vs i} r h => by
    unfold qOpt at h
    split at h
    · rename_i w e
      obtain ⟨w', h1, h2⟩ := r.atI e
      exact ⟨w', h1, k _ _ _ _ _ .refl sim h2 h⟩
    · exact h.elim
  unfold fIx at h
  split at h
  · cases ry
    cases rx with
    | tup h1 r1 =>
      obtain ⟨w, e, q⟩ := q1 r1 h
      exact ix_tup value slice pins s σ H _ _ _ _ Q' I rv ru ⟨_, _, _, w, rfl, rfl, SqT.le sim.im h1, e, q⟩ hs
  · cases ry
    cases rx with
    | lst h1 r1 =>
      obtain ⟨w, e, q⟩ := q1 r1 h
      exact ix_list value slice pins s σ H _ _ _ _ Q' I rv ru ⟨_, _, _, w, rfl, rfl, SqL.of (sim.im _ _ h1), e, q⟩ hs
  · cases ry
    cases rx
    obtain ⟨hz, h⟩ := h
    split at h
    · rename_i c e
      exact ix_str value slice pins s σ H _ _ _ _ Q' I rv ru ⟨_, _, c, rfl, rfl, hz, e, k _ _ _ _ _ .refl sim (.str _) h⟩ hs
    · exact h.elim
  · cases rx
    rename_i a
    split at h
    · rename_i xs e0
      obtain ⟨vs, ha, r1⟩ := st_lst sim e0
      split at h
      · cases ry
        obtain ⟨w, e, q⟩ := q1 r1 h
        exact ix_list value slice pins s σ H _ _ _ _ Q' I rv ru ⟨_, _, _, w, rfl, rfl, SqL.of ha, e, q⟩ hs
      · exact h.elim
    · rename_i kvs e0
      obtain ⟨us, ha, r1⟩ := st_dK sim e0
      split at h
      · rename_i key ek
        have eu := ry.key ek
        subst eu
        unfold qOpt at h
        split at h
        · rename_i w ew
          obtain ⟨w', e1, e2⟩ := r1.val ew
          have g : DGet H a (kV key) (some w') := by rw [← e1]; exact DGet.k ha
          cases rv
          exact tail_any (dict_typeIs I g) PySem.F.slot_dict_getitem.lookup (d_getItem hu I g ru fun w2 s3 I3 rw' => ⟨w', H, I3, rw', k _ _ _ _ _ .refl sim e2 h⟩) hs
        · exact h.elim
      · exact h.elim
    · exact h.elim
  · exact h.elim
theorem mIx {a b : Expr} {ta tb : DE} {pos : Pos} (hu : X.A.units + 1 < cLine) (ha : ME X wi a ta) (hb : ME X wi b tb) (hs : PlainIx b := by intro _ _; rfl) : ME X wi (.Subscript a b pos) (dOp fIx ta tb) :=
  PE.of (pe_ix (iIx hu) ha hb hs) fun _ _ _ => lift_op

/-! ### slices -/
def cut {α : Type} (xs : List α) (lo hi : Option Int) : List α := (xs.drop (HT.sIx xs.length 0 lo)).take (HT.sIx xs.length xs.length hi - HT.sIx xs.length 0 lo)
def fSl (x : D) (lo hi : Option Int) (S : Sto) (Q : DK) : Prop :=
  match x with
  | .tup xs => Q (.tup (cut xs lo hi)) S
  | .lst xs => Q (.lst (cut xs lo hi)) S
  | .scr xs => Q (.lst (cut xs lo hi)) S
  | .str z => z.length ≤ sizeLine ∧ Q (.str (cutS z lo hi)) S
  | .ref a => (match S a with
    | some (.lst xs) => Q (.lst (cut xs lo hi)) S
    | _ => False)
  | _ => False
theorem RDs.cut {K : PySem.W.Frag} {I : Hp} {xs : List D} {vs : List V} (r : RDs K I xs vs) (lo hi : Option Int) : RDs K I (DL.cut xs lo hi) (cutV vs lo hi) := by
  unfold DL.cut cutV
  rw [r.length]
  exact (r.drop _).take _
def rslOf (K : PySem.W.Frag) (wi : Wi) : V → Option Int → Option Int → Hp → VK → Prop := fun v lo hi H Q' => ∃ I S x Q, Sim K wi I S H ∧ RD K I x v ∧ fSl x lo hi S Q ∧ KQ K wi I S H Q Q'
theorem sSl : SlR X (rslOf X.K wi) := by
  intro pins s σ H v vv vl vu lo hi sl Q' I rv hs pl pu ⟨Ih, S, x, Q, sim, rx, h, k⟩
  have go : ∀ {a : Addr} {xs : List D} {vs : List V}, SqL X.K H a vs → RDs X.K Ih xs vs → Q (.lst (DL.cut xs lo hi)) S → v = .ref a → ∃ T id, typeLookup (.type T) "__getitem__" = pure (some (.builtin id)) ∧ s.TypeIs vv T ∧ wpAny (model X.prog X.w) X.A (getItem vv (.ref sl)) (EP X pins σ Q') X.xe s := fun {a xs vs} h1 r1 q e => by
    subst e
    refine sl_list pins s σ H _ _ vl vu lo hi sl Q' I rv hs pl pu ⟨a, vs, rfl, h1, fun p hp => ?_⟩
    exact k.newI sim hp (.lst upd_same ((r1.cut lo hi).newI (sim.free hp))) q
  unfold fSl at h
  split at h
  · rename_i xs
    cases rx with
    | @tup a _ vs h1 r1 =>
      refine sl_tupA pins s σ H _ _ vl vu lo hi sl Q' I rv hs pl pu ⟨a, vs, rfl, SqT.le sim.im h1, fun e => ?_, fun _ p hp => ?_⟩
      · have e2 : DL.cut xs lo hi = xs := by
          unfold DL.cut
          rw [r1.length, e.1, e.2, ← r1.length]
          simp
        rw [e2] at h
        exact k _ _ _ _ _ .refl sim (.tup h1 r1) h
      · exact k.newI sim hp (.tup (SqT.of upd_same) ((r1.cut lo hi).newI (sim.free hp))) h
  · cases rx with
    | lst h1 r1 => exact go (SqL.of (sim.im _ _ h1)) r1 h rfl
  · cases rx with
    | scr h1 r1 => exact go (SqL.le sim.im h1) r1 h rfl
  · cases rx
    exact sl_str pins s σ H _ _ vl vu lo hi sl Q' I rv hs pl pu ⟨_, rfl, h.1, k _ _ _ _ _ .refl sim (.str _) h.2⟩
  · cases rx
    rename_i a
    split at h
    · rename_i xs e0
      obtain ⟨vs, ha, r1⟩ := st_lst sim e0
      exact go (SqL.of ha) r1 h rfl
    · exact h.elim
  · exact h.elim
abbrev DO := Env' → Sto → (Option Int → Sto → Prop) → Prop
def KO (K : PySem.W.Frag) (wi : Wi) (I : Hp) (S : Sto) (H : Hp) (Q : Option Int → Sto → Prop) (Q' : Option Int → Hp → Prop) : Prop := ∀ I' b S' H', Ext I S H I' S' H' → Sim K wi I' S' H' → Q b S' → Q' b H'
theorem KO.ext {K : PySem.W.Frag} {I H I1 H1 : Hp} {S S1 : Sto} {Q : Option Int → Sto → Prop} {Q' : Option Int → Hp → Prop} (e : Ext I S H I1 S1 H1) (k : KO K wi I S H Q Q') : KO K wi I1 S1 H1 Q Q' := fun I' w S' H' x => k I' w S' H' (e.trans x)
def liftO (K : PySem.W.Frag) (wi : Wi) (t : DO) : TO := fun σ H Q' => ∃ I env S Q, Sim K wi I S H ∧ ER K I env σ ∧ t env S Q ∧ KO K wi I S H Q Q'
theorem PO.of {e : Option Expr} {t t' : TO} (h : PO X e t) (i : ∀ σ H Q, t' σ H Q → t σ H Q) : PO X e t' := ⟨fun pins s σ H Q I hw => h.run pins s σ H Q I (i σ H Q hw)⟩
def dNoPart : DO := fun _ S Q => Q none S
def dPart (t : DE) : DO := fun env S Q => t env S fun w S1 => match w with
  | .int i => Q (some i) S1
  | _ => False
theorem mNoPart : PO X none (liftO X.K wi dNoPart) := PO.of po_none fun σ H Q h => by
  obtain ⟨I, env, S, Qd, sim, er, h, k⟩ := h
  exact k I none S H .refl sim h
theorem mPart {e : Expr} {t : DE} (h : ME X wi e t) : PO X (some e) (liftO X.K wi (dPart t)) := PO.of (po_some h) fun σ H Q h => by
  obtain ⟨I, env, S, Qd, sim, er, h, k⟩ := h
  refine ⟨I, env, S, _, sim, er, h, fun I1 w1 v1 S1 H1 e1 s1 r1 h1 => ?_⟩
  cases w1 <;> try exact h1.elim
  cases r1
  exact ⟨_, rfl, k I1 _ S1 H1 e1 s1 h1⟩
def dSl (te : DE) (tl th : DO) : DE := fun env S Q => te env S fun x S1 => tl env S1 fun lo S2 => th env S2 fun hi S3 => fSl x lo hi S3 Q
theorem mSl {e : Expr} {lo hi : Option Expr} {te : DE} {tl th : DO} {p2 pos : Pos} (he : ME X wi e te) (hl : PO X lo (liftO X.K wi tl)) (hh : PO X hi (liftO X.K wi th)) : ME X wi (.Subscript e (.Slice lo hi none p2) pos) (dSl te tl th) := by
  refine PE.of (pe_slice (sSl (wi := wi)) he hl hh) fun σ H Q h => ?_
  obtain ⟨I, env, S, Qd, sim, er, h, k⟩ := h
  refine ⟨I, env, S, _, sim, er, h, fun I1 w1 v1 S1 H1 e1 s1 r1 h1 => ?_⟩
  refine ⟨I1, env, S1, _, s1, er.le e1.le, h1, fun I2 lo S2 H2 e2 s2 h2 => ?_⟩
  refine ⟨I2, env, S2, _, s2, (er.le e1.le).le e2.le, h2, fun I3 hi S3 H3 e3 s3 h3 => ?_⟩
  exact ⟨I3, S3, w1, Qd, s3, (r1.le e2.le).le e3.le, h3, k.ext ((e1.trans e2).trans e3)⟩

/-! ### methods of built-in values -/
def tyD (T : String) (x : D) (S : Sto) : Prop := match x with
  | .str _ => T = "str"
  | .lst _ => T = "list"
  | .ref a => (match S a with
    | some (.lst _) => T = "list"
    | some (.dK _) => T = "dict"
    | some (.dT _) => T = "dict"
    | _ => False)
  | _ => False
theorem tyD_tyV {K : PySem.W.Frag} {I H : Hp} {S : Sto} {T : String} {x : D} {v : V} (sim : Sim K wi I S H) (r : RD K I x v) (h : tyD T x S) : tyV K T v H := by
  unfold tyD at h
  split at h
  · cases r; exact h
  · cases r with
    | lst h1 r1 => exact .inl ⟨h, _, SqL.of (sim.im _ _ h1)⟩
  · cases r
    rename_i a
    split at h
    · rename_i xs e
      obtain ⟨vs, ha, _⟩ := st_lst sim e
      exact .inl ⟨h, _, SqL.of ha⟩
    · rename_i kvs e
      obtain ⟨us, ha, _⟩ := st_dK sim e
      exact .inr (.inr (.inl ⟨h, .inl ⟨_, ha⟩⟩))
    · rename_i kvs e
      obtain ⟨_, u, r, hu⟩ := sim.st a _ e
      cases u <;> try exact r.elim
      exact .inr (.inr (.inl ⟨h, .inr ⟨_, hu⟩⟩))
    · exact h.elim
  · exact h.elim
def rmOf (K : PySem.W.Frag) (wi : Wi) (g : D → List D → Sto → DK → Prop) : V → List V → Hp → VK → Prop := fun v vs H Q' => ∃ I S x xs Q, Sim K wi I S H ∧ RD K I x v ∧ RDs K I xs vs ∧ g x xs S Q ∧ KQ K wi I S H Q Q'
abbrev MtD (X : Cx) (wi : Wi) (id : String) (g : D → List D → Sto → DK → Prop) : Prop := MtR X id (rmOf X.K wi g)
def dMt0 (T : String) (g : D → List D → Sto → DK → Prop) (to : DE) : DE := fun env S Q => to env S fun x S1 => tyD T x S1 ∧ g x [] S1 Q
def dMt (T : String) (g : D → List D → Sto → DK → Prop) (to : DE) (t : DA) : DE := fun env S Q => to env S fun x S1 => tyD T x S1 ∧ t env S1 fun xs S2 => g x xs S2 Q
section
variable {o e : Expr} {es : List Expr} {to : DE} {t : DA} {name : Str} {apos cpos : Pos} {T id : String} {g : D → List D → Sto → DK → Prop}
theorem mMt0 (pa : PlainAttrs T) (slot : Slot T name id) (hty : typeOf (.builtin id) = pure (.type "method_descriptor")) (hm : MtD X wi id g) (ho : ME X wi o to)
    (hbase : attributeBase o name X.env (eval o X.env) = eval o X.env := by rfl) (hline : (apos.endLine == cpos.line) = true := by rfl) : ME X wi (.Call (.Attribute o name apos) [] [] cpos) (dMt0 T g to) := by
  refine PE.of (pe_bm0 pa slot hty hm ho hbase hline) fun σ H Q h => ?_
  obtain ⟨I, env, S, Qd, sim, er, h, k⟩ := h
  refine ⟨I, env, S, _, sim, er, h, fun I1 w1 v1 S1 H1 e1 s1 r1 h1 => ?_⟩
  exact ⟨tyD_tyV s1 r1 h1.1, I1, S1, w1, [], Qd, s1, r1, .nil, h1.2, k.ext e1⟩
theorem mMt (pa : PlainAttrs T) (slot : Slot T name id) (hty : typeOf (.builtin id) = pure (.type "method_descriptor")) (hm : MtD X wi id g) (ho : ME X wi o to) (ha : MA X wi (e :: es) t)
    (hbase : attributeBase o name X.env (eval o X.env) = eval o X.env := by rfl)
    (hfew : ((backTo cpos (starEach (e :: es) X.env)).all (fun x => !x.1) && (backToKw cpos (keywordEach [] X.env)).all (fun x => x.1.isSome)
      && decide ((e :: es).length + ([] : List Keyword).length + (if ([] : List Keyword).isEmpty then 0 else 1) < 30)) = true := by rfl)
    (hline : (apos.endLine == cpos.line) = true := by rfl) (hs : starEach (e :: es) X.env = (false, eval e X.env) :: starEach es X.env := by rfl) (hplain : (backTo cpos (starEach es X.env)).any (·.1) = false := by rfl) :
    ME X wi (.Call (.Attribute o name apos) (e :: es) [] cpos) (dMt T g to t) := by
  refine PE.of (pe_bm pa slot hty hm ho ha hbase hfew hline hs hplain) fun σ H Q h => ?_
  obtain ⟨I, env, S, Qd, sim, er, h, k⟩ := h
  refine ⟨I, env, S, _, sim, er, h, fun I1 w1 v1 S1 H1 e1 s1 r1 h1 => ⟨tyD_tyV s1 r1 h1.1, ?_⟩⟩
  refine ⟨I1, env, S1, _, s1, er.le e1.le, h1.2, fun I2 ws vs S2 H2 e2 s2 r2 h2 => ?_⟩
  exact ⟨I2, S2, w1, ws, Qd, s2, r1.le e2.le, r2, h2, k.ext (e1.trans e2)⟩
end
/-! list.append, extend, pop -/
def gAppend (x : D) (ys : List D) (S : Sto) (Q : DK) : Prop :=
  match x, ys with
  | .ref a, [y] => (match S a with
    | some (.lst xs) => xs.length < sizeLine ∧ Q .non (su S a (.lst (xs ++ [y])))
    | _ => False)
  | _, _ => False
theorem tAppend : MtD X wi "list.append" gAppend := by
  intro pins s σ H v vs vv us Q' I rv rvs ⟨Ih, S, x, ys, Q, sim, rx, rys, h, k⟩
  unfold gAppend at h
  split at h
  · rename_i a y
    cases rx
    cases rys with
    | cons ry rn =>
      cases rn
      split at h
      · rename_i xs e
        obtain ⟨ws, ha, r1⟩ := st_lst sim e
        refine mt_append pins s σ H _ _ _ _ Q' I rv rvs ⟨a, ws, _, rfl, rfl, ha, by rw [← r1.length]; exact h.1, ?_⟩
        obtain ⟨s2, e2⟩ := sim.wr (o := .lst (xs ++ [y])) (u := .lst (ws ++ [_])) e (show RDs X.K Ih _ _ from r1.append (.cons ry .nil))
        exact k _ _ _ _ _ e2 s2 .non h.2
      · exact h.elim
  · exact h.elim
def gExtend (x : D) (ys : List D) (S : Sto) (Q : DK) : Prop :=
  match x, ys with
  | .ref a, [y] => (match S a, lsOf S y with
    | some (.lst xs), some zs => xs.length + zs.length ≤ sizeLine ∧ Q .non (su S a (.lst (xs ++ zs)))
    | _, _ => False)
  | _, _ => False
theorem tExtend : MtD X wi "list.extend" gExtend := by
  intro pins s σ H v vs vv us Q' I rv rvs ⟨Ih, S, x, ys, Q, sim, rx, rys, h, k⟩
  unfold gExtend at h
  split at h
  · rename_i a y
    cases rx
    cases rys with
    | cons ry rn =>
      cases rn
      split at h
      · rename_i xs zs e e2
        obtain ⟨ws, ha, r1⟩ := st_lst sim e
        obtain ⟨b, us2, rfl, hb, r2⟩ := lsOf_at sim ry e2
        refine mt_extend pins s σ H _ _ _ _ Q' I rv rvs ⟨a, b, ws, us2, rfl, rfl, ha, hb, by rw [← r1.length, ← r2.length]; exact h.1, ?_⟩
        obtain ⟨s2, e2⟩ := sim.wr (o := .lst (xs ++ zs)) (u := .lst (ws ++ us2)) e (show RDs X.K Ih _ _ from r1.append r2)
        exact k _ _ _ _ _ e2 s2 .non h.2
      · exact h.elim
  · exact h.elim
def gPop (x : D) (ys : List D) (S : Sto) (Q : DK) : Prop :=
  match x, ys with
  | .ref a, [] => (match S a with
    | some (.lst xs) => (match xs[xs.length - 1]? with
      | some y => Q y (su S a (.lst xs.dropLast))
      | none => False)
    | _ => False)
  | _, _ => False
theorem tPop : MtD X wi "list.pop" gPop := by
  intro pins s σ H v vs vv us Q' I rv rvs ⟨Ih, S, x, ys, Q, sim, rx, rys, h, k⟩
  unfold gPop at h
  split at h
  · rename_i a
    cases rx
    cases rys
    split at h
    · rename_i xs e
      obtain ⟨ws, ha, r1⟩ := st_lst sim e
      split at h
      · rename_i y hy
        obtain ⟨w, hw, rw'⟩ := r1.get hy
        refine mt_pop pins s σ H _ _ _ _ Q' I rv rvs ⟨a, ws, w, rfl, rfl, ha, by rw [← r1.length]; exact hw, ?_⟩
        obtain ⟨s2, e2⟩ := sim.wr (o := .lst xs.dropLast) (u := .lst ws.dropLast) e (show RDs X.K Ih _ _ from r1.dropLast)
        exact k _ _ _ _ _ e2 s2 rw' h
      · exact h.elim
    · exact h.elim
  · exact h.elim
end
end DL


set_option Elab.async false
set_option linter.all false
set_option maxRecDepth 100000
set_option maxHeartbeats 4000000
namespace DL
open PySem PySem.Spec PyProof.Rows L2

section
variable {X : Cx}
/-! ### in -/
/-- the items of a tuple, a list -/
def itsOf (S : Sto) : D → Option (List D)
  | .tup xs => some xs
  | .lst xs => some xs
  | .scr xs => some xs
  | .ref a => (match S a with
    | some (.lst xs) => some xs
    | _ => none)
  | _ => none
def fInB (x y : D) (S : Sto) (Q : Bool → Prop) : Prop :=
  match y with
  | .str b => (match x with
    | .str a => (match a.cps.toList with
      | [c] => Q (decide (c ∈ b.cps.toList))
      | _ => Q (!(Builtin.Str.occurrences b a 0 b.length 1).isEmpty))
    | _ => False)
  | .tup ys => (shp (rd S x) = true ∧ shp (rd S (.tup ys)) = true) ∧ Q ((rds S ys).any fun z => deq z (rd S x))
  | .lst ys => (shp (rd S x) = true ∧ shp (.lst ys) = true) ∧ Q (ys.any fun z => deq z (rd S x))
  | .ref a => (match S a with
    | some (.lst ys) => (shp (rd S x) = true ∧ shp (.lst ys) = true) ∧ Q (ys.any fun z => deq z (rd S x))
    | some (.dK kvs) => (match keyOf x with
      | some k => Q (dval kvs k).isSome
      | none => False)
    | _ => False)
  | _ => False
def fIn (x y : D) (S : Sto) (Q : DK) : Prop := fInB x y S fun b => Q (.bl b) S
def fNotIn (x y : D) (S : Sto) (Q : DK) : Prop := fInB x y S fun b => Q (.bl (!b)) S
theorem toPys_map (xs : List D) : toPys xs = xs.map toPy := by
  induction xs with
  | nil => rfl
  | cons x xs ih => rw [toPys, ih]; rfl
theorem any_toPys (xs : List D) (d : D) : ((toPys xs).any fun z => PyData.eqv z (toPy d)) = xs.any fun z => deq z d := by
  rw [toPys_map, List.any_map]; rfl
theorem RKV.isSome {K : PySem.W.Frag} {I : Hp} {xs : List (Key × D)} {ys : List (Key × V)} (r : RKV K I xs ys) (k : Key) : (valV ys k).isSome = (dval xs k).isSome := by
  cases e : dval xs k with
  | none => rw [RKV.none r e]; rfl
  | some v =>
    obtain ⟨w, h, _⟩ := RKV.val r e
    rw [h]; rfl
theorem inB (neg : Bool) (hu : X.A.units + 65 < cLine) {pins : List (Addr × Obj)} {s : Shared} {σ : L2.St} {H : Hp} {Q' : VK} {v u : V} {vv uu : Value} {Ih : Hp} {S : Sto} {x y : D} {Q : DK} (I : Inv X pins σ H s) (rv : RelV v vv) (ru : RelV u uu) (sim : Sim X.K wi Ih S H) (rx : RD X.K Ih x v) (ry : RD X.K Ih y u)
    (h : fInB x y S fun b => Q (.bl (neg ^^ b)) S) (k : KQ X.K wi Ih S H Q Q') : wpAny (model X.prog X.w) X.A (compareOp (if neg = true then .NotIn else .In) vv uu) (EP X pins σ Q') X.xe s := by
  have fin : ∀ {b : Bool}, Q (.bl (neg ^^ b)) S → Q' (.bl (neg ^^ b)) H := fun {b} q => k _ _ _ _ _ .refl sim (.bl _) q
  have dat : ∀ {d : D} {ds : List D}, Dp X.K H v (toPy d) → shp d = true → ∀ {as : List Addr} {P : PyData}, Reads s.heap uu P as → (P = .list (toPys ds) ∨ P = .tuple (toPys ds)) → shp (.lst ds) = true → Q (.bl (neg ^^ (ds.any fun z => deq z d))) S →
      wpAny (model X.prog X.w) X.A (compareOp (if neg = true then .NotIn else .In) vv uu) (EP X pins σ Q') X.xe s := fun {d ds} hd sd {as P} r2 hP se q => by
    have p1 := Bool.and_eq_true_iff.mp sd
    have p2 := Bool.and_eq_true_iff.mp se
    have s1 := shaped_toPy p1.1 (of_decide_eq_true p1.2)
    have s2 : SeqAt.shaped (.list (toPys ds)) = true := shaped_toPy (x := .lst ds) p2.1 (of_decide_eq_true p2.2)
    obtain ⟨bs, r1⟩ := Dp.reads I (toPy d) v vv hd rv
    have e := any_toPys ds d
    rcases hP with rfl | rfl <;> cases neg
    · exact SeqAt.in_list_reads r2 r1 (SeqAt.canLay_of_shaped s2) (SeqAt.canLay_of_shaped s1) (room_in_shaped s1 hu) ⟨.bl _, H, I, rfl, by rw [e]; simpa using fin q⟩
    · exact SeqAt.notIn_list_reads r2 r1 (SeqAt.canLay_of_shaped s2) (SeqAt.canLay_of_shaped s1) (room_in_shaped s1 hu) ⟨.bl _, H, I, rfl, by rw [e]; simpa using fin q⟩
    · exact SeqAt.in_tuple_reads r2 r1 (show (PyData.tuple (toPys ds)).canLay0 = true from SeqAt.canLay_of_shaped s2) (SeqAt.canLay_of_shaped s1) (room_in_shaped s1 hu) ⟨.bl _, H, I, rfl, by rw [e]; simpa using fin q⟩
    · exact SeqAt.notIn_tuple_reads r2 r1 (show (PyData.tuple (toPys ds)).canLay0 = true from SeqAt.canLay_of_shaped s2) (SeqAt.canLay_of_shaped s1) (room_in_shaped s1 hu) ⟨.bl _, H, I, rfl, by rw [e]; simpa using fin q⟩
  unfold fInB at h
  split at h
  · rename_i b
    cases ry
    split at h
    · rename_i a
      cases rx
      split at h
      · rename_i c ec
        have ea : a = ⟨#[c]⟩ := by
          cases a with
          | mk cps =>
            have : cps = [c].toArray := by rw [← ec]
            rw [this]
        subst ea
        cases neg
        · exact op_in_sign pins s σ H _ _ _ _ Q' I rv ru ⟨c, b, rfl, rfl, by simpa using fin h⟩
        · exact op_notIn_sign pins s σ H _ _ _ _ Q' I rv ru ⟨c, b, rfl, rfl, by simpa using fin h⟩
      · cases neg
        · exact op_in_str pins s σ H _ _ _ _ Q' I rv ru ⟨a, b, rfl, rfl, by simpa using fin h⟩
        · exact op_notIn_str pins s σ H _ _ _ _ Q' I rv ru ⟨a, b, rfl, rfl, by simpa using fin h⟩
    · exact h.elim
  · rename_i ys
    obtain ⟨⟨h1, h2⟩, h⟩ := h
    have p1 := Bool.and_eq_true_iff.mp h1
    have p2 := Bool.and_eq_true_iff.mp h2
    obtain ⟨as, r2⟩ := Dp.reads I _ u uu (ry.rdp sim p2.1) ru
    exact dat (rx.rdp sim p1.1) h1 r2 (.inr rfl) h2 h
  · rename_i ys
    obtain ⟨⟨h1, h2⟩, h⟩ := h
    have p1 := Bool.and_eq_true_iff.mp h1
    have p2 := Bool.and_eq_true_iff.mp h2
    obtain ⟨as, r2⟩ := Dp.reads I _ u uu (ry.dp sim.im p2.1) ru
    exact dat (rx.rdp sim p1.1) h1 r2 (.inl rfl) h2 h
  · rename_i a
    split at h
    · rename_i ys e0
      obtain ⟨⟨h1, h2⟩, h⟩ := h
      have p1 := Bool.and_eq_true_iff.mp h1
      have e1 : rd S (.ref a) = .lst ys := by unfold rd; rw [e0]
      have p2 := Bool.and_eq_true_iff.mp h2
      have q2 := ry.rdp sim (by rw [e1]; exact p2.1)
      rw [e1] at q2
      obtain ⟨as, r2⟩ := Dp.reads I _ u uu q2 ru
      exact dat (rx.rdp sim p1.1) h1 r2 (.inl rfl) h2 h
    · rename_i kvs e0
      obtain ⟨us, ha, r1⟩ := st_dK sim e0
      split at h
      · rename_i key ek
        have ev := rx.key ek
        subst ev
        cases ry
        cases ru
        have hu1 : X.A.units + 1 < cLine := by omega
        have g : DGet H a (kV key) (valV us key) := DGet.k ha
        cases neg
        · exact d_in hu1 I g rv fun s3 I3 => ⟨.bl _, H, I3, rfl, by rw [r1.isSome]; simpa using fin h⟩
        · exact d_notIn hu1 I g rv fun s3 I3 => ⟨.bl _, H, I3, rfl, by rw [r1.isSome]; simpa using fin h⟩
      · exact h.elim
    · exact h.elim
  · exact h.elim
theorem oIn (hu : X.A.units + 65 < cLine) : OpM X wi (compareOp .In) fIn := by
  intro pins s σ H v u vv uu Q' I rv ru ⟨Ih, S, x, y, Q, sim, rx, ry, h, k⟩
  exact inB false hu I rv ru sim rx ry (by simpa [fIn] using h) k
theorem oNotIn (hu : X.A.units + 65 < cLine) : OpM X wi (compareOp .NotIn) fNotIn := by
  intro pins s σ H v u vv uu Q' I rv ru ⟨Ih, S, x, y, Q, sim, rx, ry, h, k⟩
  exact inB true hu I rv ru sim rx ry (by simpa [fNotIn] using h) k

/-! ### calls of built-in functions -/
section
variable {x : Str} {p pos : Pos} {e : Expr} {es : List Expr} {t : DA} {id T : String} {g : List D → Sto → DK → Prop}
theorem lift_fn {K : PySem.W.Frag} {σ : L2.St} {H : Hp} {Q : VK} (h : lift K wi (dFn g t) σ H Q) : tCB (rcOf K wi g) (liftA K wi t) σ H Q := by
  obtain ⟨I, env, S, Qd, sim, er, h, k⟩ := h
  exact ⟨I, env, S, _, sim, er, h, fun I1 ws vs S1 H1 e1 s1 r1 h1 => ⟨I1, S1, ws, Qd, s1, r1, h1, k.ext e1⟩⟩
theorem mB (hc : CallM X wi (.builtin id) g) (hm : X.mg x = none) (hv : bootBuiltins x = some (.builtin id)) (ha : MA X wi (e :: es) t) (hg : Gl X x := by rfl) (hn : x ≠ "__name__" := by decide) (hdb : (x == ("__debug__" : Str)) = false := by decide)
    (he : starEach (e :: es) X.env = (false, eval e X.env) :: starEach es X.env := by rfl) (hpl : (backTo pos (starEach es X.env)).any (·.1) = false := by rfl) : ME X wi (.Call (.Name x p) (e :: es) [] pos) (dFn g t) :=
  PE.of (pe_callB hc hg hm hv ha hn hdb he hpl) fun _ _ _ => lift_fn
theorem mBT (hc : CallM X wi (.type T) g) (hm : X.mg x = none) (hv : bootBuiltins x = some (.type T)) (ha : MA X wi (e :: es) t) (hg : Gl X x := by rfl) (hn : x ≠ "__name__" := by decide) (hdb : (x == ("__debug__" : Str)) = false := by decide)
    (he : starEach (e :: es) X.env = (false, eval e X.env) :: starEach es X.env := by rfl) (hpl : (backTo pos (starEach es X.env)).any (·.1) = false := by rfl) : ME X wi (.Call (.Name x p) (e :: es) [] pos) (dFn g t) :=
  PE.of (pe_callTy hc hg hm hv ha hn hdb he hpl) fun _ _ _ => lift_fn
/-- a built-in class as a value -/
theorem mTy {pos : Pos} (hm : X.mg x = none) (hv : bootBuiltins x = some (.type T)) (hg : Gl X x := by rfl) (hn : x ≠ "__name__" := by decide) (hd : (x == ("__debug__" : Str)) = false := by decide) : ME X wi (.Name x pos) (dC (.val (.ty T))) :=
  PE.of (pe_bltn (v := .ty T) hg hm hv rfl hn hd) fun _ _ _ => lift_c fun _ => .val _
end

/-! isinstance -/
def tyOf (S : Sto) : D → Option String
  | .non => some "NoneType"
  | .bl _ => some "bool"
  | .int _ => some "int"
  | .str _ => some "str"
  | .tup _ => some "tuple"
  | .lst _ => some "list"
  | .scr _ => none
  | .ref a => (match S a with
    | some (.lst _) => some "list"
    | some (.dK _) => some "dict"
    | some (.dT _) => some "dict"
    | _ => none)
  | .val _ => none
def tys : List String := ["int", "bool", "str", "tuple", "list", "dict"]
def isSub (t T : String) : Bool := t == T || (t == "bool" && T == "int")
def gIsi (xs : List D) (S : Sto) (Q : DK) : Prop :=
  match xs with
  | [x, .val (.ty T)] => T ∈ tys ∧ (match tyOf S x with
    | some t => Q (.bl (isSub t T)) S
    | none => False)
  | _ => False
theorem kitAll {K : PySem.W.Frag} {t T : String} (ht : t ∈ ["NoneType", "bool", "int", "str", "tuple", "list", "dict"]) (hT : T ∈ tys) : PySem.W.kitOne K (.type t) (.type T) = some (isSub t T) := by
  have h : (["NoneType", "bool", "int", "str", "tuple", "list", "dict"].all fun t => tys.all fun T => kitB t T == some (isSub t T)) = true := by decide +kernel
  have h1 := List.all_eq_true.mp (List.all_eq_true.mp h t ht) T hT
  exact kit_ty (eq_of_beq h1)
theorem cIsi : CallM X wi (.builtin "isinstance") gIsi := by
  intro pins s σ H vs us Q' I rv ⟨Ih, S, xs, Q, sim, rx, h, k⟩
  unfold gIsi at h
  split at h
  · rename_i x T
    obtain ⟨hT, h⟩ := h
    split at h
    · rename_i t et
      cases rx with
      | cons r1 rx =>
        cases rx with
        | cons r2 rx =>
          cases rx
          cases r2
          have q := k _ _ _ _ _ .refl sim (.bl _) h
          have go : ∀ {v : V}, t ∈ ["NoneType", "bool", "int", "str", "tuple", "list", "dict"] → TyX X.K H v (.type t) → RelV v (us.headD .none) → Vals [v, .ty T] us → wpAny (model X.prog X.w) X.A (call (.builtin "isinstance") us) (EP X pins σ Q') X.xe s := fun {v} ht ty _ rv =>
            call_isi pins s σ H _ _ Q' I rv ⟨v, .ty T, _, _, _, rfl, .ty T, ty, kitAll ht hT, q⟩
          have hd : ∀ {v : V}, Vals [v, .ty T] us → RelV v (us.headD .none) := fun {v} rv => by
            cases rv with
            | cons r _ => exact r
          cases r1 with
          | non => cases et; exact go (by decide) (.base .non) (hd rv) rv
          | bl b => cases et; exact go (by decide) (.base (.bl b)) (hd rv) rv
          | int i => cases et; exact go (by decide) (.base (.int i)) (hd rv) rv
          | str x => cases et; exact go (by decide) (.base (.str x)) (hd rv) rv
          | tup h1 r1 =>
            cases et
            rcases SqT.le sim.im h1 with (h1 | ⟨o, h1⟩) | ⟨o, its, n, h1, h2, _⟩
            · exact go (by decide) (.base (.tup h1)) (hd rv) rv
            · exact go (by decide) (.fTuple h1) (hd rv) rv
            · exact go (by decide) (.kTuple h1 h2) (hd rv) rv
          | lst h1 r1 => cases et; exact go (by decide) (.base (.lst (sim.im _ _ h1))) (hd rv) rv
          | scr h1 r1 => cases et
          | val v => cases et
          | ref a =>
            have et' : (match S a with | some (.lst _) => some "list" | some (.dK _) => some "dict" | some (.dT _) => some "dict" | _ => none) = some t := et
            split at et'
            · rename_i ys e0
              cases et'
              obtain ⟨ws, ha, _⟩ := st_lst sim e0
              exact go (by decide) (.base (.lst ha)) (hd rv) rv
            · rename_i ys e0
              cases et'
              obtain ⟨ws, ha, _⟩ := st_dK sim e0
              exact go (by decide) (.base (.dK ha)) (hd rv) rv
            · rename_i ys e0
              cases et'
              obtain ⟨_, u, r, hu⟩ := sim.st a _ e0
              cases u <;> try exact r.elim
              exact go (by decide) (.base (.dT hu)) (hd rv) rv
            · cases et'
    · exact h.elim
  · exact h.elim

/-! len, list, tuple, str, repr, int, ord, all, any, sum -/
def gLen (xs : List D) (S : Sto) (Q : DK) : Prop :=
  match xs with
  | [.str z] => z.length ≤ sizeLine ∧ Q (.int z.length) S
  | [x] => (match itsOf S x with
    | some ys => Q (.int ys.length) S
    | none => False)
  | _ => False
theorem itsOf_at {K : PySem.W.Frag} {I H : Hp} {S : Sto} (s : Sim K wi I S H) {x : D} {v : V} {xs : List D} (r : RD K I x v) (h : itsOf S x = some xs) : ∃ a vs, v = .ref a ∧ (SqL K H a vs ∨ SqT K H a vs) ∧ RDs K I xs vs := by
  cases r <;> try cases h
  · rename_i a vs h1 h2
    exact ⟨a, vs, rfl, .inr (SqT.le s.im h1), h2⟩
  · rename_i a vs h1 h2
    exact ⟨a, vs, rfl, .inl (SqL.of (s.im _ _ h1)), h2⟩
  · rename_i a vs h1 h2
    exact ⟨a, vs, rfl, .inl (SqL.le s.im h1), h2⟩
  · rename_i a
    have h' : (match S a with | some (.lst ys) => some ys | _ => none) = some xs := h
    split at h'
    · rename_i ys e
      cases h'
      obtain ⟨ws, ha, r⟩ := st_lst s e
      exact ⟨a, ws, rfl, .inl (SqL.of ha), r⟩
    · cases h'
theorem cLen : CallM X wi (.builtin "len") gLen := by
  intro pins s σ H vs us Q' I rv ⟨Ih, S, xs, Q, sim, rx, h, k⟩
  unfold gLen at h
  split at h
  · cases rx with
    | cons r1 rx =>
      cases rx
      cases r1
      exact call_len_str pins s σ H _ _ Q' I rv ⟨_, rfl, h.1, k _ _ _ _ _ .refl sim (.int _) h.2⟩
  · split at h
    · rename_i ys ey
      cases rx with
      | cons r1 rx =>
        cases rx
        obtain ⟨a, ws, rfl, hs, r⟩ := itsOf_at sim r1 ey
        refine call_len_seq pins s σ H _ _ Q' I rv ⟨a, ws, rfl, hs, ?_⟩
        rw [← r.length]
        exact k _ _ _ _ _ .refl sim (.int _) h
    · exact h.elim
  · exact h.elim
/-- list(x): a list that is never changed; gListR: one that is -/
def gList (xs : List D) (S : Sto) (Q : DK) : Prop :=
  match xs with
  | [x] => (match itsOf S x with
    | some ys => Q (.lst ys) S
    | none => False)
  | _ => False
def gListR (xs : List D) (S : Sto) (Q : DK) : Prop :=
  match xs with
  | [x] => (match itsOf S x with
    | some ys => ∀ p, S p = none → Q (.ref p) (su S p (.lst ys))
    | none => False)
  | _ => False
theorem cList : CallM X wi (.type "list") gList := by
  intro pins s σ H vs us Q' I rv ⟨Ih, S, xs, Q, sim, rx, h, k⟩
  unfold gList at h
  split at h
  · split at h
    · rename_i ys ey
      cases rx with
      | cons r1 rx =>
        cases rx
        obtain ⟨a, ws, rfl, hs, r⟩ := itsOf_at sim r1 ey
        exact call_list_of pins s σ H _ _ Q' I rv ⟨a, ws, rfl, hs, fun p hp => k.newI sim hp (.lst upd_same (r.newI (sim.free hp))) h⟩
    · exact h.elim
  · exact h.elim
theorem cListR : CallM X wi (.type "list") gListR := by
  intro pins s σ H vs us Q' I rv ⟨Ih, S, xs, Q, sim, rx, h, k⟩
  unfold gListR at h
  split at h
  · split at h
    · rename_i ys ey
      cases rx with
      | cons r1 rx =>
        cases rx
        obtain ⟨a, ws, rfl, hs, r⟩ := itsOf_at sim r1 ey
        exact call_list_of pins s σ H _ _ Q' I rv ⟨a, ws, rfl, hs, fun p hp => k.newS sim hp (show RO X.K Ih (.lst ys) (.lst ws) from r) h⟩
    · exact h.elim
  · exact h.elim
def gTuple (xs : List D) (S : Sto) (Q : DK) : Prop :=
  match xs with
  | [x] => (match itsOf S x with
    | some ys => Q (.tup ys) S
    | none => False)
  | _ => False
theorem cTuple : CallM X wi (.type "tuple") gTuple := by
  intro pins s σ H vs us Q' I rv ⟨Ih, S, xs, Q, sim, rx, h, k⟩
  unfold gTuple at h
  split at h
  · split at h
    · rename_i ys ey
      cases rx with
      | cons r1 rx =>
        cases rx
        obtain ⟨a, ws, e, hs, r⟩ := itsOf_at sim r1 ey
        subst e
        rcases hs with hs | hs
        · exact call_tuple_of pins s σ H _ _ Q' I rv ⟨a, ws, rfl, .inl ⟨hs, fun p hp => k.newI sim hp (.tup (SqT.of upd_same) (r.newI (sim.free hp))) h⟩⟩
        · refine call_tuple_of pins s σ H _ _ Q' I rv ⟨a, ws, rfl, .inr ⟨hs, ?_⟩⟩
          cases r1 with
          | tup h1 r2 => cases ey; exact k _ _ _ _ _ .refl sim (.tup h1 r2) h
          | lst h1 r2 =>
            have z : H a = some (.lst _) := sim.im _ _ h1
            rcases hs with (q | ⟨o, q⟩) | ⟨o, its, n, q, q2, _⟩
            · rw [z] at q; cases q
            · rw [z] at q; cases q
            · exact (by
                obtain ⟨z1, _, _, _, z2⟩ := I.hok a _ z
                have q3 := I.kIn a o q
                rw [z2] at q3
                cases q3
                exact absurd q2 (by simp))
          | scr h1 r2 =>
            have z := SqL.le sim.im h1
            obtain ⟨i1, _, ⟨o1, n1, g1, c1, _, d1⟩, _⟩ := I.list z
            obtain ⟨i2, _, ⟨o2, g2, c2, _⟩, _⟩ := I.tuple hs
            rw [g1] at g2; cases g2
            rw [c1] at c2; exact absurd c2 (by simp)
          | ref b =>
            have ey' : (match S a with | some (.lst ys) => some ys | _ => none) = some ys := ey
            split at ey'
            · rename_i zs e0
              obtain ⟨ws2, ha, _⟩ := st_lst sim e0
              obtain ⟨i1, _, ⟨o1, n1, g1, c1, _, d1⟩, _⟩ := I.list (SqL.of ha)
              obtain ⟨i2, _, ⟨o2, g2, c2, _⟩, _⟩ := I.tuple hs
              rw [g1] at g2; cases g2
              rw [c1] at c2; exact absurd c2 (by simp)
            · cases ey'
          | val v => cases ey
    · exact h.elim
  · exact h.elim
def gStr (xs : List D) (S : Sto) (Q : DK) : Prop :=
  match xs with
  | [.int i] => i.natAbs.log2 < 1920 ∧ Q (.str (toString i)) S
  | [.bl b] => Q (.str (if b then "True" else "False")) S
  | [.str a] => Q (.str a) S
  | _ => False
theorem cStr : CallM X wi (.type "str") gStr := by
  intro pins s σ H vs us Q' I rv ⟨Ih, S, xs, Q, sim, rx, h, k⟩
  unfold gStr at h
  split at h
  · cases rx with
    | cons r1 rx =>
      cases rx
      cases r1
      exact call_str_int pins s σ H _ _ Q' I rv ⟨_, rfl, h.1, k _ _ _ _ _ .refl sim (.str _) h.2⟩
  · cases rx with
    | cons r1 rx =>
      cases rx
      cases r1
      obtain ⟨u, rfl, ru⟩ := vals1 rv
      cases ru
      exact PySem.P.str_of_bool ⟨.str _, H, I.tok _, ⟨_, rfl⟩, k _ _ _ _ _ .refl sim (.str _) h⟩
  · cases rx with
    | cons r1 rx =>
      cases rx
      cases r1
      exact SkE.call_str_str pins s σ H _ _ Q' I rv ⟨_, rfl, k _ _ _ _ _ .refl sim (.str _) h⟩
  · exact h.elim
def gRepr (xs : List D) (S : Sto) (Q : DK) : Prop :=
  match xs with
  | [x] => ((pur (rd S x) = true ∧ dep (rd S x) ≤ 60) ∧ shb (rd S x) = true ∧ (shown (rd S x)).length ≤ sizeLine) ∧ Q (.str (shown (rd S x))) S
  | _ => False
theorem noDict_toPy : ∀ x : D, pur x = true → (toPy x).hasDict = false := fun x p => PyData.hasDict_of_canLay _ (canLay_toPy x p)
theorem cRepr (hG : X.A.guards = some []) (hu : X.A.units + 64 < cLine) : CallM X wi (.builtin "repr") gRepr := by
  intro pins s σ H vs us Q' I rv ⟨Ih, S, xs, Q, sim, rx, h, k⟩
  unfold gRepr at h
  split at h
  · rename_i x
    obtain ⟨⟨⟨hp, hd⟩, hs, hl⟩, h⟩ := h
    cases rx with
    | cons r1 rx =>
      cases rx
      obtain ⟨u, rfl, ru⟩ := vals1 rv
      have dp := r1.rdp sim hp
      have q := k _ _ _ _ _ .refl sim (.str _) h
      obtain ⟨as, rr⟩ := Dp.reads I _ _ _ dp ru
      have go : ∀ a, u = .ref a → wpAny (model X.prog X.w) X.A (call (.builtin "repr") [u]) (EP X pins σ Q') X.xe s := fun a e => by
        subst e
        refine repr_of_reads' rr hs (fun z => by rw [noDict_toPy _ hp] at z; cases z) hG (by rw [depth_toPy]; omega) (fun _ _ e => e) (fun h' u tk kk => ?_) hl
        exact ⟨.str _, H, I.kept kk, ⟨_, rfl⟩, q⟩
      generalize hx : rd S x = z at *
      cases z with
      | non =>
        cases dp
        cases ru
        exact PySem.P.repr_of_none ⟨.str _, H, I.tok _, ⟨_, rfl⟩, q⟩
      | bl b =>
        cases dp
        cases ru
        exact PySem.P.repr_of_bool ⟨.str _, H, I.tok _, ⟨_, rfl⟩, q⟩
      | int i =>
        cases dp
        obtain ⟨t, rfl⟩ := ru
        exact PySem.P.repr_of_int (of_decide_eq_true hs) ⟨.str _, H, I.tok _, ⟨_, rfl⟩, q⟩
      | str y =>
        cases dp
        obtain ⟨t, rfl⟩ := ru
        exact PySem.P.repr_of_str ⟨.str _, H, I.tok _, ⟨_, rfl⟩, q⟩ hl
      | tup ys => cases dp; cases ru; exact go _ rfl
      | lst ys => cases dp; cases ru; exact go _ rfl
      | scr ys => cases dp; cases ru; exact go _ rfl
      | ref a => cases hp
      | val v => cases hp
  · exact h.elim
def gInt (xs : List D) (S : Sto) (Q : DK) : Prop :=
  match xs with
  | [.int i] => Q (.int i) S
  | [.bl b] => Q (.int (b2 b)) S
  | [.str a] => (match PySem.intText? a with
    | some n => a.length ≤ 640 ∧ Q (.int n) S
    | none => False)
  | _ => False
theorem cInt : CallM X wi (.type "int") gInt := by
  intro pins s σ H vs us Q' I rv ⟨Ih, S, xs, Q, sim, rx, h, k⟩
  unfold gInt at h
  split at h
  · cases rx with
    | cons r1 rx =>
      cases rx
      cases r1
      exact call_int1 pins s σ H _ _ Q' I rv (.inl ⟨_, rfl, k _ _ _ _ _ .refl sim (.int _) h⟩)
  · cases rx with
    | cons r1 rx =>
      cases rx
      cases r1
      exact call_int1 pins s σ H _ _ Q' I rv (.inr ⟨_, rfl, k _ _ _ _ _ .refl sim (.int _) h⟩)
  · cases rx with
    | cons r1 rx =>
      cases rx
      cases r1
      split at h
      · rename_i n en
        exact call_int_str pins s σ H _ _ Q' I rv ⟨_, n, rfl, en, h.1, k _ _ _ _ _ .refl sim (.int _) h.2⟩
      · exact h.elim
  · exact h.elim
def gOrd (xs : List D) (S : Sto) (Q : DK) : Prop :=
  match xs with
  | [.str x] => x.length = 1 ∧ Q (.int (x.cps.getD 0 0 : Nat)) S
  | _ => False
theorem cOrd : CallM X wi (.builtin "ord") gOrd := by
  intro pins s σ H vs us Q' I rv ⟨Ih, S, xs, Q, sim, rx, h, k⟩
  unfold gOrd at h
  split at h
  · cases rx with
    | cons r1 rx =>
      cases rx
      cases r1
      exact call_ord pins s σ H _ _ Q' I rv ⟨_, rfl, h.1, k _ _ _ _ _ .refl sim (.int _) h.2⟩
  · exact h.elim
def blsOf : List D → Option (List Bool)
  | [] => some []
  | .bl b :: r => (blsOf r).map (b :: ·)
  | _ => none
theorem bls_of {K : PySem.W.Frag} {I : Hp} : ∀ {xs : List D} {vs : List V} {bs : List Bool}, RDs K I xs vs → blsOf xs = some bs → vs = bs.map V.bl
  | _, _, _, .nil, h => by cases h; rfl
  | _, _, bs, .cons r t, h => by
    cases r <;> try cases h
    rename_i b
    have h' : (blsOf _).map (b :: ·) = some bs := h
    obtain ⟨cs, h1, h2⟩ := Option.map_eq_some_iff.mp h'
    subst h2
    rw [bls_of t h1]; rfl
def gAll (xs : List D) (S : Sto) (Q : DK) : Prop :=
  match xs with
  | [x] => (match (lsOf S x).bind blsOf with
    | some bs => Q (.bl (bs.all id)) S
    | none => False)
  | _ => False
def gAny (xs : List D) (S : Sto) (Q : DK) : Prop :=
  match xs with
  | [x] => (match (lsOf S x).bind blsOf with
    | some bs => Q (.bl (bs.any id)) S
    | none => False)
  | _ => False
theorem cAll (hc : X.calm = true) : CallM X wi (.builtin "all") gAll := by
  intro pins s σ H vs us Q' I rv ⟨Ih, S, xs, Q, sim, rx, h, k⟩
  unfold gAll at h
  split at h
  · split at h
    · rename_i bs eb
      obtain ⟨ys, e1, e2⟩ := Option.bind_eq_some_iff.mp eb
      cases rx with
      | cons r1 rx =>
        cases rx
        obtain ⟨a, ws, rfl, ha, r⟩ := lsOf_at sim r1 e1
        have e3 := bls_of r e2
        subst e3
        exact cr_all hc pins s σ H _ _ Q' I rv ⟨a, bs, rfl, SqL.of ha, k _ _ _ _ _ .refl sim (.bl _) h⟩
    · exact h.elim
  · exact h.elim
theorem cAny (hc : X.calm = true) : CallM X wi (.builtin "any") gAny := by
  intro pins s σ H vs us Q' I rv ⟨Ih, S, xs, Q, sim, rx, h, k⟩
  unfold gAny at h
  split at h
  · split at h
    · rename_i bs eb
      obtain ⟨ys, e1, e2⟩ := Option.bind_eq_some_iff.mp eb
      cases rx with
      | cons r1 rx =>
        cases rx
        obtain ⟨a, ws, rfl, ha, r⟩ := lsOf_at sim r1 e1
        have e3 := bls_of r e2
        subst e3
        exact cr_any hc pins s σ H _ _ Q' I rv ⟨a, bs, rfl, SqL.of ha, k _ _ _ _ _ .refl sim (.bl _) h⟩
    · exact h.elim
  · exact h.elim
def strsOf : List D → Option (List Str)
  | [] => some []
  | .str b :: r => (strsOf r).map (b :: ·)
  | _ => none
theorem strs_of {K : PySem.W.Frag} {I : Hp} : ∀ {xs : List D} {vs : List V} {bs : List Str}, RDs K I xs vs → strsOf xs = some bs → vs = bs.map V.str
  | _, _, _, .nil, h => by cases h; rfl
  | _, _, bs, .cons r t, h => by
    cases r <;> try cases h
    rename_i b
    have h' : (strsOf _).map (b :: ·) = some bs := h
    obtain ⟨cs, h1, h2⟩ := Option.map_eq_some_iff.mp h'
    subst h2
    rw [strs_of t h1]; rfl
def gJoin (x : D) (ys : List D) (S : Sto) (Q : DK) : Prop :=
  match x, ys with
  | .str a, [y] => (match (itsOf S y).bind strsOf with
    | some zs => (zs.map (·.length)).sum + zs.length * a.length ≤ 16777216 ∧ Q (.str (Txt.join a zs)) S
    | none => False)
  | _, _ => False
theorem tJoin : MtD X wi "str.join" gJoin := by
  intro pins s σ H v vs vv us Q' I rv rvs ⟨Ih, S, x, ys, Q, sim, rx, rys, h, k⟩
  unfold gJoin at h
  split at h
  · split at h
    · rename_i zs ez
      obtain ⟨ws, e1, e2⟩ := Option.bind_eq_some_iff.mp ez
      cases rx
      cases rys with
      | cons r1 rys =>
        cases rys
        obtain ⟨b, us2, rfl, hb, r⟩ := itsOf_at sim r1 e1
        have e3 := strs_of r e2
        subst e3
        exact mt_join pins s σ H _ _ _ _ Q' I rv rvs ⟨_, b, zs, rfl, rfl, hb, h.1, k _ _ _ _ _ .refl sim (.str _) h.2⟩
    · exact h.elim
  · exact h.elim
end
end DL


set_option Elab.async false
set_option linter.all false
set_option maxRecDepth 100000
set_option maxHeartbeats 4000000
namespace DL
open PySem PySem.Spec PyProof.Rows L2

/-! ### statements -/
def sNext : DS := fun d env S => d.nx env S
def sSeq (t u : DS) : DS := fun d env S => t { d with nx := u d } env S
def sAsg (t : DE) (i : Nat) : DS := fun d env S => t env S fun w S1 => d.nx (env.set i (some w)) S1
def sRet (t : DE) : DS := fun d env S => t env S d.rt
def sRetN : DS := fun d _ S => d.rt .non S
def sIf (c : DT) (t u : DS) : DS := fun d env S => c env S fun b S1 => if b = true then t d env S1 else u d env S1
def sExpr (t : DE) : DS := fun d env S => t env S fun _ S1 => d.nx env S1
def sBrk : DS := fun d env S => d.bk env S
def sCnt : DS := fun d env S => d.ct env S
section
variable {X : Cx} {st : Stmt} {rest : List Stmt} {t u : DS} {e : Expr} {te : DE} {pos : Pos}
theorem sNil : MSs X wi [] sNext := PSs.of pss_nil fun D σ H h => by
  obtain ⟨I, env, S, d, sim, er, h, k⟩ := h
  exact k.nx I env σ S H .refl sim er h
theorem KD.seq {K : PySem.W.Frag} {I H : Hp} {S : Sto} {d : DEnds} {D' : Ends} (k : KD K wi I S H d D') : KD K wi I S H { d with nx := u d } { D' with nx := liftS K wi u D' } :=
  ⟨fun I1 env σ S1 H1 e1 s1 er h1 => ⟨I1, env, S1, d, s1, er, h1, k.ext e1⟩, k.rt, k.bk, k.ct⟩
theorem sCons (h1 : MS X wi st t) (h2 : MSs X wi rest u) : MSs X wi (st :: rest) (sSeq t u) := PSs.of (pss_cons h1 h2) fun D σ H h => by
  obtain ⟨I, env, S, d, sim, er, h, k⟩ := h
  exact ⟨I, env, S, _, sim, er, h, k.seq⟩
theorem sOne (h1 : MS X wi st t) : MSs X wi [st] t := pss_one h1
theorem mPass : MS X wi (.Pass pos) sNext := PS.of ps_pass fun D σ H h => by
  obtain ⟨I, env, S, d, sim, er, h, k⟩ := h
  exact k.nx I env σ S H .refl sim er h
theorem mBrk : MS X wi (.Break pos) sBrk := PS.of ps_break fun D σ H h => by
  obtain ⟨I, env, S, d, sim, er, h, k⟩ := h
  exact k.bk I env σ S H .refl sim er h
theorem mCnt : MS X wi (.Continue pos) sCnt := PS.of ps_continue fun D σ H h => by
  obtain ⟨I, env, S, d, sim, er, h, k⟩ := h
  exact k.ct I env σ S H .refl sim er h
theorem mRet (he : ME X wi e te) : MS X wi (.Return (some e) pos) (sRet te) := PS.of (ps_ret he) fun D σ H h => by
  obtain ⟨I, env, S, d, sim, er, h, k⟩ := h
  exact ⟨I, env, S, _, sim, er, h, k.rt⟩
theorem mRetN : MS X wi (.Return none pos) sRetN := PS.of ps_retN fun D σ H h => by
  obtain ⟨I, env, S, d, sim, er, h, k⟩ := h
  exact k.rt I _ _ S H .refl sim .non h
theorem mExpr (he : ME X wi e te) (hs : swapsWith e none pos.line X.env = pure false := by rfl) : MS X wi (.Expr e pos) (sExpr te) := PS.of (ps_expr he hs) fun D σ H h => by
  obtain ⟨I, env, S, d, sim, er, h, k⟩ := h
  exact ⟨I, env, S, _, sim, er, h, fun I1 w v S1 H1 e1 s1 r1 h1 => k.nx I1 env σ S1 H1 e1 s1 (er.le e1.le) h1⟩
theorem mIf {c : Expr} {a b : List Stmt} {tc : DT} (hc : MT X wi c tc) (ha : MSs X wi a t) (hb : MSs X wi b u) : MS X wi (.If c a b pos) (sIf tc t u) := PS.of (ps_if hc ha hb) fun D σ H h => by
  obtain ⟨I, env, S, d, sim, er, h, k⟩ := h
  refine ⟨I, env, S, _, sim, er, h, fun I1 b S1 H1 e1 s1 h1 => ?_⟩
  cases b
  · exact ⟨I1, env, S1, d, s1, er.le e1.le, h1, k.ext e1⟩
  · exact ⟨I1, env, S1, d, s1, er.le e1.le, h1, k.ext e1⟩

/-! ### targets: vs, the places that they may store to -/
abbrev DG := D → Env' → Sto → (Env' → Sto → Prop) → Prop
abbrev DGs := List D → Env' → Sto → (Env' → Sto → Prop) → Prop
/-- the end of a target -/
def KG (K : PySem.W.Frag) (wi : Wi) (I : Hp) (S : Sto) (H : Hp) (σ : L2.St) (vs : List Nat) (Q : Env' → Sto → Prop) (Q' : L2.St → Hp → Prop) : Prop := ∀ I' env σ' S' H', Ext I S H I' S' H' → Sim K wi I' S' H' → ER K I' env σ' → wipe σ' vs = wipe σ vs → Q env S' → Q' σ' H'
def liftG (K : PySem.W.Frag) (wi : Wi) (vs : List Nat) (g : DG) : TG := fun v σ H Q' => ∃ I env S x Q, Sim K wi I S H ∧ ER K I env σ ∧ RD K I x v ∧ g x env S Q ∧ KG K wi I S H σ vs Q Q'
def liftGs (K : PySem.W.Frag) (wi : Wi) (vs : List Nat) (g : DGs) : TGs := fun us σ H Q' => ∃ I env S xs Q, Sim K wi I S H ∧ ER K I env σ ∧ RDs K I xs us ∧ g xs env S Q ∧ KG K wi I S H σ vs Q Q'
abbrev MG (X : Cx) (wi : Wi) (vs : List Nat) (tg : Expr) (g : DG) : Prop := PG X tg (liftG X.K wi vs g)
abbrev MGs (X : Cx) (wi : Wi) (vs : List Nat) (ts : List Expr) (g : DGs) : Prop := PGs X ts (liftGs X.K wi vs g)
theorem PG.of {tg : Expr} {g g' : TG} (h : PG X tg g) (i : ∀ v σ H Q, g' v σ H Q → g v σ H Q) : PG X tg g' := ⟨fun pins s σ H v u Q I r hw => h.run pins s σ H v u Q I r (i v σ H Q hw)⟩
theorem PGs.of {ts : List Expr} {g g' : TGs} (h : PGs X ts g) (i : ∀ v σ H Q, g' v σ H Q → g v σ H Q) : PGs X ts g' := ⟨fun pins s σ H v u Q I r hw => h.run pins s σ H v u Q I r (i v σ H Q hw)⟩
theorem wipe_set {i : Nat} {x : Option V} : ∀ {vs : List Nat} {σ : L2.St}, i ∈ vs → wipe (σ.set i x) vs = wipe σ vs
  | v :: vs, σ, h => by
    show (wipe (σ.set i x) vs).set v none = (wipe σ vs).set v none
    by_cases hv : i ∈ vs
    · rw [wipe_set hv]
    · have e : i = v := (List.mem_cons.mp h).resolve_right hv
      subst e
      have comm : ∀ (ws : List Nat) (τ : L2.St), i ∉ ws → wipe (τ.set i x) ws = (wipe τ ws).set i x := by
        intro ws
        induction ws with
        | nil => intro τ _; rfl
        | cons w ws ih =>
          intro τ hn
          show (wipe (τ.set i x) ws).set w none = ((wipe τ ws).set w none).set i x
          rw [ih τ fun z => hn (List.mem_cons_of_mem _ z)]
          exact List.set_comm _ _ fun z => hn (z ▸ List.mem_cons_self ..)
      rw [comm vs σ hv, List.set_set]
def gNm (i : Nat) : DG := fun x env S Q => Q (env.set i (some x)) S
theorem mgN (i : Nat) {vs : List Nat} {x : Str} (hN : X.N.Nodup) (hi : X.N[i]? = some x := by rfl) (hx : Loc X.env.scope x := by first | exact Or.inl rfl | exact Or.inr rfl) (hv : i ∈ vs := by decide) (hf : X.fn x = true ∨ X.env.scope.names.lookup x = some .local := by first | exact .inl rfl | exact .inr rfl | assumption) : MG X wi vs (.Name x pos) (gNm i) := PG.of (pg_name hN hi hx hf) fun v σ H Q h => by
  obtain ⟨I, env, S, y, Qd, sim, er, r, h, k⟩ := h
  exact k I _ _ S H .refl sim (er.set i r) (wipe_set hv) h
def gsNil : DGs := fun xs env S Q => xs = [] ∧ Q env S
def gsCons (t : DG) (u : DGs) : DGs := fun xs env S Q => match xs with
  | x :: r => t x env S fun env' S' => u r env' S' Q
  | [] => False
theorem mgsN {vs : List Nat} : MGs X wi vs [] gsNil := PGs.of pgs_nil fun us σ H Q h => by
  obtain ⟨I, env, S, xs, Qd, sim, er, r, ⟨e, h⟩, k⟩ := h
  subst e
  cases r
  exact ⟨rfl, k I _ _ S H .refl sim er rfl h⟩
theorem mgsC {vs : List Nat} {e : Expr} {es : List Expr} {t : DG} {u : DGs} (h1 : MG X wi vs e t) (h2 : MGs X wi vs es u)
    (hs : (assignEach (e :: es) X.env).map (·.2) = assign e X.env :: (assignEach es X.env).map (·.2) := by rfl) : MGs X wi vs (e :: es) (gsCons t u) := PGs.of (pgs_cons h1 h2 hs) fun us σ H Q h => by
  obtain ⟨I, env, S, xs, Qd, sim, er, r, h, k⟩ := h
  cases r with
  | nil => exact h.elim
  | cons r1 r2 =>
    refine ⟨_, _, rfl, I, env, S, _, _, sim, er, r1, h, fun I1 env1 σ1 S1 H1 e1 s1 er1 w1 h1 => ?_⟩
    exact ⟨I1, env1, S1, _, Qd, s1, er1, r2.le e1.le, h1, fun I2 env2 σ2 S2 H2 e2 s2 er2 w2 h2 => k I2 env2 σ2 S2 H2 (e1.trans e2) s2 er2 (w2.trans w1) h2⟩
def gTp (n : Nat) (t : DGs) : DG := fun x env S Q => match x with
  | .tup xs => xs.length = n ∧ t xs env S Q
  | _ => False
theorem mgT {vs : List Nat} {es : List Expr} {k : Nat} {t : DGs} {n : Nat} (hc : X.calm = true) (h : MGs X wi vs es t)
    (hn : (assignEach es X.env).length = n := by rfl) (hst : (assignEach es X.env).findIdx? (·.1) = none := by rfl) : MG X wi vs (.Tuple es k pos) (gTp n t) := PG.of (pg_tup hc h hn hst) fun v σ H Q h => by
  obtain ⟨I, env, S, x, Qd, sim, er, r, h, k⟩ := h
  cases r with
  | tup h1 r1 => exact ⟨_, _, rfl, SqT.le sim.im h1, by rw [← r1.length]; exact h.1, I, env, S, _, Qd, sim, er, r1, h.2, k⟩
  | _ => exact h.elim
/-- o[i] = .. -/
def fSet (o i x : D) (S : Sto) (Q : Sto → Prop) : Prop :=
  match o with
  | .ref a => (match S a with
    | some (.dK kvs) => (match keyOf i with
      | some k => kvs.length < sizeLine ∧ Q (su S a (.dK (dput kvs k x)))
      | none => False)
    | some (.lst xs) => (match i with
      | .int j => (match ixN xs.length j with
        | some n => Q (su S a (.lst (xs.set n x)))
        | none => False)
      | _ => False)
    | _ => False)
  | _ => False
theorem RKV.any {κ : Type} [DecidableEq κ] {K : PySem.W.Frag} {I : Hp} {xs : List (κ × D)} {ys : List (κ × V)} (r : RKV K I xs ys) (k : κ) : (xs.any fun kv => decide (kv.1 = k)) = ys.any fun kv => decide (kv.1 = k) := by
  induction r with
  | nil => rfl
  | cons h t ih => rw [List.any_cons, List.any_cons, ih, h.1]
theorem RKV.length {κ : Type} {K : PySem.W.Frag} {I : Hp} {xs : List (κ × D)} {ys : List (κ × V)} (r : RKV K I xs ys) : xs.length = ys.length := Paired.length r
theorem RKV.repl {κ : Type} [DecidableEq κ] {K : PySem.W.Frag} {I : Hp} {x : D} {v : V} (rx : RD K I x v) (k : κ) {xs : List (κ × D)} {ys : List (κ × V)} (r : RKV K I xs ys) :
    RKV K I (xs.map fun kv => if kv.1 = k then (kv.1, x) else kv) (ys.map fun kv => if kv.1 = k then (kv.1, v) else kv) := by
  induction r with
  | nil => exact .nil
  | @cons p q _ _ h t ih =>
    rw [List.map_cons, List.map_cons]
    refine .cons ?_ ih
    by_cases e : p.1 = k
    · rw [if_pos e, if_pos (h.1 ▸ e)]; exact ⟨h.1, rx⟩
    · rw [if_neg e, if_neg (h.1 ▸ e)]; exact h
theorem RKV.snoc {κ : Type} {K : PySem.W.Frag} {I : Hp} {x : D} {v : V} (rx : RD K I x v) (k : κ) {xs : List (κ × D)} {ys : List (κ × V)} (r : RKV K I xs ys) : RKV K I (xs ++ [(k, x)]) (ys ++ [(k, v)]) := by
  induction r with
  | nil => exact .cons ⟨rfl, rx⟩ .nil
  | cons h t ih => exact .cons h ih
theorem RKV.put {κ : Type} [DecidableEq κ] {K : PySem.W.Frag} {I : Hp} {x : D} {v : V} (rx : RD K I x v) (k : κ) {xs : List (κ × D)} {ys : List (κ × V)} (r : RKV K I xs ys) : RKV K I (dput xs k x) (putK ys k v) := by
  unfold dput putK
  rw [r.any k]
  split
  · exact r.repl rx k
  · exact r.snoc rx k
def rsetOf (K : PySem.W.Frag) (wi : Wi) : TSet := fun o i v H Q' => ∃ I S o' i' x Q, Sim K wi I S H ∧ RD K I o' o ∧ RD K I i' i ∧ RD K I x v ∧ fSet o' i' x S Q ∧ ∀ S' H', Ext I S H I S' H' → Sim K wi I S' H' → Q S' → Q' H'
theorem pSet (hu : X.A.units + 1 < cLine) : PSet X (rsetOf X.K wi) := by
  intro pins s σ H o i v ov iv uv Q' I ro ri rv ⟨Ih, S, o', i', x, Q, sim, rdo, rdi, rdx, h, k⟩
  unfold fSet at h
  split at h
  · cases rdo
    rename_i a
    split at h
    · rename_i kvs e0
      obtain ⟨us, ha, r1⟩ := st_dK sim e0
      split at h
      · rename_i key ek
        have ei := rdi.key ek
        subst ei
        cases ro
        obtain ⟨s2, e2⟩ := sim.wr (o := .dK (dput kvs key x)) (u := .dK (putK us key v)) e0 (show RKV X.K Ih _ _ from r1.put rdx key)
        exact d_setItem hu I (DPut.k ha (by rw [← r1.length]; exact h.1)) ri rv fun s' I' => ⟨_, I', k _ _ e2 s2 h.2⟩
      · exact h.elim
    · rename_i xs e0
      obtain ⟨us, ha, r1⟩ := st_lst sim e0
      split at h
      · cases rdi
        split at h
        · rename_i n en
          obtain ⟨s2, e2⟩ := sim.wr (o := .lst (xs.set n x)) (u := .lst (us.set n v)) e0 (show RDs X.K Ih _ _ from RDs.set rdx n r1)
          exact set_list pins s σ H _ _ _ _ _ _ Q' I ro ri rv ⟨a, us, _, n, rfl, rfl, ha, by rw [← r1.length]; exact en, k _ _ e2 s2 h⟩
        · exact h.elim
      · exact h.elim
    · exact h.elim
  · exact h.elim
def gSubD (to ti : DE) : DG := fun x env S Q => to env S fun o S1 => ti env S1 fun i S2 => fSet o i x S2 fun S3 => Q env S3
theorem mgSub {vs : List Nat} {o i : Expr} {to ti : DE} (hu : X.A.units + 1 < cLine) (ho : ME X wi o to) (hi : ME X wi i ti)
    (ha : ∀ v, assign (.Subscript o i pos) X.env v = (do
      let ov ← holding [v] (eval o X.env)
      let iv ← holding [v, ov] (eval i X.env)
      standAt pos
      holding [v, ov, iv] (setItem ov iv v)
      release [v, ov, iv] []) := by intro _; rfl) : MG X wi vs (.Subscript o i pos) (gSubD to ti) := PG.of (pg_sub ho hi (pSet hu) ha) fun v σ H Q h => by
  obtain ⟨I, env, S, x, Qd, sim, er, r, h, k⟩ := h
  refine ⟨I, env, S, _, sim, er, h, fun I1 w1 v1 S1 H1 e1 s1 r1 h1 => ?_⟩
  refine ⟨I1, env, S1, _, s1, er.le e1.le, h1, fun I2 w2 v2 S2 H2 e2 s2 r2 h2 => ?_⟩
  exact ⟨I2, S2, w1, w2, x, _, s2, r1.le e2.le, r2, (r.le e1.le).le e2.le, h2, fun S' H' e3 s3 q => k I2 env σ S' H' ((e1.trans e2).trans e3) s3 ((er.le e1.le).le e2.le) rfl q⟩
def sAsgG (te : DE) (g : DG) : DS := fun d env S => te env S fun x S1 => g x env S1 d.nx
theorem mAsg {vs : List Nat} {tg : Expr} {g : DG} (he : ME X wi e te) (hg : MG X wi vs tg g) (hs : swapsWithSole [tg] e pos.line X.env = pure false := by rfl) (hw : swappedStores [tg] e X.env = pure none := by rfl)
    (h1 : (assignEach [tg] X.env).map (·.2) = [assign tg X.env] := by rfl) : MS X wi (.Assign [tg] e pos) (sAsgG te g) := PS.of (ps_asg he hg hs hw h1) fun D σ H h => by
  obtain ⟨I, env, S, d, sim, er, h, k⟩ := h
  refine ⟨I, env, S, _, sim, er, h, fun I1 w1 v1 S1 H1 e1 s1 r1 h1 => ?_⟩
  exact ⟨I1, env, S1, w1, _, s1, er.le e1.le, r1, h1, fun I2 env2 σ2 S2 H2 e2 s2 er2 _ h2 => k.nx I2 env2 σ2 S2 H2 (e1.trans e2) s2 er2 h2⟩
theorem mSet (i : Nat) {x : Str} {pos' : Pos} (hN : X.N.Nodup) (he : ME X wi e te) (hi : X.N[i]? = some x := by rfl) (hx : Loc X.env.scope x := by first | exact Or.inl rfl | exact Or.inr rfl) (hs : swapsWith e (some (.Name x pos')) pos.line X.env = pure false := by rfl) (hf : X.fn x = true ∨ X.env.scope.names.lookup x = some .local := by first | exact .inl rfl | exact .inr rfl | assumption) :
    MS X wi (.Assign [.Name x pos'] e pos) (sAsg te i) := PS.of (ps_set hN hi hx he hs hf) fun D σ H h => by
  obtain ⟨I, env, S, d, sim, er, h, k⟩ := h
  refine ⟨I, env, S, _, sim, er, h, fun I1 w1 v1 S1 H1 e1 s1 r1 h1 => ?_⟩
  exact k.nx I1 _ _ S1 H1 e1 s1 ((er.le e1.le).set i r1) h1
/-- a, b = x, y with plain names -/
def sPar (i j : Nat) (t : DA) : DS := fun d env S => t env S fun ws S1 => match ws with
  | [v, w] => d.nx ((env.set i (some v)).set j (some w)) S1
  | _ => False
theorem mPar (i j : Nat) {x y : Str} {a b : Expr} {ta : DA} {px py pt : Pos} {kt k2 pt2} (hc : X.calm = true) (hN : X.N.Nodup) (ha : MA X wi [a, b] ta) (hi : X.N[i]? = some x := by rfl) (hj : X.N[j]? = some y := by rfl) (hij : i ≠ j := by decide)
    (hx : X.env.scope.names.lookup x = some .local := by rfl) (hy : X.env.scope.names.lookup y = some .local := by rfl)
    (hw : swappedStores [.Tuple [.Name x px, .Name y py] kt pt] (.Tuple [a, b] k2 pt2) X.env = pure (some [x, y]) := by rfl)
    (hs : swapsWithSole [.Tuple [.Name x px, .Name y py] kt pt] (.Tuple [a, b] k2 pt2) pos.line X.env = pure false := by rfl) :
    MS X wi (.Assign [.Tuple [.Name x px, .Name y py] kt pt] (.Tuple [a, b] k2 pt2) pos) (sPar i j ta) := PS.of (ps_par hc hN hi hj hij hx hy ha hw hs) fun D σ H h => by
  obtain ⟨I, env, S, d, sim, er, h, k⟩ := h
  refine ⟨I, env, S, _, sim, er, h, fun I1 ws vs S1 H1 e1 s1 r1 h1 => ?_⟩
  cases r1 with
  | nil => exact h1.elim
  | cons ra r1 =>
    cases r1 with
    | nil => exact h1.elim
    | cons rb r1 =>
      cases r1 with
      | cons _ _ => exact h1.elim
      | nil => exact ⟨_, _, rfl, k.nx I1 _ _ S1 H1 e1 s1 (((er.le e1.le).set i ra).set j rb) h1⟩
/-- name op= e -/
def sAug (i : Nat) (f : D → D → Sto → DK → Prop) (te : DE) : DS := fun d env S => match env[i]? with
  | some (some x) => te env S fun y S1 => f x y S1 fun z S2 => d.nx (env.set i (some z)) S2
  | _ => False
def fIAdd (x y : D) (S : Sto) (Q : DK) : Prop :=
  match x, y with
  | .int i, .int j => Q (.int (i + j)) S
  | _, _ => False
def fISub (x y : D) (S : Sto) (Q : DK) : Prop :=
  match x, y with
  | .int i, .int j => Q (.int (i - j)) S
  | _, _ => False
def ripOf (K : PySem.W.Frag) (wi : Wi) (g : D → D → Sto → DK → Prop) : TIp := fun v u H Q' => ∃ I S x y Q, Sim K wi I S H ∧ RD K I x v ∧ RD K I y u ∧ g x y S Q ∧ KQ K wi I S H Q Q'
theorem iAdd : PIp X .Add (ripOf X.K wi fIAdd) := by
  intro pins s σ H v u vv uu Q' I rv ru ⟨Ih, S, x, y, Q, sim, rx, ry, h, k⟩
  unfold fIAdd at h
  split at h
  · cases rx; cases ry
    exact ip_add pins s σ H _ _ _ _ Q' I rv ru ⟨_, _, rfl, rfl, k _ _ _ _ _ .refl sim (.int _) h⟩
  · exact h.elim
theorem iSub : PIp X .Sub (ripOf X.K wi fISub) := by
  intro pins s σ H v u vv uu Q' I rv ru ⟨Ih, S, x, y, Q, sim, rx, ry, h, k⟩
  unfold fISub at h
  split at h
  · cases rx; cases ry
    exact ip_sub pins s σ H _ _ _ _ Q' I rv ru ⟨_, _, rfl, rfl, k _ _ _ _ _ .refl sim (.int _) h⟩
  · exact h.elim
theorem mAug (i : Nat) {x : Str} {op : Operator} {g : D → D → Sto → DK → Prop} {pos' : Pos} (hN : X.N.Nodup) (ho : PIp X op (ripOf X.K wi g)) (he : ME X wi e te) (hi : X.N[i]? = some x := by rfl) (hx : Loc X.env.scope x := by first | exact Or.inl rfl | exact Or.inr rfl) (hf : X.fn x = true ∨ X.env.scope.names.lookup x = some .local := by first | exact .inl rfl | exact .inr rfl | assumption) :
    MS X wi (.AugAssign (.Name x pos') op e pos) (sAug i g te) := PS.of (ps_aug hN hi hx he ho hf) fun D σ H h => by
  obtain ⟨I, env, S, d, sim, er, h, k⟩ := h
  unfold sAug at h
  split at h
  · rename_i w hw
    obtain ⟨v, hv, r⟩ := er.at' i w hw
    refine ⟨v, hv, I, env, S, _, sim, er, h, fun I1 w1 v1 S1 H1 e1 s1 r1 h1 => ?_⟩
    refine ⟨I1, S1, w, w1, _, s1, r.le e1.le, r1, h1, fun I2 w2 v2 S2 H2 e2 s2 r2 h2 => ?_⟩
    exact k.nx I2 _ _ S2 H2 (e1.trans e2) s2 (((er.le e1.le).le e2.le).set i r2) h2
  · exact h.elim

/-! ### what a loop walks -/
structure ItD (K : PySem.W.Frag) (wi : Wi) (I0 : Hp) (J : It) (items : List D) (ok : Sto → Prop) : Prop where
  go : ∀ i I S H, Le I0 I → Sim K wi I S H → ok S → i < items.length → J.go i H
  yl : ∀ i I S H x H', Le I0 I → Sim K wi I S H → ok S → i < items.length → J.yld i H x H' → ∃ I' w, Ext I S H I' S H' ∧ Sim K wi I' S H' ∧ items[i]? = some w ∧ RD K I' w x
  st : ∀ I S H, Le I0 I → Sim K wi I S H → ok S → J.stop items.length H
theorem ItD.le {K : PySem.W.Frag} {I0 I1 : Hp} {J : It} {items : List D} {ok : Sto → Prop} (h : ItD K wi I0 J items ok) (l : Le I0 I1) : ItD K wi I1 J items ok :=
  ⟨fun i I S H l' => h.go i I S H (l.trans l'), fun i I S H x H' l' => h.yl i I S H x H' (l.trans l'), fun I S H l' => h.st I S H (l.trans l')⟩
abbrev DI := Env' → Sto → (List D → (Sto → Prop) → Sto → Prop) → Prop
def liftI (K : PySem.W.Frag) (wi : Wi) (t : DI) : TI := fun σ H R => ∃ I env S Q, Sim K wi I S H ∧ ER K I env σ ∧ t env S Q ∧ ∀ I' S' H' J items ok, Ext I S H I' S' H' → Sim K wi I' S' H' → ItD K wi I' J items ok → Q items ok S' → R J H'
abbrev MI (X : Cx) (wi : Wi) (tg iter : Expr) (t : DI) : Prop := PI X tg iter (liftI X.K wi t)
theorem PI.of {tg iter : Expr} {t t' : TI} (h : PI X tg iter t) (i : ∀ σ H Q, t' σ H Q → t σ H Q) : PI X tg iter t' := ⟨fun pins s σ H Q I hw => h.run pins s σ H Q I (i σ H Q hw)⟩
theorem itd_list {K : PySem.W.Frag} {I0 : Hp} {a : Addr} {items : List D} {ok : Sto → Prop} (h : ∀ I S H, Le I0 I → Sim K wi I S H → ok S → ∃ vs, H a = some (.lst vs) ∧ RDs K I items vs) : ItD K wi I0 (Itl K a) items ok where
  go := fun i I S H l sim o hi => by
    obtain ⟨vs, ha, r⟩ := h I S H l sim o
    obtain ⟨v, hv, _⟩ := r.get (List.getElem?_eq_getElem hi)
    exact ⟨vs, v, SqL.of ha, hv⟩
  yl := fun i I S H x H' l sim o hi y => by
    obtain ⟨vs, ha, r⟩ := h I S H l sim o
    obtain ⟨e, y⟩ := y
    subst e
    obtain ⟨w, hw, rw'⟩ := r.get' (y vs (SqL.of ha))
    exact ⟨I, w, .refl, sim, hw, rw'⟩
  st := fun I S H l sim o => by
    obtain ⟨vs, ha, r⟩ := h I S H l sim o
    exact ⟨vs, SqL.of ha, by rw [r.length]; exact Nat.le_refl _⟩
theorem itd_scr {K : PySem.W.Frag} {I0 : Hp} {a : Addr} {items : List D} {vs : List V} (ha : SqL K I0 a vs) (r : RDs K I0 items vs) : ItD K wi I0 (Itl K a) items (fun _ => True) where
  go := fun i I S H l sim o hi => by
    obtain ⟨v, hv, _⟩ := r.get (List.getElem?_eq_getElem hi)
    exact ⟨vs, v, SqL.le sim.im (SqL.le l ha), hv⟩
  yl := fun i I S H x H' l sim o hi y => by
    obtain ⟨e, y⟩ := y
    subst e
    obtain ⟨w, hw, rw'⟩ := r.get' (y vs (SqL.le sim.im (SqL.le l ha)))
    exact ⟨I, w, .refl, sim, hw, rw'.le l⟩
  st := fun I S H l sim o => ⟨vs, SqL.le sim.im (SqL.le l ha), by rw [r.length]; exact Nat.le_refl _⟩
theorem itd_tup {K : PySem.W.Frag} {I0 : Hp} {a : Addr} {items : List D} {vs : List V} (ha : SqT K I0 a vs) (r : RDs K I0 items vs) : ItD K wi I0 (Itt K a) items (fun _ => True) where
  go := fun i I S H l sim o hi => by
    obtain ⟨v, hv, _⟩ := r.get (List.getElem?_eq_getElem hi)
    exact ⟨vs, v, SqT.le sim.im (SqT.le l ha), hv⟩
  yl := fun i I S H x H' l sim o hi y => by
    obtain ⟨e, y⟩ := y
    subst e
    obtain ⟨w, hw, rw'⟩ := r.get' (y vs (SqT.le sim.im (SqT.le l ha)))
    exact ⟨I, w, .refl, sim, hw, rw'.le l⟩
  st := fun I S H l sim o => ⟨vs, SqT.le sim.im (SqT.le l ha), by rw [r.length]; exact Nat.le_refl _⟩
theorem itd_str {K : PySem.W.Frag} {I0 : Hp} (x : Str) : ItD K wi I0 (Its x) (x.cps.toList.map fun c => .str ⟨#[c]⟩) (fun _ => True) where
  go := fun i I S H l sim o hi => by
    show i < x.cps.size
    simpa using hi
  yl := fun i I S H v H' l sim o hi y => by
    obtain ⟨e, c, hc, hv⟩ := y
    subst e hv
    refine ⟨I, .str ⟨#[c]⟩, .refl, sim, ?_, .str _⟩
    rw [List.getElem?_map, Array.getElem?_toList, hc]; rfl
  st := fun I S H l sim o => by show x.cps.size ≤ _; simp
/-- a tuple, a list, a text -/
def dIt (t : DE) : DI := fun env S Q => t env S fun w S1 => match w with
  | .tup xs => Q xs (fun _ => True) S1
  | .lst xs => Q xs (fun _ => True) S1
  | .scr xs => Q xs (fun _ => True) S1
  | .str x => Q (x.cps.toList.map fun c => .str ⟨#[c]⟩) (fun _ => True) S1
  | .ref a => (match S1 a with
    | some (.lst xs) => Q xs (fun S => S a = some (.lst xs)) S1
    | _ => False)
  | _ => False
theorem mIt {tg : Expr} (he : ME X wi e te) : MI X wi tg e (dIt te) := by
  refine ⟨fun pins s σ H R I h => ?_⟩
  obtain ⟨Ih, env, S, Q, sim, er, h, k⟩ := h
  refine thn (he.run pins s σ H (fun v H1 => ∃ I1 w S1, Ext Ih S H I1 S1 H1 ∧ Sim X.K wi I1 S1 H1 ∧ RD X.K I1 w v ∧ (match w with
    | .tup xs => Q xs (fun _ => True) S1
    | .lst xs => Q xs (fun _ => True) S1
    | .scr xs => Q xs (fun _ => True) S1
    | .str x => Q (x.cps.toList.map fun c => .str ⟨#[c]⟩) (fun _ => True) S1
    | .ref a => (match S1 a with
      | some (.lst xs) => Q xs (fun S => S a = some (.lst xs)) S1
      | _ => False)
    | _ => False)) I ⟨Ih, env, S, _, sim, er, h, fun I1 w1 v1 S1 H1 e1 s1 r1 h1 => ⟨I1, w1, S1, e1, s1, r1, h1⟩⟩) fun u s1 ⟨v, H1, J1, ru, I1, w, S1, e1, sm1, r1, h1⟩ => ?_
  have lst : ∀ {a : Addr} {vs : List V}, SqL X.K H1 a vs → u = .ref a → R (Itl X.K a) H1 → wpAny (model X.prog X.w) X.A (pyIter u) (PIE X pins σ tg R) X.xe s1 := fun {a vs} hq e q => by
    subst e
    obtain ⟨its, rv, p, hz⟩ := J1.list hq
    refine wpAny_pyIter_list p.isList ⟨s1.heap.objs.size, [s1.heap.objs.size], _, _, H1, rfl, J1.kept (t' := s1.toks) fun b o e => Heap.get?_push_of_some _ e, turn_list a _, ⟨_, Heap.get?_push_size _ rfl, rfl, rfl⟩, fun b hb => ?_, q⟩
    have e : b = s1.heap.objs.size := by simpa using hb
    subst e
    exact J1.fpOk (Nat.le_refl _) (J1.hok.fresh (Nat.le_refl _))
  cases r1 with
  | tup g1 r1 =>
    rename_i a xs vs
    cases ru
    obtain ⟨its, rv, p, hz⟩ := J1.tuple (SqT.le sm1.im g1)
    refine wpAny_pyIter_tuple (show s1.heap.IsTuple a its.toArray from p) ⟨s1.heap.objs.size, [s1.heap.objs.size], _, _, H1, rfl, J1.kept (t' := s1.toks) fun b o e => Heap.get?_push_of_some _ e, turn_tuple a _, ⟨_, Heap.get?_push_size _ rfl, rfl, rfl⟩, fun b hb => ?_, k _ _ _ _ _ _ e1 sm1 (itd_tup g1 r1) h1⟩
    have e : b = s1.heap.objs.size := by simpa using hb
    subst e
    exact J1.fpOk (Nat.le_refl _) (J1.hok.fresh (Nat.le_refl _))
  | lst g1 r1 =>
    cases ru
    exact lst (SqL.of (sm1.im _ _ g1)) rfl (k _ _ _ _ _ _ e1 sm1 (itd_list fun I S H l sim _ => ⟨_, sim.im _ _ (l _ _ g1), r1.le l⟩) h1)
  | scr g1 r1 =>
    cases ru
    exact lst (SqL.le sm1.im g1) rfl (k _ _ _ _ _ _ e1 sm1 (itd_scr g1 r1) h1)
  | str x =>
    obtain ⟨t, rfl⟩ := ru
    have q : R (Its x) H1 := k _ _ _ _ _ _ e1 sm1 (itd_str x) h1
    cases ha : x.cps.all (· < 128)
    · exact wpAny_pyIter_wide ha (pi_one (tk := s1.toks) J1 _ (turn_str _ x t "str_iterator" (.inr rfl)) ⟨_, Heap.get?_push_size _ rfl, rfl, rfl⟩ q)
    · exact wpAny_pyIter_ascii ha (pi_one (tk := s1.toks) J1 _ (turn_str _ x t "str_ascii_iterator" (.inl rfl)) ⟨_, Heap.get?_push_size _ rfl, rfl, rfl⟩ q)
  | ref a =>
    have h1' : (match S1 a with | some (.lst xs) => Q xs (fun S => S a = some (.lst xs)) S1 | _ => False) := h1
    split at h1'
    · rename_i xs e0
      obtain ⟨vs, ha, r⟩ := st_lst sm1 e0
      cases ru
      exact lst (SqL.of ha) rfl (k _ _ _ _ _ _ e1 sm1 (itd_list fun I S H l sim o => st_lst sim o) h1')
    · exact h1'.elim
  | _ => exact h1.elim
end
end DL


set_option Elab.async false
set_option linter.all false
set_option maxRecDepth 100000
set_option maxHeartbeats 4000000
namespace DL
open PySem PySem.Spec PyProof.Rows L2

section
variable {X : Cx} {tg iter e a b : Expr} {te ta tb : DE} {t : DA} {pos p : Pos}
/-! ### range -/
theorem itd_range {K : PySem.W.Frag} {I0 : Hp} (lo : Int) (n : Nat) : ItD K wi I0 (Itr lo n) ((List.range n).map fun k : Nat => .int (lo + k)) (fun _ => True) where
  go := fun i I S H l sim o hi => by
    show i < n
    simpa using hi
  yl := fun i I S H v H' l sim o hi y => by
    obtain ⟨e, hv⟩ := y
    subst e hv
    have hi' : i < n := by simpa using hi
    refine ⟨I, .int (lo + i), .refl, sim, ?_, .int _⟩
    rw [List.getElem?_map, List.getElem?_range hi']; rfl
  st := fun I S H l sim o => by show n ≤ _; simp
def dRng1 (t : DA) : DI := fun env S Q => t env S fun xs S1 => match xs with
  | [.int j] => (-(2 ^ 62) ≤ j ∧ j < 2 ^ 62) ∧ Q ((List.range j.toNat).map fun k : Nat => .int k) (fun _ => True) S1
  | _ => False
def dRng2 (t : DA) : DI := fun env S Q => t env S fun xs S1 => match xs with
  | [.int i, .int j] => (-(2 ^ 62) ≤ i ∧ i < 2 ^ 62 ∧ -(2 ^ 62) ≤ j ∧ j < 2 ^ 62) ∧ Q ((List.range (j - i).toNat).map fun k : Nat => .int (i + k)) (fun _ => True) S1
  | _ => False
theorem mRng1 (hm : X.mg "range" = none) (ha : MA X wi [a] t) (hg : Gl X "range" := by rfl) (hs : starEach [a] X.env = [(false, eval a X.env)] := by rfl) : MI X wi tg (.Call (.Name "range" p) [a] [] pos) (dRng1 t) := PI.of (pi_range1 hg hm ha hs) fun σ H R h => by
  obtain ⟨I, env, S, Q, sim, er, h, k⟩ := h
  refine ⟨I, env, S, _, sim, er, h, fun I1 ws vs S1 H1 e1 s1 r1 h1 => ?_⟩
  split at h1
  · rename_i j
    cases r1 with
    | cons ra r1 =>
      cases r1
      cases ra
      have z := itd_range (K := X.K) (wi := wi) (I0 := I1) 0 j.toNat
      simp only [Int.zero_add] at z
      exact ⟨j, rfl, h1.1.1, h1.1.2, k _ _ _ _ _ _ e1 s1 z h1.2⟩
  · exact h1.elim
theorem mRng2 (hm : X.mg "range" = none) (ha : MA X wi [a, b] t) (hg : Gl X "range" := by rfl) (hs : starEach [a, b] X.env = [(false, eval a X.env), (false, eval b X.env)] := by rfl) (hs2 : starEach [b] X.env = [(false, eval b X.env)] := by rfl) : MI X wi tg (.Call (.Name "range" p) [a, b] [] pos) (dRng2 t) := PI.of (pi_range2 hg hm ha hs hs2) fun σ H R h => by
  obtain ⟨I, env, S, Q, sim, er, h, k⟩ := h
  refine ⟨I, env, S, _, sim, er, h, fun I1 ws vs S1 H1 e1 s1 r1 h1 => ?_⟩
  split at h1
  · rename_i i j
    cases r1 with
    | cons ra r1 =>
      cases r1 with
      | cons rb r1 =>
        cases r1
        cases ra
        cases rb
        exact ⟨i, j, rfl, h1.1, k _ _ _ _ _ _ e1 s1 (itd_range i (j - i).toNat) h1.2⟩
  · exact h1.elim

/-! ### for -/
def sLoop (g : DG) (body : DS) (d : DEnds) (ok : Sto → Prop) : List D → Env' → Sto → Prop
  | [], env, S => ok S ∧ d.nx env S
  | x :: r, env, S => ok S ∧ g x env S fun env2 S2 => body { d with nx := sLoop g body d ok r, ct := sLoop g body d ok r, bk := d.nx } env2 S2
def sFor (it : DI) (g : DG) (body : DS) : DS := fun d env S => it env S fun items ok S1 => sLoop g body d ok items env S1
theorem KD.loop {K : PySem.W.Frag} {I H : Hp} {S : Sto} {d : DEnds} {D' : Ends} (k : KD K wi I S H d D') {N : Env' → Sto → Prop} {N' : L2.St → Hp → Prop} (kn : KN K wi I S H N N') :
    KD K wi I S H { d with nx := N, ct := N, bk := d.nx } { D' with nx := N', ct := N', bk := D'.nx } := ⟨kn, k.rt, k.nx, kn⟩
theorem mFor {vs : List Nat} {it : DI} {g : DG} {body : List Stmt} {tb : DS} (hp : PassesOwn (model X.prog X.w) X.A X.env X.xe) (hc : X.calm = true) (hi : MI X wi tg iter it) (hg : MG X wi vs tg g) (hb : MSs X wi body tb)
    (hs : ∀ x, foldedSetIterable iter X.env x = pure x := by intro _; rfl) : MS X wi (.For tg iter body [] pos) (sFor it g tb) := PS.of (ps_for hp hc hi hg hb hs) fun D σ H h => by
  obtain ⟨I, env, S, d, sim, er, h, k⟩ := h
  refine ⟨I, env, S, _, sim, er, h, fun I1 S1 H1 J items ok e1 s1 hit h1 => ?_⟩
  refine ⟨fun i m σ H => m = items.length - i ∧ i ≤ items.length ∧ ∃ I2 env2 S2, Ext I1 S1 H1 I2 S2 H ∧ Sim X.K wi I2 S2 H ∧ ER X.K I2 env2 σ ∧ sLoop g tb d ok (items.drop i) env2 S2,
    ⟨items.length, by simp, Nat.zero_le _, I1, env, S1, .refl, s1, er.le e1.le, h1⟩, ?_⟩
  rintro i m σ H ⟨rfl, hi, I2, env2, S2, e2, s2, er2, h2⟩
  by_cases hlt : i < items.length
  · have hd : items.drop i = items[i] :: items.drop (i + 1) := List.drop_eq_getElem_cons hlt
    rw [hd] at h2
    obtain ⟨o2, h2⟩ := h2
    refine .inr ⟨hit.go i I2 S2 H e2.le s2 o2 hlt, fun σ' H' => ∃ I3 env3 S3, Ext I1 S1 H1 I3 S3 H' ∧ Sim X.K wi I3 S3 H' ∧ ER X.K I3 env3 σ' ∧ sLoop g tb d ok (items.drop (i + 1)) env3 S3,
      fun σ' H' q => ⟨items.length - (i + 1), by omega, rfl, hlt, q⟩, fun x H' y => ?_⟩
    obtain ⟨I3, w, e3, s3, hw, rw'⟩ := hit.yl i I2 S2 H x H' e2.le s2 o2 hlt y
    rw [List.getElem?_eq_getElem hlt] at hw
    cases hw
    refine ⟨I3, env2, S2, items[i], _, s3, er2.le e3.le, rw', h2, fun I4 env4 σ4 S4 H4 e4 s4 er4 _ h4 => ?_⟩
    have e14 := (e2.trans e3).trans e4
    exact ⟨I4, env4, S4, _, s4, er4, h4, (k.ext (e1.trans e14)).loop fun I5 env5 σ5 S5 H5 e5 s5 er5 h5 => ⟨I5, env5, S5, e14.trans e5, s5, er5, h5⟩⟩
  · have e : i = items.length := by omega
    subst e
    rw [List.drop_length] at h2
    obtain ⟨o2, h2⟩ := h2
    exact .inl ⟨hit.st I2 S2 H e2.le s2 o2, k.nx I2 env2 σ S2 H (e1.trans e2) s2 er2 h2⟩

/-! ### while: by a word W of a measure, the names and the store -/
def sWhile (c : DT) (tb : DS) : DS := fun d env S => ∃ W : Nat → Env' → Sto → Prop, (∃ m, W m env S) ∧ ∀ m env S, W m env S →
  c env S fun b S1 => if b = true then tb { d with nx := fun env' S' => ∃ m', m' < m ∧ W m' env' S', ct := fun env' S' => ∃ m', m' < m ∧ W m' env' S', bk := d.nx } env S1 else d.nx env S1
theorem mWhile {c : Expr} {body : List Stmt} {tc : DT} {tb : DS} (hp : PassesOwn (model X.prog X.w) X.A X.env X.xe) (hc : MT X wi c tc) (hb : MSs X wi body tb) : MS X wi (.While c body [] pos) (sWhile tc tb) := PS.of (ps_while hp hc hb) fun D σ H h => by
  obtain ⟨I, env, S, d, sim, er, ⟨W, ⟨m0, w0⟩, turn⟩, k⟩ := h
  refine ⟨fun m σ H' => ∃ I2 env2 S2, Ext I S H I2 S2 H' ∧ Sim X.K wi I2 S2 H' ∧ ER X.K I2 env2 σ ∧ W m env2 S2, ⟨m0, I, env, S, .refl, sim, er, w0⟩, ?_⟩
  rintro m σ H1 ⟨I2, env2, S2, e2, s2, er2, w2⟩
  refine ⟨I2, env2, S2, _, s2, er2, turn m env2 S2 w2, fun I3 b S3 H3 e3 s3 h3 => ?_⟩
  have e13 := e2.trans e3
  cases b
  · exact k.nx I3 env2 σ S3 H3 e13 s3 (er2.le e3.le) h3
  · refine ⟨fun σ' H' => ∃ m', m' < m ∧ ∃ I4 env4 S4, Ext I S H I4 S4 H' ∧ Sim X.K wi I4 S4 H' ∧ ER X.K I4 env4 σ' ∧ W m' env4 S4, fun σ' H' q => q, ?_⟩
    exact ⟨I3, env2, S3, _, s3, er2.le e3.le, h3, (k.ext e13).loop fun I5 env5 σ5 S5 H5 e5 s5 er5 ⟨m', hm, w5⟩ => ⟨m', hm, I5, env5, S5, e13.trans e5, s5, er5, w5⟩⟩

/-! ### list comprehensions -/
def wipeD (env : Env') : List Nat → Env'
  | [] => env
  | v :: vs => (wipeD env vs).set v none
theorem ER.wipe {K : PySem.W.Frag} {I : Hp} {env : Env'} {σ : L2.St} (h : ER K I env σ) : ∀ vs : List Nat, ER K I (wipeD env vs) (L2.wipe σ vs)
  | [] => h
  | v :: vs => by
    have ih := ER.wipe h vs
    refine ⟨by show ((wipeD env vs).set v none).length = ((L2.wipe σ vs).set v none).length; rw [List.length_set, List.length_set]; exact ih.len, fun j x e => ?_⟩
    have e' : ((wipeD env vs).set v none)[j]? = some (some x) := e
    show ∃ w, ((L2.wipe σ vs).set v none)[j]? = some (some w) ∧ RD K I x w
    by_cases hj : v = j
    · subst hj
      by_cases hl : v < (wipeD env vs).length
      · rw [List.getElem?_set_self hl] at e'; cases e'
      · rw [List.getElem?_eq_none (by simpa using hl)] at e'; cases e'
    · rw [List.getElem?_set_ne hj] at e'
      rw [List.getElem?_set_ne hj]
      exact ih.at' j x e'
def cLoop (g : DG) (tt : DT) (te : DE) (env : Env') (ok : Sto → Prop) (Q : List D → Sto → Prop) : List D → List D → Sto → Prop
  | [], acc, S => ok S ∧ Q acc S
  | x :: r, acc, S => ok S ∧ g x env S fun env2 S2 => tt env2 S2 fun b S3 => if b = true then te env2 S3 fun y S4 => acc.length < sizeLine ∧ cLoop g tt te env ok Q r (acc ++ [y]) S4 else cLoop g tt te env ok Q r acc S3
def dTrue : DT := fun _ S Q => Q true S
/-- a list that is never changed; dLcR: one that may be -/
def dLc (it : DI) (g : DG) (tt : DT) (te : DE) (vs : List Nat) : DE := fun env S Q => it env S fun items ok S1 => cLoop g tt te (wipeD env vs) ok (fun acc S2 => Q (.lst acc) S2) items [] S1
def dLcR (it : DI) (g : DG) (tt : DT) (te : DE) (vs : List Nat) : DE := fun env S Q => it env S fun items ok S1 => cLoop g tt te (wipeD env vs) ok (fun acc S2 => ∀ p, S2 p = none → Q (.ref p) (su S2 p (.lst acc))) items [] S1
abbrev MTs (X : Cx) (wi : Wi) (ifs : List Expr) (t : DT) : Prop := PTs X ifs (liftT X.K wi t)
theorem mTs0 : MTs X wi [] dTrue := ⟨fun pins s σ H Q I h => pts_nil.run pins s σ H Q I (by
  obtain ⟨Ih, env, S, Qd, sim, er, h, k⟩ := h
  exact k Ih true S H .refl sim h)⟩
theorem mTs1 {c : Expr} {t : DT} (h : MT X wi c t) : MTs X wi [c] t := pts_one h
section
variable {elt : Expr} {ifs : List Expr} {scope : Scope} {own : List (Str × Nat)} {it : DI} {g : DG} {tt : DT}
theorem lift_lc {K : PySem.W.Frag} {R : Bool} {σ : L2.St} {H : Hp} {Q' : VK} {vs : List Nat} (h : lift K wi (if R = true then dLcR it g tt te vs else dLc it g tt te vs) σ H Q') : tLc (liftI K wi it) (liftG K wi vs g) (liftT K wi tt) (lift K wi te) vs σ H Q' := by
  obtain ⟨I, env, S, Q, sim, er, h, k⟩ := h
  have h : it env S fun items ok S1 => cLoop g tt te (wipeD env vs) ok (fun acc S2 => if R = true then ∀ p, S2 p = none → Q (.ref p) (su S2 p (.lst acc)) else Q (.lst acc) S2) items [] S1 := by
    cases R <;> simpa [dLc, dLcR] using h
  refine ⟨I, env, S, _, sim, er, h, fun I1 S1 H1 J items ok e1 s1 hit h1 => fun L hL => ?_⟩
  -- the new list stands at L, within neither part
  have hI1 : I1 L = none := s1.free hL
  have hS1 : S1 L = none := by
    cases q : S1 L with
    | none => rfl
    | some u =>
      obtain ⟨_, v, _, hv⟩ := s1.st L u q
      rw [hL] at hv; cases hv
  refine ⟨fun i m H => m = items.length - i ∧ i ≤ items.length ∧ ∃ I2 S2 acc vacc, Ext I1 S1 (upd H1 L (.lst [])) I2 S2 (upd H L (.lst [])) ∧ Sim K wi I2 S2 H ∧ H L = some (.lst vacc) ∧ RDs K I2 acc vacc ∧ S2 L = none ∧ I2 L = none ∧
      cLoop g tt te (wipeD env vs) ok (fun acc S2 => if R = true then ∀ p, S2 p = none → Q (.ref p) (su S2 p (.lst acc)) else Q (.lst acc) S2) (items.drop i) acc S2,
    ⟨items.length, by simp, Nat.zero_le _, I1, S1, [], [], by rw [upd_upd]; exact .refl, ?_, upd_same, .nil, hS1, hI1, h1⟩, ?_⟩
  · refine ⟨⟨fun a o q => ?_, fun a o q => ?_⟩, s1.kx.ext ⟨.refl, fun a o q k => ⟨by rw [upd_ne (ne_of_none q hL)]; exact q, k, rfl⟩⟩⟩
    · rw [upd_ne (ne_of_none q hI1)]; exact s1.im a o q
    · obtain ⟨z1, u, z2, z3⟩ := s1.st a o q
      exact ⟨z1, u, z2, by rw [upd_ne (ne_of_none z3 hL)]; exact z3⟩
  rintro i m H ⟨rfl, hi, I2, S2, acc, vacc, e2, s2, hLc, racc, hSL, hIL, h2⟩
  -- what stays of H1 does so behind
  have fwd : ∀ {I3 S3 H3}, Ext I2 S2 H I3 S3 H3 → Ext I1 S1 (upd H1 L (.lst [])) I3 S3 (upd H3 L (.lst [])) := fun {I3 S3 H3} e3 => by
    refine ⟨e2.le.trans e3.le, fun a o q k => ?_⟩
    by_cases ha : a = L
    · subst ha
      obtain ⟨_, z2, z3⟩ := e3.fr a _ hLc hSL
      rw [upd_same] at q
      exact ⟨by rw [upd_same]; exact q, z2, by rw [z3, hIL, hI1]⟩
    · obtain ⟨y1, y2, y3⟩ := e2.fr a o q k
      rw [upd_ne ha] at y1
      obtain ⟨z1, z2, z3⟩ := e3.fr a o y1 y2
      exact ⟨by rw [upd_ne ha]; exact z1, z2, z3.trans y3⟩
  have out : ∀ {I3 S3 H3 w}, Ext I1 S1 (upd H1 L (.lst [])) I3 S3 (upd H3 L (.lst [])) → H3 L = some w → I3 L = none → Ext I1 S1 H1 I3 S3 H3 := fun {I3 S3 H3 w} e3 hw hi3 => by
    refine ⟨e3.le, fun a o q k => ?_⟩
    have ha : a ≠ L := ne_of_none q hL
    obtain ⟨z1, z2, z3⟩ := e3.fr a o (by rw [upd_ne ha]; exact q) k
    rw [upd_ne ha] at z1
    exact ⟨z1, z2, z3⟩
  by_cases hlt : i < items.length
  · have hd : items.drop i = items[i] :: items.drop (i + 1) := List.drop_eq_getElem_cons hlt
    rw [hd] at h2
    obtain ⟨o2, h2⟩ := h2
    refine .inr ⟨hit.go i I2 S2 H e2.le s2 o2 hlt, fun H' => ∃ I3 S3 acc3 vacc3, Ext I1 S1 (upd H1 L (.lst [])) I3 S3 (upd H' L (.lst [])) ∧ Sim K wi I3 S3 H' ∧ H' L = some (.lst vacc3) ∧ RDs K I3 acc3 vacc3 ∧ S3 L = none ∧ I3 L = none ∧
        cLoop g tt te (wipeD env vs) ok (fun acc S2 => if R = true then ∀ p, S2 p = none → Q (.ref p) (su S2 p (.lst acc)) else Q (.lst acc) S2) (items.drop (i + 1)) acc3 S3,
      fun H' q => ⟨items.length - (i + 1), by omega, rfl, hlt, q⟩, fun x H' y => ?_⟩
    obtain ⟨I3, w, e3, s3, hw, rw'⟩ := hit.yl i I2 S2 H x H' e2.le s2 o2 hlt y
    rw [List.getElem?_eq_getElem hlt] at hw
    cases hw
    refine ⟨I3, wipeD env vs, S2, items[i], _, s3, ((er.le e1.le).le (e2.le.trans e3.le)).wipe vs, rw', h2, fun I4 env4 σ4 S4 H4 e4 s4 er4 w4 h4 => ⟨w4.trans (by
      -- wiping twice is wiping once
      have wp : ∀ (ws : List Nat) (τ : L2.St), (∀ v ∈ ws, v ∈ vs) → L2.wipe (L2.wipe τ vs) ws = L2.wipe τ vs := by
        intro ws
        induction ws with
        | nil => intro τ _; rfl
        | cons v ws ih =>
          intro τ hv
          show (L2.wipe (L2.wipe τ vs) ws).set v none = L2.wipe τ vs
          rw [ih τ fun u hu => hv u (List.mem_cons_of_mem _ hu)]
          have hv' : v ∈ vs := hv v (List.mem_cons_self ..)
          have at_none : ∀ (us : List Nat), v ∈ us → (L2.wipe τ us).set v none = L2.wipe τ us := by
            intro us
            induction us with
            | nil => intro z; cases z
            | cons u us ih2 =>
              intro hz
              show ((L2.wipe τ us).set u none).set v none = (L2.wipe τ us).set u none
              by_cases huv : v = u
              · subst huv; rw [List.set_set]
              · rw [List.set_comm _ _ (Ne.symm huv), ih2 ((List.mem_cons.mp hz).resolve_left huv)]
          exact at_none vs hv'
      exact wp vs σ fun v h => h), ?_⟩⟩
    refine ⟨I4, env4, S4, _, s4, er4, h4, fun I5 b S5 H5 e5 s5 h5 => ?_⟩
    have e25 := (e3.trans e4).trans e5
    obtain ⟨hL5, hS5, hI5⟩ := e25.fr L _ hLc hSL
    cases b
    · exact ⟨I5, S5, acc, vacc, fwd e25, s5, hL5, racc.le e25.le, hS5, by rw [hI5]; exact hIL, h5⟩
    · refine ⟨I5, env4, S5, _, s5, er4.le e5.le, h5, fun I6 y v S6 H6 e6 s6 r6 h6 => ?_⟩
      have e26 := e25.trans e6
      obtain ⟨hL6, hS6, hI6⟩ := e26.fr L _ hLc hSL
      refine ⟨vacc, hL6, by rw [← racc.length]; exact h6.1, ?_⟩
      refine ⟨I6, S6, acc ++ [y], vacc ++ [v], ?_, ?_, upd_same, (racc.le e26.le).append (.cons r6 .nil), hS6, by rw [hI6]; exact hIL, h6.2⟩
      · rw [upd_upd]; exact fwd e26
      · refine ⟨⟨fun a o q => ?_, fun a o q => ?_⟩, s1.kx.ext ⟨(fwd e26).le, fun a o q k => ?_⟩⟩
        rotate_left 2
        · have ha : a ≠ L := ne_of_none q hL
          obtain ⟨z1, z2, z3⟩ := (fwd e26).fr a o (by rw [upd_ne ha]; exact q) k
          rw [upd_ne ha] at z1
          exact ⟨by rw [upd_ne ha]; exact z1, z2, z3⟩
        · rw [upd_ne (ne_of_none q (by rw [hI6]; exact hIL))]; exact s6.im a o q
        · obtain ⟨z1, u, z2, z3⟩ := s6.st a o q
          refine ⟨z1, u, z2, ?_⟩
          rw [upd_ne (by rintro rfl; rw [hS6] at q; cases q)]; exact z3
  · have e : i = items.length := by omega
    subst e
    rw [List.drop_length] at h2
    obtain ⟨o2, h2⟩ := h2
    refine .inl ⟨hit.st I2 S2 H e2.le s2 o2, ?_⟩
    have eo := out e2 hLc hIL
    cases R
    · -- it is data from now on
      have le : Le I2 (upd I2 L (.lst vacc)) := fun a o q => by rw [upd_ne (ne_of_none q hIL)]; exact q
      have ex : Ext I1 S1 H1 (upd I2 L (.lst vacc)) S2 H := ⟨eo.le.trans le, fun a o q z => by
        obtain ⟨z1, z2, z3⟩ := eo.fr a o q z
        exact ⟨z1, z2, by rw [upd_ne (ne_of_none q hL)]; exact z3⟩⟩
      refine k (upd I2 L (.lst vacc)) (.lst acc) _ S2 H (e1.trans ex) ⟨⟨fun a o q => ?_, fun a o q => ?_⟩, s1.kx.ext ex⟩ (.lst upd_same (racc.le le)) (by simpa using h2)
      · by_cases ha : a = L
        · subst ha; rw [upd_same] at q; cases q; exact hLc
        · rw [upd_ne ha] at q; exact s2.im a o q
      · obtain ⟨z1, u, z2, z3⟩ := s2.st a o q
        exact ⟨by rw [upd_ne (by rintro rfl; rw [hSL] at q; cases q)]; exact z1, u, z2.le le, z3⟩
    · -- it may be changed
      have h2' : ∀ p, S2 p = none → Q (.ref p) (su S2 p (.lst acc)) := by simpa using h2
      have ex : Ext I1 S1 H1 I2 (su S2 L (.lst acc)) H := ⟨eo.le, fun a o q z => by
        obtain ⟨z1, z2, z3⟩ := eo.fr a o q z
        exact ⟨z1, by rw [su_ne (ne_of_none q hL)]; exact z2, z3⟩⟩
      refine k I2 (.ref L) _ (su S2 L (.lst acc)) H (e1.trans ex) ⟨⟨s2.im, fun a o q => ?_⟩, s1.kx.ext ex⟩ (.ref L) (h2' L hSL)
      by_cases ha : a = L
      · subst ha; rw [su_same] at q; cases q; exact ⟨hIL, .lst vacc, racc, hLc⟩
      · rw [su_ne ha] at q; exact s2.st a o q
theorem mLc (hc : X.calm = true) (hN : X.N.Nodup) (hi : MI X wi tg iter it) (ok : BlkOk X.N X.env.scope scope own)
    (hg : ∀ (s : Shared) (H : Hp) (C : Addr) (cl : List (Str × Addr)) (fp : List Addr), MG (X.blk s H scope (compEnvC scope cl C X.env) fp) wi (own.map (·.2)) tg g) (ht : ∀ (s : Shared) (H : Hp) (C : Addr) (cl : List (Str × Addr)) (fp : List Addr), MTs (X.blk s H scope (compEnvC scope cl C X.env) fp) wi ifs tt)
    (he : ∀ (s : Shared) (H : Hp) (C : Addr) (cl : List (Str × Addr)) (fp : List Addr), ME (X.blk s H scope (compEnvC scope cl C X.env) fp) wi elt te) (hs : ∀ x, foldedSetIterable iter X.env x = pure x := by intro _; rfl) :
    ME X wi (.ListComp elt [⟨tg, iter, ifs, 0⟩] scope pos) (dLc it g tt te (own.map (·.2))) :=
  PE.of (pe_lc hc hN hi ok hg ht he hs) fun σ H Q h => lift_lc (R := false) h
theorem mLcR (hc : X.calm = true) (hN : X.N.Nodup) (hi : MI X wi tg iter it) (ok : BlkOk X.N X.env.scope scope own)
    (hg : ∀ (s : Shared) (H : Hp) (C : Addr) (cl : List (Str × Addr)) (fp : List Addr), MG (X.blk s H scope (compEnvC scope cl C X.env) fp) wi (own.map (·.2)) tg g) (ht : ∀ (s : Shared) (H : Hp) (C : Addr) (cl : List (Str × Addr)) (fp : List Addr), MTs (X.blk s H scope (compEnvC scope cl C X.env) fp) wi ifs tt)
    (he : ∀ (s : Shared) (H : Hp) (C : Addr) (cl : List (Str × Addr)) (fp : List Addr), ME (X.blk s H scope (compEnvC scope cl C X.env) fp) wi elt te) (hs : ∀ x, foldedSetIterable iter X.env x = pure x := by intro _; rfl) :
    ME X wi (.ListComp elt [⟨tg, iter, ifs, 0⟩] scope pos) (dLcR it g tt te (own.map (·.2))) :=
  PE.of (pe_lc hc hN hi ok hg ht he hs) fun σ H Q h => lift_lc (R := true) h
/-- name = [..] on one line -/
theorem mSetLc (R : Bool) (i : Nat) {y : Str} {py spos : Pos} (hc : X.calm = true) (hN : X.N.Nodup) (hsw : swapsWith (.ListComp elt [⟨tg, iter, ifs, 0⟩] scope pos) (some (.Name y py)) spos.line X.env = pure true) (hi : MI X wi tg iter it) (ok : BlkOk X.N X.env.scope scope own)
    (hg : ∀ (s : Shared) (H : Hp) (C : Addr) (cl : List (Str × Addr)) (fp : List Addr), MG (X.blk s H scope (compEnvC scope cl C X.env) fp) wi (own.map (·.2)) tg g) (ht : ∀ (s : Shared) (H : Hp) (C : Addr) (cl : List (Str × Addr)) (fp : List Addr), MTs (X.blk s H scope (compEnvC scope cl C X.env) fp) wi ifs tt)
    (he : ∀ (s : Shared) (H : Hp) (C : Addr) (cl : List (Str × Addr)) (fp : List Addr), ME (X.blk s H scope (compEnvC scope cl C X.env) fp) wi elt te) (hy : X.N[i]? = some y := by rfl) (hyl : X.env.scope.names.lookup y = some .local := by rfl) (hs : ∀ x, foldedSetIterable iter X.env x = pure x := by intro _; rfl) :
    MS X wi (.Assign [.Name y py] (.ListComp elt [⟨tg, iter, ifs, 0⟩] scope pos) spos) (sAsg (if R = true then dLcR it g tt te (own.map (·.2)) else dLc it g tt te (own.map (·.2))) i) := PS.of (ps_setLc hc hN hy hyl hsw hi ok hg ht he hs) fun D σ H h => by
  obtain ⟨I, env, S, d, sim, er, h, k⟩ := h
  refine lift_lc (R := R) ⟨I, env, S, _, sim, er, h, fun I1 w1 v1 S1 H1 e1 s1 r1 h1 => ?_⟩
  exact k.nx I1 _ _ S1 H1 e1 s1 ((er.le e1.le).set i r1) h1
end
end
end DL


set_option Elab.async false
set_option linter.all false
set_option maxRecDepth 100000
set_option maxHeartbeats 4000000
namespace DL
open PySem PySem.Spec PyProof.Rows L2

/-! ### what a def promises, over data -/
/-- arguments, store, wish of the value and store, wish of an exception -/
abbrev DSp := List D → Sto → DK → XD → Prop
def liftSp (K : PySem.W.Frag) (sp : DSp) : Sp := fun vs H Q' E' => ∃ I S ws Q E, Sim K ⟨E, E'⟩ I S H ∧ RDs K I ws vs ∧ sp ws S Q E ∧ KQ K ⟨E, E'⟩ I S H Q Q'
/-- a def keeps a promise, where no repr is under way -/
structure FnG (P : Program) (w : World) (K : PySem.W.Frag) (mg : Str → Option Value) (base : Heap) (CX : CXT) (k : Nat) (f : Addr) (fd : FuncData) (ps : List Str) (sp : DSp) : Prop where
  len : ∀ ws S Q E, sp ws S Q E → ws.length = ps.length
  run : ∀ (A : Around) (outer : List Env) (s : Shared) (H : Hp) (args : Args) (us : List Value) (vs : List V) (Q : VK) (E : XK), Room k A → A.guards = some [] → Env0 P w K mg base A outer s H → BindsTo s fd args (ps.zip us) → Vals vs us → liftSp K sp vs H Q E →
    codeAny (model P w) A (.call (.ref f) args) (CR CX outer P w H s Q E) s
theorem FnG.mono {P : Program} {w : World} {K : PySem.W.Frag} {mg : Str → Option Value} {base : Heap} {CX : CXT} {j k : Nat} {f : Addr} {fd : FuncData} {ps : List Str} {sp : DSp} (F : FnG P w K mg base CX j f fd ps sp) (h : j ≤ k) :
    FnG P w K mg base CX k f fd ps sp := ⟨F.len, fun A outer s H args us vs Q E hr => F.run A outer s H args us vs Q E (hr.mono h)⟩
/-- a weaker promise -/
theorem FnG.imp {P : Program} {w : World} {K : PySem.W.Frag} {mg : Str → Option Value} {base : Heap} {CX : CXT} {k : Nat} {f : Addr} {fd : FuncData} {ps : List Str} {sp sp' : DSp} (F : FnG P w K mg base CX k f fd ps sp)
    (h : ∀ ws S Q E, sp' ws S Q E → sp ws S Q E) : FnG P w K mg base CX k f fd ps sp' :=
  ⟨fun ws S Q E q => F.len ws S Q E (h _ _ _ _ q), fun A outer s H args us vs Q E hr hg he hb hv ⟨I, S, ws, Qd, Ed, a, b, c, d⟩ => F.run A outer s H args us vs Q E hr hg he hb hv ⟨I, S, ws, Qd, Ed, a, b, h _ _ _ _ c, d⟩⟩
/-- how a call binds: n values by their places, keywords named ks; gD lays both in the parameters' order -/
def Bnd (K : PySem.W.Frag) (fd : FuncData) (ps : List Str) (n : Nat) (ks : List Str) (gD : List D → List D → List D) : Prop :=
  ∃ (g : List Value → List Value → List Value) (gV : List V → List V → List V), KBn K fd ps n ks g gV ∧ ∀ I xs vs ys us, RDs K I xs vs → RDs K I ys us → RDs K I (gD xs ys) (gV vs us)

section
variable {X : Cx} {CX : CXT} {k n : Nat} {f : Addr} {fd : FuncData} {ps ks : List Str} {sp : DSp} {E : XK} {x : Str} {p pos kpos : Pos} {e : Expr} {es : List Expr} {kws : List Keyword} {te : DE} {t tk : DA} {nm : Option Str} {gD : List D → List D → List D}
/-- keywords -/
abbrev MK (X : Cx) (wi : Wi) (kws : List Keyword) (t : DA) : Prop := PK X kws (liftA X.K wi t)
theorem PK.of {t t' : TA} (h : PK X kws t) (i : ∀ σ H Q, t' σ H Q → t σ H Q) : PK X kws t' := ⟨fun pos pins s σ H Q I hw => h.run pos pins s σ H Q I (i σ H Q hw)⟩
theorem mK0 : MK X wi [] dNil := PK.of pk_nil fun σ H Q h => by
  obtain ⟨I, env, S, Qd, sim, er, h, k⟩ := h
  exact k I [] [] S H .refl sim .nil h
theorem mKC (ha : ME X wi e te) (hr : MK X wi kws t) : MK X wi (⟨nm, e, kpos⟩ :: kws) (dCons te t) := PK.of (pk_cons ha hr) fun σ H Q h => by
  obtain ⟨I, env, S, Qd, sim, er, h, k⟩ := h
  refine ⟨I, env, S, _, sim, er, h, fun I1 w1 v1 S1 H1 e1 s1 r1 h1 => ?_⟩
  refine ⟨I1, env, S1, _, s1, er.le e1.le, h1, fun I2 ws vs S2 H2 e2 s2 r2 h2 => ?_⟩
  exact k I2 _ _ S2 H2 (e1.trans e2) s2 (.cons (r1.le e2.le) r2) h2
/-- a call: the values by their places, then the keywords' -/
def dCall (sp : DSp) (n m : Nat) (gD : List D → List D → List D) (E : XD) (t tk : DA) : DE := fun env S Q => t env S fun xs S1 => tk env S1 fun ys S2 => xs.length = n ∧ ys.length = m ∧ sp (gD xs ys) S2 Q E
def E00 : XD := fun _ _ _ => False
/-- what this body wants of an exception of a callee's, from any of its states -/
structure XPass (CX : CXT) (X : Cx) (wi : Wi) (E : XD) (E' : XK) : Prop where
  ps : Passes CX X E'
  kx : ∀ I S H, KX X.K I S H wi.E wi.E' → KX X.K I S H E E'
theorem xpass0 : XPass CX0 X wi E00 E0 := ⟨pass0, fun _ _ _ _ _ _ _ _ _ _ _ _ _ _ _ _ _ z => z.elim⟩
theorem Sim.wish {K : PySem.W.Frag} {w1 w2 : Wi} {I H : Hp} {S : Sto} (s : Sim K w1 I S H) (k : KX K I S H w2.E w2.E') : Sim K w2 I S H := ⟨s.toSim0, k⟩
theorem run_g {E' : XD} {pins : List (Addr × Obj)} {σ : L2.St} {H : Hp} {s : Shared} {Q' : VK} {us ws : List Value} {vs zs : List V} (F : FnG X.prog X.w X.K X.mg X.base CX k f fd ps sp) (hr : Room k X.A) (hG : X.A.guards = some []) (hb : Bnd X.K fd ps n ks gD) (hx : XPass CX X wi E' E)
    (I : Inv X pins σ H s) (r : Vals vs us) (rz : Vals zs ws) {Ih : Hp} {S : Sto} {xs ys : List D} {Q : DK} (sim : Sim X.K wi Ih S H) (rx : RDs X.K Ih xs vs) (ry : RDs X.K Ih ys zs) (hn : xs.length = n) (hm : ys.length = ks.length) (h : sp (gD xs ys) S Q E') (k : KQ X.K wi Ih S H Q Q') :
    wpAny (model X.prog X.w) X.A (call (.ref f) us (ks.zip ws)) (EP X pins σ Q') X.xe s := by
  obtain ⟨g, gV, hbn, hgd⟩ := hb
  have r2 := hbn.rel r rz
  have k2 : KQ X.K ⟨E', E⟩ Ih S H Q Q' := fun I' w v S' H' e s' r q => k I' w v S' H' e (s'.wish (sim.kx.ext e)) r q
  refine wpAny_call (codeAny_mono (F.run X.A X.stack s H ⟨us, ks.zip ws⟩ (g us ws) (gV vs zs) Q' E hr hG I.env0 (hbn.to s us ws I.kIn (by rw [← r.length, ← rx.length]; exact hn) (by rw [← rz.length, ← ry.length]; exact hm)) r2 ⟨Ih, S, _, Q, E', sim.wish (hx.kx _ _ _ sim.kx), hgd _ _ _ _ _ rx ry, h, k2⟩) fun r s' hq => ?_)
  cases r with
  | error e => exact hx.ps pins σ H s e s' I hq
  | ok fl =>
    cases fl with
    | ret u => exact I.after hq
    | next => exact False.elim hq
    | brk => exact False.elim hq
    | cont => exact False.elim hq
theorem mCall {E' : XD} (F : FnG X.prog X.w X.K X.mg X.base CX k f fd ps sp) (hr : Room k X.A) (hG : X.A.guards = some []) (hm : X.mg x = some (.ref f)) (hk : PySem.W.keepIn X.K (.ref f) = true) (hb : Bnd X.K fd ps n ks gD) (hx : XPass CX X wi E' E)
    (ha : MA X wi (e :: es) t) (hkw : MK X wi kws tk) (hg : Gl X x := by rfl) (hall : (backToKw pos (keywordEach kws X.env)).all (·.1.isSome) = true := by rfl) (hks : (backToKw pos (keywordEach kws X.env)).filterMap (·.1) = ks := by rfl)
    (hdb : (x == ("__debug__" : Str)) = false := by decide) (he : starEach (e :: es) X.env = (false, eval e X.env) :: starEach es X.env := by rfl)
    (hpl : ((backTo pos (starEach (e :: es) X.env)).any (·.1) || (backToKw pos (keywordEach kws X.env)).any (·.1.isNone)) = false := by rfl) :
    ME X wi (.Call (.Name x p) (e :: es) kws pos) (dCall sp n ks.length gD E' t tk) := by
  refine ⟨fun pins s σ H Q' I h => ?_⟩
  obtain ⟨Ih, env, S, Q, sim, er, h, k⟩ := h
  refine wpAny_Call_Name_kw (ld_glob I hg hm ?_ hdb)
  refine PySem.W.callWith_KW (h₀ := X.base) I.ok.mod.kin hk hall (thn (ha.run pos pins s σ H (fun vs H1 => ∃ I1 xs S1, Ext Ih S H I1 S1 H1 ∧ Sim X.K wi I1 S1 H1 ∧ RDs X.K I1 xs vs ∧ tk env S1 fun ys S2 => xs.length = n ∧ ys.length = ks.length ∧ sp (gD xs ys) S2 Q E') I
    ⟨Ih, env, S, _, sim, er, h, fun I1 xs vs S1 H1 e1 s1 r1 h1 => ⟨I1, xs, S1, e1, s1, r1, h1⟩⟩) fun us s1 ⟨vs, H1, J1, r, I1, xs, S1, e1, sm1, r1, h1⟩ => ?_) hpl he
  refine thn (hkw.run pos pins s1 σ H1 (fun zs H2 => ∃ I2 ys S2, Ext Ih S H I2 S2 H2 ∧ Sim X.K wi I2 S2 H2 ∧ RDs X.K I2 xs vs ∧ RDs X.K I2 ys zs ∧ xs.length = n ∧ ys.length = ks.length ∧ sp (gD xs ys) S2 Q E') J1
    ⟨I1, env, S1, _, sm1, er.le e1.le, h1, fun I2 ys zs S2 H2 e2 s2 r2 h2 => ⟨I2, ys, S2, e1.trans e2, s2, r1.le e2.le, r2, h2⟩⟩) fun ws s2 ⟨zs, H2, J2, rz, I2, ys, S2, e2, sm2, rx, ry, hn, hm2, h2⟩ => ⟨J2.kIn, ?_⟩
  rw [hks]
  exact run_g F hr hG hb hx J2 r rz sm2 rx ry hn hm2 h2 (k.ext e2)
/-- f(k = v, ..), and f() -/
theorem mCallN {E' : XD} (F : FnG X.prog X.w X.K X.mg X.base CX k f fd ps sp) (hr : Room k X.A) (hG : X.A.guards = some []) (hm : X.mg x = some (.ref f)) (hk : PySem.W.keepIn X.K (.ref f) = true) (hb : Bnd X.K fd ps 0 ks gD) (hx : XPass CX X wi E' E)
    (hkw : MK X wi kws tk) (hg : Gl X x := by rfl) (hall : (backToKw pos (keywordEach kws X.env)).all (·.1.isSome) = true := by rfl) (hks : (backToKw pos (keywordEach kws X.env)).filterMap (·.1) = ks := by rfl)
    (hdb : (x == ("__debug__" : Str)) = false := by decide) (hpl : ((backTo pos (starEach [] X.env)).any (·.1) || (backToKw pos (keywordEach kws X.env)).any (·.1.isNone)) = false := by rfl) :
    ME X wi (.Call (.Name x p) [] kws pos) (dCall sp 0 ks.length gD E' dNil tk) := by
  refine ⟨fun pins s σ H Q' I h => ?_⟩
  obtain ⟨Ih, env, S, Q, sim, er, h, k⟩ := h
  refine wpAny_Call_Name_kw (ld_glob I hg hm ?_ hdb)
  refine PySem.W.callWith_KW0 (h₀ := X.base) I.ok.mod.kin hk hall (thn (hkw.run pos pins s σ H (fun zs H2 => ∃ I2 ys S2, Ext Ih S H I2 S2 H2 ∧ Sim X.K wi I2 S2 H2 ∧ RDs X.K I2 ys zs ∧ (0 : Nat) = 0 ∧ ys.length = ks.length ∧ sp (gD [] ys) S2 Q E') I
    ⟨Ih, env, S, _, sim, er, h, fun I2 ys zs S2 H2 e2 s2 r2 h2 => ⟨I2, ys, S2, e2, s2, r2, h2⟩⟩) fun ws s2 ⟨zs, H2, J2, rz, I2, ys, S2, e2, sm2, ry, _, hm2, h2⟩ => ⟨J2.kIn, ?_⟩) hpl
  rw [hks]
  exact run_g F hr hG hb hx J2 .nil rz sm2 .nil ry rfl hm2 h2 (k.ext e2)
end

/-! ### a def's body keeps its promise -/
def startD (N : List Str) (ws : List D) : Env' := ws.map some ++ List.replicate (N.length - ws.length) none
theorem er_start {K : PySem.W.Frag} {I : Hp} {N : List Str} {ws : List D} {vs : List V} (r : RDs K I ws vs) : ER K I (startD N ws) (L2.start N vs) := by
  unfold startD L2.start
  refine ⟨by simp [r.length], fun i w e => ?_⟩
  by_cases hi : i < ws.length
  · rw [List.getElem?_append_left (by simpa using hi), List.getElem?_map] at e
    cases q : ws[i]? with
    | none => rw [q] at e; cases e
    | some x =>
      rw [q] at e
      cases e
      obtain ⟨v, hv, rv⟩ := r.get q
      refine ⟨v, ?_, rv⟩
      rw [List.getElem?_append_left (by rw [List.length_map, ← r.length]; exact hi), List.getElem?_map, hv]; rfl
  · rw [List.getElem?_append_right (by simpa using hi), List.getElem?_replicate] at e
    split at e <;> cases e
/-- where a def ends some of the store may be forgotten -/
def endsD (Q : DK) : DEnds := { nx := fun _ S => ∃ S0, Sub S0 S ∧ Q .non S0, rt := fun w S => ∃ S0, Sub S0 S ∧ Q w S0 }
theorem KD.ends {K : PySem.W.Frag} {wi : Wi} {I H : Hp} {S : Sto} {Q : DK} {Q' : VK} (k : KQ K wi I S H Q Q') : KD K wi I S H (endsD Q) { nx := fun _ H' => Q' .non H', rt := Q' } :=
  ⟨fun I' env σ S' H' e s er ⟨S0, hs, q⟩ => k I' .non .non S0 H' (e.sub hs) (s.sub hs) .non q, fun I' w v S' H' e s r ⟨S0, hs, q⟩ => k I' w v S0 H' (e.sub hs) (s.sub hs) r q, fun _ _ _ _ _ _ _ _ z => z.elim, fun _ _ _ _ _ _ _ _ z => z.elim⟩
theorem fnG_of {CX : CXT} {P : Program} {w : World} {K : PySem.W.Frag} {mg : Str → Option Value} {base : Heap} {k : Nat} {f : Addr} {name qual : Str} {params : Arguments} {body : List Stmt} {scope : Scope} {dV kV doc pm cdv ct oc : Value} {an od : Option Addr}
    {osl : Array (Option Value)} {N ps : List Str} {sp : DSp} (lk : K.lookup f = some ⟨oc, od, .func (PySem.W.fnOf name qual params body scope dV kV doc pm an cdv ct), osl⟩) (hcd : PySem.W.codeIn K cdv qual = true) (sc : FnScope N ps scope)
    (len : ∀ ws S Q E, sp ws S Q E → ws.length = ps.length)
    (hbody : ∀ (A : Around) (outer : List Env) (s : Shared) (H : Hp) (E : XD) (E' : XK), Room k (A.deeper (envOfC qual scope s.heap.objs.size f cdv)) → A.guards = some [] →
      ∃ t, MSs (cxOf CX P w K mg base N qual scope f cdv A outer s H E') ⟨E, E'⟩ body t ∧ ∀ (ws : List D) (S : Sto) (Q : DK), sp ws S Q E → t (endsD Q) (startD N ws) S) :
    FnG P w K mg base CX (k + 1) f (PySem.W.fnOf name qual params body scope dV kV doc pm an cdv ct) ps sp := by
  refine ⟨len, fun A outer s H args us vs Q' E' hr hG e0 hb r hsp => ?_⟩
  obtain ⟨Ih, S, ws, Q, E, sim, rw', hsp, kq⟩ := hsp
  have hl : vs.length = ps.length := by rw [← rw'.length]; exact len _ _ _ _ hsp
  have KH : K.In s.heap := e0.mod.kin.keeps fun b o e => (e0.bs b o e).1
  have lim : s.heap.NoLimit := e0.mod.nolimit.keeps fun b o e => (e0.bs b o e).1
  have hkind : ∀ y ∈ ps.zip us, scope.names.lookup y.1 = some .local ∨ (scope.names.lookup y.1 = some .cell ∧ ((cellsFrom (s.heap.objs.size + 1) scope.names []).lookup y.1).isSome = true) := fun ⟨n, v⟩ hy =>
    (sc.par n (List.of_mem_zip hy).1).imp id fun q => ⟨q, PySem.W.cellsFrom_some _ _ _ (.inl q)⟩
  refine codeAny_call_function hr.depth (KH _ _ lk) rfl sc.co sc.gen rfl (PySem.W.codeRec_of KH hcd) (hb _ _ _ _ (wpAny_newFunctionEnv_cells sc.kind hkind fun env he s1 x => ?_))
  subst he
  refine ⟨lim.keeps x.toInCall.keep, codeAny_func ?_⟩
  obtain ⟨t, ht, hq⟩ := hbody A outer s H E E' (hr.deeper _) hG
  have J : Inv (cxOf CX P w K mg base N qual scope f cdv A outer s H E') [] (L2.start N vs) H s1 := inv_start sc hr.hd e0 hl r x
  have go : liftS K ⟨E, E'⟩ t { nx := fun _ H' => Q' .non H', rt := Q' } (L2.start N vs) H := ⟨Ih, startD N ws, S, endsD Q, sim, er_start rw', hq ws S Q hsp, KD.ends kq⟩
  refine wpAny_mono (ht.run [] s1 (L2.start N vs) H _ J go) (fun fl s' hs => ?_) fun e s' hs => hs
  cases fl with
  | ret u =>
    obtain ⟨v, σ', H', J', rv, q⟩ := hs
    exact ⟨v, H', J'.os, J'.bare, J'.base, J'.hok, rv, q⟩
  | next =>
    obtain ⟨σ', H', J', q⟩ := hs
    exact ⟨.non, H', J'.os, J'.bare, J'.base, J'.hok, rfl, q⟩
  | brk => obtain ⟨_, _, _, q⟩ := hs; exact q.elim
  | cont => obtain ⟨_, _, _, q⟩ := hs; exact q.elim
/-- a def of the text -/
theorem FnG.def_ {CX : CXT} {P : Program} {w : World} {K : PySem.W.Frag} {mg : Str → Option Value} {base : Heap} {x qual : Str} {params : Arguments} {body : List Stmt} {scope : Scope} {dvs : List V} {kws : List (Str × V)} {f : Addr} {fd : FuncData} {N ps : List Str} {k : Nat} {sp : DSp}
    (F : FunD K x qual params body scope dvs kws f fd) (sc : FnScope N ps scope) (len : ∀ ws S Q E, sp ws S Q E → ws.length = ps.length)
    (hbody : ∀ (cdv : Value) (A : Around) (outer : List Env) (s : Shared) (H : Hp) (E : XD) (E' : XK), Room k (A.deeper (envOfC qual scope s.heap.objs.size f cdv)) → A.guards = some [] →
      ∃ t, MSs (cxOf CX P w K mg base N qual scope f cdv A outer s H E') ⟨E, E'⟩ body t ∧ ∀ (ws : List D) (S : Sto) (Q : DK), sp ws S Q E → t (endsD Q) (startD N ws) S) : FnG P w K mg base CX (k + 1) f fd ps sp := by
  obtain ⟨oc, od, dV, kV, doc, pm, an, cdv, ct, osl, rfl, lk, hcd, _, _⟩ := F.ex
  exact fnG_of lk hcd sc len fun A outer s H E E' hr hG => hbody cdv A outer s H E E' hr hG

/-! ### how calls bind -/
theorem KBn.same {K : PySem.W.Frag} {fd : FuncData} {ps ks : List Str} {n : Nat} {g : List Value → List Value → List Value} {gV : List V → List V → List V} (h : KBn K fd ps n ks g gV) : KBn K fd ps n ks g gV := h
/-- every parameter is given by its place -/
theorem bnd_all {K : PySem.W.Frag} {fd : FuncData} {ps : List Str} (b : Binds K fd ps []) : Bnd K fd ps ps.length [] (fun xs _ => xs) := by
  refine ⟨fun us _ => us, fun vs _ => vs, ⟨fun s us ws X hn hw => ?_, fun r _ => r⟩, fun I xs vs ys us r _ => r⟩
  have z := b s us X (by rw [List.append_nil]; exact hn)
  rw [List.append_nil] at z
  cases ws with
  | nil => exact z
  | cons _ _ => cases hw

/-! ### the law's end -/
theorem RD.ints {K : PySem.W.Frag} {I : Hp} : ∀ ns : List Int, RDs K I (ns.map D.int) (ns.map V.int)
  | [] => .nil
  | n :: ns => .cons (.int n) (RD.ints ns)
/-- the script alone is tracked, where it is none of the module's own objects -/
def scrH (K : PySem.W.Frag) (a : Addr) (o : Obj) (vs : List V) : Hp := fun b => if b = a ∧ (K.lookup a).isNone = true then some (.frz o (.lst vs)) else none
theorem scrH_some {K : PySem.W.Frag} {a b : Addr} {o : Obj} {vs : List V} {u : HO} (e : scrH K a o vs b = some u) : b = a ∧ K.lookup a = none ∧ u = .frz o (.lst vs) := by
  unfold scrH at e
  split at e
  · rename_i h
    cases e
    refine ⟨h.1, ?_, rfl⟩
    cases q : K.lookup a with
    | none => rfl
    | some x => rw [q] at h; exact absurd h.2 (by simp)
  · cases e
theorem law_callG {P : Program} {w : World} {K : PySem.W.Frag} {mg mb : Str → Option Value} {CX : CXT} {k : Nat} {fa a : Addr} {fd : FuncData} {x : Str} {sp : DSp} {s1 : Shared} {vs : List Value} {ns : List Int}
    (KX : K.In s1.heap) (hns : s1.heap.Ns mainGlobals mg) (hb : s1.heap.Ns builtinsNs mb) (hbb : ∀ x : Str, x ≠ "__name__" → mb x = bootBuiltins x) (hlim : s1.heap.NoLimit) (hg : s1.gens = #[])
    (ha : s1.heap.get? a = some { cls := .type "list", data := .seq vs.toArray }) (hi : IntsAre vs ns) (hl : ns.length ≤ sizeLine) (hr : Room k callerA)
    (F : ∀ base : Heap, K.In base → base.Ns mainGlobals mg → FnG P w K mg base CX k fa fd [x] sp) (hbind : ∀ (s : Shared) (u : Value), BindsTo s fd ⟨[u], []⟩ [(x, u)])
    (hsp : sp [.scr (ns.map .int)] (fun _ => none) (fun v _ => v = .bl true) E00) (hCX : ∀ H e s', CX [] H s1 (fun _ _ _ => False) e s' → False) :
    codeAny (model P w) callerA (.call (.ref fa) ⟨[.ref a], []⟩) (fun r s' => r = .ok (.ret (.bool true)) ∧ OldK s1.heap s'.heap ∧ s'.os = s1.os ∧ AllBare s'.gens) s1 := by
  have rv := vals_ints hi
  have hz : (ns.map V.int).length ≤ sizeLine := by rw [List.length_map]; exact hl
  let o : Obj := { cls := .type "list", data := .seq vs.toArray }
  let H : Hp := scrH K a o (ns.map V.int)
  have hS : SqL K H a (ns.map V.int) := by
    cases q : K.lookup a with
    | none =>
      refine .inl (.inr ⟨o, ?_⟩)
      show scrH K a o (ns.map V.int) a = _
      unfold scrH
      rw [if_pos ⟨rfl, by rw [q]; rfl⟩]
    | some o2 =>
      have e := KX a o2 q
      rw [ha] at e
      cases e
      exact .inr ⟨_, vs.toArray, _, q, rfl, rfl, rfl, by rw [List.size_toArray, ← rv.length]; exact hz, by simpa using rv⟩
  have hok : HOk P w H s1.heap := fun b u e => by
    obtain ⟨rfl, _, rfl⟩ := scrH_some e
    exact ⟨ha, hz, vs, _, rv, ha⟩
  have free : ∀ {b : Addr} {p : Obj}, s1.heap.get? b = some p → b ≠ a → (hidT s1.heap H).get? b = some p := fun {b p} e hb => hidT_get e (by
    cases q : H b with
    | none => rfl
    | some u => exact absurd (scrH_some q).1 hb)
  have nsK : ∀ {b : Addr} {m : Str → Option Value}, s1.heap.Ns b m → (hidT s1.heap H).Ns b m := fun {b m} ⟨p, es, ep, e, d, r⟩ => ⟨p, es, ep, free e (by
    rintro rfl
    rw [ha] at e; cases e
    exact absurd d (by simp)), d, r⟩
  have hKb : K.In (hidT s1.heap H) := fun b p e => hidT_get (KX b p e) (by
    cases q : H b with
    | none => rfl
    | some u =>
      obtain ⟨rfl, z, _⟩ := scrH_some q
      rw [z] at e; cases e)
  have hM : Mod K mg (hidT s1.heap H) := ⟨hKb, nsK hns, ⟨mb, nsK hb, hbb⟩, let ⟨mc, h1, h2⟩ := hlim; ⟨mc, nsK h1, h2⟩⟩
  have e0 : Env0 P w K mg (hidT s1.heap H) callerA [] s1 H := ⟨rfl, hM, fun b p e => of_hidT e, Nat.le_of_eq (hidT_size _ _), trivial, fun b hb => (List.not_mem_nil hb).elim, hok, .of_eq hg⟩
  have sim : Sim K ⟨E00, fun _ _ _ => False⟩ H (fun _ => none) H := ⟨⟨fun _ _ e => e, fun _ _ e => nomatch e⟩, fun _ _ _ _ _ _ _ _ _ _ _ _ _ z => z.elim⟩
  refine codeAny_mono ((F _ hKb (nsK hns)).run callerA [] s1 H ⟨[.ref a], []⟩ [.ref a] [.ref a] (fun v _ => v = .bl true) (fun _ _ _ => False) hr rfl e0 (hbind s1 (.ref a)) (.cons rfl .nil)
    ⟨H, fun _ => none, _, _, E00, sim, .cons (.scr hS (RD.ints ns)) .nil, hsp, fun I' v u S' H' _ _ r e => by subst e; cases r; rfl⟩) fun r s' h => ?_
  cases r with
  | error e => exact (hCX H e s' h).elim
  | ok fl =>
    cases fl with
    | next => exact False.elim h
    | brk => exact False.elim h
    | cont => exact False.elim h
    | ret u =>
      obtain ⟨v, H', os, bare, un, hok', r', q⟩ := h
      have q' : v = .bl true := q
      subst q'
      obtain rfl : u = Value.bool true := r'
      refine ⟨rfl, OldK.of_keep fun b p e => ?_, os, bare⟩
      cases q : H b with
      | none => exact un.keep b p e q (fun z => (List.not_mem_nil z).elim) (fun z => (List.not_mem_nil z).elim)
      | some u =>
        obtain ⟨rfl, _, rfl⟩ := scrH_some q
        obtain ⟨e2, _⟩ := hok' b _ (un.frzs b _ _ q)
        rw [ha] at e; cases e
        exact e2
/-- a law: F gives the written part, the function object, the promise over every base -/
theorem walkG {l : PySem.W.OpenLaw} {n k : Nat} {q : Program} {loose : List Str} {XP : (Str → Option Value) → Heap → Prop} {YP : World → Heap → Prop} {d : DefRec} {CX : CXT} {x : Str}
    (hn : l.most = some n) (hn2 : n ≤ sizeLine) (hdf : d.params.defaults = []) (hr : Room k callerA)
    (F : ∀ (w : World) (mg : Str → Option Value) (fa : Addr) (h : Heap), YP w h → h.Ns mainGlobals mg → mg d.name = some (.ref fa) →
      ∃ (K : PySem.W.Frag) (fd : FuncData) (sp : DSp), K.In h ∧ (∀ (s : Shared) (u : Value), BindsTo s fd ⟨[u], []⟩ [(x, u)]) ∧
        (∀ ns : List Int, ns.length ≤ n → sp [.scr (ns.map .int)] (fun _ => none) (fun v _ => v = .bl true) E00) ∧
        ∀ base : Heap, K.In base → base.Ns mainGlobals mg → FnG l.prog w K mg base CX k fa fd [x] sp)
    (hCX : ∀ (H : Hp) (s : Shared) (e : Value) (s' : Shared), CX [] H s (fun _ _ _ => False) e s' → False) :
    PySem.W.WalkO q loose XP YP l.row.toRowW d [] (fun f vs => PySem.call f vs) := by
  refine Att.attach_call hn hdf fun w s0 s1 mg mb fa o pm cd doc a vs ns G Y ho hd hcd hmg hobj hints hlen hg => ?_
  obtain ⟨K, fd, sp, KX, hb, hsp, hF⟩ := F w mg fa _ Y G.T.g hmg
  exact law_callG KX G.T.g G.T.b G.T.builtins G.T.nolimit hg hobj hints (Nat.le_trans hlen hn2) hr hF hb (hsp ns hlen) fun H e s' => hCX H s1 e s'
end DL


set_option Elab.async false
set_option linter.all false
set_option maxRecDepth 100000
set_option maxHeartbeats 4000000
namespace DL
open PySem PySem.Spec PyProof.Rows L2

/-! ### x[::-1] -/
def fRv (x : D) (S : Sto) (Q : DK) : Prop :=
  match x with
  | .tup xs => Q (.tup xs.reverse) S
  | .lst xs => Q (.lst xs.reverse) S
  | .ref a => (match S a with
    | some (.lst xs) => Q (.lst xs.reverse) S
    | _ => False)
  | _ => False
section
variable {prog : Program} {w : World} {A : Around} {E : Value → Shared → Prop} {s : Shared}
theorem pick_rev (xs : Array Value) : ((List.range xs.size).filterMap fun (k : Nat) => xs[((xs.size : Int) - 1 + (k : Int) * (-1)).toNat]?).toArray = xs.toList.reverse.toArray := by
  have e : (List.range xs.size).filterMap (fun (k : Nat) => xs[((xs.size : Int) - 1 + (k : Int) * (-1)).toNat]?) = ((List.range xs.size).map fun k => xs.size - 1 - k).filterMap (xs[·]?) := by
    rw [List.filterMap_map]
    congr 1
    funext k
    have z : ((xs.size : Int) - 1 + (k : Int) * (-1)).toNat = xs.size - 1 - k := by omega
    rw [z]; rfl
  rw [e, PySem.W.krv_range, List.filterMap_reverse, PySem.W.krv_all]
theorem sliceApplied_rev {sl : Addr} {t : Tok} {n : Nat} {Q : Int × Int × Nat → Shared → Prop} (hs : s.heap.IsSliceOf sl .none .none (.int (-1) t)) (h : Q ((n : Int) - 1, -1, n) s) : wpAny (model prog w) A (Builtin.Slice.sliceApplied (.ref sl) (pure (n : Int))) Q E s := by
  obtain ⟨os, hos, hcs, hds⟩ := id hs
  unfold Builtin.Slice.sliceApplied Builtin.Slice.sliceFields
  refine wpAny_bind (wpAny_bind (wpAny_field hos hds (x := .none) rfl (wpAny_bind (wpAny_field hos hds (x := .none) rfl (wpAny_bind (wpAny_field hos hds (x := .int (-1) t) rfl (wpAny_pure ?_)))))))
  refine wpAny_bind (HT.slicePart_ (.int (-1) t) ?_)
  show wpAny _ _ (if ((-1 : Int) == 0) = true then _ else _) _ _ s
  rw [if_neg (by decide)]
  refine wpAny_bind (HT.slicePart_ .none (wpAny_bind (HT.slicePart_ .none (wpAny_bind (wpAny_pure ?_)))))
  have e : Builtin.Slice.slicePlaces ((n : Int) - 1) (-1) (-1) = n := by
    unfold Builtin.Slice.slicePlaces
    rw [if_neg (by decide)]
    by_cases hn : (n : Int) - 1 > -1
    · rw [if_pos hn, show (- -1 : Int) = 1 by decide, Int.ediv_one]; omega
    · rw [if_neg hn]; omega
  refine wpAny_pure ?_
  have e2 : (Builtin.Slice.sliceAdjust none none (-1) (n : Int)) = ((n : Int) - 1, -1) := rfl
  show Q _ s
  have e3 : Builtin.Slice.slicePlaces (Builtin.Slice.sliceAdjust none none (-1) (n : Int)).1 (Builtin.Slice.sliceAdjust none none (-1) (n : Int)).2 (-1) = n := by rw [e2]; exact e
  have e4 : (Builtin.Slice.sliceAdjust none none (-1) (n : Int)).1 = (n : Int) - 1 := by rw [e2]
  rw [← e4] at h
  first
    | exact e3.symm ▸ h
    | (show Q ((Builtin.Slice.sliceAdjust none none (-1) (n : Int)).1, (-1 : Int), Builtin.Slice.slicePlaces (Builtin.Slice.sliceAdjust none none (-1) (n : Int)).1 (Builtin.Slice.sliceAdjust none none (-1) (n : Int)).2 (-1)) s
       rw [e3]; exact h)
theorem getItem_tuple_rev {t sl : Addr} {items : Array Value} {tk : Tok} {Q : Value → Shared → Prop} (ht : IsTup s.heap t items) (hs : s.heap.IsSliceOf sl .none .none (.int (-1) tk))
    (h : Q (.ref s.heap.objs.size) { s with heap := s.heap.push { cls := .type "tuple", data := .seq items.toList.reverse.toArray } }) (hsz : items.size ≤ sizeLine) : wpAny (model prog w) A (getItem (.ref t) (.ref sl)) Q E s := by
  have htake : sizeOk (.seq items.toList.reverse.toArray) := by
    show items.toList.reverse.toArray.size ≤ sizeLine
    rw [List.size_toArray, List.length_reverse, Array.length_toList]; exact hsz
  obtain ⟨os, hos, hcs, hds⟩ := id hs
  have hTs : s.TypeIs (.ref sl) "slice" := ⟨os, hos, hcs⟩
  unfold getItem
  try with_reducible refine wpAny_holding ?_
  first | refine wpAny_bind (wpAny_pure ?_) | skip
  refine wpAny_bind (wpAny_sequenceKey ht.typeIs (by decide) ?_)
  refine wpAny_bind (wpAny_callSpecial?_slot (name := Str.ofString "__getitem__") ht.typeIs PyProof.Rows.slot_tuple_getitem
    (wpAny_call_entry PyProof.Rows.slot_tuple_getitem ht.typeIs entry_tuple_getitem ?_ (args_tuple_getitem _ _)))
  show wpAny _ _ (Builtin.Tuple.tupleItemsOf (.ref t) >>= _) _ _ s
  refine wpAny_bind (tupleItemsOf_ ht ?_)
  refine wpAny_bind (wpAny_typeOf hTs ?_)
  rw [if_pos (by decide)]
  refine wpAny_bind (sliceApplied_rev (n := items.size) hs ?_)
  show wpAny _ _ (if (((items.size : Int) - 1) == 0 && (-1 : Int) == 1 && items.size == items.size) = true then _ else _) _ _ s
  rw [if_neg (by simp), pick_rev]
  first
    | exact wpAny_bind (m := Builtin.Tuple.tupleExact _) (wpAny_newObj_type (wpAny_pure ⟨_, rfl, wpAny_pure h⟩) htake)
    | exact wpAny_bind (m := Builtin.Tuple.tupleExact _) (wpAny_newObj_type (wpAny_bind (wpAny_pure (wpAny_pure ⟨_, rfl, wpAny_pure h⟩))) htake)
    | exact wpAny_bind (wpAny_bind (m := Builtin.Tuple.tupleExact _) (wpAny_newObj_type (wpAny_pure (wpAny_pure ⟨_, rfl, wpAny_pure h⟩)) htake))
    | exact wpAny_bind (wpAny_bind (m := Builtin.Tuple.tupleExact _) (wpAny_newObj_type (wpAny_pure ⟨_, rfl, wpAny_pure h⟩) htake))
end
section
variable {X : Cx} {wi : Wi} {e : Expr} {te : DE} {pos p1 p2 p3 p4 : Pos} {j : Nat}
theorem Vals.rv {xs : List V} {us : List Value} (h : Vals xs us) : Vals xs.reverse us.reverse := Vals.reverse h
theorem mRv (he : ME X wi e te) : ME X wi (.Subscript e (.Slice none none (some (.UnaryOp .USub (.Constant (.int 1) j p1) p2)) p3) pos) (dUn fRv te) := by
  refine ⟨fun pins s σ H Q' I h => ?_⟩
  obtain ⟨Ih, env, S, Q, sim, er, h, k⟩ := h
  refine Subscript_ (thn (he.run pins s σ H (fun v H1 => ∃ I1 w S1, Ext Ih S H I1 S1 H1 ∧ Sim X.K wi I1 S1 H1 ∧ RD X.K I1 w v ∧ fRv w S1 Q) I ⟨Ih, env, S, _, sim, er, h, fun I1 w v S1 H1 e1 s1 r1 h1 => ⟨I1, w, S1, e1, s1, r1, h1⟩⟩) fun v s1 ⟨x, H1, I1, rv, Ih1, w, S1, e1, sm1, r1, h1⟩ => ?_)
  refine wpAny_Slice ?_
  rw [evalPart_none]
  refine wpAny_pure (wpAny_pure ?_)
  rw [evalPart_some]
  have pm : PE X (.UnaryOp .USub (.Constant (.int 1) j p1) p2) (tUn (rU fun i => .int (-i)) (tC (.int 1))) := pe_un un_neg pe_int
  refine thn (pm.run pins s1 σ H1 (fun v H2 => v = .int (-1) ∧ H2 = H1) I1 ⟨1, rfl, rfl, rfl⟩) fun vs s2 ⟨y, H2, I2, ry, ey, eH⟩ => ?_
  subst ey eH
  obtain ⟨tk, rfl⟩ := ry
  have I4 : Inv X pins σ H2 { s2 with heap := s2.heap.push { cls := .type "slice", data := .fields #[.none, .none, .int (-1) tk] } } := I2.kept (t' := s2.toks) fun b ob q => Heap.get?_push_of_some _ q
  have hs : (s2.heap.push { cls := .type "slice", data := .fields #[.none, .none, .int (-1) tk] }).IsSliceOf s2.heap.objs.size .none .none (.int (-1) tk) := Heap.IsSliceOf.new ..
  have lst : ∀ {a : Addr} {xs : List D} {vs : List V}, H2 a = some (.lst vs) → RDs X.K Ih1 xs vs → Q (.lst xs.reverse) S1 → v = .ref a →
      wpAny (model X.prog X.w) X.A (subscriptTail e (.Slice none none (some (.UnaryOp .USub (.Constant (.int 1) j p1) p2)) p3) v (.ref s2.heap.objs.size)) (EP X pins σ Q') X.xe { s2 with heap := s2.heap.push { cls := .type "slice", data := .fields #[.none, .none, .int (-1) tk] } } := fun {a xs vs} ha r q ev => by
    subst ev
    obtain ⟨its, r', ht, hz⟩ := I4.list (SqL.of ha)
    refine tail_any (ops := [.ref a, .ref s2.heap.objs.size]) ht.isList.typeIs slot_list_getitem.lookup (wpAny_getItem_list_slice ht.isList hs .none .none (.int (-1) tk) (by simp) ?_ (by rw [List.size_toArray, ← r'.length]; exact hz)) (by with_unfolding_all rfl)
    rw [PySem.W.krv_pick]
    refine ⟨.ref _, upd H2 _ (.lst vs.reverse), I4.laid (t' := s2.toks) (o := .lst vs.reverse) (fun b ob q => Heap.get?_push_of_some _ q) (Nat.le_refl _) ?_, rfl, (k.ext e1).newI sm1 (I4.hok.fresh (Nat.le_refl _)) (.lst upd_same (r.reverse.newI (sm1.free (I4.hok.fresh (Nat.le_refl _))))) q⟩
    exact ⟨by rw [List.length_reverse]; exact hz, _, 0, Vals.reverse r', Heap.get?_push_size _ rfl⟩
  unfold fRv at h1
  split at h1
  · cases r1 with
    | @tup a xs ws g1 r1 =>
      cases rv
      obtain ⟨its, r', ht, hz⟩ := I4.tuple (SqT.le sm1.im g1)
      refine tail_any (ops := [.ref a, .ref s2.heap.objs.size]) ht.typeIs PyProof.Rows.slot_tuple_getitem.lookup (getItem_tuple_rev ht hs ?_ (by rw [List.size_toArray, ← r'.length]; exact hz)) (by with_unfolding_all rfl)
      refine ⟨.ref _, upd H2 _ (.tup ws.reverse), I4.laid (t' := s2.toks) (o := .tup ws.reverse) (fun b ob q => Heap.get?_push_of_some _ q) (Nat.le_refl _) ?_, rfl, (k.ext e1).newI sm1 (I4.hok.fresh (Nat.le_refl _)) (.tup (SqT.of upd_same) (r1.reverse.newI (sm1.free (I4.hok.fresh (Nat.le_refl _))))) h1⟩
      exact ⟨by rw [List.length_reverse]; exact hz, _, Vals.reverse r', IsTup.new _ _⟩
  · cases r1 with
    | lst g1 r1 =>
      cases rv
      exact lst (sm1.im _ _ g1) r1 h1 rfl
  · cases r1
    rename_i a
    split at h1
    · rename_i xs e0
      obtain ⟨ws, ha, r⟩ := st_lst sm1 e0
      cases rv
      exact lst ha r h1 rfl
    · exact h1.elim
  · exact h1.elim
end

/-! ### dict displays -/
def dPairs : List (DE × DE) → Env' → Sto → (List (D × D) → Sto → Prop) → Prop
  | [], _, S, Q => Q [] S
  | (k, v) :: r, env, S, Q => k env S fun a S1 => v env S1 fun b S2 => dPairs r env S2 fun l S3 => Q ((a, b) :: l) S3
def keysOf : List (D × D) → Option (List (Key × D))
  | [] => some []
  | (a, b) :: r => match keyOf a, keysOf r with
    | some k, some l => some ((k, b) :: l)
    | _, _ => none
def dmerge (kvs more : List (Key × D)) : List (Key × D) := more.foldl (fun acc kv => dput acc kv.1 kv.2) kvs
def dDisp (ps : List (DE × DE)) : DE := fun env S Q => dPairs ps env S fun l S1 => match keysOf l with
  | some kvs => kvs.length ≤ 15 ∧ ∀ p, S1 p = none → Q (.ref p) (su S1 p (.dK (dmerge [] kvs)))
  | none => False
section
variable {X : Cx} {wi : Wi} {pos : Pos}
inductive RPs (K : PySem.W.Frag) (I : Hp) : List (D × D) → List (V × V) → Prop
  | nil : RPs K I [] []
  | cons {a b : D} {u v : V} {l : List (D × D)} {m : List (V × V)} : RD K I a u → RD K I b v → RPs K I l m → RPs K I ((a, b) :: l) ((u, v) :: m)
theorem RPs.keys {K : PySem.W.Frag} {I : Hp} : ∀ {l : List (D × D)} {m : List (V × V)} {kvs : List (Key × D)}, RPs K I l m → keysOf l = some kvs → ∃ us, m = us.map (fun kv => (kV kv.1, kv.2)) ∧ RKV K I kvs us
  | _, _, _, .nil, h => by cases h; exact ⟨[], rfl, .nil⟩
  | _, _, kvs, .cons ra rb t, h => by
    unfold keysOf at h
    split at h
    · rename_i k l e1 e2
      cases h
      obtain ⟨us, e3, r⟩ := RPs.keys t e2
      have e4 := ra.key e1
      subst e3 e4
      exact ⟨(k, _) :: us, rfl, .cons ⟨rfl, rb⟩ r⟩
    · cases h
theorem RKV.merge {K : PySem.W.Frag} {I : Hp} : ∀ {more : List (Key × D)} {rs : List (Key × V)} {kvs : List (Key × D)} {vs : List (Key × V)}, RKV K I more rs → RKV K I kvs vs → RKV K I (dmerge kvs more) (mergeK vs rs)
  | _, _, _, _, .nil, q => q
  | _, _, _, _, .cons (a := p) (b := q') h t, q => by
    show RKV K I (dmerge (dput _ p.1 p.2) _) (mergeK (putK _ q'.1 q'.2) _)
    rw [← h.1]
    exact RKV.merge t (RKV.put h.2 p.1 q)
abbrev MPs (X : Cx) (wi : Wi) (pos : Pos) (keys : List (Option Expr)) (values : List Expr) (ps : List (DE × DE)) : Prop := PPs X pos keys values (ps.map fun p => (lift X.K wi p.1, lift X.K wi p.2))
theorem mP0 : MPs X wi pos [] [] [] := pps_nil
theorem mPC {k v : Expr} {ks : List (Option Expr)} {vs : List Expr} {tk tv : DE} {ps : List (DE × DE)} (hk : ME X wi k tk) (hv : ME X wi v tv) (hr : MPs X wi pos ks vs ps) : MPs X wi pos (some k :: ks) (v :: vs) ((tk, tv) :: ps) := pps_cons hk hv hr
/-- the pairs' readings, from one state on -/
theorem lift_pairs {K : PySem.W.Frag} {σ : L2.St} {env : Env'} : ∀ {ps : List (DE × DE)} {I H : Hp} {S : Sto} {Q : List (D × D) → Sto → Prop} {Q' : List (V × V) → Hp → Prop}, Sim K wi I S H → ER K I env σ → dPairs ps env S Q →
    (∀ I' l m S' H', Ext I S H I' S' H' → Sim K wi I' S' H' → RPs K I' l m → Q l S' → Q' m H') → tPairs (ps.map fun p => (lift K wi p.1, lift K wi p.2)) σ H Q'
  | [], I, H, S, Q, Q', sim, er, h, k => k I [] [] S H .refl sim .nil h
  | p :: ps, I, H, S, Q, Q', sim, er, h, k => by
    refine ⟨I, env, S, _, sim, er, h, fun I1 a u S1 H1 e1 s1 r1 h1 => ?_⟩
    refine ⟨I1, env, S1, _, s1, er.le e1.le, h1, fun I2 b v S2 H2 e2 s2 r2 h2 => ?_⟩
    exact lift_pairs s2 ((er.le e1.le).le e2.le) h2 fun I3 l m S3 H3 e3 s3 r3 h3 => k I3 _ _ S3 H3 ((e1.trans e2).trans e3) s3 (.cons ((r1.le e2.le).le e3.le) (r2.le e3.le) r3) h3
theorem mDisp {keys : List (Option Expr)} {values : List Expr} {ps : List (DE × DE)} (h : MPs X wi pos keys values ps) (hall : keys.all (·.isSome) = true := by rfl) (hl : keys.length = values.length := by rfl) (h0 : keys ≠ [] := by exact fun z => nomatch z)
    (h15 : keys.length ≤ 15 := by decide) : ME X wi (.Dict keys values pos) (dDisp ps) := PE.of (pe_disp h hall hl h0 h15) fun σ H Q' h => by
  obtain ⟨I, env, S, Q, sim, er, h, k⟩ := h
  intro L hL
  have hI : I L = none := sim.free hL
  have hS : S L = none := by
    cases q : S L with
    | none => rfl
    | some u =>
      obtain ⟨_, v, _, hv⟩ := sim.st L u q
      rw [hL] at hv; cases hv
  have e0 : Ext I S H I S (upd H L (.dK [])) := ⟨.refl, fun a o q z => ⟨by rw [upd_ne (ne_of_none q hL)]; exact q, z, rfl⟩⟩
  have s0 : Sim X.K wi I S (upd H L (.dK [])) := ⟨⟨fun a o q => by rw [upd_ne (ne_of_none q hI)]; exact sim.im a o q, fun a o q => by
    obtain ⟨z1, u, z2, z3⟩ := sim.st a o q
    exact ⟨z1, u, z2, by rw [upd_ne (ne_of_none z3 hL)]; exact z3⟩⟩, sim.kx.ext e0⟩
  refine lift_pairs s0 er h fun I1 l m S1 H1 e1 s1 r1 h1 => ?_
  obtain ⟨hL1, hS1, hI1⟩ := e1.fr L _ upd_same hS
  refine ⟨hL1, ?_⟩
  split at h1
  · rename_i kvs ek
    obtain ⟨us, em, rk⟩ := r1.keys ek
    refine ⟨us, em, by rw [← rk.length]; exact h1.1, ?_⟩
    have ex : Ext I S H I1 (su S1 L (.dK (dmerge [] kvs))) (upd H1 L (.dK (mergeK [] us))) := ⟨e1.le, fun a o q z => by
      have ha : a ≠ L := ne_of_none q hL
      obtain ⟨y1, y2, y3⟩ := e1.fr a o (by rw [upd_ne ha]; exact q) z
      exact ⟨by rw [upd_ne ha]; exact y1, by rw [su_ne ha]; exact y2, y3⟩⟩
    refine k I1 (.ref L) (.ref L) _ _ ex ⟨⟨fun a o q => ?_, fun a o q => ?_⟩, sim.kx.ext ex⟩ (.ref L) (h1.2 L hS1)
    · rw [upd_ne (ne_of_none q (by rw [hI1]; exact hI))]; exact s1.im a o q
    · by_cases ha : a = L
      · subst ha
        rw [su_same] at q; cases q
        exact ⟨by rw [hI1]; exact hI, .dK (mergeK [] us), (show RKV X.K I1 _ _ from RKV.merge rk .nil), upd_same⟩
      · rw [su_ne ha] at q
        obtain ⟨z1, u, z2, z3⟩ := s1.st a o q
        exact ⟨z1, u, z2, by rw [upd_ne ha]; exact z3⟩
  · exact h1.elim
end
end DL


set_option Elab.async false
set_option linter.all false
set_option maxRecDepth 100000
set_option maxHeartbeats 4000000
namespace DL
open PySem PySem.Spec PyProof.Rows L2
/-! ### a op b op c -/
def dChain (f f' : D → D → Sto → DK → Prop) (ta tb tc : DE) : DE := fun env S Q => ta env S fun x S1 => tb env S1 fun y S2 => f x y S2 fun z S3 => match z with
  | .bl k => if k = true then tc env S3 fun w S4 => f' y w S4 Q else Q (.bl false) S3
  | _ => False
section
variable {X : Cx} {wi : Wi} {a b c e : Expr} {ta tb tc : DE} {pos : Pos}
theorem lift_chain {K : PySem.W.Frag} {f f' : D → D → Sto → DK → Prop} {σ : L2.St} {H : Hp} {Q' : VK} (h : lift K wi (dChain f f' ta tb tc) σ H Q') : tChain (rOf K wi f) (rOf K wi f') (lift K wi ta) (lift K wi tb) (lift K wi tc) σ H Q' := by
  obtain ⟨I, env, S, Q, sim, er, h, k⟩ := h
  refine ⟨I, env, S, _, sim, er, h, fun I1 x v S1 H1 e1 s1 r1 h1 => ?_⟩
  refine ⟨I1, env, S1, _, s1, er.le e1.le, h1, fun I2 y u S2 H2 e2 s2 r2 h2 => ?_⟩
  refine ⟨I2, S2, x, y, _, s2, r1.le e2.le, r2, h2, fun I3 z t S3 H3 e3 s3 r3 h3 => ?_⟩
  cases z <;> try exact h3.elim
  rename_i d
  cases r3
  refine ⟨d, rfl, ?_⟩
  cases d
  · exact k I3 _ _ S3 H3 ((e1.trans e2).trans e3) s3 (.bl false) h3
  · exact ⟨I3, env, S3, _, s3, ((er.le e1.le).le e2.le).le e3.le, h3, fun I4 w t4 S4 H4 e4 s4 r4 h4 => ⟨I4, S4, y, w, Q, s4, (r2.le e3.le).le e4.le, r4, h4, k.ext (((e1.trans e2).trans e3).trans e4)⟩⟩
theorem mChain {op op' : CmpOp} {f f' : D → D → Sto → DK → Prop} (ho : OpM X wi (compareOp op) f) (ho' : OpM X wi (compareOp op') f') (ha : ME X wi a ta) (hb : ME X wi b tb) (hc : ME X wi c tc)
    (hm : lastMarks [op, op'] [b, c] = false := by with_unfolding_all rfl) : ME X wi (.Compare a [op, op'] [b, c] pos) (dChain f f' ta tb tc) := PE.of (pe_chain ho ho' ha hb hc hm) fun _ _ _ => lift_chain
theorem mChainT {op op' : CmpOp} {f f' : D → D → Sto → DK → Prop} (ho : OpM X wi (compareOp op) f) (ho' : OpM X wi (compareOp op') f') (ha : ME X wi a ta) (hb : ME X wi b tb) (hc : ME X wi c tc)
    (hm : lastMarks [op, op'] [b, c] = false := by with_unfolding_all rfl) : MT X wi (.Compare a [op, op'] [b, c] pos) (dTst (dChain f f' ta tb tc)) := by
  refine PT.of (pt_chain ho ho' ha hb hc hm) fun σ H Q h => ?_
  obtain ⟨I, env, S, Qd, sim, er, h, k⟩ := lift_tst h
  exact lift_chain ⟨I, env, S, Qd, sim, er, h, k⟩
/-! ### any value as a test -/
def truOf (S : Sto) : D → Option Bool
  | .non => some false
  | .bl b => some b
  | .int i => some (i != 0)
  | .tup xs => some (!xs.isEmpty)
  | .lst xs => some (!xs.isEmpty)
  | .ref a => (match S a with
    | some (.lst xs) => some (!xs.isEmpty)
    | _ => none)
  | _ => none
def dTru (t : DE) : DT := fun env S Q => t env S fun w S1 => match truOf S1 w with
  | some b => Q b S1
  | none => False
theorem RDs.isEmpty {K : PySem.W.Frag} {I : Hp} {xs : List D} {vs : List V} (r : RDs K I xs vs) : xs.isEmpty = vs.isEmpty := by cases r <;> rfl
theorem mTru {t : DE} (h : ME X wi e t) (he : ∀ whole, isTrue e X.env whole = (do let v ← whole; standAt e.pos; holding [v] (truthy v)) := by intro _; rfl) : MT X wi e (dTru t) := by
  refine PT.of (pt_truth h he) fun σ H Q' h => ?_
  obtain ⟨I, env, S, Q, sim, er, h, k⟩ := h
  refine ⟨I, env, S, _, sim, er, h, fun I1 w v S1 H1 e1 s1 r1 h1 => ?_⟩
  split at h1
  · rename_i b eb
    refine ⟨b, ?_, k I1 b S1 H1 e1 s1 h1⟩
    cases r1 with
    | non => cases eb; rfl
    | bl b => cases eb; rfl
    | int i => cases eb; rfl
    | str x => cases eb
    | tup g r => cases eb; exact .inr (.inl ⟨_, SqT.le s1.im g, by rw [r.isEmpty]⟩)
    | lst g r => cases eb; exact .inl ⟨_, SqL.of (s1.im _ _ g), by rw [r.isEmpty]⟩
    | scr g r => cases eb
    | val v => cases eb
    | ref a =>
      have eb' : (match S1 a with | some (.lst xs) => some (!xs.isEmpty) | _ => none) = some b := eb
      split at eb'
      · rename_i xs e0
        cases eb'
        obtain ⟨vs, ha, r⟩ := st_lst s1 e0
        exact .inl ⟨_, SqL.of ha, by rw [r.isEmpty]⟩
      · cases eb'
  · exact h1.elim
end
end DL


set_option Elab.async false
set_option linter.all false
set_option maxRecDepth 100000
set_option maxHeartbeats 4000000
namespace DL
open PySem PySem.Spec PyProof.Rows L2
theorem hu65_of {A : Around} {k : Nat} (h : Room k A) : A.units + 65 < cLine := by have := h.un; omega
/-! ### constants of the module -/
mutual
def vD (K : PySem.W.Frag) : D → Value → Bool
  | .non, u => match u with | .none => true | _ => false
  | .bl b, u => match u with | .bool c => b == c | _ => false
  | .int i, u => match u with | .int j _ => decide (i = j) | _ => false
  | .str x, u => match u with | .str y _ => decide (x = y) | _ => false
  | .tup xs, u => match u with
    | .ref a => match List.lookup a K with
      | some ⟨.type c, _, .seq its _, _⟩ => decide (c = "tuple") && (decide (its.size ≤ sizeLine) && vDs K xs its.toList)
      | _ => false
    | _ => false
  | .scr xs, u => match u with
    | .ref a => match List.lookup a K with
      | some ⟨.type c, none, .seq its _, _⟩ => decide (c = "list") && (decide (its.size ≤ sizeLine) && vDs K xs its.toList)
      | _ => false
    | _ => false
  | .lst _, _ => false
  | .ref a, u => match u with | .ref b => decide (a = b) | _ => false
  | .val v, u => He.relB v u
def vDs (K : PySem.W.Frag) : List D → List Value → Bool
  | [], us => us.isEmpty
  | x :: xs, us => match us with | u :: us => vD K x u && vDs K xs us | [] => false
end
mutual
theorem vD_ok {K : PySem.W.Frag} : ∀ (w : D) (u : Value), vD K w u = true → ∃ v, RelV v u ∧ ∀ I, RD K I w v
  | .non, u, h => by
    unfold vD at h
    split at h
    · exact ⟨.non, rfl, fun _ => .non⟩
    · cases h
  | .bl b, u, h => by
    unfold vD at h
    split at h
    · exact ⟨.bl b, by cases (beq_iff_eq.1 h); rfl, fun _ => .bl b⟩
    · cases h
  | .int i, u, h => by
    unfold vD at h
    split at h
    · exact ⟨.int i, by cases (of_decide_eq_true h); exact ⟨_, rfl⟩, fun _ => .int i⟩
    · cases h
  | .str x, u, h => by
    unfold vD at h
    split at h
    · exact ⟨.str x, by cases (of_decide_eq_true h); exact ⟨_, rfl⟩, fun _ => .str x⟩
    · cases h
  | .tup xs, u, h => by
    unfold vD at h
    split at h
    · rename_i a
      split at h
      · rename_i c dc its ep sl e
        rw [Bool.and_eq_true, Bool.and_eq_true] at h
        obtain ⟨h1, h2, h3⟩ := h
        obtain ⟨vs, rv, hr⟩ := vDs_ok xs its.toList h3
        refine ⟨.ref a, rfl, fun I => .tup (vs := vs) ?_ (hr I)⟩
        cases (of_decide_eq_true h1)
        exact .inr ⟨_, its, ep, e, rfl, rfl, of_decide_eq_true h2, rv⟩
      · cases h
    · cases h
  | .scr xs, u, h => by
    unfold vD at h
    split at h
    · rename_i a
      split at h
      · rename_i c its ep sl e
        rw [Bool.and_eq_true, Bool.and_eq_true] at h
        obtain ⟨h1, h2, h3⟩ := h
        obtain ⟨vs, rv, hr⟩ := vDs_ok xs its.toList h3
        refine ⟨.ref a, rfl, fun I => .scr (vs := vs) ?_ (hr I)⟩
        cases (of_decide_eq_true h1)
        exact .inr ⟨_, its, ep, e, rfl, rfl, rfl, of_decide_eq_true h2, rv⟩
      · cases h
    · cases h
  | .lst _, u, h => by unfold vD at h; cases h
  | .ref a, u, h => by
    unfold vD at h
    split at h
    · exact ⟨.ref a, by cases (of_decide_eq_true h); rfl, fun _ => .ref a⟩
    · cases h
  | .val v, u, h => by
    unfold vD at h
    exact ⟨v, He.relB_ok h, fun _ => .val v⟩
theorem vDs_ok {K : PySem.W.Frag} : ∀ (ws : List D) (us : List Value), vDs K ws us = true → ∃ vs, Vals vs us ∧ ∀ I, RDs K I ws vs
  | [], us, h => by
    unfold vDs at h
    cases us with
    | nil => exact ⟨[], .nil, fun _ => .nil⟩
    | cons _ _ => cases h
  | x :: xs, us, h => by
    unfold vDs at h
    cases us with
    | nil => cases h
    | cons u us =>
      rw [Bool.and_eq_true] at h
      obtain ⟨v, rv, hv⟩ := vD_ok x u h.1
      obtain ⟨vs, rvs, hvs⟩ := vDs_ok xs us h.2
      exact ⟨v :: vs, .cons rv rvs, fun I => .cons (hv I) (hvs I)⟩
end
/-- a name of the module that holds a constant -/
def cD (K : PySem.W.Frag) (x : Str) (w : D) : Bool := match PySem.W.nsIn K mainGlobals x with
  | some (some u) => vD K w u
  | _ => false
theorem gc_of {K : PySem.W.Frag} {h : Heap} {mg : Str → Option Value} {x : Str} {w : D} (X : K.In h) (G : h.Ns mainGlobals mg) (c : cD K x w = true) : GC K mg x w := by
  unfold cD at c
  split at c
  · rename_i u e
    obtain ⟨v, rv, hv⟩ := vD_ok w u c
    exact ⟨v, u, PySem.W.mg_of X G e, rv, hv⟩
  · cases c
/-- the head's hook with facts of one's own -/
def hookX (n : Nat) (fa : List He.Fa) (fn : List He.DefD) (xt : PySem.W.Frag → Bool) : PySem.W.Hook where
  α := He.AlD × Bool
  obs := fun s => (He.obsDG n fa fn s.heap.get?, xt (He.frG s.heap.get? (He.asD s.heap.get? n)))
  val := fun _ => (He.valD fn, true)
  says := fun _ h => ∃ K, K.In h ∧ He.SaysD fa fn K ∧ xt K = true
  of := fun w s e => ⟨He.frG s.heap.get? (He.asD s.heap.get? n), He.frG_in, congrArg Prod.fst e, congrArg Prod.snd e⟩
  keeps := fun w h h' ⟨K, i, c⟩ hk => ⟨K, fun b o e => hk b o (i b o e), c⟩
def obX (n : Nat) (fa : List He.Fa) (fn : List He.DefD) (xt : PySem.W.Frag → Bool) (s : PySem.W.SharedT) : He.AlD × Bool :=
  (He.obsDG n fa fn (HandSHeadRun.getT s), xt (He.frG (HandSHeadRun.getT s) (He.asD (HandSHeadRun.getT s) n)))
theorem obX_eq {n : Nat} {fa : List He.Fa} {fn : List He.DefD} {xt : PySem.W.Frag → Bool} (s : PySem.W.SharedT) : obX n fa fn xt s = (hookX n fa fn xt).obs s.abs := by
  have e : HandSHeadRun.getT s = s.abs.heap.get? := funext (HandSHeadRun.getT_eq s)
  unfold obX
  rw [e]
  rfl
end DL


set_option Elab.async false
set_option linter.all false
set_option maxRecDepth 100000
set_option maxHeartbeats 4000000
set_option exponentiation.threshold 4000
namespace DL
open PySem PySem.Spec PyProof.Rows L2
/-! ### plain things: their leaves' sizes, how deep, how much -/
mutual
def okD (m : Nat) : D → Bool
  | .non | .bl _ => true
  | .int i => decide (i.natAbs ≤ m)
  | .str x => PyData.strOk x
  | .tup xs | .lst xs => oksD m xs
  | .scr _ | .ref _ | .val _ => false
def oksD (m : Nat) : List D → Bool
  | [] => true
  | x :: xs => okD m x && oksD m xs
end
mutual
def bk : D → Nat
  | .str x => x.length
  | .tup xs | .lst xs => bks xs
  | _ => 0
def bks : List D → Nat
  | [] => 0
  | x :: xs => bk x + 1 + bks xs
end
theorem oksD_iff {m : Nat} : ∀ {xs : List D}, oksD m xs = true ↔ ∀ x ∈ xs, okD m x = true
  | [] => by simp [oksD]
  | x :: xs => by simp [oksD, oksD_iff (xs := xs)]
theorem deps_iff {d : Nat} : ∀ {xs : List D}, deps xs ≤ d ↔ ∀ x ∈ xs, dep x ≤ d
  | [] => by simp [deps]
  | x :: xs => by simp [deps, Nat.max_le, deps_iff (xs := xs)]
theorem purs_iff : ∀ {xs : List D}, purs xs = true ↔ ∀ x ∈ xs, pur x = true
  | [] => by simp [purs]
  | x :: xs => by simp [purs, purs_iff (xs := xs)]
theorem bks_append : ∀ xs ys : List D, bks (xs ++ ys) = bks xs + bks ys
  | [], ys => by simp [bks]
  | x :: xs, ys => by simp [bks, bks_append xs ys]; omega
theorem bks_sub {xs ys : List D} (h : List.Sublist xs ys) : bks xs ≤ bks ys := by
  induction h with
  | slnil => exact Nat.le_refl _
  | cons a _ ih => simp only [bks]; omega
  | cons_cons a _ ih => simp only [bks]; omega
theorem bks_rev : ∀ xs : List D, bks xs.reverse = bks xs
  | [] => rfl
  | x :: xs => by simp [bks, bks_append, bks_rev xs]; omega
theorem bk_mem {x : D} : ∀ {xs : List D}, x ∈ xs → bk x + 1 ≤ bks xs
  | [], h => nomatch h
  | y :: ys, h => by
    simp only [bks]
    rcases List.mem_cons.1 h with rfl | h
    · omega
    · have := bk_mem h; omega
theorem len_bks : ∀ xs : List D, xs.length ≤ bks xs
  | [] => Nat.le_refl _
  | x :: xs => by simp only [List.length_cons, bks]; have := len_bks xs; omega
/-- a plain thing: ints to m, d deep, b much -/
structure Gd (m d b : Nat) (x : D) : Prop where
  ok : okD m x = true
  dp : dep x ≤ d
  bk' : bk x ≤ b
structure Gds (m d b : Nat) (xs : List D) : Prop where
  ok : ∀ x ∈ xs, okD m x = true
  dp : ∀ x ∈ xs, dep x ≤ d
  bk' : bks xs ≤ b
mutual
theorem okD_le {m m' : Nat} (hm : m ≤ m') : ∀ {x : D}, okD m x = true → okD m' x = true
  | .non, _ => rfl
  | .bl _, _ => rfl
  | .int i, h => by simp only [okD, decide_eq_true_eq] at *; omega
  | .str _, h => h
  | .tup xs, h => by simp only [okD] at *; exact oksD_le hm h
  | .lst xs, h => by simp only [okD] at *; exact oksD_le hm h
theorem oksD_le {m m' : Nat} (hm : m ≤ m') : ∀ {xs : List D}, oksD m xs = true → oksD m' xs = true
  | [], _ => rfl
  | x :: xs, h => by
    simp only [oksD, Bool.and_eq_true] at *
    exact ⟨okD_le hm h.1, oksD_le hm h.2⟩
end
theorem Gd.le {m d b m' d' b' : Nat} {x : D} (h : Gd m d b x) (hm : m ≤ m') (hd : d ≤ d') (hb : b ≤ b') : Gd m' d' b' x := ⟨okD_le hm h.ok, Nat.le_trans h.dp hd, Nat.le_trans h.bk' hb⟩
theorem Gds.le {m d b m' d' b' : Nat} {x : List D} (h : Gds m d b x) (hm : m ≤ m') (hd : d ≤ d') (hb : b ≤ b') : Gds m' d' b' x := ⟨fun x hx => okD_le hm (h.ok x hx), fun x hx => Nat.le_trans (h.dp x hx) hd, Nat.le_trans h.bk' hb⟩
theorem gd_tup {m d b : Nat} {xs : List D} : Gd m (d + 1) b (.tup xs) ↔ Gds m d b xs := by
  constructor
  · intro h
    have h1 := h.ok; have h2 := h.dp; have h3 := h.bk'
    simp only [okD, dep, bk] at h1 h2 h3
    exact ⟨oksD_iff.1 h1, deps_iff.1 (by omega), h3⟩
  · intro h
    refine ⟨?_, ?_, ?_⟩
    · simp only [okD]; exact oksD_iff.2 h.ok
    · simp only [dep]; have := deps_iff.2 h.dp; omega
    · simp only [bk]; exact h.bk'
theorem gd_lst {m d b : Nat} {xs : List D} : Gd m (d + 1) b (.lst xs) ↔ Gds m d b xs := by
  constructor
  · intro h
    have h1 := h.ok; have h2 := h.dp; have h3 := h.bk'
    simp only [okD, dep, bk] at h1 h2 h3
    exact ⟨oksD_iff.1 h1, deps_iff.1 (by omega), h3⟩
  · intro h
    refine ⟨?_, ?_, ?_⟩
    · simp only [okD]; exact oksD_iff.2 h.ok
    · simp only [dep]; have := deps_iff.2 h.dp; omega
    · simp only [bk]; exact h.bk'
theorem Gd.dpos {m d b : Nat} {xs : List D} (h : Gd m d b (.tup xs)) : ∃ e, d = e + 1 := by
  have h2 := h.dp
  simp only [dep] at h2
  exact ⟨d - 1, by omega⟩
theorem gds_nil {m d b : Nat} : Gds m d b [] := ⟨fun _ h => (nomatch h), fun _ h => (nomatch h), Nat.zero_le _⟩
theorem Gds.cons {m d b c : Nat} {x : D} {xs : List D} (h : Gd m d b x) (hs : Gds m d c xs) : Gds m d (b + 1 + c) (x :: xs) := by
  refine ⟨fun y hy => ?_, fun y hy => ?_, ?_⟩
  · rcases List.mem_cons.1 hy with rfl | hy
    · exact h.ok
    · exact hs.ok y hy
  · rcases List.mem_cons.1 hy with rfl | hy
    · exact h.dp
    · exact hs.dp y hy
  · simp only [bks]; have := h.bk'; have := hs.bk'; omega
theorem Gds.append {m d b c : Nat} {xs ys : List D} (h : Gds m d b xs) (hs : Gds m d c ys) : Gds m d (b + c) (xs ++ ys) := by
  refine ⟨fun y hy => ?_, fun y hy => ?_, ?_⟩
  · rcases List.mem_append.1 hy with hy | hy
    · exact h.ok y hy
    · exact hs.ok y hy
  · rcases List.mem_append.1 hy with hy | hy
    · exact h.dp y hy
    · exact hs.dp y hy
  · rw [bks_append]; have := h.bk'; have := hs.bk'; omega
theorem Gds.sub {m d b : Nat} {xs ys : List D} (h : Gds m d b ys) (hs : List.Sublist xs ys) : Gds m d b xs :=
  ⟨fun y hy => h.ok y (hs.subset hy), fun y hy => h.dp y (hs.subset hy), Nat.le_trans (bks_sub hs) h.bk'⟩
theorem Gds.rev {m d b : Nat} {xs : List D} (h : Gds m d b xs) : Gds m d b xs.reverse :=
  ⟨fun y hy => h.ok y (List.mem_reverse.1 hy), fun y hy => h.dp y (List.mem_reverse.1 hy), by rw [bks_rev]; exact h.bk'⟩
theorem Gds.mem {m d b : Nat} {xs : List D} {x : D} (h : Gds m d b xs) (hx : x ∈ xs) : Gd m d b x := ⟨h.ok x hx, h.dp x hx, by have := bk_mem hx; have := h.bk'; omega⟩
theorem Gds.len {m d b : Nat} {xs : List D} (h : Gds m d b xs) : xs.length ≤ b := Nat.le_trans (len_bks xs) h.bk'
theorem gd_non {m d b : Nat} : Gd m d b .non := ⟨rfl, Nat.zero_le _, Nat.zero_le _⟩
theorem gd_bl {m d b : Nat} {k : Bool} : Gd m d b (.bl k) := ⟨rfl, Nat.zero_le _, Nat.zero_le _⟩
theorem gd_int {m d b : Nat} {i : Int} (h : i.natAbs ≤ m) : Gd m d b (.int i) := ⟨by simp only [okD, decide_eq_true_eq]; exact h, Nat.zero_le _, Nat.zero_le _⟩
theorem gd_str {m d b : Nat} {z : Str} (h : PyData.strOk z = true) (hl : z.length ≤ b) : Gd m d b (.str z) := ⟨h, Nat.zero_le _, hl⟩
/-- a closed thing -/
theorem gd_by {m d b : Nat} {x : D} (h : (okD m x && decide (dep x ≤ d) && decide (bk x ≤ b)) = true) : Gd m d b x := by
  rw [Bool.and_eq_true, Bool.and_eq_true] at h
  exact ⟨h.1.1, of_decide_eq_true h.1.2, of_decide_eq_true h.2⟩
mutual
theorem okD_pur {m : Nat} : ∀ {x : D}, okD m x = true → pur x = true
  | .non, _ => rfl
  | .bl _, _ => rfl
  | .int i, h => rfl
  | .str _, h => h
  | .tup xs, h => by simp only [okD, pur] at *; exact oksD_purs h
  | .lst xs, h => by simp only [okD, pur] at *; exact oksD_purs h
theorem oksD_purs {m : Nat} : ∀ {xs : List D}, oksD m xs = true → purs xs = true
  | [], _ => rfl
  | x :: xs, h => by
    simp only [oksD, purs, Bool.and_eq_true] at *
    exact ⟨okD_pur h.1, oksD_purs h.2⟩
end
mutual
theorem okD_rd {m : Nat} {S : Sto} : ∀ {x : D}, okD m x = true → rd S x = x
  | .non, _ => rfl
  | .bl _, _ => rfl
  | .int i, h => rfl
  | .str _, h => rfl
  | .tup xs, h => by simp only [okD, rd] at *; rw [oksD_rds h]
  | .lst xs, h => rfl
theorem oksD_rds {m : Nat} {S : Sto} : ∀ {xs : List D}, oksD m xs = true → rds S xs = xs
  | [], _ => rfl
  | x :: xs, h => by
    simp only [oksD, rds, Bool.and_eq_true] at *
    rw [okD_rd h.1, oksD_rds h.2]
end
theorem log2_of_pow {a : Nat} (h : a < 10 ^ 570) : a.log2 < 1920 := by
  by_cases ha : a = 0
  · subst ha; decide
  · exact (Nat.log2_lt ha).2 (Nat.lt_of_lt_of_le h (by decide +kernel))
mutual
theorem okD_shb {m : Nat} (hm : m < 10 ^ 570) : ∀ {x : D}, okD m x = true → (toPy x).showable = true ∧ PyData.leavesShort 571 (toPy x) = true
  | .non, _ => ⟨rfl, rfl⟩
  | .bl _, _ => ⟨rfl, rfl⟩
  | .int i, h => by
    simp only [okD, decide_eq_true_eq] at h
    refine ⟨?_, ?_⟩
    · simp only [toPy, PyData.showable, decide_eq_true_eq]; exact log2_of_pow (Nat.lt_of_le_of_lt h hm)
    · simp only [toPy, PyData.leavesShort, decide_eq_true_eq, PyData.shown, PySem.ofString_length]
      exact int_text_length_le10 (k := 570) (by decide) (Nat.lt_of_le_of_lt h hm)
  | .str z, h => by
    refine ⟨rfl, ?_⟩
    simp only [toPy, PyData.leavesShort, List.all_eq_true, decide_eq_true_eq]
    simp only [okD, PyData.strOk] at h
    intro c hc
    have := (Array.all_eq_true_iff_forall_mem.1 h) c (by simpa using hc)
    have := of_decide_eq_true this
    omega
  | .tup xs, h => by simp only [okD, toPy, PyData.showable, PyData.leavesShort] at *; exact oksD_shb hm h
  | .lst xs, h => by simp only [okD, toPy, PyData.showable, PyData.leavesShort] at *; exact oksD_shb hm h
theorem oksD_shb {m : Nat} (hm : m < 10 ^ 570) : ∀ {xs : List D}, oksD m xs = true → PyData.showableAll (toPys xs) = true ∧ PyData.leavesShortAll 571 (toPys xs) = true
  | [], _ => ⟨rfl, rfl⟩
  | x :: xs, h => by
    simp only [oksD, Bool.and_eq_true] at h
    have h1 := okD_shb hm h.1
    have h2 := oksD_shb hm h.2
    simp only [toPys, PyData.showableAll, PyData.leavesShortAll, Bool.and_eq_true]
    exact ⟨⟨h1.1, h2.1⟩, ⟨h1.2, h2.2⟩⟩
end
mutual
theorem bulk_bk {m : Nat} : ∀ {x : D}, okD m x = true → (toPy x).bulk = bk x
  | .non, _ => rfl
  | .bl _, _ => rfl
  | .int i, h => rfl
  | .str z, h => rfl
  | .tup xs, h => by simp only [okD, toPy, PyData.bulk, bk] at *; exact bulk_bks h
  | .lst xs, h => by simp only [okD, toPy, PyData.bulk, bk] at *; exact bulk_bks h
theorem bulk_bks {m : Nat} : ∀ {xs : List D}, oksD m xs = true → PyData.bulkAll (toPys xs) = bks xs
  | [], _ => rfl
  | x :: xs, h => by
    simp only [oksD, Bool.and_eq_true] at h
    simp only [toPys, PyData.bulkAll, bks]
    rw [bulk_bk h.1, bulk_bks h.2]
end
theorem Gd.shp {m d b : Nat} {x : D} (h : Gd m d b x) (hd : d ≤ 64) : shp x = true := by
  unfold DL.shp
  rw [okD_pur h.ok, Bool.true_and, decide_eq_true_eq]
  exact Nat.le_trans h.dp hd
theorem Gd.rd {m d b : Nat} {x : D} (h : Gd m d b x) (S : Sto) : rd S x = x := okD_rd h.ok
/-- what repr asks -/
theorem Gd.repr {m d b : Nat} {x : D} (h : Gd m d b x) (hm : m < 10 ^ 570) (hd : d ≤ 60) (hb : b ≤ 29000) {S : Sto} {Q : DK} (q : Q (.str (shown x)) S) : gRepr [x] S Q := by
  have e := h.rd S
  show ((pur (DL.rd S x) = true ∧ dep (DL.rd S x) ≤ 60) ∧ shb (DL.rd S x) = true ∧ (shown (DL.rd S x)).length ≤ sizeLine) ∧ Q (.str (shown (DL.rd S x))) S
  rw [e]
  have hs := okD_shb hm h.ok
  have hl := PyData.shown_le_bulk 571 (by decide) (toPy x) hs.2
  rw [bulk_bk h.ok] at hl
  refine ⟨⟨⟨okD_pur h.ok, Nat.le_trans h.dp hd⟩, hs.1, ?_⟩, q⟩
  have h3 := h.bk'
  show (toPy x).shown.length ≤ 16777216
  omega
theorem Gd.eq {m d b m' d' b' : Nat} {x y : D} (h : Gd m d b x) (h' : Gd m' d' b' y) (hd : d ≤ 64) (hd' : d' ≤ 64) {S : Sto} {Q : DK} (q : Q (.bl (deq x y)) S) : fEq x y S Q := by
  unfold fEq
  rw [h.rd, h'.rd]
  exact ⟨.inr ⟨h.shp hd, h'.shp hd'⟩, q⟩
theorem Gd.ne {m d b m' d' b' : Nat} {x y : D} (h : Gd m d b x) (h' : Gd m' d' b' y) (hd : d ≤ 64) (hd' : d' ≤ 64) {S : Sto} {Q : DK} (q : Q (.bl (!deq x y)) S) : fNe x y S Q := by
  unfold fNe
  rw [h.rd, h'.rd]
  exact ⟨.inr ⟨h.shp hd, h'.shp hd'⟩, q⟩
theorem eq_str {a b : Str} {S : Sto} {Q : DK} (q : Q (.bl (decide (a = b))) S) : fEq (.str a) (.str b) S Q := by
  refine ⟨.inl rfl, ?_⟩
  have e : deq (rd S (.str a)) (rd S (.str b)) = decide (a = b) := by
    show PyData.eqv (.str a) (.str b) = _
    simp only [PyData.eqv]
    by_cases h : a = b <;> simp [h]
  rw [e]; exact q
theorem ne_str {a b : Str} {S : Sto} {Q : DK} (q : Q (.bl (!decide (a = b))) S) : fNe (.str a) (.str b) S Q := by
  refine ⟨.inl rfl, ?_⟩
  have e : deq (rd S (.str a)) (rd S (.str b)) = decide (a = b) := by
    show PyData.eqv (.str a) (.str b) = _
    simp only [PyData.eqv]
    by_cases h : a = b <;> simp [h]
  rw [e]; exact q
/-! ### equality -/
mutual
theorem eqv_self : ∀ x : D, pur x = true → PyData.eqv (toPy x) (toPy x) = true
  | .non, _ => rfl
  | .bl b, _ => by simp [toPy, PyData.eqv]
  | .int b, _ => by simp [toPy, PyData.eqv]
  | .str b, _ => by simp [toPy, PyData.eqv]
  | .tup xs, h => by simp only [toPy, PyData.eqv, pur] at *; exact eqvs_self xs h
  | .lst xs, h => by simp only [toPy, PyData.eqv, pur] at *; exact eqvs_self xs h
  | .scr xs, h => by simp only [toPy, PyData.eqv, pur] at *; exact eqvs_self xs h
theorem eqvs_self : ∀ x : List D, purs x = true → PyData.eqvAll (toPys x) (toPys x) = true
  | [], _ => rfl
  | x :: xs, h => by
    simp only [purs, Bool.and_eq_true] at h
    simp only [toPys, PyData.eqvAll, eqv_self x h.1, eqvs_self xs h.2, Bool.and_self]
end
theorem deq_int {i j : Int} : deq (.int i) (.int j) = decide (i = j) := by
  simp only [deq, toPy, PyData.eqv]; by_cases h : i = j <;> simp [h]
theorem deq_str {i j : Str} : deq (.str i) (.str j) = decide (i = j) := by
  simp only [deq, toPy, PyData.eqv]; by_cases h : i = j <;> simp [h]
theorem deq_lst0 {xs : List D} : deq (.lst xs) (.lst []) = xs.isEmpty := by
  cases xs <;> simp [deq, toPy, toPys, PyData.eqv, PyData.eqvAll]
theorem deq_tup0 {xs : List D} : deq (.tup xs) (.tup []) = xs.isEmpty := by
  cases xs <;> simp [deq, toPy, toPys, PyData.eqv, PyData.eqvAll]
/-! ### places -/
theorem atI_lt {α : Type} {xs : List α} {i : Int} (h0 : 0 ≤ i) (h : i < xs.length) : ∃ x, xs[i.toNat]? = some x ∧ atI xs i = some x := by
  have hl : i.toNat < xs.length := by omega
  refine ⟨xs[i.toNat], List.getElem?_eq_getElem hl, ?_⟩
  unfold L2.atI L2.ixN
  rw [if_pos h0, if_pos h]
  exact List.getElem?_eq_getElem hl
/-- a place of a list or tuple of data: whatever stands there -/
theorem ix_lst {xs : List D} {i : Int} {S : Sto} {Q : DK} (h0 : 0 ≤ i) (h : i < xs.length) (q : ∀ x ∈ xs, Q x S) : fIx (.lst xs) (.int i) S Q := by
  obtain ⟨x, e, ea⟩ := atI_lt h0 h
  show qOpt (L2.atI xs i) S Q
  rw [ea]
  exact q x (List.mem_of_getElem? e)
theorem ix_tup {xs : List D} {i : Int} {S : Sto} {Q : DK} (h0 : 0 ≤ i) (h : i < xs.length) (q : ∀ x ∈ xs, Q x S) : fIx (.tup xs) (.int i) S Q := by
  obtain ⟨x, e, ea⟩ := atI_lt h0 h
  show qOpt (L2.atI xs i) S Q
  rw [ea]
  exact q x (List.mem_of_getElem? e)
theorem ix_str {z : Str} {i : Int} {S : Sto} {Q : DK} (hz : z.length ≤ sizeLine) (h0 : 0 ≤ i) (h : i < z.length) (q : ∀ c ∈ z.cps.toList, Q (.str ⟨#[c]⟩) S) : fIx (.str z) (.int i) S Q := by
  obtain ⟨x, e, ea⟩ := atI_lt (xs := z.cps.toList) h0 (by rw [Array.length_toList]; exact h)
  refine ⟨hz, ?_⟩
  rw [ea]
  exact q x (List.mem_of_getElem? e)
end DL


set_option Elab.async false
set_option linter.all false
set_option maxRecDepth 100000
set_option maxHeartbeats 4000000
namespace DL
open PySem PySem.Spec PyProof.Rows L2
/-! ### the laws' feed of drawn numbers -/
def feedO (cells : List Int) (t l n : Int) : O := .dK [(.inr "cells", .lst (cells.map .int)), (.inr "at", .int t), (.inr "left", .int l), (.inr "count", .int n)]
structure FeedO (o : O) : Prop where
  ex : ∃ cells t l n, o = feedO cells t l n ∧ 0 ≤ t
section
variable {S : Sto} {a : Addr} {c : List Int} {t l n k : Int} {Q : DK} {R : Sto → Prop}
theorem dv_cells : dval [((.inr "cells" : Key), D.lst (c.map .int)), (.inr "at", .int t), (.inr "left", .int l), (.inr "count", .int n)] (.inr "cells") = some (.lst (c.map .int)) := rfl
theorem dv_at : dval [((.inr "cells" : Key), D.lst (c.map .int)), (.inr "at", .int t), (.inr "left", .int l), (.inr "count", .int n)] (.inr "at") = some (.int t) := rfl
theorem dv_left : dval [((.inr "cells" : Key), D.lst (c.map .int)), (.inr "at", .int t), (.inr "left", .int l), (.inr "count", .int n)] (.inr "left") = some (.int l) := rfl
theorem dv_count : dval [((.inr "cells" : Key), D.lst (c.map .int)), (.inr "at", .int t), (.inr "left", .int l), (.inr "count", .int n)] (.inr "count") = some (.int n) := rfl
theorem ix_dK {kvs : List (Key × D)} {z : Str} {w : D} (h : dval kvs (.inr z) = some w) : fIx (.ref a) (.str z) (su S a (.dK kvs)) Q = Q w (su S a (.dK kvs)) := by
  simp only [fIx, su_same, keyOf, h, qOpt]
theorem set_dK {kvs kvs' : List (Key × D)} {z : Str} {w : D} (h : dput kvs (.inr z) w = kvs') (hl : kvs.length < sizeLine) : fSet (.ref a) (.str z) w (su S a (.dK kvs)) R = R (su S a (.dK kvs')) := by
  simp only [fSet, su_same, keyOf, h, su_su, hl, true_and]
theorem fx_cells : fIx (.ref a) (.str "cells") (su S a (feedO c t l n)) Q = Q (.lst (c.map .int)) (su S a (feedO c t l n)) := ix_dK dv_cells
theorem fx_at : fIx (.ref a) (.str "at") (su S a (feedO c t l n)) Q = Q (.int t) (su S a (feedO c t l n)) := ix_dK dv_at
theorem fx_left : fIx (.ref a) (.str "left") (su S a (feedO c t l n)) Q = Q (.int l) (su S a (feedO c t l n)) := ix_dK dv_left
theorem fx_count : fIx (.ref a) (.str "count") (su S a (feedO c t l n)) Q = Q (.int n) (su S a (feedO c t l n)) := ix_dK dv_count
theorem ft_at : fSet (.ref a) (.str "at") (.int k) (su S a (feedO c t l n)) R = R (su S a (feedO c k l n)) := set_dK rfl (show 4 < sizeLine by decide)
theorem ft_left : fSet (.ref a) (.str "left") (.int k) (su S a (feedO c t l n)) R = R (su S a (feedO c t k n)) := set_dK rfl (show 4 < sizeLine by decide)
theorem ft_count : fSet (.ref a) (.str "count") (.int k) (su S a (feedO c t l n)) R = R (su S a (feedO c t l k)) := set_dK rfl (show 4 < sizeLine by decide)
end
theorem fMul_ii {i j : Int} {S : Sto} {Q : DK} : fMul (.int i) (.int j) S Q = (CMul i j ∧ Q (.int (i * j)) S) := rfl
theorem gLen_lst {xs : List D} {S : Sto} {Q : DK} : gLen [.lst xs] S Q = Q (.int xs.length) S := rfl
theorem gLen_tup {xs : List D} {S : Sto} {Q : DK} : gLen [.tup xs] S Q = Q (.int xs.length) S := rfl
theorem gLen_str {z : Str} {S : Sto} {Q : DK} : gLen [.str z] S Q = (z.length ≤ sizeLine ∧ Q (.int z.length) S) := rfl
theorem purs_ints (c : List Int) : purs (c.map .int) = true := purs_iff.2 fun x hx => by
  obtain ⟨i, _, rfl⟩ := List.mem_map.1 hx
  rfl
theorem deps_ints (c : List Int) : deps (c.map .int) = 0 := Nat.le_zero.1 (deps_iff.2 fun x hx => by
  obtain ⟨i, _, rfl⟩ := List.mem_map.1 hx
  exact Nat.le_refl _)
theorem ne_nil_ints {c : List Int} {S : Sto} {Q : DK} : fNe (.lst (c.map .int)) (.lst []) S Q = Q (.bl (!c.isEmpty)) S := by
  have h1 : shp (rd S (.lst (c.map .int))) = true := by
    show (pur (.lst (c.map .int)) && decide (dep (.lst (c.map .int)) ≤ 64)) = true
    rw [show pur (.lst (c.map .int)) = purs (c.map .int) from by simp only [pur], purs_ints]
    rw [show dep (.lst (c.map .int)) = deps (c.map .int) + 1 from by simp only [dep], deps_ints]
    rfl
  have h2 : deq (rd S (.lst (c.map .int))) (rd S (.lst [])) = c.isEmpty := by
    show deq (.lst (c.map .int)) (.lst []) = _
    rw [deq_lst0]
    cases c <;> rfl
  unfold fNe
  rw [h1, h2]
  simp only [eq_iff_iff, and_iff_right_iff_imp]
  intro _
  exact .inr ⟨trivial, rfl⟩
/-- the feed's numbers -/
structure Fd where
  d0 : Int
  m1 : Int
  a1 : Int
  b1 : Int
  q1 : Int
  a2 : Int
  b2 : Int
  q2 : Int
  a3 : Int
  q3 : Int
  v : Int
  top : Int
structure Fd.Ok (p : Fd) : Prop where
  m1 : 0 < p.m1
  a1 : -2 ^ 64 < p.a1 ∧ p.a1 < 2 ^ 64
  q1 : 0 < p.q1 ∧ p.q1 < 2 ^ 64
  a2 : -2 ^ 64 < p.a2 ∧ p.a2 < 2 ^ 64
  q2 : 0 < p.q2 ∧ p.q2 < 2 ^ 64
  q3 : 0 < p.q3
  v : 0 < p.v ∧ p.v < 1073741824
def rFeed (p : Fd) : DS :=
  (sRet (dDisp [((dC (.str "cells")), (dFn gList (dCons (dSl (dVar 0) dNoPart (dPart (dC (.int p.top)))) dNil))), ((dC (.str "at")), (dC (.int 0))), ((dC (.str "left")), (dC (.int 0))), ((dC (.str "count")), (dC (.int 0)))]))
def rTail0 (p : Fd) : DS :=
  (sSeq (sAsg (dOp fMod (dOp fAdd (dOp fAdd (dOp fMod (dVar 4) (dC (.int p.m1))) (dOp fMul (dC (.int p.a1)) (dOp fIx (dVar 0) (dC (.str "count"))))) (dC (.int p.b1))) (dC (.int p.q1))) 5) (sSeq (sAsg (dOp fMod (dOp fAdd (dOp fAdd (dOp fMul (dVar 5) (dVar 5)) (dOp fMul (dC (.int p.a2)) (dOp fIx (dVar 0) (dC (.str "count"))))) (dC (.int p.b2))) (dC (.int p.q2))) 5) (sRet (dOp fMod (dOp fDiv (dOp fMod (dOp fAdd (dOp fMul (dVar 5) (dVar 5)) (dOp fMul (dC (.int p.a3)) (dVar 5))) (dC (.int p.q3))) (dC (.int p.v))) (dVar 1)))))
def rTail (p : Fd) : DS :=
  (sSeq (sIf (dAnd (dTst (dOp fGe (dVar 4) (dOp fPow (dC (.int 10)) (dC (.int 18))))) (dTst (dOp fLt (dVar 3) (dFn gLen (dCons (dOp fIx (dVar 0) (dC (.str "cells"))) dNil))))) (sSeq (sAsgG (dOp fDiv (dVar 4) (dVar 1)) (gSubD (dVar 0) (dC (.str "left")))) (sRet (dOp fMod (dVar 4) (dVar 1)))) sNext) (sSeq (sAsg (dOp fMod (dOp fAdd (dOp fAdd (dOp fMod (dVar 4) (dC (.int p.m1))) (dOp fMul (dC (.int p.a1)) (dOp fIx (dVar 0) (dC (.str "count"))))) (dC (.int p.b1))) (dC (.int p.q1))) 5) (sSeq (sAsg (dOp fMod (dOp fAdd (dOp fAdd (dOp fMul (dVar 5) (dVar 5)) (dOp fMul (dC (.int p.a2)) (dOp fIx (dVar 0) (dC (.str "count"))))) (dC (.int p.b2))) (dC (.int p.q2))) 5) (sRet (dOp fMod (dOp fDiv (dOp fMod (dOp fAdd (dOp fMul (dVar 5) (dVar 5)) (dOp fMul (dC (.int p.a3)) (dVar 5))) (dC (.int p.q3))) (dC (.int p.v))) (dVar 1))))))
def rDraw (p : Fd) : DS :=
  (sSeq (sAsgG (dOp fAdd (dOp fIx (dVar 0) (dC (.str "count"))) (dC (.int 1))) (gSubD (dVar 0) (dC (.str "count")))) (sSeq (sIf (dTst (dOp fGt (dOp fIx (dVar 0) (dC (.str "left"))) (dC (.int 0)))) (sSeq (sAsg (dOp fMod (dOp fIx (dVar 0) (dC (.str "left"))) (dVar 1)) 2) (sSeq (sAsgG (dOp fDiv (dOp fIx (dVar 0) (dC (.str "left"))) (dVar 1)) (gSubD (dVar 0) (dC (.str "left")))) (sRet (dVar 2)))) sNext) (sSeq (sAsg (dOp fIx (dVar 0) (dC (.str "at"))) 3) (sSeq (sAsgG (dOp fAdd (dVar 3) (dC (.int 1))) (gSubD (dVar 0) (dC (.str "at")))) (sSeq (sAsg (dIf (dTst (dOp fNe (dOp fIx (dVar 0) (dC (.str "cells"))) (dLst dNil))) (dOp fIx (dOp fIx (dVar 0) (dC (.str "cells"))) (dOp fMod (dVar 3) (dFn gLen (dCons (dOp fIx (dVar 0) (dC (.str "cells"))) dNil)))) (dC (.int p.d0))) 4) (rTail p))))))
/-- what a draw promises -/
def spDraw : DSp := fun ws S Q _ => ∃ a many, ws = [.ref a, .int many] ∧ (0 < many ∧ many < 1073741824) ∧ (∃ o, S a = some o ∧ FeedO o) ∧ ∀ r o, 0 ≤ r → r < many → FeedO o → Q (.int r) (su S a o)
theorem draw_by {a : Addr} {many : Int} {S : Sto} {Q : DK} {E : XD} {o : O} (hs : S a = some o) (ho : FeedO o) (h0 : 0 < many) (h1 : many < 1073741824) (q : ∀ r o, 0 ≤ r → r < many → FeedO o → Q (.int r) (su S a o)) : spDraw [.ref a, .int many] S Q E :=
  ⟨a, many, rfl, ⟨h0, h1⟩, ⟨o, hs, ho⟩, q⟩
theorem draw_su {a : Addr} {many : Int} {S : Sto} {Q : DK} {E : XD} {o : O} (ho : FeedO o) (h0 : 0 < many) (h1 : many < 1073741824) (q : ∀ r o, 0 ≤ r → r < many → FeedO o → Q (.int r) (su S a o)) : spDraw [.ref a, .int many] (su S a o) Q E :=
  draw_by (su_same ..) ho h0 h1 fun r o h2 h3 h4 => by rw [su_su]; exact q r o h2 h3 h4
theorem ends_rt {Q : DK} {w : D} {S : Sto} (h : Q w S) : (endsD Q).rt w S := ⟨S, .refl, h⟩
theorem draw_tail {p : Fd} (hp : p.Ok) {S : Sto} {Q : DK} {a : Addr} {many t0 cell t l n : Int} {c : List Int} (h0 : 0 < many) (h1 : many < 1073741824) (ht : 0 ≤ t) (q : ∀ r o, 0 ≤ r → r < many → FeedO o → Q (.int r) (su S a o)) :
    rTail p (endsD Q) [some (.ref a), some (.int many), none, some (.int t0), some (.int cell), none] (su S a (feedO c t l n)) := by
  have rt : ∀ x t l n, 0 ≤ t → (endsD Q).rt (.int (x % many)) (su S a (feedO c t l n)) := fun x t l n ht => ends_rt (q _ _ (Int.emod_nonneg _ (by omega)) (Int.emod_lt_of_pos _ h0) ⟨_, _, _, _, rfl, ht⟩)
  have unf : rTail p = _ := rfl
  simp only [rTail]
  simp only [sSeq, sAsgG, dOp, dVar, dC, gSubD, List.getElem?_cons_zero, List.getElem?_cons_succ, sIf, dTst, fGe, fPow, sAsg, fMod, fDiv, sNext, List.set_cons_zero, List.set_cons_succ, dAnd, dFn, dCons, dNil, sRet]
  refine ⟨⟨by decide, by decide, by decide⟩, ?_⟩
  have m2 : ∀ x y : Int, 0 < y → y < 2 ^ 64 → CMul (x % y) (x % y) := fun x y h h' => .inl ⟨by have := Int.emod_nonneg x (b := y) (by omega); omega, by have := Int.emod_lt_of_pos x h; omega⟩
  have m2' : ∀ x y : Int, 0 < y → y < 2 ^ 64 → -2 ^ 64 < x % y ∧ x % y < 2 ^ 64 := fun x y h h' => ⟨by have := Int.emod_nonneg x (b := y) (by omega); omega, by have := Int.emod_lt_of_pos x h; omega⟩
  have last : rTail0 p (endsD Q) [some (.ref a), some (.int many), none, some (.int t0), some (.int cell), none] (su S a (feedO c t l n)) := by
    simp only [rTail0]
    simp only [sSeq, dOp, dVar, dC, List.getElem?_cons_zero, List.getElem?_cons_succ, sAsg, fMod, List.set_cons_zero, List.set_cons_succ, sRet, fx_count, fMul_ii, fAdd]
    refine ⟨hp.m1, .inl hp.a1, hp.q1.1, m2 _ _ hp.q1.1 hp.q1.2, .inl hp.a2, hp.q2.1, m2 _ _ hp.q2.1 hp.q2.2, ?_⟩
    simp only [fDiv]
    refine ⟨.inr ⟨(m2' _ _ hp.q2.1 hp.q2.2).1, (m2' _ _ hp.q2.1 hp.q2.2).2⟩, hp.q3, hp.v, h0, rt _ _ _ _ ht⟩
  have e18 : ((10 : Int) ^ (18 : Int).toNat) = 1000000000000000000 := rfl
  rw [e18]
  by_cases h18 : cell ≥ 1000000000000000000
  · rw [if_pos (decide_eq_true h18)]
    simp only [fx_cells, gLen_lst, List.length_map, fLt]
    by_cases ht0 : t0 < c.length
    · rw [if_pos (decide_eq_true ht0)]
      simp only [ft_left]
      exact ⟨⟨h0, h1⟩, h0, rt _ _ _ _ ht⟩
    · rw [if_neg (by simpa using ht0)]
      exact last
  · rw [if_neg (by simpa using h18)]
    exact last
theorem draw_ok {p : Fd} (hp : p.Ok) {S : Sto} {Q : DK} {E : XD} {ws : List D} (h : spDraw ws S Q E) : rDraw p (endsD Q) (startD ["_law_feed_here", "_law_many", "_law_figure", "_law_at", "_law_cell", "_law_mixed"] ws) S := by
  obtain ⟨a, many, rfl, ⟨h0, h1⟩, ⟨o, hs, ⟨c, t, l, n, rfl, ht⟩⟩, q⟩ := h
  rw [← su_self hs]
  simp only [rDraw, startD, List.map_cons, List.map_nil, List.length_cons, List.length_nil, Nat.reduceAdd, Nat.reduceSub, List.replicate, List.cons_append, List.nil_append]
  simp only [sSeq, sAsgG, dOp, dVar, dC, gSubD, List.getElem?_cons_zero, List.getElem?_cons_succ, fx_count, fAdd, ft_count, sIf, dTst, fx_left, fGt, sAsg, fMod, fDiv, sNext, fx_at, ft_at, ft_left, List.set_cons_zero, List.set_cons_succ, fx_cells, dIf, dAnd, dFn, dCons, dNil, dLst, sRet]
  by_cases hl : 0 < l
  · rw [if_pos (decide_eq_true hl)]
    refine ⟨h0, ⟨h0, h1⟩, ends_rt (q _ _ (Int.emod_nonneg _ (by omega)) (Int.emod_lt_of_pos _ h0) ⟨_, _, _, _, rfl, ht⟩)⟩
  · rw [if_neg (by simpa using hl)]
    refine ⟨by decide, ?_⟩
    rw [ne_nil_ints]
    by_cases hc : c = []
    · subst hc
      simp only [List.isEmpty_nil, Bool.not_true, if_false, Bool.false_eq_true]
      exact draw_tail hp h0 h1 (by omega) q
    · have e : c.isEmpty = false := by cases c with
        | nil => exact absurd rfl hc
        | cons _ _ => rfl
      have hlen : 0 < c.length := List.length_pos_iff.2 hc
      simp only [e, Bool.not_false, if_true]
      simp only [fx_cells, gLen_lst, List.length_map]
      have hm : (0 : Int) < c.length := by omega
      refine ⟨hm, ix_lst (Int.emod_nonneg _ (by omega)) (by rw [List.length_map]; exact Int.emod_lt_of_pos _ hm) fun x hx => ?_⟩
      obtain ⟨i, _, rfl⟩ := List.mem_map.1 hx
      exact draw_tail hp h0 h1 (by omega) q
def spFeed : DSp := fun ws S Q _ => ∃ ns : List Int, ws = [.scr (ns.map .int)] ∧ ns.length ≤ 63 ∧ ∀ a o, S a = none → FeedO o → Q (.ref a) (su S a o)
theorem feed_ok {p : Fd} {S : Sto} {Q : DK} {E : XD} {ws : List D} (h : spFeed ws S Q E) : rFeed p (endsD Q) (startD ["_law_script"] ws) S := by
  obtain ⟨ns, rfl, hn, q⟩ := h
  simp only [rFeed, startD, List.map_cons, List.map_nil, List.length_cons, List.length_nil, Nat.reduceAdd, Nat.reduceSub, List.replicate, List.cons_append, List.nil_append]
  simp only [sRet, dDisp, dPairs, dC, dFn, dCons, dNil, dSl, dVar, dNoPart, dPart, List.getElem?_cons_zero, fSl, keysOf, keyOf]
  have e : cut (ns.map D.int) none (some p.top) = (cut ns none (some p.top)).map D.int := by
    unfold cut
    rw [List.length_map, ← List.map_drop, ← List.map_take]
  rw [e]
  exact ⟨show 4 ≤ 15 by decide, fun a ha => ends_rt (q a _ ha ⟨_, 0, 0, 0, rfl, Int.le_refl _⟩)⟩
end DL


set_option Elab.async false
set_option linter.all false
set_option maxRecDepth 100000
set_option maxHeartbeats 4000000
namespace DL
open PySem PySem.Spec PyProof.Rows L2
section
variable {g : DG} {tt : DT} {te : DE} {env : Env'} {ok : Sto → Prop} {Q : List D → Sto → Prop}
/-- a comprehension by what stands behind each thing: J tells of the things gone through, what was gathered, the store -/
theorem cLoop_all (J : List D → List D → Sto → Prop) (hok : ∀ pre acc S, J pre acc S → ok S) : ∀ (items pre acc : List D) (S : Sto), acc.length + items.length ≤ sizeLine →
    (∀ x ∈ items, ∀ pre acc S, J pre acc S → ∀ (R1 : D → Sto → Prop) (R2 : Sto → Prop), (∀ y S', J (pre ++ [x]) (acc ++ [y]) S' → R1 y S') → (∀ S', J (pre ++ [x]) acc S' → R2 S') → g x env S fun env2 S2 => tt env2 S2 fun b S3 => if b = true then te env2 S3 R1 else R2 S3) →
    J pre acc S → (∀ acc' S', acc'.length ≤ acc.length + items.length → J (pre ++ items) acc' S' → Q acc' S') → cLoop g tt te env ok Q items acc S
  | [], pre, acc, S, _, _, j, q => ⟨hok _ _ _ j, q _ _ (Nat.le_refl _) (by rw [List.append_nil]; exact j)⟩
  | x :: r, pre, acc, S, hl, step, j, q => by
    refine ⟨hok _ _ _ j, ?_⟩
    refine step x (List.mem_cons_self ..) pre acc S j _ _ (fun y S' j' => ⟨?_, ?_⟩) fun S' j' => ?_
    · simp only [List.length_cons] at hl; omega
    · refine cLoop_all J hok r (pre ++ [x]) (acc ++ [y]) S' (by simp only [List.length_cons, List.length_append, List.length_nil] at *; omega) (fun z hz => step z (List.mem_cons_of_mem _ hz)) j' fun acc' S2 h2 j2 => q acc' S2 (by simp only [List.length_cons, List.length_append, List.length_nil] at *; omega) (by rw [List.append_assoc] at j2; exact j2)
    · refine cLoop_all J hok r (pre ++ [x]) acc S' (by simp only [List.length_cons] at *; omega) (fun z hz => step z (List.mem_cons_of_mem _ hz)) j' fun acc' S2 h2 j2 => q acc' S2 (by simp only [List.length_cons] at *; omega) (by rw [List.append_assoc] at j2; exact j2)
/-- .. where nothing of the things gone through is asked -/
theorem cLoop_inv (J : List D → Sto → Prop) (hok : ∀ acc S, J acc S → ok S) (items acc : List D) (S : Sto) (hl : acc.length + items.length ≤ sizeLine)
    (step : ∀ x ∈ items, ∀ acc S, J acc S → ∀ (R1 : D → Sto → Prop) (R2 : Sto → Prop), (∀ y S', J (acc ++ [y]) S' → R1 y S') → (∀ S', J acc S' → R2 S') → g x env S fun env2 S2 => tt env2 S2 fun b S3 => if b = true then te env2 S3 R1 else R2 S3)
    (j : J acc S) (q : ∀ acc' S', acc'.length ≤ acc.length + items.length → J acc' S' → Q acc' S') : cLoop g tt te env ok Q items acc S :=
  cLoop_all (fun _ => J) (fun _ => hok) items [] acc S hl (fun x hx _ => step x hx) j q
/-- .. where the store stays, each thing's value is told -/
theorem cLoop_map (f : D → D) {items : List D} {S : Sto} (hok : ok S) (hl : items.length ≤ sizeLine) (step : ∀ x ∈ items, ∀ R : D → Sto → Prop, R (f x) S → g x env S fun env2 S2 => te env2 S2 R) (q : Q (items.map f) S) : cLoop g dTrue te env ok Q items [] S :=
  cLoop_all (fun pre acc S' => S' = S ∧ acc = pre.map f) (fun _ _ S' e => e.1 ▸ hok) items [] [] S (by simpa using hl) (fun x hx pre acc S' ⟨e1, e2⟩ R1 R2 h1 _ => by
    subst e1 e2
    exact step x hx R1 (h1 _ _ ⟨rfl, by rw [List.map_append]; rfl⟩)) ⟨rfl, rfl⟩ fun acc' S' _ ⟨e1, e2⟩ => by subst e1 e2; exact q
theorem cLoop_filter (p : D → Bool) (f : D → D) {items : List D} {S : Sto} (hok : ok S) (hl : items.length ≤ sizeLine)
    (step : ∀ x ∈ items, ∀ (R1 : D → Sto → Prop) (R2 : Sto → Prop), (p x = true → R1 (f x) S) → (p x = false → R2 S) → g x env S fun env2 S2 => tt env2 S2 fun b S3 => if b = true then te env2 S3 R1 else R2 S3)
    (q : Q ((items.filter p).map f) S) : cLoop g tt te env ok Q items [] S :=
  cLoop_all (fun pre acc S' => S' = S ∧ acc = (pre.filter p).map f) (fun _ _ S' e => e.1 ▸ hok) items [] [] S (by simpa using hl) (fun x hx pre acc S' ⟨e1, e2⟩ R1 R2 h1 h2 => by
    subst e1 e2
    refine step x hx R1 R2 (fun hp => h1 _ _ ⟨rfl, ?_⟩) fun hp => h2 _ ⟨rfl, ?_⟩
    · rw [List.filter_append, List.map_append]; simp [hp]
    · rw [List.filter_append, List.map_append]; simp [hp]) ⟨rfl, rfl⟩ fun acc' S' _ ⟨e1, e2⟩ => by subst e1 e2; exact q
end
section
variable {g : DG} {body : DS} {d : DEnds} {ok : Sto → Prop}
/-- a for: J tells of the things gone through, the names, the store -/
theorem sLoop_all (J : List D → Env' → Sto → Prop) (hok : ∀ pre env S, J pre env S → ok S) : ∀ (items pre : List D) (env : Env') (S : Sto),
    (∀ x ∈ items, ∀ pre env S, J pre env S → ∀ R : Env' → Sto → Prop, (∀ env' S', J (pre ++ [x]) env' S' → R env' S') → g x env S fun env2 S2 => body { d with nx := R, ct := R, bk := d.nx } env2 S2) →
    J pre env S → (∀ env' S', J (pre ++ items) env' S' → d.nx env' S') → sLoop g body d ok items env S
  | [], pre, env, S, _, j, q => ⟨hok _ _ _ j, q _ _ (by rw [List.append_nil]; exact j)⟩
  | x :: r, pre, env, S, step, j, q => by
    refine ⟨hok _ _ _ j, ?_⟩
    refine step x (List.mem_cons_self ..) pre env S j _ fun env' S' j' => ?_
    exact sLoop_all J hok r (pre ++ [x]) env' S' (fun z hz => step z (List.mem_cons_of_mem _ hz)) j' fun env2 S2 j2 => q env2 S2 (by rw [List.append_assoc] at j2; exact j2)
theorem sLoop_inv (J : Env' → Sto → Prop) (hok : ∀ env S, J env S → ok S) (items : List D) (env : Env') (S : Sto)
    (step : ∀ x ∈ items, ∀ env S, J env S → ∀ R : Env' → Sto → Prop, (∀ env' S', J env' S' → R env' S') → g x env S fun env2 S2 => body { d with nx := R, ct := R, bk := d.nx } env2 S2)
    (j : J env S) (q : ∀ env' S', J env' S' → d.nx env' S') : sLoop g body d ok items env S :=
  sLoop_all (fun _ => J) (fun _ => hok) items [] env S (fun x hx _ => step x hx) j q
end
/-! ### readings of the operations, one a shape -/
section
variable {S : Sto} {Q : DK}
theorem gAll_lst {xs : List D} {bs : List Bool} (h : xs = bs.map .bl) : gAll [.lst xs] S Q = Q (.bl (bs.all id)) S := by
  subst h
  have e : blsOf (bs.map .bl) = some bs := by
    induction bs with
    | nil => rfl
    | cons b bs ih => simp only [List.map_cons, blsOf, ih]; first | rfl | simp
  show (match (some (bs.map D.bl)).bind blsOf with | some bs => Q (.bl (bs.all id)) S | none => False) = _
  rw [Option.bind_some, e]
theorem gAny_lst {xs : List D} {bs : List Bool} (h : xs = bs.map .bl) : gAny [.lst xs] S Q = Q (.bl (bs.any id)) S := by
  subst h
  have e : blsOf (bs.map .bl) = some bs := by
    induction bs with
    | nil => rfl
    | cons b bs ih => simp only [List.map_cons, blsOf, ih]; first | rfl | simp
  show (match (some (bs.map D.bl)).bind blsOf with | some bs => Q (.bl (bs.any id)) S | none => False) = _
  rw [Option.bind_some, e]
theorem fIn_sign {c : Nat} {b : Str} : fIn (.str ⟨#[c]⟩) (.str b) S Q = Q (.bl (decide (c ∈ b.cps.toList))) S := rfl
/-- data as data: nothing of the store within -/
theorem shp_sign {c : Nat} : True := trivial
end
end DL


set_option Elab.async false
set_option linter.all false
set_option maxRecDepth 100000
set_option maxHeartbeats 4000000
set_option exponentiation.threshold 4000
namespace DL
open PySem PySem.Spec PyProof.Rows L2
/-! ### texts: right signs, at most b of them -/
structure Ss (b : Nat) (z : Str) : Prop where
  ok : ∀ c ∈ z.cps.toList, c < 1114112
  len : z.length ≤ b
theorem strOk_iff {z : Str} : PyData.strOk z = true ↔ ∀ c ∈ z.cps.toList, c < 1114112 := by
  unfold PyData.strOk
  rw [Array.all_eq_true_iff_forall_mem]
  simp
theorem Ss.strOk {b : Nat} {z : Str} (h : Ss b z) : PyData.strOk z = true := strOk_iff.2 h.ok
theorem Ss.le {b c : Nat} {z : Str} (h : Ss b z) (hb : b ≤ c) : Ss c z := ⟨h.ok, Nat.le_trans h.len hb⟩
theorem len_toList (z : Str) : z.length = z.cps.toList.length := by show z.cps.size = _; rw [Array.length_toList]
theorem Ss.app {b c : Nat} {x y : Str} (h : Ss b x) (h' : Ss c y) : Ss (b + c) (x ++ y) := by
  have e : (x ++ y).cps.toList = x.cps.toList ++ y.cps.toList := by
    show (x.cps ++ y.cps).toList = _
    rw [Array.toList_append]
  refine ⟨fun d hd => ?_, ?_⟩
  · rw [e] at hd
    rcases List.mem_append.1 hd with hd | hd
    · exact h.ok d hd
    · exact h'.ok d hd
  · rw [len_toList, e, List.length_append, ← len_toList, ← len_toList]
    have := h.len; have := h'.len; omega
theorem cut_toList (z : Str) (lo hi : Option Int) : (cutS z lo hi).cps.toList = (z.cps.toList.drop (HT.sIx z.length 0 lo)).take (HT.sIx z.length z.length hi - HT.sIx z.length 0 lo) := rfl
theorem Ss.cutS {b : Nat} {z : Str} (h : Ss b z) (lo hi : Option Int) : Ss b (cutS z lo hi) := by
  refine ⟨fun d hd => h.ok d ?_, ?_⟩
  · rw [cut_toList] at hd
    exact List.mem_of_mem_drop (List.mem_of_mem_take hd)
  · rw [len_toList, cut_toList, List.length_take, List.length_drop, ← len_toList]
    have := h.len; omega
theorem cutS_to {z : Str} {i : Int} (h0 : 0 ≤ i) (h : i ≤ z.length) : (L2.cutS z none (some i)).length = i.toNat := by
  rw [len_toList, cut_toList, List.length_take, List.length_drop, ← len_toList]
  simp only [HT.sIx]
  rw [if_neg (by omega)]
  omega
theorem cutS_from {z : Str} {i : Int} (h0 : 0 ≤ i) : (L2.cutS z (some i) none).length = z.length - i.toNat := by
  rw [len_toList, cut_toList, List.length_take, List.length_drop, ← len_toList]
  simp only [HT.sIx]
  rw [if_neg (by omega)]
  omega
theorem cut_to {α : Type} {z : List α} {i : Int} (h0 : 0 ≤ i) (h : i ≤ z.length) : cut z none (some i) = z.take i.toNat := by
  unfold cut
  simp only [HT.sIx]
  rw [if_neg (by omega), List.drop_zero]
  congr 1
  omega
theorem cut_from {α : Type} {z : List α} {i : Int} (h0 : 0 ≤ i) : cut z (some i) none = z.drop i.toNat := by
  unfold cut
  simp only [HT.sIx]
  rw [if_neg (by omega), List.take_of_length_le (by rw [List.length_drop]; omega)]
  by_cases h : i.toNat ≤ z.length
  · rw [Nat.min_eq_left h]
  · rw [Nat.min_eq_right (by omega), List.drop_of_length_le (Nat.le_refl _), List.drop_of_length_le (by omega)]
theorem cut_sub {α : Type} (z : List α) (lo hi : Option Int) : List.Sublist (cut z lo hi) z := (List.take_sublist _ _).trans (List.drop_sublist _ _)
theorem ss_sign {c : Nat} (h : c < 1114112) : Ss 1 ⟨#[c]⟩ := ⟨fun d hd => by simp at hd; omega, by simp [Str.length]⟩
theorem Ss.sign {b c : Nat} {z : Str} (h : Ss b z) (hc : c ∈ z.cps.toList) : Ss 1 ⟨#[c]⟩ := ss_sign (h.ok c hc)
theorem ss_by {b : Nat} {z : Str} (h : (z.cps.toList.all (fun c => decide (c < 1114112)) && decide (z.length ≤ b)) = true) : Ss b z := by
  rw [Bool.and_eq_true, List.all_eq_true] at h
  exact ⟨fun c hc => of_decide_eq_true (h.1 c hc), of_decide_eq_true h.2⟩
theorem glue_fold (g : Array Nat) : ∀ (zs : List Str) (acc : Array Nat), (zs.foldl (fun acc p => acc ++ g ++ p.cps) acc).toList = acc.toList ++ (zs.map fun p => g.toList ++ p.cps.toList).flatten
  | [], acc => by simp
  | z :: zs, acc => by
    rw [List.foldl_cons, glue_fold g zs]
    simp
theorem join_toList (g : Str) : ∀ zs : List Str, (Txt.join g zs).cps.toList = (match zs with
    | [] => []
    | z :: r => z.cps.toList ++ (r.map fun p => g.cps.toList ++ p.cps.toList).flatten)
  | [] => rfl
  | z :: r => by
    show (List.foldl (fun acc p => acc ++ g.cps ++ p.cps) z.cps r).toList = _
    rw [glue_fold]
theorem ss_join {b k : Nat} {g : Str} (hg : Ss k g) {zs : List Str} (h : ∀ z ∈ zs, Ss b z) : Ss (zs.length * (b + k)) (Txt.join g zs) := by
  have key : ∀ zs : List Str, (∀ z ∈ zs, Ss b z) → (∀ c ∈ (zs.map fun p : Str => g.cps.toList ++ p.cps.toList).flatten, c < 1114112) ∧ (zs.map fun p : Str => g.cps.toList ++ p.cps.toList).flatten.length ≤ zs.length * (b + k) := by
    intro zs
    induction zs with
    | nil => intro _; exact ⟨fun c hc => by simp at hc, by simp⟩
    | cons z r ih =>
      intro h
      obtain ⟨h1, h2⟩ := ih fun x hx => h x (List.mem_cons_of_mem _ hx)
      have hz := h z (List.mem_cons_self ..)
      refine ⟨fun c hc => ?_, ?_⟩
      · rw [List.map_cons, List.flatten_cons, List.mem_append, List.mem_append] at hc
        rcases hc with (hc | hc) | hc
        · exact hg.ok c hc
        · exact hz.ok c hc
        · exact h1 c hc
      · rw [List.map_cons, List.flatten_cons, List.length_append, List.length_append, ← len_toList, ← len_toList, List.length_cons, Nat.succ_mul]
        have := hg.len; have := hz.len; omega
  cases zs with
  | nil => exact ⟨fun c hc => by rw [join_toList] at hc; simp at hc, by rw [len_toList, join_toList]; simp⟩
  | cons z r =>
    obtain ⟨h1, h2⟩ := key r fun x hx => h x (List.mem_cons_of_mem _ hx)
    have hz := h z (List.mem_cons_self ..)
    refine ⟨fun c hc => ?_, ?_⟩
    · rw [join_toList] at hc
      rcases List.mem_append.1 hc with hc | hc
      · exact hz.ok c hc
      · exact h1 c hc
    · rw [len_toList, join_toList, List.length_append, ← len_toList, List.length_cons, Nat.succ_mul]
      have := hz.len; omega
theorem Ss.gd {m d b c : Nat} {z : Str} (h : Ss b z) (hb : b ≤ c) : Gd m d c (.str z) := gd_str h.strOk (Nat.le_trans h.len hb)
/-! ### readings -/
section
variable {S : Sto} {Q : DK}
theorem strs_map (zs : List Str) : strsOf (zs.map .str) = some zs := by
  induction zs with
  | nil => rfl
  | cons z r ih => simp only [List.map_cons, strsOf, ih]; rfl
theorem join_by {g : Str} {zs : List Str} {b k : Nat} (hg : Ss k g) (h : ∀ z ∈ zs, Ss b z) (hl : zs.length * (b + k) ≤ 16777216) (q : Q (.str (Txt.join g zs)) S) : gJoin (.str g) [.lst (zs.map .str)] S Q := by
  show (match (some (zs.map D.str)).bind strsOf with
    | some zs => (zs.map (·.length)).sum + zs.length * g.length ≤ 16777216 ∧ Q (.str (Txt.join g zs)) S
    | none => False)
  rw [Option.bind_some, strs_map]
  refine ⟨?_, q⟩
  have key : ∀ zs : List Str, (∀ z ∈ zs, Ss b z) → (zs.map (·.length)).sum ≤ zs.length * b := by
    intro zs
    induction zs with
    | nil => intro _; simp
    | cons z r ih =>
      intro h
      have := ih fun x hx => h x (List.mem_cons_of_mem _ hx)
      have := (h z (List.mem_cons_self ..)).len
      rw [List.map_cons, List.sum_cons, List.length_cons, Nat.succ_mul]; omega
  have h1 := key zs h
  have h2 : zs.length * g.length ≤ zs.length * k := Nat.mul_le_mul_left _ hg.len
  rw [Nat.mul_add] at hl
  show (zs.map (·.length)).sum + zs.length * g.length ≤ 16777216
  omega
theorem nil_by {env : Env'} {S : Sto} {Q : List D → Sto → Prop} (h : Q [] S) : dNil env S Q := h
/-- a test parts -/
theorem ite_by {b : Bool} {p q : Prop} (h1 : b = true → p) (h2 : b = false → q) : if b = true then p else q := by
  cases b
  · exact h2 rfl
  · exact h1 rfl
end
end DL


set_option Elab.async false
set_option linter.all false
set_option maxRecDepth 100000
set_option maxHeartbeats 4000000
namespace DL
open PySem PySem.Spec PyProof.Rows L2
/-! ### what a drawing def promises: its feed first, further things, then a value; nothing else is touched -/
def spG (A : List D → Prop) (P : List D → D → Prop) : DSp := fun ws S Q _ => ∃ a o xs, ws = .ref a :: xs ∧ A xs ∧ S a = some o ∧ FeedO o ∧ ∀ x o', P xs x → FeedO o' → Q x (su S a o')
theorem g_su {A : List D → Prop} {P : List D → D → Prop} {a : Addr} {o : O} {S : Sto} {Q : DK} {E : XD} {xs : List D} (ho : FeedO o) (hA : A xs) (q : ∀ x o', P xs x → FeedO o' → Q x (su S a o')) : spG A P (.ref a :: xs) (su S a o) Q E :=
  ⟨a, o, xs, rfl, hA, su_same .., ho, fun x o' h1 h2 => by rw [su_su]; exact q x o' h1 h2⟩
theorem g_at {A : List D → Prop} {P : List D → D → Prop} {a : Addr} {o : O} {S : Sto} {Q : DK} {E : XD} {xs : List D} (hs : S a = some o) (ho : FeedO o) (hA : A xs) (q : ∀ x o', P xs x → FeedO o' → Q x (su S a o')) : spG A P (.ref a :: xs) S Q E :=
  ⟨a, o, xs, rfl, hA, hs, ho, q⟩
/-- a pure def: further things to a value, the store stays -/
def spP (A : List D → Prop) (P : List D → D → Prop) : DSp := fun ws S Q _ => A ws ∧ ∀ x, P ws x → Q x S
end DL


set_option Elab.async false
set_option linter.all false
set_option maxRecDepth 100000
set_option maxHeartbeats 4000000
set_option exponentiation.threshold 4000
namespace DL
open PySem PySem.Spec PyProof.Rows L2
/-! ### readings of the operations, one a shape: rows to rewrite by -/
section
variable {S : Sto} {Q : DK} {i j : Int} {x y z : Str} {xs ys : List D} {b c : Bool} {w u : D} {a : Addr}
theorem fAdd_ii : fAdd (.int i) (.int j) S Q = Q (.int (i + j)) S := rfl
theorem fAdd_ss : fAdd (.str x) (.str y) S Q = (x.length + y.length ≤ sizeLine ∧ Q (.str (x ++ y)) S) := rfl
theorem fAdd_tt : fAdd (.tup xs) (.tup ys) S Q = (xs.length + ys.length ≤ sizeLine ∧ Q (.tup (xs ++ ys)) S) := rfl
theorem fAdd_ll : fAdd (.lst xs) (.lst ys) S Q = (xs.length + ys.length ≤ sizeLine ∧ Q (.lst (xs ++ ys)) S) := rfl
theorem fAdd_rl : fAdd (.ref a) (.lst ys) S Q = (match lsOf S (.ref a) with | some xs => xs.length + ys.length ≤ sizeLine ∧ Q (.lst (xs ++ ys)) S | none => False) := by
  show (match lsOf S (.ref a), some ys with | some xs, some ys => xs.length + ys.length ≤ sizeLine ∧ Q (.lst (xs ++ ys)) S | _, _ => False) = _
  cases lsOf S (.ref a) <;> rfl
theorem fSub_ii : fSub (.int i) (.int j) S Q = Q (.int (i - j)) S := rfl
theorem fNeg_i : fNeg (.int i) S Q = Q (.int (-i)) S := rfl
theorem fDiv_ii : fDiv (.int i) (.int j) S Q = ((0 < j ∧ j < 1073741824) ∧ Q (.int (i / j)) S) := rfl
theorem fMod_ii : fMod (.int i) (.int j) S Q = (0 < j ∧ Q (.int (i % j)) S) := rfl
theorem fPow_ii : fPow (.int i) (.int j) S Q = (CPow i j ∧ Q (.int (i ^ j.toNat)) S) := rfl
theorem fLt_ii : fLt (.int i) (.int j) S Q = Q (.bl (decide (i < j))) S := rfl
theorem fLe_ii : fLe (.int i) (.int j) S Q = Q (.bl (decide (i ≤ j))) S := rfl
theorem fGt_ii : fGt (.int i) (.int j) S Q = Q (.bl (decide (j < i))) S := rfl
theorem fGe_ii : fGe (.int i) (.int j) S Q = Q (.bl (decide (j ≤ i))) S := rfl
theorem fEq_ii : fEq (.int i) (.int j) S Q = Q (.bl (decide (i = j))) S := by
  unfold fEq
  have e : deq (rd S (.int i)) (rd S (.int j)) = decide (i = j) := deq_int
  rw [e]
  exact propext ⟨fun h => h.2, fun h => ⟨.inr ⟨rfl, rfl⟩, h⟩⟩
theorem fNe_ii : fNe (.int i) (.int j) S Q = Q (.bl (!decide (i = j))) S := by
  unfold fNe
  have e : deq (rd S (.int i)) (rd S (.int j)) = decide (i = j) := deq_int
  rw [e]
  exact propext ⟨fun h => h.2, fun h => ⟨.inr ⟨rfl, rfl⟩, h⟩⟩
theorem fEq_ss : fEq (.str x) (.str y) S Q = Q (.bl (decide (x = y))) S := propext ⟨fun h => by
  have e : deq (rd S (.str x)) (rd S (.str y)) = decide (x = y) := deq_str
  unfold fEq at h; rw [e] at h; exact h.2, eq_str⟩
theorem fNe_ss : fNe (.str x) (.str y) S Q = Q (.bl (!decide (x = y))) S := propext ⟨fun h => by
  have e : deq (rd S (.str x)) (rd S (.str y)) = decide (x = y) := deq_str
  unfold fNe at h; rw [e] at h; exact h.2, ne_str⟩
theorem fIx_t : fIx (.tup xs) (.int i) S Q = qOpt (atI xs i) S Q := rfl
theorem fIx_l : fIx (.lst xs) (.int i) S Q = qOpt (atI xs i) S Q := rfl
theorem fSl_t {lo hi : Option Int} : fSl (.tup xs) lo hi S Q = Q (.tup (cut xs lo hi)) S := rfl
theorem fSl_l {lo hi : Option Int} : fSl (.lst xs) lo hi S Q = Q (.lst (cut xs lo hi)) S := rfl
theorem fSl_s {lo hi : Option Int} : fSl (.str x) lo hi S Q = (x.length ≤ sizeLine ∧ Q (.str (cutS x lo hi)) S) := rfl
theorem fRv_t : fRv (.tup xs) S Q = Q (.tup xs.reverse) S := rfl
theorem fRv_l : fRv (.lst xs) S Q = Q (.lst xs.reverse) S := rfl
theorem gList_t : gList [.tup xs] S Q = Q (.lst xs) S := rfl
theorem gList_l : gList [.lst xs] S Q = Q (.lst xs) S := rfl
theorem gTuple_t : gTuple [.tup xs] S Q = Q (.tup xs) S := rfl
theorem gTuple_l : gTuple [.lst xs] S Q = Q (.tup xs) S := rfl
theorem gStr_i : gStr [.int i] S Q = (i.natAbs.log2 < 1920 ∧ Q (.str (toString i)) S) := rfl
theorem gStr_s : gStr [.str x] S Q = Q (.str x) S := rfl
theorem gInt_b : gInt [.bl b] S Q = Q (.int (b2 b)) S := rfl
theorem gInt_i : gInt [.int i] S Q = Q (.int i) S := rfl
theorem isi_tup (T : String) (h : T ∈ tys) : gIsi [.tup xs, .val (.ty T)] S Q = Q (.bl (T == "tuple")) S := by
  show (T ∈ tys ∧ Q (.bl (isSub "tuple" T)) S) = _
  have e : isSub "tuple" T = (T == "tuple") := by
    simp only [tys, List.mem_cons, List.not_mem_nil, or_false] at h
    rcases h with rfl | rfl | rfl | rfl | rfl | rfl <;> decide
  rw [e]; exact propext ⟨fun q => q.2, fun q => ⟨h, q⟩⟩
theorem isi_at {x : D} {t : String} (e : tyOf S x = some t) (T : String) (h : T ∈ tys) : gIsi [x, .val (.ty T)] S Q = Q (.bl (isSub t T)) S := by
  show (T ∈ tys ∧ (match tyOf S x with | some t => Q (.bl (isSub t T)) S | none => False)) = _
  rw [e]; exact propext ⟨fun q => q.2, fun q => ⟨h, q⟩⟩
theorem isi_non_int : gIsi [.non, .val (.ty "int")] S Q = Q (.bl false) S := isi_at (t := "NoneType") rfl "int" (by decide)
theorem isi_non_bool : gIsi [.non, .val (.ty "bool")] S Q = Q (.bl false) S := isi_at (t := "NoneType") rfl "bool" (by decide)
theorem isi_non_str : gIsi [.non, .val (.ty "str")] S Q = Q (.bl false) S := isi_at (t := "NoneType") rfl "str" (by decide)
theorem isi_non_tuple : gIsi [.non, .val (.ty "tuple")] S Q = Q (.bl false) S := isi_at (t := "NoneType") rfl "tuple" (by decide)
theorem isi_non_list : gIsi [.non, .val (.ty "list")] S Q = Q (.bl false) S := isi_at (t := "NoneType") rfl "list" (by decide)
theorem isi_non_dict : gIsi [.non, .val (.ty "dict")] S Q = Q (.bl false) S := isi_at (t := "NoneType") rfl "dict" (by decide)
theorem isi_bl_int : gIsi [(.bl b), .val (.ty "int")] S Q = Q (.bl true) S := isi_at (t := "bool") rfl "int" (by decide)
theorem isi_bl_bool : gIsi [(.bl b), .val (.ty "bool")] S Q = Q (.bl true) S := isi_at (t := "bool") rfl "bool" (by decide)
theorem isi_bl_str : gIsi [(.bl b), .val (.ty "str")] S Q = Q (.bl false) S := isi_at (t := "bool") rfl "str" (by decide)
theorem isi_bl_tuple : gIsi [(.bl b), .val (.ty "tuple")] S Q = Q (.bl false) S := isi_at (t := "bool") rfl "tuple" (by decide)
theorem isi_bl_list : gIsi [(.bl b), .val (.ty "list")] S Q = Q (.bl false) S := isi_at (t := "bool") rfl "list" (by decide)
theorem isi_bl_dict : gIsi [(.bl b), .val (.ty "dict")] S Q = Q (.bl false) S := isi_at (t := "bool") rfl "dict" (by decide)
theorem isi_int_int : gIsi [(.int i), .val (.ty "int")] S Q = Q (.bl true) S := isi_at (t := "int") rfl "int" (by decide)
theorem isi_int_bool : gIsi [(.int i), .val (.ty "bool")] S Q = Q (.bl false) S := isi_at (t := "int") rfl "bool" (by decide)
theorem isi_int_str : gIsi [(.int i), .val (.ty "str")] S Q = Q (.bl false) S := isi_at (t := "int") rfl "str" (by decide)
theorem isi_int_tuple : gIsi [(.int i), .val (.ty "tuple")] S Q = Q (.bl false) S := isi_at (t := "int") rfl "tuple" (by decide)
theorem isi_int_list : gIsi [(.int i), .val (.ty "list")] S Q = Q (.bl false) S := isi_at (t := "int") rfl "list" (by decide)
theorem isi_int_dict : gIsi [(.int i), .val (.ty "dict")] S Q = Q (.bl false) S := isi_at (t := "int") rfl "dict" (by decide)
theorem isi_str_int : gIsi [(.str x), .val (.ty "int")] S Q = Q (.bl false) S := isi_at (t := "str") rfl "int" (by decide)
theorem isi_str_bool : gIsi [(.str x), .val (.ty "bool")] S Q = Q (.bl false) S := isi_at (t := "str") rfl "bool" (by decide)
theorem isi_str_str : gIsi [(.str x), .val (.ty "str")] S Q = Q (.bl true) S := isi_at (t := "str") rfl "str" (by decide)
theorem isi_str_tuple : gIsi [(.str x), .val (.ty "tuple")] S Q = Q (.bl false) S := isi_at (t := "str") rfl "tuple" (by decide)
theorem isi_str_list : gIsi [(.str x), .val (.ty "list")] S Q = Q (.bl false) S := isi_at (t := "str") rfl "list" (by decide)
theorem isi_str_dict : gIsi [(.str x), .val (.ty "dict")] S Q = Q (.bl false) S := isi_at (t := "str") rfl "dict" (by decide)
theorem isi_tup_int : gIsi [(.tup xs), .val (.ty "int")] S Q = Q (.bl false) S := isi_at (t := "tuple") rfl "int" (by decide)
theorem isi_tup_bool : gIsi [(.tup xs), .val (.ty "bool")] S Q = Q (.bl false) S := isi_at (t := "tuple") rfl "bool" (by decide)
theorem isi_tup_str : gIsi [(.tup xs), .val (.ty "str")] S Q = Q (.bl false) S := isi_at (t := "tuple") rfl "str" (by decide)
theorem isi_tup_tuple : gIsi [(.tup xs), .val (.ty "tuple")] S Q = Q (.bl true) S := isi_at (t := "tuple") rfl "tuple" (by decide)
theorem isi_tup_list : gIsi [(.tup xs), .val (.ty "list")] S Q = Q (.bl false) S := isi_at (t := "tuple") rfl "list" (by decide)
theorem isi_tup_dict : gIsi [(.tup xs), .val (.ty "dict")] S Q = Q (.bl false) S := isi_at (t := "tuple") rfl "dict" (by decide)
theorem isi_lst_int : gIsi [(.lst xs), .val (.ty "int")] S Q = Q (.bl false) S := isi_at (t := "list") rfl "int" (by decide)
theorem isi_lst_bool : gIsi [(.lst xs), .val (.ty "bool")] S Q = Q (.bl false) S := isi_at (t := "list") rfl "bool" (by decide)
theorem isi_lst_str : gIsi [(.lst xs), .val (.ty "str")] S Q = Q (.bl false) S := isi_at (t := "list") rfl "str" (by decide)
theorem isi_lst_tuple : gIsi [(.lst xs), .val (.ty "tuple")] S Q = Q (.bl false) S := isi_at (t := "list") rfl "tuple" (by decide)
theorem isi_lst_list : gIsi [(.lst xs), .val (.ty "list")] S Q = Q (.bl true) S := isi_at (t := "list") rfl "list" (by decide)
theorem isi_lst_dict : gIsi [(.lst xs), .val (.ty "dict")] S Q = Q (.bl false) S := isi_at (t := "list") rfl "dict" (by decide)
theorem fAdd_bi : fAdd (.bl b) (.int j) S Q = Q (.int (b2 b + j)) S := rfl
theorem fAdd_ib : fAdd (.int i) (.bl b) S Q = Q (.int (i + b2 b)) S := rfl
theorem fSub_bi : fSub (.bl b) (.int j) S Q = Q (.int (b2 b - j)) S := rfl
theorem fEq_bi : fEq (.bl b) (.int i) S Q = Q (.bl (deq (.bl b) (.int i))) S := by
  unfold fEq
  exact propext ⟨fun h => h.2, fun h => ⟨.inr ⟨rfl, rfl⟩, h⟩⟩
theorem gStr_b : gStr [.bl b] S Q = Q (.str (if b then "True" else "False")) S := rfl
end
theorem strOk_of (s : String) : PyData.strOk (Str.ofString s) = true := by
  rw [strOk_iff, Str.ofString_eq_toList]
  intro c hc
  obtain ⟨d, _, rfl⟩ := List.mem_map.1 hc
  rcases d.valid with h | h
  · exact Nat.lt_trans h (by decide)
  · exact h.2
theorem len_of (s : String) : (Str.ofString s).length = s.length := by
  rw [PySem.ofString_length]
theorem gd_txt {m d b : Nat} {s : String} (h : s.length ≤ b) : Gd m d b (.str (Str.ofString s)) := gd_str (strOk_of s) (by rw [len_of]; exact h)
theorem gds1 {m d b : Nat} {x : D} (h : Gd m d b x) : Gds m d (b + 1) [x] := (Gds.cons h (gds_nil (b := 0))).le (Nat.le_refl _) (Nat.le_refl _) (by omega)
theorem natAbs_of {m d b : Nat} {i : Int} (h : Gd m d b (.int i)) : i.natAbs ≤ m := by
  have := h.ok
  simpa only [okD, decide_eq_true_eq] using this
/-- numbers that repr and str take -/
def Lim (m : Nat) : Prop := m < 10 ^ 560
theorem Lim.big {m : Nat} (h : Lim m) : m < 10 ^ 570 := Nat.lt_of_lt_of_le h (Nat.pow_le_pow_right (by decide) (by decide))
theorem Lim.le {m n : Nat} (h : Lim m) (hn : n ≤ m) : Lim n := Nat.lt_of_le_of_lt hn h
theorem int_len {i : Int} {m : Nat} (hi : i.natAbs ≤ m) (hm : Lim m) : i.natAbs.log2 < 1920 ∧ (toString i : String).length ≤ 571 :=
  ⟨log2_of_pow (Nat.lt_of_le_of_lt hi hm.big), int_text_length_le10 (k := 570) (by decide) (Nat.lt_of_le_of_lt hi hm.big)⟩
theorem gd_int_text {i : Int} {m m' d b : Nat} (hi : i.natAbs ≤ m) (hm : Lim m) (hb : 571 ≤ b) : Gd m' d b (.str (Str.ofString (toString i))) := gd_txt (Nat.le_trans (int_len hi hm).2 hb)
/-- numbers whose text is at most L signs -/
def LimL (L m : Nat) : Prop := (10 ≤ L ∧ L ≤ 561) ∧ m < 10 ^ (L - 1)
theorem LimL.lim {L m : Nat} (h : LimL L m) : Lim m := Nat.lt_of_lt_of_le h.2 (Nat.pow_le_pow_right (by decide) (by have := h.1; omega))
theorem LimL.len {i : Int} {L m : Nat} (hi : i.natAbs ≤ m) (h : LimL L m) : (toString i : String).length ≤ L := by
  have := int_text_length_le10 (k := L - 1) (by have := h.1; omega) (Nat.lt_of_le_of_lt hi h.2)
  have := h.1
  omega
theorem LimL.gd {i : Int} {L m m' d b : Nat} (hi : i.natAbs ≤ m) (h : LimL L m) (hb : L ≤ b) : Gd m' d b (.str (Str.ofString (toString i))) := gd_txt (Nat.le_trans (h.len hi) hb)
theorem b2_le (b : Bool) : 0 ≤ b2 b ∧ b2 b ≤ 1 := by cases b <;> decide
/-- a place of a displayed list: each of its things -/
theorem ix_all {xs : List D} {i : Int} {S : Sto} {Q : DK} (h0 : 0 ≤ i) (h : i < xs.length) (q : ∀ x ∈ xs, Q x S) : qOpt (atI xs i) S Q := by
  obtain ⟨x, e, ea⟩ := atI_lt h0 h
  rw [ea]
  exact q x (List.mem_of_getElem? e)
theorem ix_P (P : D → Prop) {xs : List D} {i : Int} {S : Sto} {Q : DK} (h0 : 0 ≤ i) (h : i < xs.length) (hp : ∀ x ∈ xs, P x) (q : ∀ x, P x → Q x S) : qOpt (atI xs i) S Q := ix_all h0 h fun x hx => q x (hp x hx)
theorem exists_map {α : Type} {f : α → D} {P : α → Prop} : ∀ {acc : List D}, (∀ y ∈ acc, ∃ z, y = f z ∧ P z) → ∃ zs : List α, acc = zs.map f ∧ ∀ z ∈ zs, P z
  | [], _ => ⟨[], rfl, fun _ h => nomatch h⟩
  | y :: r, h => by
    obtain ⟨z, e, hz⟩ := h y (List.mem_cons_self ..)
    obtain ⟨zs, e2, hzs⟩ := exists_map (acc := r) fun x hx => h x (List.mem_cons_of_mem _ hx)
    exact ⟨z :: zs, by rw [e, e2]; rfl, fun x hx => (List.mem_cons.1 hx).elim (fun h => h ▸ hz) (hzs x)⟩
theorem pow10_le {i : Int} {n k : Nat} (h0 : 0 ≤ i) (hi : i < 10 ^ n) (h : n ≤ k) : i.natAbs ≤ 10 ^ k := by
  have h3 : (10 : Nat) ^ n ≤ 10 ^ k := Nat.pow_le_pow_right (by decide) h
  have h4 : ((10 ^ n : Nat) : Int) = (10 : Int) ^ n := by rw [Int.natCast_pow]; rfl
  generalize (10 : Nat) ^ k = b at *
  rw [← h4] at hi
  omega
theorem Gds.bk_at {m d b : Nat} {xs : List D} (h : Gds m d b xs) : bks xs ≤ b := h.bk'
/-- a comprehension that draws: each thing is of P, only the feed goes on -/
theorem cLoop_feed {g : DG} {te : DE} {env : Env'} {Q : List D → Sto → Prop} (P : D → Prop) {a : Addr} {S0 : Sto} {o : O} (ho : FeedO o) {items : List D} (hl : items.length ≤ sizeLine)
    (step : ∀ x ∈ items, ∀ o, FeedO o → ∀ R : DK, (∀ y o', P y → FeedO o' → R y (su S0 a o')) → g x env (su S0 a o) fun env2 S2 => te env2 S2 R)
    (q : ∀ acc o', acc.length = items.length → (∀ y ∈ acc, P y) → FeedO o' → Q acc (su S0 a o')) : cLoop g dTrue te env (fun _ => True) Q items [] (su S0 a o) := by
  refine cLoop_all (fun pre acc S => acc.length = pre.length ∧ (∀ y ∈ acc, P y) ∧ ∃ o, FeedO o ∧ S = su S0 a o) (fun _ _ _ _ => trivial) items [] [] _ (by simpa using hl) (fun x hx pre acc S ⟨e1, h1, o, h2, e2⟩ R1 R2 h _ => ?_) ⟨rfl, fun _ h => (List.not_mem_nil h).elim, o, ho, rfl⟩ fun acc' S' _ ⟨e1, h1, o, h2, e2⟩ => ?_
  · subst e2
    exact step x hx o h2 R1 fun y o' hy ho' => h y _ ⟨by simp only [List.length_append, e1, List.length_cons, List.length_nil], fun z hz => (List.mem_append.1 hz).elim (h1 z) fun hz => by rw [List.mem_singleton.1 hz]; exact hy, o', ho', rfl⟩
  · subst e2
    exact q acc' o (by simpa using e1) h1 h2
/-- a for that draws: J tells of the names, only the feed goes on -/
theorem sLoop_feed {g : DG} {body : DS} {d : DEnds} (J : Nat → Env' → Prop) {a : Addr} {S0 : Sto} {o : O} (ho : FeedO o) {items : List D} {env : Env'} (j : J 0 env)
    (step : ∀ (n : Nat) (x : D), x ∈ items → n < items.length → ∀ env o, J n env → FeedO o → ∀ R : Env' → Sto → Prop, (∀ env' o', J (n + 1) env' → FeedO o' → R env' (su S0 a o')) → g x env (su S0 a o) fun env2 S2 => body { d with nx := R, ct := R, bk := d.nx } env2 S2)
    (q : ∀ env' o', J items.length env' → FeedO o' → d.nx env' (su S0 a o')) : sLoop g body d (fun _ => True) items env (su S0 a o) := by
  have go : ∀ (its : List D) (pre : List D) env o, pre ++ its = items → J pre.length env → FeedO o → sLoop g body d (fun _ => True) its env (su S0 a o) := by
    intro its
    induction its with
    | nil =>
      intro pre env o e j ho
      rw [List.append_nil] at e
      subst e
      exact ⟨trivial, q _ _ j ho⟩
    | cons x its ih =>
      intro pre env o e j ho
      refine ⟨trivial, step pre.length x (by rw [← e]; simp) (by rw [← e]; simp) env o j ho _ fun env' o' j' ho' => ?_⟩
      exact ih (pre ++ [x]) env' o' (by rw [← e]; simp) (by simpa using j') ho'
  exact go items [] env o rfl j ho
/-- a for: J tells of how many things are gone through, the names, the store -/
theorem sLoop_n {g : DG} {body : DS} {d : DEnds} {ok : Sto → Prop} (J : Nat → Env' → Sto → Prop) {items : List D} (hok : ∀ n env S, n ≤ items.length → J n env S → ok S) {env : Env'} {S : Sto} (j : J 0 env S)
    (step : ∀ (n : Nat) (x : D), items[n]? = some x → n < items.length → ∀ env S, J n env S → ∀ R : Env' → Sto → Prop, (∀ env' S', J (n + 1) env' S' → R env' S') → g x env S fun env2 S2 => body { d with nx := R, ct := R, bk := d.nx } env2 S2)
    (q : ∀ env' S', J items.length env' S' → d.nx env' S') : sLoop g body d ok items env S := by
  have go : ∀ (its : List D) (pre : List D) env S, pre ++ its = items → J pre.length env S → sLoop g body d ok its env S := by
    intro its
    induction its with
    | nil =>
      intro pre env S e j
      rw [List.append_nil] at e
      subst e
      exact ⟨hok _ _ _ (Nat.le_refl _) j, q _ _ j⟩
    | cons x its ih =>
      intro pre env S e j
      have hl : pre.length < items.length := by rw [← e]; simp
      refine ⟨hok _ _ _ (Nat.le_of_lt hl) j, step pre.length x (by rw [← e]; simp) hl env S j _ fun env' S' j' => ?_⟩
      exact ih (pre ++ [x]) env' S' (by rw [← e]; simp) (by simpa using j')
  exact go items [] env S rfl j
theorem rd_ref {S : Sto} {p : Addr} {xs : List D} (h : S p = some (.lst xs)) : rd S (.ref p) = .lst xs := by
  unfold rd; rw [h]
theorem ty_lst {S : Sto} {a : Addr} {xs : List D} (h : S a = some (.lst xs)) : tyD "list" (.ref a) S := by
  show (match S a with | some (.lst _) => "list" = "list" | some (.dK _) => "list" = "dict" | some (.dT _) => "list" = "dict" | _ => False)
  rw [h]
theorem repr_ref {m d b : Nat} {xs : List D} {S : Sto} {p : Addr} {Q : DK} (hs : S p = some (.lst xs)) (h : Gds m d b xs) (hm : m < 10 ^ 570) (hd : d < 60) (hb : b ≤ 29000) (q : Q (.str (shown (.lst xs))) S) : gRepr [.ref p] S Q := by
  have z : gRepr [.lst xs] S Q := Gd.repr (gd_lst.2 h) hm hd hb q
  have z' : ((pur (rd S (.lst xs)) = true ∧ dep (rd S (.lst xs)) ≤ 60) ∧ shb (rd S (.lst xs)) = true ∧ (shown (rd S (.lst xs))).length ≤ sizeLine) ∧ Q (.str (shown (rd S (.lst xs)))) S := z
  show ((pur (rd S (.ref p)) = true ∧ dep (rd S (.ref p)) ≤ 60) ∧ shb (rd S (.ref p)) = true ∧ (shown (rd S (.ref p))).length ≤ sizeLine) ∧ Q (.str (shown (rd S (.ref p)))) S
  rw [rd_ref hs]
  exact z'
end DL


set_option Elab.async false
set_option linter.all false
set_option maxRecDepth 100000
set_option maxHeartbeats 4000000
set_option exponentiation.threshold 4000
namespace DL
open PySem PySem.Spec PyProof.Rows L2

local macro_rules | `(tactic| walk_at "rd") => `(tactic| simp only [startD, List.map_cons, List.map_nil, List.length_cons, List.length_nil, Nat.reduceAdd, Nat.reduceSub, List.replicate, List.cons_append, List.nil_append,
  sSeq, sNext, sAsg, sRet, sRetN, sIf, sExpr, sFor, dVar, dC, dUn, dOp, dNil, dCons, dFn, dTst, dNot, dAnd, dOr, dIf, dAndV, dOrV, dNotV, dTup, dLst, dSl, dNoPart, dPart, dMt, dMt0, dCall, dChain, dRng1, dRng2, dLc, dIt, gNm,
  List.getElem?_cons_zero, List.getElem?_cons_succ, List.set_cons_zero, List.set_cons_succ,
  fAdd_ii, fAdd_bi, fAdd_ib, fSub_bi, fEq_bi, gStr_b, fAdd_ss, fAdd_tt, fAdd_ll, fSub_ii, fNeg_i, fDiv_ii, fMod_ii, fPow_ii, fMul_ii, fLt_ii, fLe_ii, fGt_ii, fGe_ii, fEq_ii, fNe_ii, fEq_ss, fNe_ss, fIx_t, fIx_l, fSl_t, fSl_l, fSl_s, fRv_t, fRv_l, gList_t, gList_l, gTuple_t, gTuple_l, gStr_i, gStr_s, gInt_b, gInt_i, gLen_lst, gLen_tup, gLen_str,
  isi_non_int, isi_non_bool, isi_non_str, isi_non_tuple, isi_non_list, isi_non_dict, isi_bl_int, isi_bl_bool, isi_bl_str, isi_bl_tuple, isi_bl_list, isi_bl_dict, isi_int_int, isi_int_bool, isi_int_str, isi_int_tuple, isi_int_list, isi_int_dict, isi_str_int, isi_str_bool, isi_str_str, isi_str_tuple, isi_str_list, isi_str_dict, isi_tup_int, isi_tup_bool, isi_tup_str, isi_tup_tuple, isi_tup_list, isi_tup_dict, isi_lst_int, isi_lst_bool, isi_lst_str, isi_lst_tuple, isi_lst_list, isi_lst_dict,
  if_true, if_false, Bool.false_eq_true, true_and, and_true, Bool.not_true, Bool.not_false, ite_true, ite_false])
def rBent (draw bent : DSp) : DS :=
  (sSeq (sIf (dAnd (dTst (dFn gIsi (dCons (dVar 1) (dCons (dC (.val (.ty "tuple"))) dNil)))) (dAnd (dTst (dOp fNe (dVar 1) (dTup dNil))) (dTst (dOp fGt (dCall draw 2 0 (fun xs _ => xs) E00 (dCons (dVar 0) (dCons (dC (.int 5)) dNil)) dNil) (dC (.int 0)))))) (sSeq (sAsg (dCall draw 2 0 (fun xs _ => xs) E00 (dCons (dVar 0) (dCons (dFn gLen (dCons (dVar 1) dNil)) dNil)) dNil) 2) (sRet (dOp fAdd (dOp fAdd (dSl (dVar 1) dNoPart (dPart (dVar 2))) (dTup (dCons (dCall bent 2 0 (fun xs _ => xs) E00 (dCons (dVar 0) (dCons (dOp fIx (dVar 1) (dVar 2)) dNil)) dNil) dNil))) (dSl (dVar 1) (dPart (dOp fAdd (dVar 2) (dC (.int 1)))) dNoPart)))) sNext) (sSeq (sAsg (dCall draw 2 0 (fun xs _ => xs) E00 (dCons (dVar 0) (dCons (dC (.int 9)) dNil)) dNil) 3) (sSeq (sIf (dTst (dFn gIsi (dCons (dVar 1) (dCons (dC (.val (.ty "tuple"))) dNil)))) (sSeq (sAsg (dLst (dCons (dFn gList (dCons (dVar 1) dNil)) (dCons (dUn fRv (dVar 1)) (dCons (dTup (dCons (dVar 1) dNil)) (dCons (dOp fAdd (dVar 1) (dVar 1)) (dCons (dTup dNil) (dCons (dC .non) (dCons (dSl (dVar 1) (dPart (dC (.int 1))) dNoPart) (dCons (dSl (dVar 1) dNoPart (dPart (dUn fNeg (dC (.int 1))))) dNil))))))))) 4) (sRet (dOp fIx (dOp fAdd (dVar 4) (dLst (dCons (dOp fAdd (dVar 1) (dTup (dCons (dC .non) dNil))) dNil))) (dVar 3)))) sNext) (sSeq (sIf (dTst (dFn gIsi (dCons (dVar 1) (dCons (dC (.val (.ty "int"))) dNil)))) (sRet (dOp fIx (dLst (dCons (dOp fAdd (dVar 1) (dC (.int 1))) (dCons (dOp fSub (dVar 1) (dC (.int 1))) (dCons (dOp fEq (dVar 1) (dC (.int 1))) (dCons (dFn gStr (dCons (dVar 1) dNil)) (dCons (dC .non) (dCons (dTup (dCons (dVar 1) dNil)) (dCons (dC (.int 0)) (dCons (dUn fNeg (dC (.int 1))) (dCons (dOp fPow (dC (.int 10)) (dC (.int 60))) dNil)))))))))) (dVar 3))) sNext) (sRet (dOp fIx (dLst (dCons (dC .non) (dCons (dC (.bl true)) (dCons (dC (.int 0)) (dCons (dC (.int 1)) (dCons (dC (.str "")) (dCons (dTup dNil) (dCons (dLst dNil) (dCons (dUn fNeg (dC (.int 1))) (dCons (dC (.str "a")) dNil)))))))))) (dVar 3)))))))
def spBent (L n : Nat) : DSp := fun ws S Q _ => ∃ a o x m d b, ws = [.ref a, x] ∧ S a = some o ∧ FeedO o ∧ Gd m d b x ∧ d < n ∧ (d ≤ 60 ∧ LimL L m ∧ b ≤ 4000000) ∧ ∀ y o', Gd (m + 10 ^ 60) (d + 1) (2 * b + L) y → FeedO o' → Q y (su S a o')
theorem bent_ok {L n : Nat} {ws : List D} {S : Sto} {Q : DK} {E : XD} (h : spBent L (n + 1) ws S Q E) : rBent spDraw (spBent L n) (endsD Q) (startD ["a", "b", "c", "d", "e"] ws) S := by
  obtain ⟨a, o, x, m, d, b, rfl, hs, ho, hx, hd, ⟨hd2, hm, hb⟩, q⟩ := h
  rw [← su_self hs]
  unfold rBent
  have fin : ∀ {y o'}, FeedO o' → Gd (m + 10 ^ 60) (d + 1) (2 * b + L) y → (endsD Q).rt y (su S a o') := fun {y o'} h2 h1 => ends_rt (q y o' h1 h2)
  have big : ((10 : Int) ^ (Int.toNat 60)).natAbs ≤ m + 10 ^ 60 := by
    have e : ((10 : Int) ^ (Int.toNat 60)).natAbs = 10 ^ 60 := by decide +kernel
    rw [e]; exact Nat.le_add_left ..
  have big1 : m + 9 ≤ m + 10 ^ 60 := Nat.add_le_add_left (by decide +kernel) _
  have hL := hm.1
  have pw : CPow 10 60 := ⟨by decide, by decide, by decide⟩
  generalize hMe : m + 10 ^ 60 = M at q fin big big1
  clear hs
  have leaf : ∀ r o', 0 ≤ r → r < 9 → FeedO o' → qOpt (atI [D.non, D.bl true, D.int 0, D.int 1, D.str (Str.ofString ""), D.tup [], D.lst [], D.int (-1), D.str (Str.ofString "a")] r) (su S a o') (endsD Q).rt := fun r o' h0 h1 ho' => by
    refine ix_all h0 (by simpa using h1) ?_
    simp only [List.forall_mem_cons]
    refine ⟨fin ho' gd_non, fin ho' gd_bl, fin ho' (gd_int (by omega)), fin ho' (gd_int (by omega)), fin ho' (gd_txt (Nat.zero_le _)), fin ho' (gd_tup.2 gds_nil), fin ho' (gd_lst.2 gds_nil), fin ho' (gd_int (by omega)), fin ho' (gd_txt (show 1 ≤ _ by omega)), fun _ h => nomatch h⟩
  cases x with
  | non =>
    walk_at "rd"
    exact draw_su ho (by decide) (by decide) fun r o' h0 h1 ho' => ⟨by decide, by decide, by decide, leaf r o' h0 h1 ho'⟩
  | str _ =>
    walk_at "rd"
    exact draw_su ho (by decide) (by decide) fun r o' h0 h1 ho' => ⟨by decide, by decide, by decide, leaf r o' h0 h1 ho'⟩
  | lst _ =>
    walk_at "rd"
    exact draw_su ho (by decide) (by decide) fun r o' h0 h1 ho' => ⟨by decide, by decide, by decide, leaf r o' h0 h1 ho'⟩
  | int i =>
    walk_at "rd"
    refine draw_su ho (by decide) (by decide) fun r o' h0 h1 ho' => ?_
    have hi := natAbs_of hx
    refine ⟨(int_len hi hm.lim).1, by decide, pw, by decide, ?_⟩
    refine ix_all h0 (by simpa using h1) ?_
    simp only [List.forall_mem_cons]
    have g1 : Gds M 0 (0 + 1) [.int i] := gds1 (gd_int (by omega))
    refine ⟨fin ho' (gd_int (by omega)), fin ho' (gd_int (by omega)), fin ho' gd_bl, fin ho' (hm.gd hi (by omega)), fin ho' gd_non, fin ho' ((gd_tup.2 g1).le (Nat.le_refl _) (by omega) (by omega)), fin ho' (gd_int (by omega)), fin ho' (gd_int (by omega)), fin ho' (gd_int big), fun _ h => nomatch h⟩
  | bl k =>
    walk_at "rd"
    refine draw_su ho (by decide) (by decide) fun r o' h0 h1 ho' => ?_
    have hk := b2_le k
    refine ⟨by decide, pw, by decide, ?_⟩
    refine ix_all h0 (by simpa using h1) ?_
    simp only [List.forall_mem_cons]
    have g1 : Gds M 0 (0 + 1) [.bl k] := gds1 gd_bl
    refine ⟨fin ho' (gd_int (by omega)), fin ho' (gd_int (by omega)), fin ho' gd_bl, fin ho' ?_, fin ho' gd_non, fin ho' ((gd_tup.2 g1).le (Nat.le_refl _) (by omega) (by omega)), fin ho' (gd_int (by omega)), fin ho' (gd_int (by omega)), fin ho' (gd_int big), fun _ h => nomatch h⟩
    cases k
    · exact gd_txt (s := "False") (show 5 ≤ _ by omega)
    · exact gd_txt (s := "True") (show 4 ≤ _ by omega)
  | tup xs =>
    obtain ⟨e, rfl⟩ := hx.dpos
    have hg := gd_tup.1 hx
    have hl := hg.len
    have hz : sizeLine = 16777216 := rfl
    have hM : m ≤ M := by omega
    -- where it is drawn as a whole
    have whole : ∀ o', FeedO o' → spDraw [D.ref a, D.int 9] (su S a o') (fun w S1 => 1 ≤ sizeLine ∧ xs.length + xs.length ≤ sizeLine ∧ 0 ≤ sizeLine ∧ 8 ≤ sizeLine ∧ 1 ≤ sizeLine ∧ xs.length + 1 ≤ sizeLine ∧ 1 ≤ sizeLine ∧ 9 ≤ sizeLine ∧
        fIx (D.lst [D.lst xs, D.tup xs.reverse, D.tup [D.tup xs], D.tup (xs ++ xs), D.tup [], D.non, D.tup (cut xs (some 1) none), D.tup (cut xs none (some (-1))), D.tup (xs ++ [D.non])]) w S1 (endsD Q).rt) E00 := fun o' ho' => by
      refine draw_su ho' (by decide) (by decide) fun r o' h0 h1 ho' => ⟨by omega, by omega, by omega, by omega, by omega, by omega, by omega, by omega, ?_⟩
      walk_at "rd"
      refine ix_all h0 (by simpa using h1) ?_
      simp only [List.forall_mem_cons]
      have up : ∀ {ys : List D} {c : Nat}, Gds m e c ys → c ≤ 2 * b + L → Gd M (e + 1 + 1) (2 * b + L) (.tup ys) := fun h1 h2 => (gd_tup.2 h1).le hM (by omega) h2
      refine ⟨fin ho' ((gd_lst.2 hg).le hM (by omega) (by omega)), fin ho' (up hg.rev (by omega)), fin ho' (gd_tup.2 ((gds1 hx).le hM (by omega) (by omega))), fin ho' (up (hg.append hg) (by omega)), fin ho' (gd_tup.2 gds_nil), fin ho' gd_non, fin ho' (up (hg.sub (cut_sub _ _ _)) (by omega)), fin ho' (up (hg.sub (cut_sub _ _ _)) (by omega)), fin ho' (up (hg.append (gds1 (b := 0) gd_non)) (by omega)), fun _ h => nomatch h⟩
    walk_at "rd"
    refine ⟨by decide, hx.ne (m' := 0) (d' := 1) (b' := 0) (gd_tup.2 gds_nil) (by omega) (by decide) ?_⟩
    rw [deq_tup0]
    cases xs with
    | nil => exact whole _ ho
    | cons y ys =>
      simp only [List.isEmpty_cons, Bool.not_false, if_true]
      refine draw_su ho (by decide) (by decide) fun r o' h0 h1 ho' => ?_
      walk_at "rd"
      refine ite_by (fun _ => ?_) (fun _ => whole _ ho')
      have hl' : ys.length + 1 ≤ b := hl
      refine draw_su ho' (by omega) (by omega) fun i o' hi0 hi1 ho' => ?_
      obtain ⟨x, ex, ea⟩ := atI_lt (xs := y :: ys) hi0 (by simpa using hi1)
      walk_at "rd"
      rw [ea]
      have hx1 : x ∈ y :: ys := List.mem_of_getElem? ex
      have hx2 : Gd m e (bk x) x := ⟨hg.ok _ hx1, hg.dp _ hx1, Nat.le_refl _⟩
      have hx3 := bk_mem hx1
      have hx4 := hg.bk'
      refine ⟨a, _, x, m, e, bk x, rfl, su_same, ho', hx2, by omega, ⟨by omega, hm, by omega⟩, fun z o' hz ho' => ?_⟩
      rw [su_su]
      rw [hMe] at hz
      have e1 := cut_to (z := y :: ys) hi0 (by simpa using Int.le_of_lt hi1)
      have e2 := cut_from (z := y :: ys) (i := i + 1) (by omega)
      have e3 : (i + 1).toNat = i.toNat + 1 := by omega
      rw [e1, e2, e3]
      have hsp : bks ((y :: ys).take i.toNat) + (bk x + 1 + bks ((y :: ys).drop (i.toNat + 1))) = bks (y :: ys) := by
        have := List.getElem?_eq_some_iff.1 ex
        obtain ⟨h1, h2⟩ := this
        rw [show bk x + 1 + bks ((y :: ys).drop (i.toNat + 1)) = bks ((y :: ys).drop i.toNat) by rw [List.drop_eq_getElem_cons h1, h2]; rfl, ← bks_append, List.take_append_drop]
      have hlt : ((y :: ys).take i.toNat).length ≤ b := Nat.le_trans (by rw [List.length_take]; exact Nat.min_le_right ..) hl
      have hld : ((y :: ys).drop (i.toNat + 1)).length ≤ b := Nat.le_trans (by rw [List.length_drop]; exact Nat.sub_le ..) hl
      refine ⟨by omega, by omega, by simp only [List.length_append, List.length_cons, List.length_nil]; omega, fin ho' ?_⟩
      have t1 : Gds m e (bks ((y :: ys).take i.toNat)) ((y :: ys).take i.toNat) := ⟨(hg.sub (List.take_sublist ..)).ok, (hg.sub (List.take_sublist ..)).dp, Nat.le_refl _⟩
      have t2 : Gds m e (bks ((y :: ys).drop (i.toNat + 1))) ((y :: ys).drop (i.toNat + 1)) := ⟨(hg.sub (List.drop_sublist ..)).ok, (hg.sub (List.drop_sublist ..)).dp, Nat.le_refl _⟩
      refine (gd_tup.2 (((t1.le hM (Nat.le_succ e) (Nat.le_refl _)).append (gds1 hz)).append (t2.le hM (Nat.le_succ e) (Nat.le_refl _)))).le (Nat.le_refl _) (by omega) ?_
      omega
  | scr _ => cases hx.ok
  | ref _ => cases hx.ok
  | val _ => cases hx.ok
/-- nothing is promised -/
theorem FnG.void {P : Program} {w : World} {K : PySem.W.Frag} {mg : Str → Option Value} {base : Heap} {CX : CXT} {k : Nat} {f : Addr} {fd : FuncData} {ps : List Str} {sp : DSp} (h : ∀ ws S Q E, ¬ sp ws S Q E) : FnG P w K mg base CX k f fd ps sp :=
  ⟨fun ws S Q E q => (h ws S Q E q).elim, fun A outer s H args us vs Q E hr hg he hb hv ⟨I, S, ws, Qd, Ed, a, b, c, d⟩ => (h _ _ _ _ c).elim⟩
end DL


set_option Elab.async false
set_option linter.all false
set_option maxRecDepth 100000
set_option maxHeartbeats 4000000
namespace Lw
open PySem PySem.Spec PyProof.Rows L2 DL
def top (i : Nat) : Stmt := PySem.Challenge.pw_forkjoins_k01_kinds.main.body.getD i (.Pass ⟨0, 0, 0, 0⟩)
def c_LETTERS : D := (.str "abcdefghijklmnopqrstuvwxyz")
def c_MOST_LETTERS : D := (.int 8)
structure Tx (K : PySem.W.Frag) (mg : Str → Option Value) where
  f_is_number : Addr
  fd_is_number : FuncData
  F_is_number : FunD K "is_number" "is_number" (defArgs (top 3)) (defBody (top 3)) (defScope (top 3)) [] [] f_is_number fd_is_number
  m_is_number : mg "is_number" = some (.ref f_is_number)
  f_is_word : Addr
  fd_is_word : FuncData
  F_is_word : FunD K "is_word" "is_word" (defArgs (top 4)) (defBody (top 4)) (defScope (top 4)) [] [] f_is_word fd_is_word
  m_is_word : mg "is_word" = some (.ref f_is_word)
  f_law_feed : Addr
  fd_law_feed : FuncData
  F_law_feed : FunD K "_law_feed" "_law_feed" (defArgs (top 6)) (defBody (top 6)) (defScope (top 6)) [] [] f_law_feed fd_law_feed
  m_law_feed : mg "_law_feed" = some (.ref f_law_feed)
  f_law_draw : Addr
  fd_law_draw : FuncData
  F_law_draw : FunD K "_law_draw" "_law_draw" (defArgs (top 7)) (defBody (top 7)) (defScope (top 7)) [] [] f_law_draw fd_law_draw
  m_law_draw : mg "_law_draw" = some (.ref f_law_draw)
  f_law_bent : Addr
  fd_law_bent : FuncData
  F_law_bent : FunD K "_law_bent" "_law_bent" (defArgs (top 8)) (defBody (top 8)) (defScope (top 8)) [] [] f_law_bent fd_law_bent
  m_law_bent : mg "_law_bent" = some (.ref f_law_bent)
  f_law_text : Addr
  fd_law_text : FuncData
  F_law_text : FunD K "_law_text" "_law_text" (defArgs (top 9)) (defBody (top 9)) (defScope (top 9)) [] [] f_law_text fd_law_text
  m_law_text : mg "_law_text" = some (.ref f_law_text)
  f_law_thing : Addr
  fd_law_thing : FuncData
  F_law_thing : FunD K "_law_thing" "_law_thing" (defArgs (top 10)) (defBody (top 10)) (defScope (top 10)) [] [] f_law_thing fd_law_thing
  m_law_thing : mg "_law_thing" = some (.ref f_law_thing)
  f_law_due : Addr
  fd_law_due : FuncData
  F_law_due : FunD K "_law_due" "_law_due" (defArgs (top 11)) (defBody (top 11)) (defScope (top 11)) [] [] f_law_due fd_law_due
  m_law_due : mg "_law_due" = some (.ref f_law_due)
  f_law : Addr
  fd_law : FuncData
  F_law : FunD K "law" "law" (defArgs (top 12)) (defBody (top 12)) (defScope (top 12)) [] [] f_law fd_law
  m_law : mg "law" = some (.ref f_law)
  b_law_draw : Bnd K fd_law_draw ["_law_feed_here", "_law_many"] 2 [] (fun xs _ => xs)
  b_law_bent : Bnd K fd_law_bent ["_law_feed_here", "_law_thing_here"] 2 [] (fun xs _ => xs)
  b_law_text : Bnd K fd_law_text ["_law_feed_here"] 1 [] (fun xs _ => xs)
  b_law_feed : Bnd K fd_law_feed ["_law_script"] 1 [] (fun xs _ => xs)
  b_law_thing : Bnd K fd_law_thing ["_law_feed_here"] 1 [] (fun xs _ => xs)
  b_is_number : Bnd K fd_is_number ["thing"] 1 [] (fun xs _ => xs)
  b_is_word : Bnd K fd_is_word ["thing"] 1 [] (fun xs _ => xs)
  b_law_due : Bnd K fd_law_due ["_law_thing_here"] 1 [] (fun xs _ => xs)
  n_all : mg "all" = none
  n_bool : mg "bool" = none
  n_int : mg "int" = none
  n_isinstance : mg "isinstance" = none
  n_len : mg "len" = none
  n_list : mg "list" = none
  n_ord : mg "ord" = none
  n_range : mg "range" = none
  n_repr : mg "repr" = none
  n_str : mg "str" = none
  n_tuple : mg "tuple" = none
  c_LETTERS : GC K mg "LETTERS" c_LETTERS
  c_MOST_LETTERS : GC K mg "MOST_LETTERS" c_MOST_LETTERS
section
variable {P : Program} {w : World} {K : PySem.W.Frag} {mg : Str → Option Value} {base : Heap}
/-! ### is_number -/
abbrev s_is_number : Stmt := top 3
abbrev N_is_number : List Str := ["thing"]
abbrev p_is_number : List Str := ["thing"]
theorem sc_is_number : FnScope N_is_number p_is_number (defScope s_is_number) := ⟨rfl, rfl, rfl, by decide +kernel, rfl, by decide +kernel, by decide +kernel⟩
def r_is_number (E : XD) : DS :=
  (sRet (dAndV (dFn gIsi (dCons (dVar 0) (dCons (dC (.val (.ty "int"))) dNil))) (dNotV (dFn gIsi (dCons (dVar 0) (dCons (dC (.val (.ty "bool"))) dNil))))))
set_option maxHeartbeats 4000000 in
theorem w_is_number (T : Tx K mg) {k : Nat} {cdv : Value} {A : Around} {outer : List Env} {s : Shared} {H : Hp} {E : XD} {E' : XK} (hr : Room k (A.deeper (envOfC "is_number" (defScope s_is_number) s.heap.objs.size T.f_is_number cdv))) (hG : A.guards = some []) :
    MSs (cxOf CX0 P w K mg base N_is_number "is_number" (defScope s_is_number) T.f_is_number cdv A outer s H E') ⟨E, E'⟩ (defBody s_is_number) (r_is_number E) := by
  have nd := sc_is_number.nd
  have hu1 := hu_of hr
  have hu64 := hr.units
  have hu65 := hu65_of hr
  refine PSs.nox (X := cxOf CX0 P w K mg base N_is_number "is_number" (defScope s_is_number) T.f_is_number cdv A outer s H E') (show MSs (Cx.nox _) ⟨E, E'⟩ _ _ from ?_)
  exact (sOne (mRet (mAndV (mB cIsi T.n_isinstance (by decide +kernel) (mCons (mv 0) (mCons (mTy T.n_int boot_int) mNil))) (mOne (mNotV (mB cIsi T.n_isinstance (by decide +kernel) (mCons (mv 0) (mCons (mTy T.n_bool boot_bool) mNil))))))))
/-! ### is_word -/
abbrev s_is_word : Stmt := top 4
abbrev N_is_word : List Str := ["thing", "sign"]
abbrev p_is_word : List Str := ["thing"]
theorem sc_is_word : FnScope N_is_word p_is_word (defScope s_is_word) := ⟨rfl, rfl, rfl, by decide +kernel, rfl, by decide +kernel, by decide +kernel⟩
def r_is_word (E : XD) : DS :=
  (sSeq (sIf (dOr (dNot (dTst (dFn gIsi (dCons (dVar 0) (dCons (dC (.val (.ty "str"))) dNil))))) (dNot (dTst (dChain fLe fLe (dC (.int 1)) (dFn gLen (dCons (dVar 0) dNil)) (dC c_MOST_LETTERS))))) (sRet (dC (.bl false))) sNext) (sRet (dFn gAll (dCons (dLc (dIt (dVar 0)) (gNm 1) dTrue (dOp fIn (dVar 1) (dC c_LETTERS)) [1]) dNil))))
set_option maxHeartbeats 4000000 in
theorem w_is_word (T : Tx K mg) {k : Nat} {cdv : Value} {A : Around} {outer : List Env} {s : Shared} {H : Hp} {E : XD} {E' : XK} (hr : Room k (A.deeper (envOfC "is_word" (defScope s_is_word) s.heap.objs.size T.f_is_word cdv))) (hG : A.guards = some []) :
    MSs (cxOf CX0 P w K mg base N_is_word "is_word" (defScope s_is_word) T.f_is_word cdv A outer s H E') ⟨E, E'⟩ (defBody s_is_word) (r_is_word E) := by
  have nd := sc_is_word.nd
  have hu1 := hu_of hr
  have hu64 := hr.units
  have hu65 := hu65_of hr
  refine PSs.nox (X := cxOf CX0 P w K mg base N_is_word "is_word" (defScope s_is_word) T.f_is_word cdv A outer s H E') (show MSs (Cx.nox _) ⟨E, E'⟩ _ _ from ?_)
  exact (sCons (mIf (mW (mOr (mNotT (mVal (mB cIsi T.n_isinstance (by decide +kernel) (mCons (mv 0) (mCons (mTy T.n_str boot_str) mNil))))) (mOr1 (mNotT (mChainT oLe oLe mInt (mB cLen T.n_len (by decide +kernel) (mCons (mv 0) mNil)) (mGlob rfl T.c_MOST_LETTERS)))))) (sOne (mRet mBl)) sNil) (sOne (mRet (mB (cAll rfl) T.n_all (by decide +kernel) (mCons (by exact (mLc (own := [("sign", 1)]) rfl nd (mIt (mv 0)) (blkOk_by (N := N_is_word) (sc := (defScope s_is_word)) (own := [("sign", 1)]) (by decide +kernel)) (fun _ _ _ _ _ => (mgN 1 nd)) (fun _ _ _ _ _ => mTs0) (fun _ _ _ _ _ => (mCmp (oIn hu65) (mv 1) (mGlob rfl T.c_LETTERS))))) mNil)))))
/-! ### _law_feed -/
abbrev s_law_feed : Stmt := top 6
abbrev N_law_feed : List Str := ["_law_script"]
abbrev p_law_feed : List Str := ["_law_script"]
theorem sc_law_feed : FnScope N_law_feed p_law_feed (defScope s_law_feed) := ⟨rfl, rfl, rfl, by decide +kernel, rfl, by decide +kernel, by decide +kernel⟩
def r_law_feed (E : XD) : DS :=
  (sRet (dDisp [((dC (.str "cells")), (dFn gList (dCons (dSl (dVar 0) dNoPart (dPart (dC (.int 63)))) dNil))), ((dC (.str "at")), (dC (.int 0))), ((dC (.str "left")), (dC (.int 0))), ((dC (.str "count")), (dC (.int 0)))]))
set_option maxHeartbeats 4000000 in
theorem w_law_feed (T : Tx K mg) {k : Nat} {cdv : Value} {A : Around} {outer : List Env} {s : Shared} {H : Hp} {E : XD} {E' : XK} (hr : Room k (A.deeper (envOfC "_law_feed" (defScope s_law_feed) s.heap.objs.size T.f_law_feed cdv))) (hG : A.guards = some []) :
    MSs (cxOf CX0 P w K mg base N_law_feed "_law_feed" (defScope s_law_feed) T.f_law_feed cdv A outer s H E') ⟨E, E'⟩ (defBody s_law_feed) (r_law_feed E) := by
  have nd := sc_law_feed.nd
  have hu1 := hu_of hr
  have hu64 := hr.units
  have hu65 := hu65_of hr
  refine PSs.nox (X := cxOf CX0 P w K mg base N_law_feed "_law_feed" (defScope s_law_feed) T.f_law_feed cdv A outer s H E') (show MSs (Cx.nox _) ⟨E, E'⟩ _ _ from ?_)
  exact (sOne (mRet (mDisp (mPC mStr (mBT cList T.n_list (by decide +kernel) (mCons (mSl (mv 0) mNoPart (mPart mInt)) mNil)) (mPC mStr mInt (mPC mStr mInt (mPC mStr mInt mP0)))))))
/-! ### _law_draw -/
abbrev s_law_draw : Stmt := top 7
abbrev N_law_draw : List Str := ["_law_feed_here", "_law_many", "_law_figure", "_law_at", "_law_cell", "_law_mixed"]
abbrev p_law_draw : List Str := ["_law_feed_here", "_law_many"]
theorem sc_law_draw : FnScope N_law_draw p_law_draw (defScope s_law_draw) := ⟨rfl, rfl, rfl, by decide +kernel, rfl, by decide +kernel, by decide +kernel⟩
def r_law_draw (E : XD) : DS :=
  (sSeq (sAsgG (dOp fAdd (dOp fIx (dVar 0) (dC (.str "count"))) (dC (.int 1))) (gSubD (dVar 0) (dC (.str "count")))) (sSeq (sIf (dTst (dOp fGt (dOp fIx (dVar 0) (dC (.str "left"))) (dC (.int 0)))) (sSeq (sAsg (dOp fMod (dOp fIx (dVar 0) (dC (.str "left"))) (dVar 1)) 2) (sSeq (sAsgG (dOp fDiv (dOp fIx (dVar 0) (dC (.str "left"))) (dVar 1)) (gSubD (dVar 0) (dC (.str "left")))) (sRet (dVar 2)))) sNext) (sSeq (sAsg (dOp fIx (dVar 0) (dC (.str "at"))) 3) (sSeq (sAsgG (dOp fAdd (dVar 3) (dC (.int 1))) (gSubD (dVar 0) (dC (.str "at")))) (sSeq (sAsg (dIf (dTst (dOp fNe (dOp fIx (dVar 0) (dC (.str "cells"))) (dLst dNil))) (dOp fIx (dOp fIx (dVar 0) (dC (.str "cells"))) (dOp fMod (dVar 3) (dFn gLen (dCons (dOp fIx (dVar 0) (dC (.str "cells"))) dNil)))) (dC (.int 11))) 4) (sSeq (sIf (dAnd (dTst (dOp fGe (dVar 4) (dOp fPow (dC (.int 10)) (dC (.int 18))))) (dTst (dOp fLt (dVar 3) (dFn gLen (dCons (dOp fIx (dVar 0) (dC (.str "cells"))) dNil))))) (sSeq (sAsgG (dOp fDiv (dVar 4) (dVar 1)) (gSubD (dVar 0) (dC (.str "left")))) (sRet (dOp fMod (dVar 4) (dVar 1)))) sNext) (sSeq (sAsg (dOp fMod (dOp fAdd (dOp fAdd (dOp fMod (dVar 4) (dC (.int 1000000093))) (dOp fMul (dC (.int 70001)) (dOp fIx (dVar 0) (dC (.str "count"))))) (dC (.int 43))) (dC (.int 2147483579))) 5) (sSeq (sAsg (dOp fMod (dOp fAdd (dOp fAdd (dOp fMul (dVar 5) (dVar 5)) (dOp fMul (dC (.int 6700417)) (dOp fIx (dVar 0) (dC (.str "count"))))) (dC (.int 13))) (dC (.int 2147483549))) 5) (sRet (dOp fMod (dOp fDiv (dOp fMod (dOp fAdd (dOp fMul (dVar 5) (dVar 5)) (dOp fMul (dC (.int 23)) (dVar 5))) (dC (.int 2147483543))) (dC (.int 16))) (dVar 1)))))))))))
set_option maxHeartbeats 4000000 in
theorem w_law_draw (T : Tx K mg) {k : Nat} {cdv : Value} {A : Around} {outer : List Env} {s : Shared} {H : Hp} {E : XD} {E' : XK} (hr : Room k (A.deeper (envOfC "_law_draw" (defScope s_law_draw) s.heap.objs.size T.f_law_draw cdv))) (hG : A.guards = some []) :
    MSs (cxOf CX0 P w K mg base N_law_draw "_law_draw" (defScope s_law_draw) T.f_law_draw cdv A outer s H E') ⟨E, E'⟩ (defBody s_law_draw) (r_law_draw E) := by
  have nd := sc_law_draw.nd
  have hu1 := hu_of hr
  have hu64 := hr.units
  have hu65 := hu65_of hr
  refine PSs.nox (X := cxOf CX0 P w K mg base N_law_draw "_law_draw" (defScope s_law_draw) T.f_law_draw cdv A outer s H E') (show MSs (Cx.nox _) ⟨E, E'⟩ _ _ from ?_)
  exact (sCons (mAsg (vs := []) (mOp oAdd (mIx hu1 (mv 0) mStr) mInt) (mgSub hu1 (mv 0) mStr)) (sCons (mIf (mCmpT oGt (mIx hu1 (mv 0) mStr) mInt) (sCons (mSet 2 nd (mOp oMod (mIx hu1 (mv 0) mStr) (mv 1))) (sCons (mAsg (vs := []) (mOp oDiv (mIx hu1 (mv 0) mStr) (mv 1)) (mgSub hu1 (mv 0) mStr)) (sOne (mRet (mv 2))))) sNil) (sCons (mSet 3 nd (mIx hu1 (mv 0) mStr)) (sCons (mAsg (vs := []) (mOp oAdd (mv 3) mInt) (mgSub hu1 (mv 0) mStr)) (sCons (mSet 4 nd (mIfE (mCmpT (oNe hu64) (mIx hu1 (mv 0) mStr) (mLst mNil)) (mIx hu1 (mIx hu1 (mv 0) mStr) (mOp oMod (mv 3) (mB cLen T.n_len (by decide +kernel) (mCons (mIx hu1 (mv 0) mStr) mNil)))) mInt)) (sCons (mIf (mW (mAnd (mCmpT oGe (mv 4) (mOp oPow mInt mInt)) (mAnd1 (mCmpT oLt (mv 3) (mB cLen T.n_len (by decide +kernel) (mCons (mIx hu1 (mv 0) mStr) mNil)))))) (sCons (mAsg (vs := []) (mOp oDiv (mv 4) (mv 1)) (mgSub hu1 (mv 0) mStr)) (sOne (mRet (mOp oMod (mv 4) (mv 1))))) sNil) (sCons (mSet 5 nd (mOp oMod (mOp oAdd (mOp oAdd (mOp oMod (mv 4) mInt) (mOp oMul mInt (mIx hu1 (mv 0) mStr))) mInt) mInt)) (sCons (mSet 5 nd (mOp oMod (mOp oAdd (mOp oAdd (mOp oMul (mv 5) (mv 5)) (mOp oMul mInt (mIx hu1 (mv 0) mStr))) mInt) mInt)) (sOne (mRet (mOp oMod (mOp oDiv (mOp oMod (mOp oAdd (mOp oMul (mv 5) (mv 5)) (mOp oMul mInt (mv 5))) mInt) mInt) (mv 1))))))))))))
/-! ### _law_bent -/
abbrev s_law_bent : Stmt := top 8
abbrev N_law_bent : List Str := ["_law_feed_here", "_law_thing_here", "_law_at", "_law_mode", "_law_odd"]
abbrev p_law_bent : List Str := ["_law_feed_here", "_law_thing_here"]
theorem sc_law_bent : FnScope N_law_bent p_law_bent (defScope s_law_bent) := ⟨rfl, rfl, rfl, by decide +kernel, rfl, by decide +kernel, by decide +kernel⟩
def r_law_bent (sp_law_draw : DSp) (sp_law_bent : DSp) (E : XD) : DS :=
  (sSeq (sIf (dAnd (dTst (dFn gIsi (dCons (dVar 1) (dCons (dC (.val (.ty "tuple"))) dNil)))) (dAnd (dTst (dOp fNe (dVar 1) (dTup dNil))) (dTst (dOp fGt (dCall sp_law_draw 2 0 (fun xs _ => xs) E00 (dCons (dVar 0) (dCons (dC (.int 5)) dNil)) dNil) (dC (.int 0)))))) (sSeq (sAsg (dCall sp_law_draw 2 0 (fun xs _ => xs) E00 (dCons (dVar 0) (dCons (dFn gLen (dCons (dVar 1) dNil)) dNil)) dNil) 2) (sRet (dOp fAdd (dOp fAdd (dSl (dVar 1) dNoPart (dPart (dVar 2))) (dTup (dCons (dCall sp_law_bent 2 0 (fun xs _ => xs) E00 (dCons (dVar 0) (dCons (dOp fIx (dVar 1) (dVar 2)) dNil)) dNil) dNil))) (dSl (dVar 1) (dPart (dOp fAdd (dVar 2) (dC (.int 1)))) dNoPart)))) sNext) (sSeq (sAsg (dCall sp_law_draw 2 0 (fun xs _ => xs) E00 (dCons (dVar 0) (dCons (dC (.int 9)) dNil)) dNil) 3) (sSeq (sIf (dTst (dFn gIsi (dCons (dVar 1) (dCons (dC (.val (.ty "tuple"))) dNil)))) (sSeq (sAsg (dLst (dCons (dFn gList (dCons (dVar 1) dNil)) (dCons (dUn fRv (dVar 1)) (dCons (dTup (dCons (dVar 1) dNil)) (dCons (dOp fAdd (dVar 1) (dVar 1)) (dCons (dTup dNil) (dCons (dC .non) (dCons (dSl (dVar 1) (dPart (dC (.int 1))) dNoPart) (dCons (dSl (dVar 1) dNoPart (dPart (dUn fNeg (dC (.int 1))))) dNil))))))))) 4) (sRet (dOp fIx (dOp fAdd (dVar 4) (dLst (dCons (dOp fAdd (dVar 1) (dTup (dCons (dC .non) dNil))) dNil))) (dVar 3)))) sNext) (sSeq (sIf (dTst (dFn gIsi (dCons (dVar 1) (dCons (dC (.val (.ty "int"))) dNil)))) (sRet (dOp fIx (dLst (dCons (dOp fAdd (dVar 1) (dC (.int 1))) (dCons (dOp fSub (dVar 1) (dC (.int 1))) (dCons (dOp fEq (dVar 1) (dC (.int 1))) (dCons (dFn gStr (dCons (dVar 1) dNil)) (dCons (dC .non) (dCons (dTup (dCons (dVar 1) dNil)) (dCons (dC (.int 0)) (dCons (dUn fNeg (dC (.int 1))) (dCons (dOp fPow (dC (.int 10)) (dC (.int 60))) dNil)))))))))) (dVar 3))) sNext) (sRet (dOp fIx (dLst (dCons (dC .non) (dCons (dC (.bl true)) (dCons (dC (.int 0)) (dCons (dC (.int 1)) (dCons (dC (.str "")) (dCons (dTup dNil) (dCons (dLst dNil) (dCons (dUn fNeg (dC (.int 1))) (dCons (dC (.str "a")) dNil)))))))))) (dVar 3)))))))
set_option maxHeartbeats 4000000 in
theorem w_law_bent (T : Tx K mg) {k : Nat} {cdv : Value} {A : Around} {outer : List Env} {s : Shared} {H : Hp} {E : XD} {E' : XK} (hr : Room k (A.deeper (envOfC "_law_bent" (defScope s_law_bent) s.heap.objs.size T.f_law_bent cdv))) (hG : A.guards = some []) {sp_law_draw : DSp} {j_law_draw : Nat} (G_law_draw : FnG P w K mg base CX0 j_law_draw T.f_law_draw T.fd_law_draw p_law_draw sp_law_draw) (h_law_draw : j_law_draw ≤ k) {sp_law_bent : DSp} {j_law_bent : Nat} (G_law_bent : FnG P w K mg base CX0 j_law_bent T.f_law_bent T.fd_law_bent p_law_bent sp_law_bent) (h_law_bent : j_law_bent ≤ k) :
    MSs (cxOf CX0 P w K mg base N_law_bent "_law_bent" (defScope s_law_bent) T.f_law_bent cdv A outer s H E') ⟨E, E'⟩ (defBody s_law_bent) (r_law_bent sp_law_draw sp_law_bent E) := by
  have nd := sc_law_bent.nd
  have hu1 := hu_of hr
  have hu64 := hr.units
  have hu65 := hu65_of hr
  refine PSs.nox (X := cxOf CX0 P w K mg base N_law_bent "_law_bent" (defScope s_law_bent) T.f_law_bent cdv A outer s H E') (show MSs (Cx.nox _) ⟨E, E'⟩ _ _ from ?_)
  exact (sCons (mIf (mW (mAnd (mVal (mB cIsi T.n_isinstance (by decide +kernel) (mCons (mv 1) (mCons (mTy T.n_tuple boot_tuple) mNil)))) (mAnd (mCmpT (oNe hu64) (mv 1) (mTup mNil)) (mAnd1 (mCmpT oGt (mCall (ks := []) G_law_draw (hr.mono h_law_draw) hG T.m_law_draw T.F_law_draw.kp T.b_law_draw xpass0 (mCons (mv 0) (mCons mInt mNil)) mK0) mInt))))) (sCons (mSet 2 nd (mCall (ks := []) G_law_draw (hr.mono h_law_draw) hG T.m_law_draw T.F_law_draw.kp T.b_law_draw xpass0 (mCons (mv 0) (mCons (mB cLen T.n_len (by decide +kernel) (mCons (mv 1) mNil)) mNil)) mK0)) (sOne (mRet (mOp oAdd (mOp oAdd (mSl (mv 1) mNoPart (mPart (mv 2))) (mTup (mCons (mCall (ks := []) G_law_bent (hr.mono h_law_bent) hG T.m_law_bent T.F_law_bent.kp T.b_law_bent xpass0 (mCons (mv 0) (mCons (mIx hu1 (mv 1) (mv 2)) mNil)) mK0) mNil))) (mSl (mv 1) (mPart (mOp oAdd (mv 2) mInt)) mNoPart))))) sNil) (sCons (mSet 3 nd (mCall (ks := []) G_law_draw (hr.mono h_law_draw) hG T.m_law_draw T.F_law_draw.kp T.b_law_draw xpass0 (mCons (mv 0) (mCons mInt mNil)) mK0)) (sCons (mIf (mVal (mB cIsi T.n_isinstance (by decide +kernel) (mCons (mv 1) (mCons (mTy T.n_tuple boot_tuple) mNil)))) (sCons (mSet 4 nd (mLst (mCons (mBT cList T.n_list (by decide +kernel) (mCons (mv 1) mNil)) (mCons (mRv (mv 1)) (mCons (mTup (mCons (mv 1) mNil)) (mCons (mOp oAdd (mv 1) (mv 1)) (mCons (mTup mNil) (mCons mNon (mCons (mSl (mv 1) (mPart mInt) mNoPart) (mCons (mSl (mv 1) mNoPart (mPart (mUn uNeg mInt))) mNil)))))))))) (sOne (mRet (mIx hu1 (mOp oAdd (mv 4) (mLst (mCons (mOp oAdd (mv 1) (mTup (mCons mNon mNil))) mNil))) (mv 3))))) sNil) (sCons (mIf (mVal (mB cIsi T.n_isinstance (by decide +kernel) (mCons (mv 1) (mCons (mTy T.n_int boot_int) mNil)))) (sOne (mRet (mIx hu1 (mLst (mCons (mOp oAdd (mv 1) mInt) (mCons (mOp oSub (mv 1) mInt) (mCons (mCmp (oEq hu64) (mv 1) mInt) (mCons (mBT cStr T.n_str (by decide +kernel) (mCons (mv 1) mNil)) (mCons mNon (mCons (mTup (mCons (mv 1) mNil)) (mCons mInt (mCons (mUn uNeg mInt) (mCons (mOp oPow mInt mInt) mNil)))))))))) (mv 3)))) sNil) (sOne (mRet (mIx hu1 (mLst (mCons mNon (mCons mBl (mCons mInt (mCons mInt (mCons mStr (mCons (mTup mNil) (mCons (mLst mNil) (mCons (mUn uNeg mInt) (mCons mStr mNil)))))))))) (mv 3))))))))
/-! ### _law_text -/
abbrev s_law_text : Stmt := top 9
abbrev N_law_text : List Str := ["_law_feed_here", "_law_signs", "_law_some", "_law_text_here", "_law_k", "_law_at"]
abbrev p_law_text : List Str := ["_law_feed_here"]
theorem sc_law_text : FnScope N_law_text p_law_text (defScope s_law_text) := ⟨rfl, rfl, rfl, by decide +kernel, rfl, by decide +kernel, by decide +kernel⟩
def r_law_text (sp_law_draw : DSp) (E : XD) : DS :=
  (sSeq (sAsg (dC (.str " !\"#$&'()*+,-./0123456789:;<=>?@ABCDEFGHIJKLMNOPQRSTUVWXYZ[\\]^_`abcdefghijklmnopqrstuvwxyz{|}~")) 1) (sSeq (sAsg (dOp fIx (dLst (dCons (dC (.str "abcdefghijklmnopqrstuvwxyz")) (dCons (dVar 1) dNil))) (dCall sp_law_draw 2 0 (fun xs _ => xs) E00 (dCons (dVar 0) (dCons (dC (.int 2)) dNil)) dNil)) 2) (sSeq (sAsg (dMt "str" gJoin (dC (.str "")) (dCons (dLc (dRng1 (dCons (dCall sp_law_draw 2 0 (fun xs _ => xs) E00 (dCons (dVar 0) (dCons (dC (.int 11)) dNil)) dNil) dNil)) (gNm 4) dTrue (dOp fIx (dVar 2) (dCall sp_law_draw 2 0 (fun xs _ => xs) E00 (dCons (dVar 0) (dCons (dFn gLen (dCons (dVar 2) dNil)) dNil)) dNil)) [4]) dNil)) 3) (sSeq (sIf (dTst (dOp fEq (dCall sp_law_draw 2 0 (fun xs _ => xs) E00 (dCons (dVar 0) (dCons (dC (.int 2)) dNil)) dNil) (dC (.int 0)))) (sSeq (sAsg (dCall sp_law_draw 2 0 (fun xs _ => xs) E00 (dCons (dVar 0) (dCons (dOp fAdd (dFn gLen (dCons (dVar 3) dNil)) (dC (.int 1))) dNil)) dNil) 5) (sAsg (dOp fAdd (dOp fAdd (dSl (dVar 3) dNoPart (dPart (dVar 5))) (dOp fIx (dVar 1) (dCall sp_law_draw 2 0 (fun xs _ => xs) E00 (dCons (dVar 0) (dCons (dC (.int 94)) dNil)) dNil))) (dSl (dVar 3) (dPart (dOp fAdd (dVar 5) (dCall sp_law_draw 2 0 (fun xs _ => xs) E00 (dCons (dVar 0) (dCons (dC (.int 2)) dNil)) dNil))) dNoPart)) 3)) sNext) (sRet (dVar 3))))))
set_option maxHeartbeats 4000000 in
theorem w_law_text (T : Tx K mg) {k : Nat} {cdv : Value} {A : Around} {outer : List Env} {s : Shared} {H : Hp} {E : XD} {E' : XK} (hr : Room k (A.deeper (envOfC "_law_text" (defScope s_law_text) s.heap.objs.size T.f_law_text cdv))) (hG : A.guards = some []) {sp_law_draw : DSp} {j_law_draw : Nat} (G_law_draw : FnG P w K mg base CX0 j_law_draw T.f_law_draw T.fd_law_draw p_law_draw sp_law_draw) (h_law_draw : j_law_draw ≤ k) :
    MSs (cxOf CX0 P w K mg base N_law_text "_law_text" (defScope s_law_text) T.f_law_text cdv A outer s H E') ⟨E, E'⟩ (defBody s_law_text) (r_law_text sp_law_draw E) := by
  have nd := sc_law_text.nd
  have hu1 := hu_of hr
  have hu64 := hr.units
  have hu65 := hu65_of hr
  refine PSs.nox (X := cxOf CX0 P w K mg base N_law_text "_law_text" (defScope s_law_text) T.f_law_text cdv A outer s H E') (show MSs (Cx.nox _) ⟨E, E'⟩ _ _ from ?_)
  exact (sCons (mSet 1 nd mStr) (sCons (mSet 2 nd (mIx hu1 (mLst (mCons mStr (mCons (mv 1) mNil))) (mCall (ks := []) G_law_draw (hr.mono h_law_draw) hG T.m_law_draw T.F_law_draw.kp T.b_law_draw xpass0 (mCons (mv 0) (mCons mInt mNil)) mK0))) (sCons (mSet 3 nd (mMt PySem.F.plainAttrs_str PySem.F.slot_str_join PySem.F.type_str_join tJoin mStr (mCons (by exact (mLc (own := [("_law_k", 4)]) rfl nd (mRng1 T.n_range (mCons (mCall (ks := []) G_law_draw (hr.mono h_law_draw) hG T.m_law_draw T.F_law_draw.kp T.b_law_draw xpass0 (mCons (mv 0) (mCons mInt mNil)) mK0) mNil)) (blkOk_by (N := N_law_text) (sc := (defScope s_law_text)) (own := [("_law_k", 4)]) (by decide +kernel)) (fun _ _ _ _ _ => (mgN 4 nd)) (fun _ _ _ _ _ => mTs0) (fun _ _ _ _ _ => (mIx hu1 (mv 2) (mCall (ks := []) G_law_draw (hr.mono h_law_draw) hG T.m_law_draw T.F_law_draw.kp T.b_law_draw xpass0 (mCons (mv 0) (mCons (mB cLen T.n_len (by decide +kernel) (mCons (mv 2) mNil)) mNil)) mK0))))) mNil))) (sCons (mIf (mCmpT (oEq hu64) (mCall (ks := []) G_law_draw (hr.mono h_law_draw) hG T.m_law_draw T.F_law_draw.kp T.b_law_draw xpass0 (mCons (mv 0) (mCons mInt mNil)) mK0) mInt) (sCons (mSet 5 nd (mCall (ks := []) G_law_draw (hr.mono h_law_draw) hG T.m_law_draw T.F_law_draw.kp T.b_law_draw xpass0 (mCons (mv 0) (mCons (mOp oAdd (mB cLen T.n_len (by decide +kernel) (mCons (mv 3) mNil)) mInt) mNil)) mK0)) (sOne (mSet 3 nd (mOp oAdd (mOp oAdd (mSl (mv 3) mNoPart (mPart (mv 5))) (mIx hu1 (mv 1) (mCall (ks := []) G_law_draw (hr.mono h_law_draw) hG T.m_law_draw T.F_law_draw.kp T.b_law_draw xpass0 (mCons (mv 0) (mCons mInt mNil)) mK0))) (mSl (mv 3) (mPart (mOp oAdd (mv 5) (mCall (ks := []) G_law_draw (hr.mono h_law_draw) hG T.m_law_draw T.F_law_draw.kp T.b_law_draw xpass0 (mCons (mv 0) (mCons mInt mNil)) mK0))) mNoPart))))) sNil) (sOne (mRet (mv 3)))))))
/-! ### _law_thing -/
abbrev s_law_thing : Stmt := top 10
abbrev N_law_thing : List Str := ["_law_feed_here", "_law_mode", "_law_number", "_law_k", "_law_odd"]
abbrev p_law_thing : List Str := ["_law_feed_here"]
theorem sc_law_thing : FnScope N_law_thing p_law_thing (defScope s_law_thing) := ⟨rfl, rfl, rfl, by decide +kernel, rfl, by decide +kernel, by decide +kernel⟩
def r_law_thing (sp_law_draw : DSp) (sp_law_text : DSp) (E : XD) : DS :=
  (sSeq (sAsg (dCall sp_law_draw 2 0 (fun xs _ => xs) E00 (dCons (dVar 0) (dCons (dC (.int 4)) dNil)) dNil) 1) (sSeq (sIf (dTst (dOp fLt (dVar 1) (dC (.int 2)))) (sRet (dCall sp_law_text 1 0 (fun xs _ => xs) E00 (dCons (dVar 0) dNil) dNil)) sNext) (sSeq (sIf (dTst (dOp fEq (dVar 1) (dC (.int 2)))) (sSeq (sAsg (dCall sp_law_draw 2 0 (fun xs _ => xs) E00 (dCons (dVar 0) (dCons (dC (.int 60)) dNil)) dNil) 2) (sSeq (sFor (dRng1 (dCons (dIf (dTst (dOp fEq (dCall sp_law_draw 2 0 (fun xs _ => xs) E00 (dCons (dVar 0) (dCons (dC (.int 6)) dNil)) dNil) (dC (.int 0)))) (dCall sp_law_draw 2 0 (fun xs _ => xs) E00 (dCons (dVar 0) (dCons (dC (.int 33)) dNil)) dNil) (dC (.int 0))) dNil)) (gNm 3) (sAsg (dOp fAdd (dOp fMul (dVar 2) (dOp fPow (dC (.int 10)) (dC (.int 6)))) (dCall sp_law_draw 2 0 (fun xs _ => xs) E00 (dCons (dVar 0) (dCons (dOp fPow (dC (.int 10)) (dC (.int 6))) dNil)) dNil)) 2)) (sRet (dOp fMul (dVar 2) (dOp fIx (dLst (dCons (dC (.int 1)) (dCons (dUn fNeg (dC (.int 1))) dNil))) (dCall sp_law_draw 2 0 (fun xs _ => xs) E00 (dCons (dVar 0) (dCons (dC (.int 2)) dNil)) dNil)))))) sNext) (sSeq (sAsg (dLst (dCons (dC (.bl true)) (dCons (dC (.bl false)) (dCons (dC .non) (dCons (dC (.str "")) (dCons (dC (.str "a")) (dCons (dC (.str "abcdefgh")) (dCons (dC (.str "abcdefghi")) (dCons (dTup dNil) (dCons (dLst dNil) (dCons (dTup (dCons (dC (.int 0)) dNil)) (dCons (dTup (dCons (dC (.str "a")) dNil)) (dCons (dC (.str "A")) (dCons (dC (.str "a b")) (dCons (dLst (dCons (dC (.str "a")) dNil)) (dCons (dTup (dCons (dTup (dCons (dC (.int 0)) dNil)) dNil)) dNil)))))))))))))))) 4) (sRet (dOp fIx (dVar 4) (dCall sp_law_draw 2 0 (fun xs _ => xs) E00 (dCons (dVar 0) (dCons (dC (.int 15)) dNil)) dNil)))))))
set_option maxHeartbeats 4000000 in
theorem w_law_thing (T : Tx K mg) {k : Nat} {cdv : Value} {A : Around} {outer : List Env} {s : Shared} {H : Hp} {E : XD} {E' : XK} (hr : Room k (A.deeper (envOfC "_law_thing" (defScope s_law_thing) s.heap.objs.size T.f_law_thing cdv))) (hG : A.guards = some []) {sp_law_draw : DSp} {j_law_draw : Nat} (G_law_draw : FnG P w K mg base CX0 j_law_draw T.f_law_draw T.fd_law_draw p_law_draw sp_law_draw) (h_law_draw : j_law_draw ≤ k) {sp_law_text : DSp} {j_law_text : Nat} (G_law_text : FnG P w K mg base CX0 j_law_text T.f_law_text T.fd_law_text p_law_text sp_law_text) (h_law_text : j_law_text ≤ k) :
    MSs (cxOf CX0 P w K mg base N_law_thing "_law_thing" (defScope s_law_thing) T.f_law_thing cdv A outer s H E') ⟨E, E'⟩ (defBody s_law_thing) (r_law_thing sp_law_draw sp_law_text E) := by
  have nd := sc_law_thing.nd
  have hu1 := hu_of hr
  have hu64 := hr.units
  have hu65 := hu65_of hr
  refine PSs.nox (X := cxOf CX0 P w K mg base N_law_thing "_law_thing" (defScope s_law_thing) T.f_law_thing cdv A outer s H E') (show MSs (Cx.nox _) ⟨E, E'⟩ _ _ from ?_)
  exact (sCons (mSet 1 nd (mCall (ks := []) G_law_draw (hr.mono h_law_draw) hG T.m_law_draw T.F_law_draw.kp T.b_law_draw xpass0 (mCons (mv 0) (mCons mInt mNil)) mK0)) (sCons (mIf (mCmpT oLt (mv 1) mInt) (sOne (mRet (mCall (ks := []) G_law_text (hr.mono h_law_text) hG T.m_law_text T.F_law_text.kp T.b_law_text xpass0 (mCons (mv 0) mNil) mK0))) sNil) (sCons (mIf (mCmpT (oEq hu64) (mv 1) mInt) (sCons (mSet 2 nd (mCall (ks := []) G_law_draw (hr.mono h_law_draw) hG T.m_law_draw T.F_law_draw.kp T.b_law_draw xpass0 (mCons (mv 0) (mCons mInt mNil)) mK0)) (sCons (mFor (vs := [3]) PassesOwn.never rfl (mRng1 T.n_range (mCons (mIfE (mCmpT (oEq hu64) (mCall (ks := []) G_law_draw (hr.mono h_law_draw) hG T.m_law_draw T.F_law_draw.kp T.b_law_draw xpass0 (mCons (mv 0) (mCons mInt mNil)) mK0) mInt) (mCall (ks := []) G_law_draw (hr.mono h_law_draw) hG T.m_law_draw T.F_law_draw.kp T.b_law_draw xpass0 (mCons (mv 0) (mCons mInt mNil)) mK0) mInt) mNil)) (mgN 3 nd) (sOne (mSet 2 nd (mOp oAdd (mOp oMul (mv 2) (mOp oPow mInt mInt)) (mCall (ks := []) G_law_draw (hr.mono h_law_draw) hG T.m_law_draw T.F_law_draw.kp T.b_law_draw xpass0 (mCons (mv 0) (mCons (mOp oPow mInt mInt) mNil)) mK0))))) (sOne (mRet (mOp oMul (mv 2) (mIx hu1 (mLst (mCons mInt (mCons (mUn uNeg mInt) mNil))) (mCall (ks := []) G_law_draw (hr.mono h_law_draw) hG T.m_law_draw T.F_law_draw.kp T.b_law_draw xpass0 (mCons (mv 0) (mCons mInt mNil)) mK0))))))) sNil) (sCons (mSet 4 nd (mLst (mCons mBl (mCons mBl (mCons mNon (mCons mStr (mCons mStr (mCons mStr (mCons mStr (mCons (mTup mNil) (mCons (mLst mNil) (mCons (mTup (mCons mInt mNil)) (mCons (mTup (mCons mStr mNil)) (mCons mStr (mCons mStr (mCons (mLst (mCons mStr mNil)) (mCons (mTup (mCons (mTup (mCons mInt mNil)) mNil)) mNil))))))))))))))))) (sOne (mRet (mIx hu1 (mv 4) (mCall (ks := []) G_law_draw (hr.mono h_law_draw) hG T.m_law_draw T.F_law_draw.kp T.b_law_draw xpass0 (mCons (mv 0) (mCons mInt mNil)) mK0))))))))
/-! ### _law_due -/
abbrev s_law_due : Stmt := top 11
abbrev N_law_due : List Str := ["_law_thing_here", "_law_word", "_law_sign"]
abbrev p_law_due : List Str := ["_law_thing_here"]
theorem sc_law_due : FnScope N_law_due p_law_due (defScope s_law_due) := ⟨rfl, rfl, rfl, by decide +kernel, rfl, by decide +kernel, by decide +kernel⟩
def r_law_due (E : XD) : DS :=
  (sSeq (sAsg (dAndV (dFn gIsi (dCons (dVar 0) (dCons (dC (.val (.ty "str"))) dNil))) (dChain fLt fLt (dC (.int 0)) (dFn gLen (dCons (dVar 0) dNil)) (dC (.int 9)))) 1) (sSeq (sAsg (dAndV (dVar 1) (dOp fEq (dLc (dIt (dVar 0)) (gNm 2) (dOr (dTst (dOp fLt (dFn gOrd (dCons (dVar 2) dNil)) (dC (.int 97)))) (dTst (dOp fGt (dFn gOrd (dCons (dVar 2) dNil)) (dC (.int 122))))) (dVar 2) [2]) (dLst dNil))) 1) (sRet (dTup (dCons (dAndV (dFn gIsi (dCons (dVar 0) (dCons (dC (.val (.ty "int"))) dNil))) (dNotV (dFn gIsi (dCons (dVar 0) (dCons (dC (.val (.ty "bool"))) dNil))))) (dCons (dVar 1) dNil))))))
set_option maxHeartbeats 4000000 in
theorem w_law_due (T : Tx K mg) {k : Nat} {cdv : Value} {A : Around} {outer : List Env} {s : Shared} {H : Hp} {E : XD} {E' : XK} (hr : Room k (A.deeper (envOfC "_law_due" (defScope s_law_due) s.heap.objs.size T.f_law_due cdv))) (hG : A.guards = some []) :
    MSs (cxOf CX0 P w K mg base N_law_due "_law_due" (defScope s_law_due) T.f_law_due cdv A outer s H E') ⟨E, E'⟩ (defBody s_law_due) (r_law_due E) := by
  have nd := sc_law_due.nd
  have hu1 := hu_of hr
  have hu64 := hr.units
  have hu65 := hu65_of hr
  refine PSs.nox (X := cxOf CX0 P w K mg base N_law_due "_law_due" (defScope s_law_due) T.f_law_due cdv A outer s H E') (show MSs (Cx.nox _) ⟨E, E'⟩ _ _ from ?_)
  exact (sCons (mSet 1 nd (mAndV (mB cIsi T.n_isinstance (by decide +kernel) (mCons (mv 0) (mCons (mTy T.n_str boot_str) mNil))) (mOne (mChain oLt oLt mInt (mB cLen T.n_len (by decide +kernel) (mCons (mv 0) mNil)) mInt)))) (sCons (mSet 1 nd (mAndV (mv 1) (mOne (mCmp (oEq hu64) (by exact (mLc (own := [("_law_sign", 2)]) rfl nd (mIt (mv 0)) (blkOk_by (N := N_law_due) (sc := (defScope s_law_due)) (own := [("_law_sign", 2)]) (by decide +kernel)) (fun _ _ _ _ _ => (mgN 2 nd)) (fun _ _ _ _ _ => (mTs1 (mW (mOr (mCmpT oLt (mB cOrd T.n_ord (by decide +kernel) (mCons (mv 2) mNil)) mInt) (mOr1 (mCmpT oGt (mB cOrd T.n_ord (by decide +kernel) (mCons (mv 2) mNil)) mInt)))))) (fun _ _ _ _ _ => (mv 2)))) (mLst mNil))))) (sOne (mRet (mTup (mCons (mAndV (mB cIsi T.n_isinstance (by decide +kernel) (mCons (mv 0) (mCons (mTy T.n_int boot_int) mNil))) (mOne (mNotV (mB cIsi T.n_isinstance (by decide +kernel) (mCons (mv 0) (mCons (mTy T.n_bool boot_bool) mNil)))))) (mCons (mv 1) mNil)))))))
/-! ### law -/
abbrev s_law : Stmt := top 12
abbrev N_law : List Str := ["_law_script", "_law_feed_here", "_law_things", "_law_k", "_law_thing_here", "_law_before"]
abbrev p_law : List Str := ["_law_script"]
theorem sc_law : FnScope N_law p_law (defScope s_law) := ⟨rfl, rfl, rfl, by decide +kernel, rfl, by decide +kernel, by decide +kernel⟩
def r_law (sp_law_feed : DSp) (sp_law_thing : DSp) (sp_law_bent : DSp) (sp_is_number : DSp) (sp_is_word : DSp) (sp_law_due : DSp) (E : XD) : DS :=
  (sSeq (sAsg (dCall sp_law_feed 1 0 (fun xs _ => xs) E00 (dCons (dVar 0) dNil) dNil) 1) (sSeq (sAsg (dLstR dNil) 2) (sSeq (sFor (dRng1 (dCons (dC (.int 14)) dNil)) (gNm 3) (sSeq (sAsg (dCall sp_law_thing 1 0 (fun xs _ => xs) E00 (dCons (dVar 1) dNil) dNil) 4) (sExpr (dMt "list" gExtend (dVar 2) (dCons (dLst (dCons (dVar 4) (dCons (dCall sp_law_bent 2 0 (fun xs _ => xs) E00 (dCons (dVar 1) (dCons (dVar 4) dNil)) dNil) (dCons (dCall sp_law_bent 2 0 (fun xs _ => xs) E00 (dCons (dVar 1) (dCons (dCall sp_law_bent 2 0 (fun xs _ => xs) E00 (dCons (dVar 1) (dCons (dVar 4) dNil)) dNil) dNil)) dNil) dNil)))) dNil))))) (sSeq (sAsg (dFn gRepr (dCons (dVar 2) dNil)) 5) (sSeq (sFor (dIt (dVar 2)) (gNm 4) (sIf (dTst (dOp fNe (dFn gRepr (dCons (dTup (dCons (dCall sp_is_number 1 0 (fun xs _ => xs) E00 (dCons (dVar 4) dNil) dNil) (dCons (dCall sp_is_word 1 0 (fun xs _ => xs) E00 (dCons (dVar 4) dNil) dNil) dNil))) dNil)) (dFn gRepr (dCons (dCall sp_law_due 1 0 (fun xs _ => xs) E00 (dCons (dVar 4) dNil) dNil) dNil)))) (sRet (dC (.bl false))) sNext)) (sRet (dOp fEq (dFn gRepr (dCons (dVar 2) dNil)) (dVar 5))))))))
set_option maxHeartbeats 4000000 in
theorem w_law (T : Tx K mg) {k : Nat} {cdv : Value} {A : Around} {outer : List Env} {s : Shared} {H : Hp} {E : XD} {E' : XK} (hr : Room k (A.deeper (envOfC "law" (defScope s_law) s.heap.objs.size T.f_law cdv))) (hG : A.guards = some []) {sp_law_feed : DSp} {j_law_feed : Nat} (G_law_feed : FnG P w K mg base CX0 j_law_feed T.f_law_feed T.fd_law_feed p_law_feed sp_law_feed) (h_law_feed : j_law_feed ≤ k) {sp_law_thing : DSp} {j_law_thing : Nat} (G_law_thing : FnG P w K mg base CX0 j_law_thing T.f_law_thing T.fd_law_thing p_law_thing sp_law_thing) (h_law_thing : j_law_thing ≤ k) {sp_law_bent : DSp} {j_law_bent : Nat} (G_law_bent : FnG P w K mg base CX0 j_law_bent T.f_law_bent T.fd_law_bent p_law_bent sp_law_bent) (h_law_bent : j_law_bent ≤ k) {sp_is_number : DSp} {j_is_number : Nat} (G_is_number : FnG P w K mg base CX0 j_is_number T.f_is_number T.fd_is_number p_is_number sp_is_number) (h_is_number : j_is_number ≤ k) {sp_is_word : DSp} {j_is_word : Nat} (G_is_word : FnG P w K mg base CX0 j_is_word T.f_is_word T.fd_is_word p_is_word sp_is_word) (h_is_word : j_is_word ≤ k) {sp_law_due : DSp} {j_law_due : Nat} (G_law_due : FnG P w K mg base CX0 j_law_due T.f_law_due T.fd_law_due p_law_due sp_law_due) (h_law_due : j_law_due ≤ k) :
    MSs (cxOf CX0 P w K mg base N_law "law" (defScope s_law) T.f_law cdv A outer s H E') ⟨E, E'⟩ (defBody s_law) (r_law sp_law_feed sp_law_thing sp_law_bent sp_is_number sp_is_word sp_law_due E) := by
  have nd := sc_law.nd
  have hu1 := hu_of hr
  have hu64 := hr.units
  have hu65 := hu65_of hr
  refine PSs.nox (X := cxOf CX0 P w K mg base N_law "law" (defScope s_law) T.f_law cdv A outer s H E') (show MSs (Cx.nox _) ⟨E, E'⟩ _ _ from ?_)
  exact (sCons (mSet 1 nd (mCall (ks := []) G_law_feed (hr.mono h_law_feed) hG T.m_law_feed T.F_law_feed.kp T.b_law_feed xpass0 (mCons (mv 0) mNil) mK0)) (sCons (mSet 2 nd (mLstR mNil)) (sCons (mFor (vs := [3]) PassesOwn.never rfl (mRng1 T.n_range (mCons mInt mNil)) (mgN 3 nd) (sCons (mSet 4 nd (mCall (ks := []) G_law_thing (hr.mono h_law_thing) hG T.m_law_thing T.F_law_thing.kp T.b_law_thing xpass0 (mCons (mv 1) mNil) mK0)) (sOne (mExpr (mMt PySem.F.plainAttrs_list PySem.F.slot_list_extend PySem.F.type_list_extend tExtend (mv 2) (mCons (mLst (mCons (mv 4) (mCons (mCall (ks := []) G_law_bent (hr.mono h_law_bent) hG T.m_law_bent T.F_law_bent.kp T.b_law_bent xpass0 (mCons (mv 1) (mCons (mv 4) mNil)) mK0) (mCons (mCall (ks := []) G_law_bent (hr.mono h_law_bent) hG T.m_law_bent T.F_law_bent.kp T.b_law_bent xpass0 (mCons (mv 1) (mCons (mCall (ks := []) G_law_bent (hr.mono h_law_bent) hG T.m_law_bent T.F_law_bent.kp T.b_law_bent xpass0 (mCons (mv 1) (mCons (mv 4) mNil)) mK0) mNil)) mK0) mNil)))) mNil)))))) (sCons (mSet 5 nd (mB (cRepr hG hu64) T.n_repr (by decide +kernel) (mCons (mv 2) mNil))) (sCons (mFor (vs := [4]) PassesOwn.never rfl (mIt (mv 2)) (mgN 4 nd) (sOne (mIf (mCmpT (oNe hu64) (mB (cRepr hG hu64) T.n_repr (by decide +kernel) (mCons (mTup (mCons (mCall (ks := []) G_is_number (hr.mono h_is_number) hG T.m_is_number T.F_is_number.kp T.b_is_number xpass0 (mCons (mv 4) mNil) mK0) (mCons (mCall (ks := []) G_is_word (hr.mono h_is_word) hG T.m_is_word T.F_is_word.kp T.b_is_word xpass0 (mCons (mv 4) mNil) mK0) mNil))) mNil)) (mB (cRepr hG hu64) T.n_repr (by decide +kernel) (mCons (mCall (ks := []) G_law_due (hr.mono h_law_due) hG T.m_law_due T.F_law_due.kp T.b_law_due xpass0 (mCons (mv 4) mNil) mK0) mNil))) (sOne (mRet mBl)) sNil))) (sOne (mRet (mCmp (oEq hu64) (mB (cRepr hG hu64) T.n_repr (by decide +kernel) (mCons (mv 2) mNil)) (mv 5)))))))))
end
/-! ### the head: facts by names -/
def d_is_number : He.DefD := ⟨("is_number", none), "is_number", "is_number", defArgs (top 3), defBody (top 3), defScope (top 3), [], []⟩
def d_is_word : He.DefD := ⟨("is_word", none), "is_word", "is_word", defArgs (top 4), defBody (top 4), defScope (top 4), [], []⟩
def d_law_feed : He.DefD := ⟨("_law_feed", none), "_law_feed", "_law_feed", defArgs (top 6), defBody (top 6), defScope (top 6), [], []⟩
def d_law_draw : He.DefD := ⟨("_law_draw", none), "_law_draw", "_law_draw", defArgs (top 7), defBody (top 7), defScope (top 7), [], []⟩
def d_law_bent : He.DefD := ⟨("_law_bent", none), "_law_bent", "_law_bent", defArgs (top 8), defBody (top 8), defScope (top 8), [], []⟩
def d_law_text : He.DefD := ⟨("_law_text", none), "_law_text", "_law_text", defArgs (top 9), defBody (top 9), defScope (top 9), [], []⟩
def d_law_thing : He.DefD := ⟨("_law_thing", none), "_law_thing", "_law_thing", defArgs (top 10), defBody (top 10), defScope (top 10), [], []⟩
def d_law_due : He.DefD := ⟨("_law_due", none), "_law_due", "_law_due", defArgs (top 11), defBody (top 11), defScope (top 11), [], []⟩
def d_law : He.DefD := ⟨("law", none), "law", "law", defArgs (top 12), defBody (top 12), defScope (top 12), [], []⟩
def fn : List He.DefD := [d_is_number, d_is_word, d_law_feed, d_law_draw, d_law_bent, d_law_text, d_law_thing, d_law_due, d_law]
def fa : List He.Fa := [.glo "is_number", .glo "is_word", .glo "_law_feed", .glo "_law_draw", .glo "_law_bent", .glo "_law_text", .glo "_law_thing", .glo "_law_due", .glo "law", .free "all", .free "bool", .free "int", .free "isinstance", .free "len", .free "list", .free "ord", .free "range", .free "repr", .free "str", .free "tuple"]
def xt (K : PySem.W.Frag) : Bool := cD K "LETTERS" c_LETTERS && (cD K "MOST_LETTERS" c_MOST_LETTERS && (true))
theorem tx {K : PySem.W.Frag} {h : Heap} {mg : Str → Option Value} (X : K.In h) (G : h.Ns mainGlobals mg) (c : He.SaysD fa fn K) (cx : xt K = true) : Nonempty (Tx K mg) := by
  obtain ⟨fd_is_number, F_is_number⟩ := c.def_ 0 (d := d_is_number) rfl
  obtain ⟨fd_is_word, F_is_word⟩ := c.def_ 1 (d := d_is_word) rfl
  obtain ⟨fd_law_feed, F_law_feed⟩ := c.def_ 2 (d := d_law_feed) rfl
  obtain ⟨fd_law_draw, F_law_draw⟩ := c.def_ 3 (d := d_law_draw) rfl
  obtain ⟨fd_law_bent, F_law_bent⟩ := c.def_ 4 (d := d_law_bent) rfl
  obtain ⟨fd_law_text, F_law_text⟩ := c.def_ 5 (d := d_law_text) rfl
  obtain ⟨fd_law_thing, F_law_thing⟩ := c.def_ 6 (d := d_law_thing) rfl
  obtain ⟨fd_law_due, F_law_due⟩ := c.def_ 7 (d := d_law_due) rfl
  obtain ⟨fd_law, F_law⟩ := c.def_ 8 (d := d_law) rfl
  simp only [xt, Bool.and_eq_true] at cx
  obtain ⟨x0, x1, _⟩ := cx
  exact ⟨{
    f_is_number := _, fd_is_number := fd_is_number, F_is_number := F_is_number, m_is_number := He.glo_ok X G (c.fact 0 (f := .glo "is_number") rfl),
    f_is_word := _, fd_is_word := fd_is_word, F_is_word := F_is_word, m_is_word := He.glo_ok X G (c.fact 1 (f := .glo "is_word") rfl),
    f_law_feed := _, fd_law_feed := fd_law_feed, F_law_feed := F_law_feed, m_law_feed := He.glo_ok X G (c.fact 2 (f := .glo "_law_feed") rfl),
    f_law_draw := _, fd_law_draw := fd_law_draw, F_law_draw := F_law_draw, m_law_draw := He.glo_ok X G (c.fact 3 (f := .glo "_law_draw") rfl),
    f_law_bent := _, fd_law_bent := fd_law_bent, F_law_bent := F_law_bent, m_law_bent := He.glo_ok X G (c.fact 4 (f := .glo "_law_bent") rfl),
    f_law_text := _, fd_law_text := fd_law_text, F_law_text := F_law_text, m_law_text := He.glo_ok X G (c.fact 5 (f := .glo "_law_text") rfl),
    f_law_thing := _, fd_law_thing := fd_law_thing, F_law_thing := F_law_thing, m_law_thing := He.glo_ok X G (c.fact 6 (f := .glo "_law_thing") rfl),
    f_law_due := _, fd_law_due := fd_law_due, F_law_due := F_law_due, m_law_due := He.glo_ok X G (c.fact 7 (f := .glo "_law_due") rfl),
    f_law := _, fd_law := fd_law, F_law := F_law, m_law := He.glo_ok X G (c.fact 8 (f := .glo "law") rfl),
    n_all := He.free_ok X G (c.fact 9 (f := .free "all") rfl),
    n_bool := He.free_ok X G (c.fact 10 (f := .free "bool") rfl),
    n_int := He.free_ok X G (c.fact 11 (f := .free "int") rfl),
    n_isinstance := He.free_ok X G (c.fact 12 (f := .free "isinstance") rfl),
    n_len := He.free_ok X G (c.fact 13 (f := .free "len") rfl),
    n_list := He.free_ok X G (c.fact 14 (f := .free "list") rfl),
    n_ord := He.free_ok X G (c.fact 15 (f := .free "ord") rfl),
    n_range := He.free_ok X G (c.fact 16 (f := .free "range") rfl),
    n_repr := He.free_ok X G (c.fact 17 (f := .free "repr") rfl),
    n_str := He.free_ok X G (c.fact 18 (f := .free "str") rfl),
    n_tuple := He.free_ok X G (c.fact 19 (f := .free "tuple") rfl),
    b_law_draw := bnd_all (F_law_draw.bindsN fun _ _ _ _ _ _ us hl => match us, hl with | [_, _], _ => rfl),
    b_law_bent := bnd_all (F_law_bent.bindsN fun _ _ _ _ _ _ us hl => match us, hl with | [_, _], _ => rfl),
    b_law_text := bnd_all (F_law_text.bindsN fun _ _ _ _ _ _ us hl => match us, hl with | [_], _ => rfl),
    b_law_feed := bnd_all (F_law_feed.bindsN fun _ _ _ _ _ _ us hl => match us, hl with | [_], _ => rfl),
    b_law_thing := bnd_all (F_law_thing.bindsN fun _ _ _ _ _ _ us hl => match us, hl with | [_], _ => rfl),
    b_is_number := bnd_all (F_is_number.bindsN fun _ _ _ _ _ _ us hl => match us, hl with | [_], _ => rfl),
    b_is_word := bnd_all (F_is_word.bindsN fun _ _ _ _ _ _ us hl => match us, hl with | [_], _ => rfl),
    b_law_due := bnd_all (F_law_due.bindsN fun _ _ _ _ _ _ us hl => match us, hl with | [_], _ => rfl),
    c_LETTERS := gc_of X G x0,
    c_MOST_LETTERS := gc_of X G x1 }⟩
end Lw


set_option Elab.async false
set_option linter.all false
set_option maxRecDepth 100000
set_option maxHeartbeats 4000000
set_option exponentiation.threshold 4000
namespace Lw
open PySem PySem.Spec PyProof.Rows L2 DL
local macro_rules | `(tactic| walk_at "rd") => `(tactic| simp only [startD, List.map_cons, List.map_nil, List.length_cons, List.length_nil, Nat.reduceAdd, Nat.reduceSub, List.replicate, List.cons_append, List.nil_append,
  sSeq, sNext, sAsg, sRet, sRetN, sIf, sExpr, sFor, dVar, dC, dUn, dOp, dNil, dCons, dFn, dTst, dNot, dAnd, dOr, dIf, dAndV, dOrV, dNotV, dTup, dLst, dSl, dNoPart, dPart, dMt, dMt0, dCall, dChain, dRng1, dRng2, dLc, dIt, gNm,
  List.getElem?_cons_zero, List.getElem?_cons_succ, List.set_cons_zero, List.set_cons_succ,
  fAdd_ii, fAdd_bi, fAdd_ib, fSub_bi, fEq_bi, gStr_b, fAdd_ss, fAdd_tt, fAdd_ll, fSub_ii, fNeg_i, fDiv_ii, fMod_ii, fPow_ii, fMul_ii, fLt_ii, fLe_ii, fGt_ii, fGe_ii, fEq_ii, fNe_ii, fEq_ss, fNe_ss, fIx_t, fIx_l, fSl_t, fSl_l, fSl_s, fRv_t, fRv_l, gList_t, gList_l, gTuple_t, gTuple_l, gStr_i, gStr_s, gInt_b, gInt_i, gLen_lst, gLen_tup, gLen_str,
  isi_non_int, isi_non_bool, isi_non_str, isi_non_tuple, isi_non_list, isi_non_dict, isi_bl_int, isi_bl_bool, isi_bl_str, isi_bl_tuple, isi_bl_list, isi_bl_dict, isi_int_int, isi_int_bool, isi_int_str, isi_int_tuple, isi_int_list, isi_int_dict, isi_str_int, isi_str_bool, isi_str_str, isi_str_tuple, isi_str_list, isi_str_dict, isi_tup_int, isi_tup_bool, isi_tup_str, isi_tup_tuple, isi_tup_list, isi_tup_dict, isi_lst_int, isi_lst_bool, isi_lst_str, isi_lst_tuple, isi_lst_list, isi_lst_dict,
  if_true, if_false, Bool.false_eq_true, true_and, and_true, Bool.not_true, Bool.not_false, ite_true, ite_false])
def fd1 : Fd := ⟨11, 1000000093, 70001, 43, 2147483579, 6700417, 13, 2147483549, 23, 2147483543, 16, 63⟩
theorem fd1_ok : fd1.Ok := ⟨by decide, by decide, by decide, by decide, by decide, by decide, by decide⟩
theorem rd_draw (E : XD) : r_law_draw E = rDraw fd1 := rfl
theorem rd_feed (E : XD) : r_law_feed E = rFeed fd1 := rfl
/-! what the two looks tell -/
def isNum : D → Bool
  | .int _ => true
  | _ => false
def isWord : D → Bool
  | .str z => decide (1 ≤ z.length) && decide (z.length ≤ 8) && z.cps.toList.all fun c => decide (97 ≤ c ∧ c ≤ 122)
  | _ => false
/-- a thing -/
def okT (x : D) : Prop := ∃ m b, Gd m 40 b x ∧ m < 10 ^ 570 ∧ b ≤ 29000
def spPure (f : D → D) : DSp := fun ws S Q _ => ∃ x m d b, ws = [x] ∧ Gd m d b x ∧ b ≤ sizeLine ∧ Q (f x) S
section
variable {S : Sto} {Q : DK} {E : XD} {ws : List D}
theorem is_number_ok (h : spPure (fun x => .bl (isNum x)) ws S Q E) : r_is_number E (endsD Q) (startD N_is_number ws) S := by
  obtain ⟨x, m, d, b, rfl, hx, hb, q⟩ := h
  have hx := hx.ok
  cases x <;> first | (cases hx; done) | exact ⟨by decide, S, .refl, q⟩ | exact ⟨by decide, by decide, S, .refl, q⟩
def letterB : D → Bool
  | .str z => (z.cps.getD 0 0) ≥ 97 && (z.cps.getD 0 0) ≤ 122
  | _ => false
theorem letterB_eq (c : Nat) : letterB (.str ⟨#[c]⟩) = decide (97 ≤ c ∧ c ≤ 122) := by
  simp [letterB]
theorem letters_mem (c : Nat) : decide (c ∈ (Str.ofString "abcdefghijklmnopqrstuvwxyz").cps.toList) = decide (97 ≤ c ∧ c ≤ 122) := by
  have e : (Str.ofString "abcdefghijklmnopqrstuvwxyz").cps.toList = (List.range 26).map (· + 97) := by decide +kernel
  rw [e]
  congr 1
  simp only [List.mem_map, List.mem_range, eq_iff_iff]
  constructor
  · rintro ⟨a, h, rfl⟩; omega
  · intro h; exact ⟨c - 97, by omega, by omega⟩
theorem is_word_str {z : Str} (hz : z.length ≤ sizeLine) (q : Q (.bl (isWord (.str z))) S) : r_is_word E (endsD Q) (startD N_is_word [.str z]) S := by
  simp only [r_is_word, startD, List.map_cons, List.map_nil, List.length_cons, List.length_nil, Nat.reduceAdd, Nat.reduceSub, List.replicate, List.cons_append, List.nil_append]
  simp only [sSeq, sIf, dOr, dNot, dTst, dFn, dCons, dVar, dNil, dC, List.getElem?_cons_zero, gIsi, tyOf, isSub, dChain, gLen_str, fLe, sRet, sNext, c_MOST_LETTERS, c_LETTERS]
  refine ⟨by decide, ?_⟩
  rw [if_neg (by decide)]
  refine ⟨hz, ?_⟩
  by_cases h1 : 1 ≤ z.length
  · by_cases h8 : z.length ≤ 8
    · rw [if_pos (decide_eq_true (by omega)), if_neg (by simp; omega)]
      simp only [dLc, dIt, dVar, List.getElem?_cons_zero]
      refine cLoop_map (fun x => .bl (letterB x)) trivial (by rw [List.length_map, Array.length_toList]; exact hz) (fun x hx R r => ?_) ?_
      · obtain ⟨c, hc, rfl⟩ := List.mem_map.1 hx
        show R (.bl (decide (c ∈ (Str.ofString "abcdefghijklmnopqrstuvwxyz").cps.toList))) S
        rw [letters_mem, ← letterB_eq]
        exact r
      · rw [gAll_lst (bs := z.cps.toList.map fun c => decide (97 ≤ c ∧ c ≤ 122)) (by simp only [List.map_map]; congr 1; funext c; exact congrArg D.bl (letterB_eq c))]
        refine ends_rt ?_
        have e : isWord (.str z) = (List.map (fun c => decide (97 ≤ c ∧ c ≤ 122)) z.cps.toList).all id := by
          simp [isWord, h1, h8]
        rw [← e]
        exact q
    · rw [if_pos (decide_eq_true (by omega)), if_pos (by simp; omega)]
      have e : isWord (.str z) = false := by simp [isWord, h8]
      rw [e] at q
      exact ends_rt q
  · rw [if_neg (by simp; omega), if_pos (by rfl)]
    have e : isWord (.str z) = false := by simp [isWord, h1]
    rw [e] at q
    exact ends_rt q
theorem is_word_ok (h : spPure (fun x => .bl (isWord x)) ws S Q E) : r_is_word E (endsD Q) (startD N_is_word ws) S := by
  obtain ⟨x, m, d, b, rfl, hx, hb, q⟩ := h
  cases x with
  | str z => exact is_word_str (Nat.le_trans hx.bk' hb) q
  | non => exact ⟨by decide, S, .refl, q⟩
  | bl _ => exact ⟨by decide, S, .refl, q⟩
  | int _ => exact ⟨by decide, S, .refl, q⟩
  | tup _ => exact ⟨by decide, S, .refl, q⟩
  | lst _ => exact ⟨by decide, S, .refl, q⟩
  | scr _ => cases hx.ok
  | ref _ => cases hx.ok
  | val _ => cases hx.ok
/-- this law's own look -/
def dueD (x : D) : D := .tup [.bl (isNum x), .bl (isWord x)]
theorem due_str {z : Str} (hz : z.length ≤ sizeLine) (hok : PyData.strOk z = true) (q : Q (dueD (.str z)) S) : r_law_due E (endsD Q) (startD N_law_due [.str z]) S := by
  simp only [r_law_due, startD, List.map_cons, List.map_nil, List.length_cons, List.length_nil, Nat.reduceAdd, Nat.reduceSub, List.replicate, List.cons_append, List.nil_append]
  simp only [sSeq, sAsg, dAndV, dFn, dCons, dVar, dNil, dC, List.getElem?_cons_zero, List.getElem?_cons_succ, gIsi, tyOf, isSub, dChain, gLen_str, fLt, sRet, sNext, List.set_cons_zero, List.set_cons_succ]
  refine ⟨by decide, ?_⟩
  rw [if_pos (by decide)]
  refine ⟨hz, ?_⟩
  have fin : ∀ k : Bool, isWord (.str z) = k → ((endsD Q).rt (.tup [.bl false, .bl k]) S) := fun k e => by
    subst e
    exact ends_rt q
  by_cases h1 : 0 < z.length
  · rw [if_pos (decide_eq_true (by omega))]
    by_cases h8 : z.length ≤ 8
    · rw [if_pos (decide_eq_true (by omega))]
      simp only [dOp, dLc, dIt, dVar, List.getElem?_cons_zero]
      refine cLoop_filter (fun x => !letterB x) id trivial (by rw [List.length_map, Array.length_toList]; exact hz) (fun x hx R1 R2 r1 r2 => ?_) ?_
      · obtain ⟨c, hc, rfl⟩ := List.mem_map.1 hx
        rw [letterB_eq] at r1 r2
        show (1 = 1 ∧ if decide ((c : Int) < 97) = true then (if true = true then R1 _ _ else R2 _) else (1 = 1 ∧ if decide ((c : Int) > 122) = true then R1 _ _ else R2 _))
        refine ⟨rfl, ?_⟩
        by_cases h97 : c < 97
        · rw [if_pos (decide_eq_true (by omega)), if_pos rfl]
          exact r1 (by simp; omega)
        · rw [if_neg (by simp; omega)]
          refine ⟨rfl, ?_⟩
          by_cases h122 : 122 < c
          · rw [if_pos (decide_eq_true (by omega))]
            exact r1 (by simp; omega)
          · rw [if_neg (by simp; omega)]
            exact r2 (by simp; omega)
      · have hg : ∀ l : List D, (∀ x ∈ l, ∃ c, x = .str ⟨#[c]⟩ ∧ c < 1114112) → Gd 0 1 (2 * l.length) (.lst l) := by
          intro l hl
          refine gd_lst.2 ?_
          induction l with
          | nil => exact gds_nil
          | cons y l ih =>
            obtain ⟨c, rfl, hc⟩ := hl _ (List.mem_cons_self ..)
            refine (Gds.cons (b := 1) (gd_str (by simp [PyData.strOk, hc]) (by simp [Str.length])) (ih fun x hx => hl x (List.mem_cons_of_mem _ hx))).le (Nat.le_refl _) (Nat.le_refl _) (by simp only [List.length_cons]; omega)
        refine ⟨Nat.zero_le _, ?_⟩
        refine (hg _ fun x hx => ?_).eq (m' := 0) (d' := 1) (b' := 0) (gd_lst.2 gds_nil) (by decide) (by decide) ?_
        · rw [List.map_id] at hx
          obtain ⟨c, hc, rfl⟩ := List.mem_map.1 (List.mem_filter.1 hx).1
          refine ⟨c, rfl, ?_⟩
          have := (Array.all_eq_true_iff_forall_mem.1 hok) c (by simpa using hc)
          exact of_decide_eq_true this
        · rw [deq_lst0]
          refine ⟨by decide, (show 2 ≤ 16777216 from by decide), fin _ ?_⟩
          have e : ∀ l : List Nat, (List.map id (List.filter (fun x => !letterB x) (l.map fun c => D.str ⟨#[c]⟩))).isEmpty = l.all fun c => decide (97 ≤ c ∧ c ≤ 122) := by
            intro l
            induction l with
            | nil => rfl
            | cons c l ih =>
              rw [List.map_cons, List.filter_cons, letterB_eq, List.all_cons, ← ih]
              cases decide (97 ≤ c ∧ c ≤ 122) <;> rfl
          rw [e]
          simp only [isWord, decide_eq_true h1, decide_eq_true h8, Bool.and_self, Bool.true_and]
          have h1' : 1 ≤ z.length := h1
          simp only [decide_eq_true h1', Bool.true_and]
    · rw [if_neg (by simp; omega)]
      exact ⟨by decide, by decide, fin _ (by simp [isWord, h8])⟩
  · rw [if_neg (by simp; omega)]
    exact ⟨by decide, by decide, fin _ (by simp [isWord]; omega)⟩
theorem due_ok (h : spPure dueD ws S Q E) : r_law_due E (endsD Q) (startD N_law_due ws) S := by
  obtain ⟨x, m, d, b, rfl, hx, hb, q⟩ := h
  cases x with
  | str z => exact due_str (Nat.le_trans hx.bk' hb) hx.ok q
  | non => exact ⟨by decide, by decide, by decide, S, .refl, q⟩
  | bl _ => exact ⟨by decide, by decide, by decide, by decide, S, .refl, q⟩
  | int _ => exact ⟨by decide, by decide, by decide, by decide, S, .refl, q⟩
  | tup _ => exact ⟨by decide, by decide, by decide, S, .refl, q⟩
  | lst _ => exact ⟨by decide, by decide, by decide, S, .refl, q⟩
  | scr _ => cases hx.ok
  | ref _ => cases hx.ok
  | val _ => cases hx.ok

theorem rd_bent (E : XD) (sp1 sp2 : DSp) : r_law_bent sp1 sp2 E = rBent sp1 sp2 := rfl
/-! ### texts -/
def spText : DSp := fun ws S Q _ => ∃ a o, ws = [.ref a] ∧ S a = some o ∧ FeedO o ∧ ∀ z o', Ss 30 z → FeedO o' → Q (.str z) (su S a o')
def signs94 : Str := Str.ofString " !\"#$&'()*+,-./0123456789:;<=>?@ABCDEFGHIJKLMNOPQRSTUVWXYZ[\\]^_`abcdefghijklmnopqrstuvwxyz{|}~"
theorem text_ok (h : spText ws S Q E) : r_law_text spDraw E (endsD Q) (startD N_law_text ws) S := by
  obtain ⟨a, o, rfl, hs, ho, q⟩ := h
  rw [← su_self hs]
  unfold r_law_text
  have h94 : Ss 94 signs94 := ss_by (by decide +kernel)
  have l94 : signs94.length = 94 := by decide +kernel
  have h26 : Ss 26 (Str.ofString "abcdefghijklmnopqrstuvwxyz") := ss_by (by decide +kernel)
  have l26 : (Str.ofString "abcdefghijklmnopqrstuvwxyz").length = 26 := by decide +kernel
  have h0 : Ss 0 (Str.ofString "") := ss_by (by decide +kernel)
  change Ss 94 (Str.ofString " !\"#$&'()*+,-./0123456789:;<=>?@ABCDEFGHIJKLMNOPQRSTUVWXYZ[\\]^_`abcdefghijklmnopqrstuvwxyz{|}~") at h94
  change (Str.ofString " !\"#$&'()*+,-./0123456789:;<=>?@ABCDEFGHIJKLMNOPQRSTUVWXYZ[\\]^_`abcdefghijklmnopqrstuvwxyz{|}~").length = 94 at l94
  walk_at "rd"
  generalize Str.ofString " !\"#$&'()*+,-./0123456789:;<=>?@ABCDEFGHIJKLMNOPQRSTUVWXYZ[\\]^_`abcdefghijklmnopqrstuvwxyz{|}~" = sg at *
  generalize Str.ofString "abcdefghijklmnopqrstuvwxyz" = al at *
  generalize Str.ofString "" = nul at *
  refine ⟨by decide, draw_su ho (by decide) (by decide) fun r o h1 h2 ho => ?_⟩
  walk_at "rd"
  refine ix_P (fun w => ∃ z, w = .str z ∧ Ss 94 z ∧ 0 < z.length) h1 (by simpa using h2) ?_ fun w ⟨z, e, hz, hz0⟩ => ?_
  · simp only [List.forall_mem_cons]
    exact ⟨⟨al, rfl, h26.le (by decide), by omega⟩, ⟨sg, rfl, h94, by omega⟩, fun _ h => nomatch h⟩
  subst e
  have hz1 := hz.len
  refine ⟨rfl, draw_su ho (by decide) (by decide) fun n o hn1 hn2 ho => ⟨⟨by omega, by omega⟩, ?_⟩⟩
  refine cLoop_feed (fun w => ∃ z, w = .str z ∧ Ss 1 z) ho (by simp; have : sizeLine = 16777216 := rfl; omega) (fun x hx o ho R q => ?_) fun acc o hacc hP ho => ?_
  · simp only [wipeD]
    walk_at "rd"
    refine ⟨by have : sizeLine = 16777216 := rfl; omega, draw_su ho (by omega) (by omega) fun r o h1 h2 ho => ?_⟩
    exact ix_str (by have : sizeLine = 16777216 := rfl; omega) h1 h2 fun c hc => q _ _ ⟨_, rfl, hz.sign hc⟩ ho
  · obtain ⟨zs, e, hzs⟩ := exists_map hP
    subst e
    simp only [List.length_map, List.length_range] at hacc
    have hsz : sizeLine = 16777216 := rfl
    refine join_by h0 hzs (by omega) ?_
    have ht : Ss 10 (Txt.join nul zs) := (ss_join h0 hzs).le (by omega)
    generalize Txt.join nul zs = tx at *
    have tl := ht.len
    refine draw_su ho (by decide) (by decide) fun r o h1 h2 ho => ?_
    walk_at "rd"
    refine ite_by (fun _ => ⟨by omega, draw_su ho (by omega) (by omega) fun i o hi1 hi2 ho => ?_⟩) fun _ => ends_rt (q _ _ (ht.le (by decide)) ho)
    walk_at "rd"
    refine ⟨by omega, draw_su ho (by decide) (by decide) fun r o h1 h2 ho => ix_str (by omega) h1 (by omega) fun c hc => ?_⟩
    have hc1 := h94.sign hc
    have e1 := (ht.cutS none (some i)).app hc1
    have e1l := e1.len
    have e0l := (ht.cutS none (some i)).len
    have ecl := hc1.len
    walk_at "rd"
    refine ⟨by omega, draw_su ho (by decide) (by decide) fun r o h1 h2 ho => ?_⟩
    walk_at "rd"
    have e2 := ht.cutS (some (i + r)) none
    have e2l := e2.len
    exact ⟨by omega, by omega, ends_rt (q _ _ ((e1.app e2).le (by decide)) ho)⟩
/-! ### things -/
def spThing : DSp := fun ws S Q _ => ∃ a o, ws = [.ref a] ∧ S a = some o ∧ FeedO o ∧ ∀ x o', Gd (10 ^ 210) 2 30 x → FeedO o' → Q x (su S a o')
theorem thing_ok (h : spThing ws S Q E) : r_law_thing spDraw spText E (endsD Q) (startD N_law_thing ws) S := by
  obtain ⟨a, o, rfl, hs, ho, q⟩ := h
  rw [← su_self hs]
  unfold r_law_thing
  walk_at "rd"
  refine draw_su ho (by decide) (by decide) fun r o h1 h2 ho => ?_
  walk_at "rd"
  refine ite_by (fun _ => ⟨a, _, rfl, su_same, ho, fun z o' hz ho => by rw [su_su]; exact ends_rt (q _ _ (hz.gd (Nat.le_refl _)) ho)⟩) fun _ => ite_by (fun _ => ?_) fun _ => ?_
  · have h60 : (60 : Int).natAbs ≤ 60 := by decide
    refine draw_su ho (by decide) (by decide) fun w o hw1 hw2 ho => ?_
    refine draw_su ho (by decide) (by decide) fun r o hr1 hr2 ho => ?_
    walk_at "rd"
    have e6 : (10 : Int) ^ (Int.toNat 6) = 1000000 := rfl
    refine ite_by (fun _ => draw_su ho (by decide) (by decide) fun j o hj1 hj2 ho => ⟨⟨by omega, by omega⟩, ?_⟩) (fun _ => ⟨⟨by omega, by omega⟩, ?_⟩)
    all_goals
      refine sLoop_feed (fun n env => ∃ k i, env = [some (.ref a), some (.int _), some (.int i), k, none] ∧ 0 ≤ i ∧ i < 10 ^ (2 + 6 * n)) ho ⟨_, _, rfl, hw1, by omega⟩ (fun n x hx hn env o ⟨k, i, e, hi0, hi1⟩ ho R q => ?_) fun env o ⟨k, i, e, hi0, hi1⟩ ho => ?_
      · subst e
        walk_at "rd"
        refine ⟨⟨by decide, by decide, by decide⟩, .inr (by decide), ⟨by decide, by decide, by decide⟩, ?_⟩
        rw [e6]
        refine draw_su ho (by decide) (by decide) fun c o hc1 hc2 ho => ?_
        walk_at "rd"
        refine q _ _ ⟨_, _, rfl, by omega, ?_⟩ ho
        have e7 : (10 : Int) ^ (2 + 6 * (n + 1)) = 10 ^ (2 + 6 * n) * 1000000 := by rw [show 2 + 6 * (n + 1) = (2 + 6 * n) + 6 by omega, Int.pow_add]; rfl
        rw [e7]
        generalize (10 : Int) ^ (2 + 6 * n) = z at *
        omega
      · subst e
        simp only [List.length_map, List.length_range] at hi1
        walk_at "rd"
        refine ⟨by decide, draw_su ho (by decide) (by decide) fun c o hc1 hc2 ho => ?_⟩
        walk_at "rd"
        have hi2 : i.natAbs ≤ 10 ^ 210 := pow10_le hi0 hi1 (by omega)
        refine ix_all hc1 (by simpa using hc2) ?_
        simp only [List.forall_mem_cons, fMul_ii]
        exact ⟨⟨.inr (by decide), ends_rt (q _ _ (gd_int (by rw [Int.mul_one]; exact hi2)) ho)⟩, ⟨.inr (by decide), ends_rt (q _ _ (gd_int (by rw [Int.mul_neg, Int.mul_one, Int.natAbs_neg]; exact hi2)) ho)⟩, fun _ h => nomatch h⟩
  · refine ⟨by decide, by decide, by decide, by decide, by decide, by decide, by decide, by decide, ?_⟩
    refine draw_su ho (by decide) (by decide) fun r o h1 h2 ho => ?_
    walk_at "rd"
    refine ix_all h1 (by simpa using h2) fun x hx => ends_rt (q _ _ ?_ ho)
    refine gd_by ?_
    revert x
    rw [← List.all_eq_true]
    decide +kernel

/-! ### the law -/
/-- what is gathered -/
structure Got (n : Nat) (xs : List D) : Prop where
  gd : Gds (10 ^ 212) 4 (1100 * n) xs
  len : xs.length ≤ 3 * n
def spLaw : DSp := fun ws S Q _ => ∃ ns : List Int, ws = [.scr (ns.map .int)] ∧ ns.length ≤ 63 ∧ (∀ S', Q (.bl true) S')
theorem lim215 : LimL 215 (10 ^ 210) ∧ LimL 215 (10 ^ 210 + 10 ^ 60) ∧ 10 ^ 210 + 10 ^ 60 + 10 ^ 60 ≤ 10 ^ 212 ∧ 10 ^ 212 < 10 ^ 570 := ⟨⟨by decide, by decide +kernel⟩, ⟨by decide, by decide +kernel⟩, by decide +kernel, by decide +kernel⟩
theorem law_ok (h : spLaw ws S Q E) : r_law spFeed spThing (spBent 215 5) (spPure fun x => .bl (isNum x)) (spPure fun x => .bl (isWord x)) (spPure dueD) E (endsD Q) (startD N_law ws) S := by
  obtain ⟨ns, rfl, hn, q⟩ := h
  unfold r_law
  walk_at "rd"
  refine ⟨ns, rfl, hn, fun a o ha ho => ?_⟩
  simp only [dLstR, dNil]
  refine ⟨by decide, fun p hp => ⟨by decide, ?_⟩⟩
  have hap : p ≠ a := by rintro rfl; rw [su_same] at hp; cases hp
  have hsz : sizeLine = 16777216 := rfl
  refine sLoop_n (fun n env S' => ∃ k x xs o, env = [some (.scr (ns.map .int)), some (.ref a), some (.ref p), k, x, none] ∧ S' = su (su S p (.lst xs)) a o ∧ FeedO o ∧ Got n xs) (fun _ _ _ _ _ => trivial) ⟨_, _, [], o, rfl, by rw [su_comm hap], ho, ⟨gds_nil, Nat.le_refl _⟩⟩ (fun n x hx hn env S' ⟨k, x2, xs, o, e1, e2, ho, hxs⟩ R q => ?_) fun env S' ⟨k, x2, xs, o, e1, e2, ho, hxs⟩ => ?_
  · subst e1 e2
    simp only [List.length_map, List.length_range] at hn
    have hn' : n < 14 := hn
    walk_at "rd"
    refine ⟨a, _, rfl, su_same, ho, fun w o hw ho => ?_⟩
    rw [su_su]
    refine ⟨ty_lst (xs := xs) (by rw [su_ne hap, su_same]), a, _, w, _, _, _, rfl, su_same, ho, hw, by decide, ⟨by decide, lim215.1, by decide⟩, fun y o hy ho => ?_⟩
    rw [su_su]
    refine ⟨a, _, w, _, _, _, rfl, su_same, ho, hw, by decide, ⟨by decide, lim215.1, by decide⟩, fun z o hz ho => ?_⟩
    rw [su_su]
    refine ⟨a, _, z, _, _, _, rfl, su_same, ho, hz, by decide, ⟨by decide, lim215.2.1, by decide⟩, fun u o hu ho => ⟨by decide, ?_⟩⟩
    rw [su_su]
    simp only [gExtend, su_ne hap, su_same, lsOf]
    have hxl := hxs.len
    refine ⟨by simp only [List.length_cons, List.length_nil]; omega, ?_⟩
    refine q _ _ ⟨_, _, _, o, rfl, by rw [su_comm (Ne.symm hap), su_su], ho, ⟨?_, by simp only [List.length_append, List.length_cons, List.length_nil]; omega⟩⟩
    have hg := hxs.gd
    clear hxs q
    have l1 := lim215.2.2.1
    have m1 : 10 ^ 210 ≤ 10 ^ 212 := by decide +kernel
    generalize (10 : Nat) ^ 212 = M at *
    generalize (10 : Nat) ^ 210 = M1 at *
    generalize (10 : Nat) ^ 60 = M2 at *
    exact (hg.append (Gds.cons (d := 4) (hw.le m1 (by decide) (Nat.le_refl _)) (Gds.cons (hy.le (by omega) (by decide) (Nat.le_refl _)) (gds1 (hu.le l1 (by decide) (Nat.le_refl _)))))).le (Nat.le_refl _) (Nat.le_refl _) (by omega)
  · subst e1 e2
    simp only [List.length_map, List.length_range] at hxs
    have hxs' : Got 14 xs := hxs
    have hp1 : (su (su S p (.lst xs)) a o) p = some (.lst xs) := by rw [su_ne hap, su_same]
    walk_at "rd"
    refine repr_ref hp1 hxs'.gd lim215.2.2.2 (by decide) (by decide) ?_
    rw [hp1]
    refine sLoop_n (fun n env S' => ∃ k x, env = [some (.scr (ns.map .int)), some (.ref a), some (.ref p), k, x, some (.str (shown (.lst xs)))] ∧ S' = su (su S p (.lst xs)) a o) (fun n env S' _ ⟨_, _, _, e⟩ => by subst e; exact hp1) ⟨_, _, rfl, rfl⟩ (fun n x hx hn env S' ⟨k, x2, e1, e2⟩ R q => ?_) fun env S' ⟨k, x2, e1, e2⟩ => ?_
    · subst e1 e2
      have hx2 := hxs'.gd.mem (List.mem_of_getElem? hx)
      walk_at "rd"
      refine ⟨x, _, _, _, rfl, hx2, by decide, x, _, _, _, rfl, hx2, by decide, by decide, ?_⟩
      have g2 : Gd 0 1 2 (.tup [.bl (isNum x), .bl (isWord x)]) := gd_tup.2 ((gds1 (b := 0) gd_bl).cons (b := 0) gd_bl)
      refine g2.repr (by decide) (by decide) (by decide) ⟨x, _, _, _, rfl, hx2, by decide, ?_⟩
      refine g2.repr (by decide) (by decide) (by decide) (ne_str ?_)
      rw [decide_eq_true rfl]
      simp only [Bool.not_true, Bool.false_eq_true, if_false]
      exact q _ _ ⟨_, _, rfl, rfl⟩
    · subst e1 e2
      walk_at "rd"
      refine repr_ref hp1 hxs'.gd lim215.2.2.2 (by decide) (by decide) ?_
      walk_at "rd"
      refine ends_rt ?_
      exact q _
end
end Lw


set_option Elab.async false
set_option linter.all false
set_option maxRecDepth 100000
set_option maxHeartbeats 0
namespace Lw
open PySem PySem.Spec PyProof.Rows L2 DL
section
variable {P : Program} {w : World} {K : PySem.W.Frag} {mg : Str → Option Value} {base : Heap}
theorem g_law_draw (T : Tx K mg) : FnG P w K mg base CX0 1 T.f_law_draw T.fd_law_draw p_law_draw spDraw :=
  FnG.def_ T.F_law_draw sc_law_draw (fun ws S Q E ⟨_, _, e, _⟩ => by rw [e]; rfl) fun cdv A outer s H E E' hr hG => ⟨_, w_law_draw T hr hG, fun ws S Q h => by rw [rd_draw]; exact draw_ok fd1_ok h⟩
theorem g_law_feed (T : Tx K mg) : FnG P w K mg base CX0 1 T.f_law_feed T.fd_law_feed p_law_feed spFeed :=
  FnG.def_ T.F_law_feed sc_law_feed (fun ws S Q E ⟨_, e, _⟩ => by rw [e]; rfl) fun cdv A outer s H E E' hr hG => ⟨_, w_law_feed T hr hG, fun ws S Q h => by rw [rd_feed]; exact feed_ok h⟩
theorem g_law_bent (T : Tx K mg) : ∀ n : Nat, FnG P w K mg base CX0 (2 + n) T.f_law_bent T.fd_law_bent p_law_bent (spBent 215 n)
  | 0 => FnG.void fun ws S Q E ⟨_, _, _, _, _, _, _, _, _, _, h, _⟩ => absurd h (Nat.not_lt_zero _)
  | n + 1 => FnG.def_ T.F_law_bent sc_law_bent (fun ws S Q E ⟨_, _, _, _, _, _, e, _⟩ => by rw [e]; rfl) fun cdv A outer s H E E' hr hG =>
    ⟨_, w_law_bent T hr hG (g_law_draw T) (show 1 ≤ 2 + n by omega) (g_law_bent T n) (Nat.le_refl _), fun ws S Q h => by rw [rd_bent]; exact bent_ok h⟩
theorem g_law_text (T : Tx K mg) : FnG P w K mg base CX0 2 T.f_law_text T.fd_law_text p_law_text spText :=
  FnG.def_ T.F_law_text sc_law_text (fun ws S Q E ⟨_, _, e, _⟩ => by rw [e]; rfl) fun cdv A outer s H E E' hr hG => ⟨_, w_law_text T hr hG (g_law_draw T) (by omega), fun ws S Q h => text_ok h⟩
theorem g_law_thing (T : Tx K mg) : FnG P w K mg base CX0 3 T.f_law_thing T.fd_law_thing p_law_thing spThing :=
  FnG.def_ T.F_law_thing sc_law_thing (fun ws S Q E ⟨_, _, e, _⟩ => by rw [e]; rfl) fun cdv A outer s H E E' hr hG => ⟨_, w_law_thing T hr hG (g_law_draw T) (by omega) (g_law_text T) (by omega), fun ws S Q h => thing_ok h⟩
theorem g_is_number (T : Tx K mg) : FnG P w K mg base CX0 1 T.f_is_number T.fd_is_number p_is_number (spPure fun x => .bl (isNum x)) :=
  FnG.def_ T.F_is_number sc_is_number (fun ws S Q E ⟨_, _, _, _, e, _⟩ => by rw [e]; rfl) fun cdv A outer s H E E' hr hG => ⟨_, w_is_number T hr hG, fun ws S Q h => is_number_ok h⟩
theorem g_is_word (T : Tx K mg) : FnG P w K mg base CX0 1 T.f_is_word T.fd_is_word p_is_word (spPure fun x => .bl (isWord x)) :=
  FnG.def_ T.F_is_word sc_is_word (fun ws S Q E ⟨_, _, _, _, e, _⟩ => by rw [e]; rfl) fun cdv A outer s H E E' hr hG => ⟨_, w_is_word T hr hG, fun ws S Q h => is_word_ok h⟩
theorem g_law_due (T : Tx K mg) : FnG P w K mg base CX0 1 T.f_law_due T.fd_law_due p_law_due (spPure dueD) :=
  FnG.def_ T.F_law_due sc_law_due (fun ws S Q E ⟨_, _, _, _, e, _⟩ => by rw [e]; rfl) fun cdv A outer s H E E' hr hG => ⟨_, w_law_due T hr hG, fun ws S Q h => due_ok h⟩
theorem g_law (T : Tx K mg) : FnG P w K mg base CX0 9 T.f_law T.fd_law p_law spLaw :=
  FnG.def_ T.F_law sc_law (fun ws S Q E ⟨_, e, _⟩ => by rw [e]; rfl) fun cdv A outer s H E E' hr hG => ⟨_, w_law T hr hG (g_law_feed T) (by omega) (g_law_thing T) (by omega) (g_law_bent T 5) (by omega) (g_is_number T) (by omega) (g_is_word T) (by omega) (g_law_due T) (by omega), fun ws S Q h => law_ok h⟩
end
abbrev hk : PySem.W.Hook := hookX 13 fa fn xt
def ob (s : PySem.W.SharedT) : He.AlD × Bool := obX 13 fa fn xt s
theorem ob_eq (s : PySem.W.SharedT) : ob s = hk.obs s.abs := obX_eq s
theorem run (w : World) : HandSHeadRun.RunEq (PySem.W.OpenLaw.row PySem.Challenge.rw_forkjoins_k01_kinds) (PySem.W.view (PySem.W.OpenLaw.row PySem.Challenge.rw_forkjoins_k01_kinds).prog [12]) hk ob 400 ["__name__", "LETTERS", "MOST_LETTERS", "is_number", "is_word", "_law_feed", "_law_draw", "_law_bent", "_law_text", "_law_thing", "_law_due"] w := by
  intro os
  kernel_rfl
end Lw
open PySem PySem.W PySem.Calls PyProof.Rows
theorem PySem.Challenge.cw_forkjoins_k01_kinds_holds : PySem.Challenge.rw_forkjoins_k01_kinds.Holds := by
  w_on; o_law
  refine HandSHeadRun.head_any (r := OpenLaw.row PySem.Challenge.rw_forkjoins_k01_kinds) (q := view (OpenLaw.row PySem.Challenge.rw_forkjoins_k01_kinds).prog [12]) (H := Lw.hk) (ob := Lw.ob) (M := 400) (loose := ["__name__", "LETTERS", "MOST_LETTERS", "is_number", "is_word", "_law_feed", "_law_draw", "_law_bent", "_law_text", "_law_thing", "_law_due"]) (d := HandSHeadRun.topDef (OpenLaw.row PySem.Challenge.rw_forkjoins_k01_kinds).prog 12) (kwd := []) Lw.ob_eq
    (by kernel_rfl) (fun s => by kernel_rfl) Lw.run (by kernel_rfl) (by kernel_rfl) (by kernel_rfl) (by rfl) (by first | assumption | decide +kernel) (by decide +kernel) ⟨rfl, rfl, rfl, rfl, rfl, by decide +kernel⟩ ?hw ?hc
  case hw => w_witness2
  case hc =>
    refine DL.walkG (l := PySem.Challenge.rw_forkjoins_k01_kinds) (n := 63) (k := 9) (x := "_law_script") (CX := L2.CX0) rfl (by decide) (by kernel_rfl) ⟨rfl, by decide, by decide⟩ ?F (fun _ _ _ _ z => z)
    intro w mg fa h Y G hmg0
    obtain ⟨K, KX, c, cx⟩ := Y
    obtain ⟨T⟩ := Lw.tx KX G c cx
    have hmg : mg ("law" : PySem.Str) = some (.ref fa) := by
      have e : (HandSHeadRun.topDef (OpenLaw.row PySem.Challenge.rw_forkjoins_k01_kinds).prog 12).name = ("law" : PySem.Str) := by kernel_rfl
      rw [← e]
      exact hmg0
    have e := hmg.symm.trans T.m_law
    cases e
    have b := L2.FunD.bindsA (ps := ["_law_script"]) T.F_law fun _ _ _ _ _ _ us hl => match us, hl with | [_], _ => rfl
    exact ⟨K, T.fd_law, Lw.spLaw, KX, fun s v => b s [v] rfl, fun ns hl => ⟨ns, rfl, hl, fun _ => rfl⟩, fun base _ _ => Lw.g_law T⟩


