import PyProof.Rows.All
import Wide.All
import OpenK.AllK
import Wide.FinOn
import HandS.ForMost
import HandS.Exc
import HandS.TryOnly
import HandS.ExcOwn
import HandS.WordsExc
import HandS.Wide
import HandS.Flow
import HandS.IsInst
import HandS.TupAny
import HandS.ExcInit
import HandS.ExcField
import HandS.ExcIs
import HandS.ClsMeth
import KE.KExcIs
import PySem.Challenge.RW_redquill_k42_at_a_place
set_option Elab.async false
set_option linter.all false
set_option maxRecDepth 100000
set_option maxHeartbeats 4000000
/-! Ev0: data (D), cells (C), values with ownership (W), how they lie in the abstract heap. -/
namespace Ev
open PySem PySem.Spec PyProof.Rows L2

/-- data that never changes -/
inductive D where
  | non | bl (b : Bool) | int (i : Int) | str (x : Str) | tup (xs : List D)
/-- what a slot or a field holds -/
inductive C where
  | d (x : D) | lst (xs : List D) | dK (kvs : List (Key × D)) | dT (kvs : List (List Key × D))
inductive W where
  | c (x : C) | obj (c : Nat) (fs : List (Str × C))
abbrev W.d (x : D) : W := .c (.d x)
abbrev W.lst (xs : List D) : W := .c (.lst xs)
abbrev W.int (i : Int) : W := .c (.d (.int i))
abbrev W.str (x : Str) : W := .c (.d (.str x))
abbrev W.bl (b : Bool) : W := .c (.d (.bl b))
abbrev W.non : W := .c (.d .non)
abbrev W.tup (xs : List D) : W := .c (.d (.tup xs))

mutual
def RepD (K : PySem.W.Frag) (H : Hp) : D → V → Prop
  | .non, v => v = .non
  | .bl b, v => v = .bl b
  | .int i, v => v = .int i
  | .str x, v => v = .str x
  | .tup xs, v => ∃ a vs, v = .ref a ∧ SqT K H a vs ∧ RepDs K H xs vs
def RepDs (K : PySem.W.Frag) (H : Hp) : List D → List V → Prop
  | [], vs => vs = []
  | x :: xs, vs => ∃ v r, vs = v :: r ∧ RepD K H x v ∧ RepDs K H xs r
end
/-- tuples stand -/
def TK (K : PySem.W.Frag) (H H' : Hp) : Prop := ∀ a xs, SqT K H a xs → SqT K H' a xs
section
variable {K : PySem.W.Frag} {H H' : Hp}
mutual
theorem RepD.mono (t : TK K H H') : ∀ {x : D} {v : V}, RepD K H x v → RepD K H' x v
  | .non, _, h => h
  | .bl _, _, h => h
  | .int _, _, h => h
  | .str _, _, h => h
  | .tup xs, v, h => by
    unfold RepD at h ⊢
    obtain ⟨a, vs, e, q, r⟩ := h
    exact ⟨a, vs, e, t a vs q, RepDs.mono t r⟩
theorem RepDs.mono (t : TK K H H') : ∀ {xs : List D} {vs : List V}, RepDs K H xs vs → RepDs K H' xs vs
  | [], _, h => h
  | x :: xs, vs, h => by
    unfold RepDs at h ⊢
    obtain ⟨v, r, e, h1, h2⟩ := h
    exact ⟨v, r, e, RepD.mono t h1, RepDs.mono t h2⟩
end
theorem RepDs.length : ∀ {xs : List D} {vs : List V}, RepDs K H xs vs → vs.length = xs.length
  | [], _, h => by unfold RepDs at h; subst h; rfl
  | x :: xs, vs, h => by
    unfold RepDs at h
    obtain ⟨v, r, e, h1, h2⟩ := h
    subst e
    simp [RepDs.length h2]
theorem RepDs.nil : RepDs K H [] [] := by unfold RepDs; rfl
theorem RepDs.cons {x v xs vs} (h : RepD K H x v) (r : RepDs K H xs vs) : RepDs K H (x :: xs) (v :: vs) := by
  unfold RepDs; exact ⟨v, vs, rfl, h, r⟩
theorem RepDs.app : ∀ {xs ys : List D} {vs ws : List V}, RepDs K H xs vs → RepDs K H ys ws → RepDs K H (xs ++ ys) (vs ++ ws)
  | [], _, _, _, h, q => by unfold RepDs at h; subst h; exact q
  | x :: xs, _, _, _, h, q => by
    unfold RepDs at h
    obtain ⟨v, r, e, h1, h2⟩ := h
    subst e
    exact .cons h1 (RepDs.app h2 q)
theorem RepDs.get : ∀ {xs : List D} {vs : List V} {i : Nat} {x : D}, RepDs K H xs vs → xs[i]? = some x → ∃ v, vs[i]? = some v ∧ RepD K H x v
  | [], _, _, _, _, e => by simp at e
  | y :: xs, _, 0, x, h, e => by
    unfold RepDs at h
    obtain ⟨v, r, e1, h1, h2⟩ := h
    subst e1
    simp at e; subst e
    exact ⟨v, rfl, h1⟩
  | y :: xs, _, i + 1, x, h, e => by
    unfold RepDs at h
    obtain ⟨v, r, e1, h1, h2⟩ := h
    subst e1
    obtain ⟨w, q1, q2⟩ := RepDs.get (i := i) h2 (by simpa using e)
    exact ⟨w, by simpa using q1, q2⟩
theorem RepDs.take : ∀ {xs : List D} {vs : List V} (n : Nat), RepDs K H xs vs → RepDs K H (xs.take n) (vs.take n)
  | _, _, 0, _ => by simp only [List.take_zero]; exact .nil
  | [], _, n + 1, h => by unfold RepDs at h; subst h; exact .nil
  | x :: xs, _, n + 1, h => by
    unfold RepDs at h
    obtain ⟨v, r, e1, h1, h2⟩ := h
    subst e1
    exact .cons h1 (RepDs.take n h2)
theorem RepDs.drop : ∀ {xs : List D} {vs : List V} (n : Nat), RepDs K H xs vs → RepDs K H (xs.drop n) (vs.drop n)
  | _, _, 0, h => h
  | [], _, n + 1, h => by unfold RepDs at h; subst h; exact .nil
  | x :: xs, _, n + 1, h => by
    unfold RepDs at h
    obtain ⟨v, r, e1, h1, h2⟩ := h
    subst e1
    exact RepDs.drop n h2
theorem RepDs.set {x : D} {v : V} : ∀ {xs : List D} {vs : List V} (n : Nat), RepDs K H xs vs → RepD K H x v → RepDs K H (xs.set n x) (vs.set n v)
  | [], _, _, h, _ => by unfold RepDs at h; subst h; exact .nil
  | y :: xs, _, 0, h, r => by
    unfold RepDs at h
    obtain ⟨v, q, e, h1, h2⟩ := h
    subst e
    exact .cons r h2
  | y :: xs, _, n + 1, h, r => by
    unfold RepDs at h
    obtain ⟨v, q, e, h1, h2⟩ := h
    subst e
    exact .cons h1 (RepDs.set n h2 r)
theorem TK.refl : TK K H H := fun _ _ h => h
theorem TK.trans {H'' : Hp} (a : TK K H H') (b : TK K H' H'') : TK K H H'' := fun c xs h => b c xs (a c xs h)
theorem TK.of_same (s : Same H H') : TK K H H' := fun a xs h => by
  rcases h with (h | ⟨o, h⟩) | h
  · exact .inl (.inl (s _ _ h))
  · exact .inl (.inr ⟨o, s _ _ h⟩)
  · exact .inr h
theorem Same.upd {a : Addr} {o : HO} (h : H a = none) : Same H (upd H a o) := fun b x e => by
  rw [upd_ne (ne_of_none e h)]
  exact e
end

/-! ### the data as PyData, for == -/
mutual
def toPy : D → PyData
  | .non => .none
  | .bl b => .bool b
  | .int i => .int i
  | .str x => .str x
  | .tup xs => .tuple (toPys xs)
def toPys : List D → List PyData
  | [] => []
  | x :: xs => toPy x :: toPys xs
end
mutual
theorem RepD.dp {K : PySem.W.Frag} {H : Hp} : ∀ {x : D} {v : V}, RepD K H x v → Dp K H v (toPy x)
  | .non, _, h => by unfold RepD at h; subst h; exact .non
  | .bl _, _, h => by unfold RepD at h; subst h; exact .bl _
  | .int _, _, h => by unfold RepD at h; subst h; exact .int _
  | .str _, _, h => by unfold RepD at h; subst h; exact .str _
  | .tup xs, v, h => by
    unfold RepD at h
    obtain ⟨a, vs, e, q, r⟩ := h
    subst e
    exact .tup q (RepDs.dp r)
theorem RepDs.dp {K : PySem.W.Frag} {H : Hp} : ∀ {xs : List D} {vs : List V}, RepDs K H xs vs → DpAll K H vs (toPys xs)
  | [], _, h => by unfold RepDs at h; subst h; exact .nil
  | x :: xs, vs, h => by
    unfold RepDs at h
    obtain ⟨v, r, e, h1, h2⟩ := h
    subst e
    exact .cons (RepD.dp h1) (RepDs.dp h2)
end

/-! ### readable values -/
/-- a list that may be read at a: tracked at a place where P holds (or locked there), or of the written part -/
def RdL (P : Addr → Prop) (K : PySem.W.Frag) (H : Hp) (a : Addr) (vs : List V) : Prop := (P a ∧ Rd H a (.lst vs)) ∨ SqL K (fun _ => none) a vs
def RepC (P : Addr → Prop) (K : PySem.W.Frag) (H : Hp) : C → V → Prop
  | .d x, v => RepD K H x v
  | .lst xs, v => ∃ a vs, v = .ref a ∧ RdL P K H a vs ∧ RepDs K H xs vs
  | .dK kvs, v => ∃ a vs, v = .ref a ∧ P a ∧ H a = some (.dK vs) ∧ kvs.map (·.1) = vs.map (·.1) ∧ RepDs K H (kvs.map (·.2)) (vs.map (·.2))
  | .dT kvs, v => ∃ a vs, v = .ref a ∧ P a ∧ H a = some (.dT vs) ∧ kvs.map (·.1) = vs.map (·.1) ∧ RepDs K H (kvs.map (·.2)) (vs.map (·.2))
def RepF (P : Addr → Prop) (K : PySem.W.Frag) (H : Hp) (fs' : List (Str × V)) (o : Option C) (f : Str) : Prop :=
  match o with
  | some x => ∃ v, fs'.lookup f = some v ∧ RepC P K H x v
  | none => fs'.lookup f = none
def RepW (P : Addr → Prop) (K : PySem.W.Frag) (ca : Nat → Addr) (H : Hp) : W → V → Prop
  | .c x, v => RepC P K H x v
  | .obj c fs, v => ∃ a dx fs', v = .ref a ∧ P a ∧ H a = some (.ins (ca c) dx fs') ∧ ∀ f, RepF P K H fs' (fs.lookup f) f
section
variable {P : Addr → Prop} {K : PySem.W.Frag} {ca : Nat → Addr} {H H' : Hp}
/-- what stands where P holds stands still; tuples stand -/
structure Fut (P : Addr → Prop) (K : PySem.W.Frag) (H H' : Hp) : Prop where
  tk : TK K H H'
  at_ : ∀ a o, P a → H a = some o → H' a = some o
theorem Fut.refl : Fut P K H H := ⟨.refl, fun _ _ _ h => h⟩
theorem Fut.trans {H'' : Hp} (a : Fut P K H H') (b : Fut P K H' H'') : Fut P K H H'' := ⟨a.tk.trans b.tk, fun c o p h => b.at_ c o p (a.at_ c o p h)⟩
theorem Fut.of_same (s : Same H H') : Fut P K H H' := ⟨.of_same s, fun a o _ h => s a o h⟩
theorem SqL.free {a : Addr} {vs : List V} (h : SqL K (fun _ => none) a vs) : SqL K H a vs := by
  rcases h with (h | ⟨o, h⟩) | h
  · cases h
  · cases h
  · exact .inr h
theorem RdL.seq {a : Addr} {vs : List V} (h : RdL P K H a vs) : SqL K H a vs := by
  rcases h with ⟨_, h⟩ | h
  · exact .inl h
  · exact SqL.free h
theorem RdL.mono {P' : Addr → Prop} {a : Addr} {vs : List V} (h : RdL P K H a vs) (f : Fut P K H H') (q : ∀ b, P b → P' b) : RdL P' K H' a vs := by
  rcases h with ⟨p, h | ⟨o, h⟩⟩ | h
  · exact .inl ⟨q a p, .inl (f.at_ a _ p h)⟩
  · exact .inl ⟨q a p, .inr ⟨o, f.at_ a _ p h⟩⟩
  · exact .inr h
theorem RdL.of_seq {a : Addr} {vs : List V} (h : SqL K H a vs) : RdL (fun _ => True) K H a vs := by
  rcases h with h | h
  · exact .inl ⟨trivial, h⟩
  · exact .inr (.inr h)
theorem RepC.mono {P' : Addr → Prop} (f : Fut P K H H') (q : ∀ b, P b → P' b) : ∀ {x : C} {v : V}, RepC P K H x v → RepC P' K H' x v
  | .d x, v, h => RepD.mono f.tk h
  | .lst xs, v, ⟨a, vs, e, h, r⟩ => ⟨a, vs, e, h.mono f q, r.mono f.tk⟩
  | .dK kvs, v, ⟨a, vs, e, p, h, k, r⟩ => ⟨a, vs, e, q a p, f.at_ a _ p h, k, r.mono f.tk⟩
  | .dT kvs, v, ⟨a, vs, e, p, h, k, r⟩ => ⟨a, vs, e, q a p, f.at_ a _ p h, k, r.mono f.tk⟩
theorem RepF.mono {P' : Addr → Prop} (f : Fut P K H H') (q : ∀ b, P b → P' b) {fs' : List (Str × V)} {o : Option C} {n : Str} (h : RepF P K H fs' o n) : RepF P' K H' fs' o n := by
  cases o with
  | none => exact h
  | some x => obtain ⟨v, e, r⟩ := h; exact ⟨v, e, r.mono f q⟩
theorem RepW.mono {P' : Addr → Prop} (f : Fut P K H H') (q : ∀ b, P b → P' b) : ∀ {x : W} {v : V}, RepW P K ca H x v → RepW P' K ca H' x v
  | .c x, v, h => RepC.mono f q h
  | .obj c fs, v, ⟨a, dx, fs', e, p, h, r⟩ => ⟨a, dx, fs', e, q a p, f.at_ a _ p h, fun n => (r n).mono f q⟩

/-! ### owned values, with the places they own -/
def OwnC (K : PySem.W.Frag) (H : Hp) : C → V → List Addr → Prop
  | .d x, v, fp => RepD K H x v ∧ fp = []
  | .lst xs, v, fp => ∃ a vs, v = .ref a ∧ H a = some (.lst vs) ∧ RepDs K H xs vs ∧ fp = [a]
  | .dK kvs, v, fp => ∃ a vs, v = .ref a ∧ H a = some (.dK vs) ∧ kvs.map (·.1) = vs.map (·.1) ∧ RepDs K H (kvs.map (·.2)) (vs.map (·.2)) ∧ fp = [a]
  | .dT kvs, v, fp => ∃ a vs, v = .ref a ∧ H a = some (.dT vs) ∧ kvs.map (·.1) = vs.map (·.1) ∧ RepDs K H (kvs.map (·.2)) (vs.map (·.2)) ∧ fp = [a]
/-- an object's fields: each field's value and places -/
def OwnFs (K : PySem.W.Frag) (H : Hp) (fs' : List (Str × V)) : List (Str × C) → List Addr → Prop
  | [], fp => fp = []
  | (f, x) :: r, fp => ∃ v fp1 fp2, fs'.lookup f = some v ∧ OwnC K H x v fp1 ∧ OwnFs K H fs' r fp2 ∧ fp = fp1 ++ fp2
def OwnW (K : PySem.W.Frag) (ca : Nat → Addr) (H : Hp) : W → V → List Addr → Prop
  | .c x, v, fp => OwnC K H x v fp
  | .obj c fs, v, fp => ∃ a dx fs' fp', v = .ref a ∧ H a = some (.ins (ca c) dx fs') ∧ OwnFs K H fs' fs fp' ∧ (fs.map (·.1)).Nodup ∧ (∀ f, fs.lookup f = none → fs'.lookup f = none) ∧ fp = a :: fp'
theorem OwnC.stay (t : TK K H H') : ∀ {x : C} {v : V} {fp : List Addr}, OwnC K H x v fp → (∀ a ∈ fp, ∀ o, H a = some o → H' a = some o) → OwnC K H' x v fp
  | .d x, v, fp, ⟨h, e⟩, _ => ⟨h.mono t, e⟩
  | .lst xs, v, fp, ⟨a, vs, e, h, r, ef⟩, s => ⟨a, vs, e, s a (by subst ef; simp) _ h, r.mono t, ef⟩
  | .dK kvs, v, fp, ⟨a, vs, e, h, k, r, ef⟩, s => ⟨a, vs, e, s a (by subst ef; simp) _ h, k, r.mono t, ef⟩
  | .dT kvs, v, fp, ⟨a, vs, e, h, k, r, ef⟩, s => ⟨a, vs, e, s a (by subst ef; simp) _ h, k, r.mono t, ef⟩
theorem OwnFs.stay (t : TK K H H') {fs' : List (Str × V)} : ∀ {fs : List (Str × C)} {fp : List Addr}, OwnFs K H fs' fs fp → (∀ a ∈ fp, ∀ o, H a = some o → H' a = some o) → OwnFs K H' fs' fs fp
  | [], _, h, _ => h
  | (f, x) :: r, fp, ⟨v, fp1, fp2, l, h1, h2, e⟩, s => ⟨v, fp1, fp2, l, h1.stay t fun a ha => s a (by subst e; simp [ha]), OwnFs.stay t h2 fun a ha => s a (by subst e; simp [ha]), e⟩
theorem OwnW.stay (t : TK K H H') : ∀ {x : W} {v : V} {fp : List Addr}, OwnW K ca H x v fp → (∀ a ∈ fp, ∀ o, H a = some o → H' a = some o) → OwnW K ca H' x v fp
  | .c x, _, _, h, s => OwnC.stay t h s
  | .obj c fs, v, fp, ⟨a, dx, fs', fp', e, h, q, nd, l, ef⟩, s => ⟨a, dx, fs', fp', e, s a (by subst ef; simp) _ h, q.stay t fun b hb => s b (by subst ef; simp [hb]), nd, l, ef⟩
theorem OwnC.rep : ∀ {x : C} {v : V} {fp : List Addr}, (∀ a ∈ fp, P a) → OwnC K H x v fp → RepC P K H x v
  | .d x, v, fp, _, ⟨h, e⟩ => h
  | .lst xs, v, fp, q, ⟨a, vs, e, h, r, ef⟩ => ⟨a, vs, e, .inl ⟨q a (by subst ef; simp), .inl h⟩, r⟩
  | .dK kvs, v, fp, q, ⟨a, vs, e, h, k, r, ef⟩ => ⟨a, vs, e, q a (by subst ef; simp), h, k, r⟩
  | .dT kvs, v, fp, q, ⟨a, vs, e, h, k, r, ef⟩ => ⟨a, vs, e, q a (by subst ef; simp), h, k, r⟩
theorem OwnFs.rep {fs' : List (Str × V)} : ∀ {fs : List (Str × C)} {fp : List Addr}, (∀ a ∈ fp, P a) → OwnFs K H fs' fs fp → ∀ f x, fs.lookup f = some x → ∃ v, fs'.lookup f = some v ∧ RepC P K H x v
  | [], _, _, _, f, x, h => by simp at h
  | (g, y) :: r, fp, q, ⟨v, fp1, fp2, l, h1, h2, e⟩, f, x, h => by
    rw [List.lookup_cons] at h
    split at h
    · rename_i eq
      have eq' : f = g := by simpa using eq
      cases h
      subst eq'
      exact ⟨v, l, h1.rep fun a ha => q a (by subst e; simp [ha])⟩
    · exact OwnFs.rep (fun a ha => q a (by subst e; simp [ha])) h2 f x h
theorem OwnW.rep : ∀ {x : W} {v : V} {fp : List Addr}, (∀ a ∈ fp, P a) → OwnW K ca H x v fp → RepW P K ca H x v
  | .c x, _, _, q, h => OwnC.rep q h
  | .obj c fs, v, fp, q, ⟨a, dx, fs', fp', e, h, r, nd, l, ef⟩ => ⟨a, dx, fs', e, q a (by subst ef; simp), h, fun f => by
      unfold RepF
      cases e' : fs.lookup f with
      | none => exact l f e'
      | some x => exact OwnFs.rep (fun b hb => q b (by subst ef; simp [hb])) r f x e'⟩
end
end Ev
/-! Ev1: the small language, how it is tied to the text, what it means over data. -/
namespace Ev
open PySem PySem.Spec PyProof.Rows L2

/-! ### the language -/
/-- a target: a name's slot, or a flat row of names -/
inductive G where
  | nm (i : Nat) | tup (is : List Nat)
/-- built-in functions and classes that are called -/
inductive B where
  | len | list | sum | int | min | max
  deriving DecidableEq
/-- built-in types named in isinstance -/
inductive Ty where
  | int | bool | str | list | tuple | dict
  deriving DecidableEq
mutual
inductive E where
  | var (i : Nat) | non | bl (b : Bool) | int (i : Int) | str (x : Str)
  | tup (es : Es) | lst (es : Es)
  | bin (o : Operator) (a b : E) | neg (a : E)
  | cmp (o : CmpOp) (a b : E) | cmp2 (o o' : CmpOp) (a b c : E) | cmp3 (o o' o2 : CmpOp) (a b c d : E)
  | and (a b : E) | or (a b : E) | not (a : E) | ife (c a b : E)
  | ix (a b : E) | sl (a : E) (lo hi : Eo)
  | call (f : Str) (es : Es)
  | blt (f : B) (es : Es)
  | isi (e : E) (T : Ty)
  | join (s : E) (e : E)
  | lc (own : List (Str × Nat)) (g : G) (it : It) (cs : Eo) (e : E)
inductive Es where
  | nil | cons (e : E) (es : Es)
inductive Eo where
  | none | some (e : E)
inductive It where
  | e (e : E) | rng1 (a : E) | rng2 (a b : E) | enum (a : E) | str (a : E) | tup (a : E)
end
mutual
inductive T where
  | asg (g : G) (e : E)
  | aug (i : Nat) (o : Operator) (e : E)
  | setI (i : Nat) (k e : E)
  | app (i : Nat) (e : E)
  | clear (i : Nat)
  | expr (e : E)
  | ret (e : E) | retN
  | ite (c : E) (a b : Ts)
  | for_ (g : G) (it : It) (b : Ts)
  | whil (n : Nat) (c : E) (b : Ts)
  | brk | cnt | pass
inductive Ts where
  | nil | cons (t : T) (ts : Ts)
end

def B.name : B → Str
  | .len => "len" | .list => "list" | .sum => "sum" | .int => "int" | .min => "min" | .max => "max"
def Ty.name : Ty → Str
  | .int => "int" | .bool => "bool" | .str => "str" | .list => "list" | .tuple => "tuple" | .dict => "dict"

/-! ### the tie to the text -/
def visB (sc : Scope) (x : Str) : Bool := match sc.names.lookup x with
  | some .local => true | some .cell => true | some .free => true | _ => false
def locB (sc : Scope) (x : Str) : Bool := match sc.names.lookup x with
  | some .local => true | some .cell => true | _ => false
def glB (sc : Scope) (x : Str) : Bool := match sc.names.lookup x with
  | some .globalImplicit => true | _ => false
def plainName (x : Str) : Bool := !(x == ("__debug__" : Str)) && !(x == ("__classdict__" : Str)) && !(x == ("__name__" : Str))
def tgOk : It → G → Bool
  | .enum _, .nm _ => false
  | _, _ => true
/-- the head of an attribute is no super() -/
def baseOk : Expr → Bool
  | .Call (.Name y _) _ _ _ => !(y == ("super" : Str))
  | _ => true
/-- what may stand as a test -/
def tstOk : E → Bool
  | .ife _ _ _ => false
  | .and a b => tstOk a && tstOk b
  | .or a b => tstOk a && tstOk b
  | .not a => tstOk a
  | .non => false
  | .bl _ => false
  | .int _ => false
  | .str _ => false
  | .tup _ => false
  | .lst _ => false
  | .neg _ => false
  | .join _ _ => false
  | _ => true
def isLc : E → Bool
  | .lc .. => true
  | _ => false
def nmOk (str : Bool) (N : List Str) (sc : Scope) (i : Nat) : Expr → Bool
  | .Name x _ => decide (N[i]? = some x) && (if str then decide (sc.names.lookup x = some .local) else locB sc x)
  | _ => false
def nmsOk (str : Bool) (N : List Str) (sc : Scope) : List Nat → List Expr → Bool
  | [], [] => true
  | i :: is, e :: es => nmOk str N sc i e && nmsOk str N sc is es
  | _, _ => false
def chkG (str : Bool) (N : List Str) (sc : Scope) : G → Expr → Bool
  | .nm i, e => nmOk str N sc i e
  | .tup is, .Tuple es _ _ => nmsOk str N sc is es
  | _, _ => false
def gSlots : G → List Nat
  | .nm i => [i]
  | .tup is => is
/-- a comprehension's only clause -/
def oneGen : List Comprehension → Option (Expr × Expr × List Expr)
  | [⟨tg, iter, ifs, asy⟩] => if asy = 0 then some (tg, iter, ifs) else none
  | _ => none
mutual
def chk (bl : List Str) (N : List Str) (sc : Scope) : E → Expr → Bool
  | .var i, .Name x _ => decide (N[i]? = some x) && visB sc x && plainName x
  | .non, .Constant .none _ _ => true
  | .bl b, .Constant (.bool c) _ _ => b == c
  | .int i, .Constant (.int j) _ _ => decide (i = j)
  | .str x, .Constant (.str y) _ _ => decide (x = y)
  | .tup es, .Tuple l _ _ => chks bl N sc es l
  | .lst es, .List l _ => chks bl N sc es l
  | .bin o a b, .BinOp x p y _ => decide (o = p) && chk bl N sc a x && chk bl N sc b y
  | .neg a, .UnaryOp .USub x _ => chk bl N sc a x
  | .cmp o a b, .Compare x [p] [y] _ => decide (o = p) && chk bl N sc a x && chk bl N sc b y
  | .cmp2 o o' a b c, .Compare x [p, p'] [y, z] _ => decide (o = p) && decide (o' = p') && chk bl N sc a x && chk bl N sc b y && chk bl N sc c z
  | .cmp3 o o' o2 a b c d, .Compare x [p, p', p2] [y, z, t] _ => decide (o = p) && decide (o' = p') && decide (o2 = p2) && chk bl N sc a x && chk bl N sc b y && chk bl N sc c z && chk bl N sc d t
  | .and a b, .BoolOp .And (x :: y :: r) p => chk bl N sc a x && (match r with
      | [] => chk bl N sc b y
      | z :: r => chk bl N sc b (.BoolOp .And (y :: z :: r) p))
  | .or a b, .BoolOp .Or (x :: y :: r) p => chk bl N sc a x && (match r with
      | [] => chk bl N sc b y
      | z :: r => chk bl N sc b (.BoolOp .Or (y :: z :: r) p))
  | .not a, .UnaryOp .Not x _ => chk bl N sc a x
  | .ife c a b, .IfExp x y z _ => tstOk c && chk bl N sc c x && chk bl N sc a y && chk bl N sc b z
  | .ix a b, .Subscript x y _ => chk bl N sc a x && chk bl N sc b y
  | .sl a lo hi, .Subscript x (.Slice l h none _) _ => chk bl N sc a x && chko bl N sc lo l && chko bl N sc hi h
  | .call f es, .Call (.Name x _) l [] _ => decide (f = x) && glB sc x && plainName x && chks bl N sc es l
  | .blt f es, .Call (.Name x _) l [] _ => decide (f.name = x) && glB sc x && bl.contains x && chks bl N sc es l
  | .isi e t, .Call (.Name x _) [y, .Name z _] [] _ => decide (x = "isinstance") && glB sc x && bl.contains x && bl.contains z && chk bl N sc e y && decide (z = t.name) && glB sc z
  | .join s e, .Call (.Attribute x a p) [y] [] q => decide (a = "join") && baseOk x && (p.endLine == q.line) && chk bl N sc s x && chk bl N sc e y
  | .lc own g it cs e, .ListComp elt gens scope _ => match oneGen gens with
      | some (tg, iter, ifs) => chki bl N sc it iter && tgOk it g && blkC N sc scope own && chkG true N (relS scope sc) g tg && (gSlots g).all (fun i => (own.map (·.2)).contains i) &&
          (own.map (·.2)).all (fun i => decide (i < N.length)) && chk bl N (relS scope sc) e elt && chkc bl N (relS scope sc) cs ifs
      | none => false
  | _, _ => false
def chks (bl : List Str) (N : List Str) (sc : Scope) : Es → List Expr → Bool
  | .nil, [] => true
  | .cons e es, x :: l => chk bl N sc e x && chks bl N sc es l
  | _, _ => false
def chko (bl : List Str) (N : List Str) (sc : Scope) : Eo → Option Expr → Bool
  | .none, none => true
  | .some e, some x => chk bl N sc e x
  | _, _ => false
def chkc (bl : List Str) (N : List Str) (sc : Scope) : Eo → List Expr → Bool
  | .none, [] => true
  | .some e, [x] => tstOk e && chk bl N sc e x
  | _, _ => false
def chki (bl : List Str) (N : List Str) (sc : Scope) : It → Expr → Bool
  | .e e, x => chk bl N sc e x
  | .tup e, x => chk bl N sc e x
  | .str e, x => chk bl N sc e x
  | .rng1 a, .Call (.Name x _) [y] [] _ => decide (x = "range") && glB sc x && bl.contains x && chk bl N sc a y
  | .rng2 a b, .Call (.Name x _) [y, z] [] _ => decide (x = "range") && glB sc x && bl.contains x && chk bl N sc a y && chk bl N sc b z
  | .enum a, .Call (.Name x _) [y] [] _ => decide (x = "enumerate") && glB sc x && bl.contains x && chk bl N sc a y
  | _, _ => false
end

/-- a row of names is given no row that is written out (their stores would be swapped) -/
def noSwap : Expr → Expr → Bool
  | .Tuple .., .Tuple .. => false
  | _, _ => true
/-- a comprehension given to a name stands on one line, the name a local one that the comprehension has not -/
def lcLine (sc : Scope) : Expr → Expr → Bool
  | .Name y py, .ListComp _ _ scope q => (py.line == q.line) && decide (sc.names.lookup y = some .local) && !(scope.names.any fun (n, k) => n == y && (k == .local || k == .cell))
  | _, _ => false
mutual
def chkT (bl : List Str) (N : List Str) (sc : Scope) : T → Stmt → Bool
  | .asg g e, .Assign [t] x p => chkG false N sc g t && chk bl N sc e x && noSwap t x && (!isLc e || lcLine sc t x)
  | .aug i o e, .AugAssign (.Name x _) p y _ => decide (N[i]? = some x) && locB sc x && decide (o = p) && chk bl N sc e y
  | .setI i k e, .Assign [.Subscript (.Name x _) y _] z _ => decide (N[i]? = some x) && visB sc x && plainName x && chk bl N sc k y && chk bl N sc e z && !isLc e
  | .app i e, .Expr (.Call (.Attribute (.Name x _) a p) [y] [] q) _ => decide (N[i]? = some x) && visB sc x && plainName x && decide (a = "append") && (p.endLine == q.line) && chk bl N sc e y
  | .clear i, .Expr (.Call (.Attribute (.Name x _) a p) [] [] q) _ => decide (N[i]? = some x) && visB sc x && plainName x && decide (a = "clear") && (p.endLine == q.line)
  | .expr e, .Expr x _ => chk bl N sc e x && !isLc e
  | .ret e, .Return (some x) _ => chk bl N sc e x
  | .retN, .Return none _ => true
  | .ite c a b, .If x l r _ => tstOk c && chk bl N sc c x && chkTs bl N sc a l && chkTs bl N sc b r
  | .for_ g it b,   .For t x l [] _ => tgOk it g && chkG false N sc g t && chki bl N sc it x && chkTs bl N sc b l
  | .whil _ c b, .While x l [] _ => tstOk c && chk bl N sc c x && chkTs bl N sc b l
  | .brk, .Break _ => true
  | .cnt, .Continue _ => true
  | .pass, .Pass _ => true
  | _, _ => false
def chkTs (bl : List Str) (N : List Str) (sc : Scope) : Ts → List Stmt → Bool
  | .nil, [] => true
  | .cons t ts, s :: ss => chkT bl N sc t s && chkTs bl N sc ts ss
  | _, _ => false
end

/-! ### what it means -/
noncomputable section
inductive Kd where
  | fr | ro | at (i : Nat)
inductive Sl where
  | own (w : W) | ro (w : W) | lk (w : W) | out
/-- an exception: its class's name, its fields -/
structure Xc where
  c : Str
  fs : List (Str × D)
inductive RE (α : Type) where
  | ok (a : α) | exc (e : Xc)
abbrev M (α : Type) := Option (RE α)
def M.ok {α : Type} (a : α) : M α := some (.ok a)
def M.bind {α β : Type} (x : M α) (f : α → M β) : M β := match x with
  | some (.ok a) => f a
  | some (.exc e) => some (.exc e)
  | none => none
/-- a value, and how it is held -/
abbrev VW := W × Kd
open Classical in
def guardP {α : Type} (p : Prop) (k : M α) : M α := if p then k else none
def guardN {α : Type} (n : Nat) (k : M α) : M α := guardP (n ≤ sizeLine) k
def vD (x : D) : M VW := .ok (.d x, .ro)
def vF (w : W) : M VW := .ok (w, .fr)
def vI (i : Int) : M VW := vD (.int i)
def vB (b : Bool) : M VW := vD (.bl b)

def wPy : W → Option PyData
  | .c (.d x) => some (toPy x)
  | .c (.lst xs) => some (.list (toPys xs))
  | _ => none
def truth : W → M Bool
  | .c (.d .non) => .ok false
  | .c (.d (.bl b)) => .ok b
  | .c (.d (.int i)) => .ok (i != 0)
  | .c (.d (.str x)) => guardN x.length (.ok ((x.length : Int) != 0))
  | .c (.d (.tup xs)) => .ok (!xs.isEmpty)
  | .c (.lst xs) => .ok (!xs.isEmpty)
  | .c (.dK kvs) => .ok (!kvs.isEmpty)
  | _ => none
def binI (o : Operator) (i j : Int) : M VW := match o with
  | .Add => vI (i + j)
  | .Sub => vI (i - j)
  | .Mult => guardP ((-18446744073709551616 < i ∧ i < 18446744073709551616) ∨ (-18446744073709551616 < j ∧ j < 18446744073709551616)) (vI (i * j))
  | .FloorDiv => guardP (0 < j ∧ j < 1073741824) (vI (i / j))
  | .Mod => guardP (0 < j) (vI (i % j))
  | .Pow => guardP (0 ≤ j ∧ j ≤ 1000000 ∧ i.natAbs < 18446744073709551616) (vI (i ^ j.toNat))
  | .LShift => guardP (0 ≤ j ∧ j ≤ 1000000 ∧ i.natAbs < 18446744073709551616) (vI (i * 2 ^ j.toNat))
  | .BitAnd => vI (Builtin.bitAnd i j)
  | .BitOr => vI (Builtin.bitOr i j)
  | _ => none
def bin (o : Operator) : W → W → M VW
  | .c (.d (.int i)), .c (.d (.int j)) => binI o i j
  | .c (.d (.str x)), .c (.d (.str y)) => if o = .Add then guardN (x.length + y.length) (vD (.str (x ++ y))) else none
  | .c (.lst xs), .c (.lst ys) => if o = .Add then guardN (xs.length + ys.length) (vF (.lst (xs ++ ys))) else none
  | _, _ => none
def eqW (a b : W) : M Bool := match wPy a, wPy b with
  | some x, some y => guardP (SeqAt.shaped x = true ∧ SeqAt.shaped y = true) (.ok (PyData.eqv x y))
  | _, _ => none
def isNonW : W → Bool
  | .c (.d .non) => true
  | _ => false
def cmpI (o : CmpOp) (i j : Int) : Option Bool := match o with
  | .Lt => some (decide (i < j))
  | .LtE => some (decide (i ≤ j))
  | .Gt => some (decide (j < i))
  | .GtE => some (decide (j ≤ i))
  | .Eq => some (decide (i = j))
  | .NotEq => some (!decide (i = j))
  | _ => none
def cmpS (o : CmpOp) (x y : Str) : Option Bool := match o with
  | .Eq => some (decide (x = y))
  | .NotEq => some (!decide (x = y))
  | _ => none
def cmp (o : CmpOp) (a b : W) : M Bool := match o, a, b with
  | o, .c (.d (.int i)), .c (.d (.int j)) => (cmpI o i j).map .ok
  | o, .c (.d (.str x)), .c (.d (.str y)) => (cmpS o x y).map .ok
  | .Is, a, .c (.d .non) => .ok (isNonW a)
  | .IsNot, a, .c (.d .non) => .ok (!isNonW a)
  | .Eq, a, b => eqW a b
  | .NotEq, a, b => (eqW a b).bind fun k => .ok (!k)
  | _, _, _ => none
def ix : W → W → M VW
  | .c (.lst xs), .c (.d (.int i)) => match atI xs i with
      | some x => vD x
      | none => none
  | .c (.d (.tup xs)), .c (.d (.int i)) => match atI xs i with
      | some x => vD x
      | none => none
  | .c (.d (.str z)), .c (.d (.int i)) => guardN z.length (match atI z.cps.toList i with
      | some c => vD (.str ⟨#[c]⟩)
      | none => none)
  | _, _ => none
def cutD (xs : List D) (lo hi : Option Int) : List D := (xs.drop (HT.sIx xs.length 0 lo)).take (HT.sIx xs.length xs.length hi - HT.sIx xs.length 0 lo)
def sl : W → Option Int → Option Int → M VW
  | .c (.lst xs), lo, hi => vF (.lst (cutD xs lo hi))
  | .c (.d (.str z)), lo, hi => guardN z.length (vD (.str (cutS z lo hi)))
  | .c (.d (.tup xs)), lo, hi => vD (.tup (cutD xs lo hi))
  | _, _, _ => none
def asInt : W → Option Int
  | .c (.d (.int i)) => some i
  | _ => none
def intsD : List D → Option (List Int)
  | [] => some []
  | .int i :: r => (intsD r).map (i :: ·)
  | _ => none
def strsD : List D → Option (List Str)
  | [] => some []
  | .str i :: r => (strsD r).map (i :: ·)
  | _ => none
def blt (f : B) : List W → M VW := fun ws => match f, ws with
  | .len, [.c (.lst xs)] => vI xs.length
  | .len, [.c (.d (.tup xs))] => vI xs.length
  | .len, [.c (.d (.str z))] => guardN z.length (vI z.length)
  | .list, [.c (.lst xs)] => vF (.lst xs)
  | .list, [.c (.d (.tup xs))] => vF (.lst xs)
  | .sum, [.c (.lst xs)] => match intsD xs with
      | some ns => vI ns.sum
      | none => none
  | .int, [.c (.d (.int i))] => vI i
  | .int, [.c (.d (.bl b))] => vI (b2i b)
  | .min, [.c (.d (.int i)), .c (.d (.int j))] => vI (if j < i then j else i)
  | .max, [.c (.d (.int i)), .c (.d (.int j))] => vI (if i < j then j else i)
  | _, _ => none
def isiW (t : Ty) : W → Option Bool
  | .c (.d .non) => some false
  | .c (.d (.bl _)) => some (t == .int || t == .bool)
  | .c (.d (.int _)) => some (t == .int)
  | .c (.d (.str _)) => some (t == .str)
  | .c (.d (.tup _)) => some (t == .tuple)
  | .c (.lst _) => some (t == .list)
  | _ => none
/-- a slot is stored: a locked one is not -/
def putS (σ : List Sl) (i : Nat) (s : Sl) : Option (List Sl) := match σ[i]? with
  | some (.own _) => some (σ.set i s)
  | some (.ro _) => some (σ.set i s)
  | some .out => some (σ.set i s)
  | _ => none
def setGs : List Nat → List D → List Sl → Option (List Sl)
  | [], [], σ => some σ
  | i :: is, x :: xs, σ => (putS σ i (.ro (.d x))).bind fun σ' => setGs is xs σ'
  | _, _, _ => none
def setG (g : G) (x : D) (σ : List Sl) : Option (List Sl) := match g with
  | .nm i => putS σ i (.ro (.d x))
  | .tup is => match x with
      | .tup xs => setGs is xs σ
      | _ => none
def wipeS (σ : List Sl) : List Nat → List Sl
  | [] => σ
  | v :: vs => (wipeS σ vs).set v .out
def rngD (lo : Int) (n : Nat) : List D := (List.range n).map fun (k : Nat) => .int (lo + (k : Int))
def enumD (n : Nat) : List D → List D
  | [] => []
  | x :: xs => .tup [.int n, x] :: enumD (n + 1) xs
/-- the comprehension's turns -/
def lcRun (bind : D → Option (List Sl)) (test : List Sl → M Bool) (elt : List Sl → M VW) : List D → M (List D)
  | [] => .ok []
  | x :: xs => match bind x with
      | none => none
      | some σ => (test σ).bind fun b => if b then (elt σ).bind fun r => match r.1 with
            | .c (.d y) => (lcRun bind test elt xs).bind fun ys => .ok (y :: ys)
            | _ => none
          else lcRun bind test elt xs
/-- what the defs of the text are worth: pure ones -/
abbrev Gam := Str → Option (List W → M W)
def kdOf : W → Kd
  | .c (.d _) => .ro
  | _ => .fr
def wD : W → Option D
  | .c (.d x) => some x
  | _ => none
mutual
def ev (Γ : Gam) : E → List Sl → M VW
  | .var i, σ => match σ[i]? with
      | some (.ro w) => .ok (w, .ro)
      | some (.own w) => .ok (w, .at i)
      | some (.lk w) => .ok (w, .at i)
      | _ => none
  | .non, _ => vD .non
  | .bl b, _ => vB b
  | .int i, _ => vI i
  | .str x, _ => vD (.str x)
  | .tup es, σ => (evs Γ es σ).bind fun ws => match ws.mapM wD with
      | some xs => guardN xs.length (vD (.tup xs))
      | none => none
  | .lst es, σ => (evs Γ es σ).bind fun ws => match ws.mapM wD with
      | some xs => guardN xs.length (vF (.lst xs))
      | none => none
  | .bin o a b, σ => (ev Γ a σ).bind fun x => (ev Γ b σ).bind fun y => bin o x.1 y.1
  | .neg a, σ => (ev Γ a σ).bind fun x => match x.1 with
      | .c (.d (.int i)) => vI (-i)
      | _ => none
  | .cmp o a b, σ => (ev Γ a σ).bind fun x => (ev Γ b σ).bind fun y => (cmp o x.1 y.1).bind vB
  | .cmp2 o o' a b c, σ => (ev Γ a σ).bind fun x => (ev Γ b σ).bind fun y => (cmp o x.1 y.1).bind fun k => if k then (ev Γ c σ).bind fun z => (cmp o' y.1 z.1).bind vB else vB false
  | .cmp3 o o' o2 a b c d, σ => (ev Γ a σ).bind fun x => (ev Γ b σ).bind fun y => (cmp o x.1 y.1).bind fun k => if k then (ev Γ c σ).bind fun z => (cmp o' y.1 z.1).bind fun k' => if k' then (ev Γ d σ).bind fun t => (cmp o2 z.1 t.1).bind vB else vB false else vB false
  | .and a b, σ => (ev Γ a σ).bind fun x => (truth x.1).bind fun k => if k then ev Γ b σ else .ok x
  | .or a b, σ => (ev Γ a σ).bind fun x => (truth x.1).bind fun k => if k then .ok x else ev Γ b σ
  | .not a, σ => (ev Γ a σ).bind fun x => (truth x.1).bind fun k => vB (!k)
  | .ife c a b, σ => (ev Γ c σ).bind fun x => (truth x.1).bind fun k => if k then ev Γ a σ else ev Γ b σ
  | .ix a b, σ => (ev Γ a σ).bind fun x => (ev Γ b σ).bind fun y => ix x.1 y.1
  | .sl a lo hi, σ => (ev Γ a σ).bind fun x => (evo Γ lo σ).bind fun l => (evo Γ hi σ).bind fun h => sl x.1 l h
  | .call f es, σ => match Γ f with
      | some g => (evs Γ es σ).bind fun ws => (g ws).bind fun w => .ok (w, kdOf w)
      | none => none
  | .blt f es, σ => (evs Γ es σ).bind fun ws => blt f ws
  | .isi e t, σ => (ev Γ e σ).bind fun x => match isiW t x.1 with
      | some b => vB b
      | none => none
  | .join s e, σ => (ev Γ s σ).bind fun x => (ev Γ e σ).bind fun y => match x.1, y.1 with
      | .c (.d (.str z)), .c (.lst xs) => (match strsD xs with
          | some ys => guardN (z.length * ys.length + (ys.map (·.length)).sum) (vD (.str (Txt.join z ys)))
          | none => none)
      | _, _ => none
  | .lc own g it cs e, σ => (evi Γ it σ).bind fun xs => guardN xs.1.length ((lcRun (fun x => setG g x (wipeS σ (own.map (·.2)))) (evc Γ cs) (ev Γ e) xs.1).bind fun ys => vF (.lst ys))
def evs (Γ : Gam) : Es → List Sl → M (List W)
  | .nil, _ => .ok []
  | .cons e es, σ => (ev Γ e σ).bind fun x => (evs Γ es σ).bind fun ws => .ok (x.1 :: ws)
def evo (Γ : Gam) : Eo → List Sl → M (Option Int)
  | .none, _ => .ok none
  | .some e, σ => (ev Γ e σ).bind fun x => match asInt x.1 with
      | some i => .ok (some i)
      | none => none
def evc (Γ : Gam) : Eo → List Sl → M Bool
  | .none, _ => .ok true
  | .some e, σ => (ev Γ e σ).bind fun x => truth x.1
def evi (Γ : Gam) : It → List Sl → M (List D × List VW)
  | .e e, σ => (ev Γ e σ).bind fun x => match x.1 with
      | .c (.lst xs) => .ok (xs, [x])
      | _ => none
  | .tup e, σ => (ev Γ e σ).bind fun x => match x.1 with
      | .c (.d (.tup xs)) => .ok (xs, [x])
      | _ => none
  | .str e, σ => (ev Γ e σ).bind fun x => match x.1 with
      | .c (.d (.str z)) => .ok (z.cps.toList.map fun c => .str ⟨#[c]⟩, [])
      | _ => none
  | .rng1 a, σ => (ev Γ a σ).bind fun x => match x.1 with
      | .c (.d (.int j)) => guardP (-4611686018427387904 ≤ j ∧ j < 4611686018427387904) (.ok (rngD 0 j.toNat, []))
      | _ => none
  | .rng2 a b, σ => (ev Γ a σ).bind fun x => (ev Γ b σ).bind fun y => match x.1, y.1 with
      | .c (.d (.int i)), .c (.d (.int j)) => guardP (-4611686018427387904 ≤ i ∧ i < 4611686018427387904 ∧ -4611686018427387904 ≤ j ∧ j < 4611686018427387904) (.ok (rngD i (j - i).toNat, []))
      | _, _ => none
  | .enum a, σ => (ev Γ a σ).bind fun x => match x.1 with
      | .c (.lst xs) => .ok (enumD 0 xs, [x])
      | _ => none
end
/-! ### statements -/
inductive Out where
  | nx (σ : List Sl) | ret (w : W) (σ : List Sl) | brk (σ : List Sl) | cnt (σ : List Sl)
def setN (i : Nat) (x : VW) (σ : List Sl) : Option (List Sl) := match x with
  | (.c (.d d), _) => putS σ i (.ro (.c (.d d)))
  | (w, .fr) => putS σ i (.own w)
  | (w, .ro) => putS σ i (.ro w)
  | (_, .at _) => none
def nxO (o : Option (List Sl)) : M Out := match o with
  | some σ => .ok (.nx σ)
  | none => none
def lockS (ls : List VW) (σ : List Sl) : Option (List Sl) := match ls with
  | [] => some σ
  | [(_, .ro)] => some σ
  | [(w, .fr)] => some (σ ++ [.lk w])
  | [(_, .at i)] => match σ[i]? with
      | some (.own w) => some (σ.set i (.lk w))
      | some (.lk _) => some σ
      | _ => none
  | _ => none
def unlockS (ls : List VW) (σ : List Sl) (σ' : List Sl) : List Sl := match ls with
  | [(_, .fr)] => σ'.take σ.length
  | [(_, .at i)] => match σ[i]? with
      | some (.own w) => σ'.set i (.own w)
      | _ => σ'
  | _ => σ'
def Out.map (f : List Sl → List Sl) : Out → Out
  | .nx σ => .nx (f σ)
  | .ret w σ => .ret w (f σ)
  | .brk σ => .brk (f σ)
  | .cnt σ => .cnt (f σ)
def forRun (bind : D → List Sl → Option (List Sl)) (body : List Sl → M Out) : List D → List Sl → M Out
  | [], σ => .ok (.nx σ)
  | x :: xs, σ => match bind x σ with
      | none => none
      | some σ1 => (body σ1).bind fun o => match o with
          | .nx σ2 => forRun bind body xs σ2
          | .cnt σ2 => forRun bind body xs σ2
          | .brk σ2 => .ok (.nx σ2)
          | .ret w σ2 => .ok (.ret w σ2)
def whilRun (test : List Sl → M Bool) (body : List Sl → M Out) : Nat → List Sl → M Out
  | 0, _ => none
  | n + 1, σ => (test σ).bind fun b => if b then (body σ).bind fun o => (match o with
          | .nx σ2 => whilRun test body n σ2
          | .cnt σ2 => whilRun test body n σ2
          | .brk σ2 => .ok (.nx σ2)
          | .ret w σ2 => .ok (.ret w σ2)) else .ok (.nx σ)
def tstV (x : M VW) : M Bool := x.bind fun v => truth v.1
mutual
def run (Γ : Gam) : T → List Sl → M Out
  | .asg g e, σ => (ev Γ e σ).bind fun x => match g with
      | .nm i => nxO (setN i x σ)
      | .tup is => match x.1 with
          | .c (.d d) => nxO (setG (.tup is) d σ)
          | _ => none
  | .aug i o e, σ => (ev Γ e σ).bind fun y => match σ[i]? with
      | some (.ro x) => (match o with
          | .Add => (bin .Add x y.1)
          | .Sub => (bin .Sub x y.1)
          | _ => none).bind fun z => match z.1 with
              | .c (.d d) => nxO (putS σ i (.ro (.c (.d d))))
              | _ => none
      | _ => none
  | .setI i k e, σ => (ev Γ e σ).bind fun y => (ev Γ k σ).bind fun j => match σ[i]?, j.1, y.1 with
      | some (.own (.c (.lst xs))), .c (.d (.int j)), .c (.d d) => (match ixN xs.length j with
          | some n => .ok (.nx (σ.set i (.own (.c (.lst (xs.set n d))))))
          | none => none)
      | _, _, _ => none
  | .app i e, σ => (ev Γ e σ).bind fun y => match σ[i]?, y.1 with
      | some (.own (.c (.lst xs))), .c (.d d) => guardN (xs.length + 1) (.ok (.nx (σ.set i (.own (.c (.lst (xs ++ [d])))))))
      | _, _ => none
  | .clear i, σ => match σ[i]? with
      | some (.own (.c (.lst _))) => .ok (.nx (σ.set i (.own (.c (.lst [])))))
      | _ => none
  | .expr e, σ => (ev Γ e σ).bind fun _ => .ok (.nx σ)
  | .ret e, σ => (ev Γ e σ).bind fun x => match x with
      | (.c (.d d), _) => .ok (.ret (.c (.d d)) σ)
      | (w, .fr) => .ok (.ret w σ)
      | (w, .at i) => (match σ[i]? with
          | some (.own _) => .ok (.ret w (σ.set i .out))
          | _ => none)
      | (_, .ro) => none
  | .retN, σ => .ok (.ret .non σ)
  | .ite c a b, σ => (tstV (ev Γ c σ)).bind fun k => if k then runs Γ a σ else runs Γ b σ
  | .for_ g it b, σ => (evi Γ it σ).bind fun p => match lockS p.2 σ with
      | none => none
      | some σ1 => (forRun (fun x σ => setG g x σ) (runs Γ b) p.1 σ1).bind fun o => .ok (o.map (unlockS p.2 σ))
  | .whil n c b, σ => whilRun (fun σ => tstV (ev Γ c σ)) (runs Γ b) n σ
  | .brk, σ => .ok (.brk σ)
  | .cnt, σ => .ok (.cnt σ)
  | .pass, σ => .ok (.nx σ)
def runs (Γ : Gam) : Ts → List Sl → M Out
  | .nil, σ => .ok (.nx σ)
  | .cons t ts, σ => (run Γ t σ).bind fun o => match o with
      | .nx σ' => runs Γ ts σ'
      | .ret w σ' => .ok (.ret w σ')
      | .brk σ' => .ok (.brk σ')
      | .cnt σ' => .ok (.cnt σ')
end
/-- a def's value at its arguments: what it reads comes as it is -/
def fnRun (Γ : Gam) (n : Nat) (b : Ts) (ws : List W) : M W := (runs Γ b (ws.map Sl.ro ++ List.replicate (n - ws.length) Sl.out)).bind fun o => match o with
  | .ret w _ => .ok w
  | .nx _ => .ok .non
  | _ => none
end
end Ev
/-! Ev2: what the evaluator tells of an expression holds of its run. -/
namespace Ev
open PySem PySem.Spec
open PyProof.Rows hiding St
open L2

/-! ### monad facts -/
theorem bind_ok {α β : Type} {x : M α} {f : α → M β} {b : β} (h : M.bind x f = some (.ok b)) : ∃ a, x = some (.ok a) ∧ f a = some (.ok b) := by
  unfold M.bind at h
  split at h
  · exact ⟨_, rfl, h⟩
  · cases h
  · cases h
theorem ok_inj {α : Type} {a b : α} (h : M.ok a = some (.ok b)) : a = b := by
  unfold M.ok at h
  cases h; rfl
theorem guardN_ok {α : Type} {n : Nat} {k : M α} {b : α} (h : guardN n k = some (.ok b)) : n ≤ sizeLine ∧ k = some (.ok b) := by
  unfold guardN guardP at h
  split at h
  · exact ⟨by assumption, h⟩
  · cases h
theorem guardP_ok {α : Type} {p : Prop} {k : M α} {b : α} (h : guardP p k = some (.ok b)) : p ∧ k = some (.ok b) := by
  unfold guardP at h
  split at h
  · exact ⟨by assumption, h⟩
  · cases h

/-! ### the greatest readings -/
def wpE (X : Cx) (e : Expr) : TE := fun σ H Q => ∀ (pins : List (Addr × Obj)) (s : Shared), Inv X pins σ H s → wpAny (model X.prog X.w) X.A (eval e X.env) (EP X pins σ Q) X.xe s
theorem pe_wp {X : Cx} {e : Expr} : PE X e (wpE X e) := ⟨fun pins s _ _ _ I h => h pins s I⟩
theorem wp_of {X : Cx} {e : Expr} {t : TE} {σ : St} {H : Hp} {Q : VK} (p : PE X e t) (h : t σ H Q) : wpE X e σ H Q := fun pins s I => p.run pins s σ H Q I h
def wpA (X : Cx) (es : List Expr) : TA := fun σ H Q => ∀ (pos : Pos) (pins : List (Addr × Obj)) (s : Shared), Inv X pins σ H s → wpAny (model X.prog X.w) X.A (spliced (backTo pos (starEach es X.env))) (AP X pins σ Q) X.xe s
theorem pa_wp {X : Cx} {es : List Expr} : PA X es (wpA X es) := ⟨fun pos pins s _ _ _ I h => h pos pins s I⟩
theorem wpa_of {X : Cx} {es : List Expr} {t : TA} {σ : St} {H : Hp} {Q : List V → Hp → Prop} (p : PA X es t) (h : t σ H Q) : wpA X es σ H Q := fun pos pins s I => p.run pos pins s σ H Q I h
def wpT (X : Cx) (e : Expr) : TT := fun σ H Q => ∀ (pins : List (Addr × Obj)) (s : Shared), Inv X pins σ H s → wpAny (model X.prog X.w) X.A (isTrue e X.env (eval e X.env)) (TP X pins σ Q) X.xe s
theorem pt_wp {X : Cx} {e : Expr} : PT X e (wpT X e) := ⟨fun pins s _ _ _ I h => h pins s I⟩
theorem wpt_of {X : Cx} {e : Expr} {t : TT} {σ : St} {H : Hp} {Q : Bool → Hp → Prop} (p : PT X e t) (h : t σ H Q) : wpT X e σ H Q := fun pins s I => p.run pins s σ H Q I h
def wpS (X : Cx) (st : Stmt) : TS := fun D σ H => ∀ (pins : List (Addr × Obj)) (s : Shared), Inv X pins σ H s → wpAny (model X.prog X.w) X.A (exec st X.env) (SP X pins D) X.xe s
theorem ps_wp {X : Cx} {st : Stmt} : PS X st (wpS X st) := ⟨fun pins s _ _ _ I h => h pins s I⟩
theorem wps_of {X : Cx} {st : Stmt} {t : TS} {D : Ends} {σ : St} {H : Hp} (p : PS X st t) (h : t D σ H) : wpS X st D σ H := fun pins s I => p.run pins s σ H D I h
def wpSs (X : Cx) (st : List Stmt) : TS := fun D σ H => ∀ (pins : List (Addr × Obj)) (s : Shared), Inv X pins σ H s → wpAny (model X.prog X.w) X.A (execs st X.env) (SP X pins D) X.xe s
theorem pss_wp {X : Cx} {st : List Stmt} : PSs X st (wpSs X st) := ⟨fun pins s _ _ _ I h => h pins s I⟩
theorem wpss_of {X : Cx} {st : List Stmt} {t : TS} {D : Ends} {σ : St} {H : Hp} (p : PSs X st t) (h : t D σ H) : wpSs X st D σ H := fun pins s I => p.run pins s σ H D I h

/-! ### the slots -/
section
variable (P : Addr → Prop) (K : PySem.W.Frag) (ca : Nat → Addr)
def SlRep (H : Hp) (s : Sl) (o : Option (Option V)) (fp : List Addr) : Prop := match s with
  | .own w => ∃ v, o = some (some v) ∧ OwnW K ca H w v fp
  | .lk w => ∃ v, o = some (some v) ∧ OwnW K ca H w v fp
  | .ro w => ∃ v, o = some (some v) ∧ RepW P K ca H w v ∧ fp = []
  | .out => fp = []
structure SRep (σ : List Sl) (ρ : St) (H : Hp) (fp : Nat → List Addr) : Prop where
  len : σ.length = ρ.length
  sl : ∀ i s, σ[i]? = some s → SlRep P K ca H s ρ[i]? (fp i)
  dj : ∀ i j, i ≠ j → ∀ a ∈ fp i, a ∉ fp j
  nd : ∀ i, (fp i).Nodup
  np : ∀ i, ∀ a ∈ fp i, ¬ P a
  far : ∀ i, σ.length ≤ i → fp i = []
  pa : ∀ a, P a → ∃ o, H a = some o
/-- a value come of an expression -/
structure RepV (ρ : St) (H H' : Hp) (w : W) (k : Kd) (v : V) : Prop where
  rep : RepW (fun _ => True) K ca H' w v
  kd : match k with
    | .ro => RepW P K ca H' w v
    | .fr => ∃ fp, OwnW K ca H' w v fp ∧ (∀ a ∈ fp, H a = none) ∧ fp.Nodup
    | .at i => ρ[i]? = some (some v)
end
section
variable {P : Addr → Prop} {K : PySem.W.Frag} {ca : Nat → Addr} {σ : List Sl} {ρ : St} {H H' H'' : Hp} {fp : Nat → List Addr}
theorem SlRep.mono {s : Sl} {o : Option (Option V)} {f : List Addr} (h : SlRep P K ca H s o f) (t : Same H H') : SlRep P K ca H' s o f := by
  cases s with
  | own w =>
    obtain ⟨v, e, q⟩ := h
    exact ⟨v, e, q.stay (.of_same t) fun a _ o e => t a o e⟩
  | lk w =>
    obtain ⟨v, e, q⟩ := h
    exact ⟨v, e, q.stay (.of_same t) fun a _ o e => t a o e⟩
  | ro w =>
    obtain ⟨v, e, q, z⟩ := h
    exact ⟨v, e, q.mono (.of_same t) fun _ p => p, z⟩
  | out => exact h
theorem SRep.mono (S : SRep P K ca σ ρ H fp) (t : Same H H') : SRep P K ca σ ρ H' fp :=
  ⟨S.len, fun i s e => (S.sl i s e).mono t, S.dj, S.nd, S.np, S.far, fun a p => let ⟨o, e⟩ := S.pa a p; ⟨o, t a o e⟩⟩
theorem RepV.later {w : W} {k : Kd} {v : V} (r : RepV P K ca ρ H H' w k v) (t : Same H' H'') : RepV P K ca ρ H H'' w k v := by
  refine ⟨r.rep.mono (.of_same t) fun _ p => p, ?_⟩
  have q := r.kd
  cases k with
  | ro => exact RepW.mono (.of_same t) (fun _ p => p) q
  | fr =>
    obtain ⟨f, h1, h2, h3⟩ := q
    exact ⟨f, h1.stay (.of_same t) fun a _ o e => t a o e, h2, h3⟩
  | «at» i => exact q
theorem RepV.from {H0 : Hp} {w : W} {k : Kd} {v : V} (r : RepV P K ca ρ H H' w k v) (t : Same H0 H) : RepV P K ca ρ H0 H' w k v := by
  refine ⟨r.rep, ?_⟩
  have q := r.kd
  cases k with
  | ro => exact q
  | fr =>
    obtain ⟨f, h1, h2, h3⟩ := q
    exact ⟨f, h1, fun a ha => t.free (h2 a ha), h3⟩
  | «at» i => exact q
theorem RepV.ofD {x : D} {v : V} (r : RepD K H' x v) : RepV P K ca ρ H H' (.d x) .ro v := ⟨r, r⟩
theorem RepV.ofL {xs : List D} {vs : List V} {p : Addr} (t : TK K H (upd H' p (.lst vs))) (n : H' p = none) (s : Same H H') (r : RepDs K H' xs vs) : RepV P K ca ρ H (upd H' p (.lst vs)) (.lst xs) .fr (.ref p) := by
  have r' : RepDs K (upd H' p (.lst vs)) xs vs := r.mono (.of_same (Same.upd n))
  exact ⟨⟨p, vs, rfl, .inl ⟨trivial, .inl upd_same⟩, r'⟩, [p], ⟨p, vs, rfl, upd_same, r', rfl⟩, fun a ha => by
    have e : a = p := by simpa using ha
    subst e
    exact s.free n, by simp⟩
end
/-- what an expression's context must bear -/
structure Cok (bl : List Str) (sc : Scope) (X : Cx) : Prop where
  scope : X.env.scope = sc
  nd : X.N.Nodup
  calm : X.calm = true
  un : X.A.units + 64 < cLine
  bln : ∀ x ∈ bl, X.mg x = none
  kd : X.env.scope.kind = .function
end Ev
/-! Ev3: expressions. -/
namespace Ev
open PySem PySem.Spec
open PyProof.Rows hiding St
open L2

def RepWs (K : PySem.W.Frag) (ca : Nat → Addr) (H : Hp) : List W → List V → Prop
  | [], vs => vs = []
  | w :: ws, vs => ∃ v r, vs = v :: r ∧ RepW (fun _ => True) K ca H w v ∧ RepWs K ca H ws r
theorem RepWs.mono {K : PySem.W.Frag} {ca : Nat → Addr} {H H' : Hp} (t : Same H H') : ∀ {ws : List W} {vs : List V}, RepWs K ca H ws vs → RepWs K ca H' ws vs
  | [], _, h => h
  | w :: ws, vs, ⟨v, r, e, h1, h2⟩ => ⟨v, r, e, h1.mono (.of_same t) (fun _ p => p), RepWs.mono t h2⟩
theorem RepWs.length {K : PySem.W.Frag} {ca : Nat → Addr} {H : Hp} : ∀ {ws : List W} {vs : List V}, RepWs K ca H ws vs → vs.length = ws.length
  | [], _, h => by unfold RepWs at h; subst h; rfl
  | w :: ws, vs, ⟨v, r, e, h1, h2⟩ => by subst e; simp [RepWs.length h2]
/-- what comes back of a call of a pure def -/
def Back (K : PySem.W.Frag) (ca : Nat → Addr) (H H' : Hp) (w : W) (v : V) : Prop :=
  RepW (fun _ => True) K ca H' w v ∧ (match kdOf w with
    | .ro => True
    | _ => ∃ fp, OwnW K ca H' w v fp ∧ (∀ a ∈ fp, H a = none) ∧ fp.Nodup)
/-- a pure def's promise -/
def spP (K : PySem.W.Frag) (ca : Nat → Addr) (g : List W → M W) : Sp := fun vs H Q _ => ∃ ws w, RepWs K ca H ws vs ∧ g ws = some (.ok w) ∧ ∀ v H', Same H H' → Back K ca H H' w v → Q v H'
def CallOk (X : Cx) (ca : Nat → Addr) (f : Str) (g : List W → M W) : Prop :=
  ∃ fa fd ps k, FnOk X.prog X.w X.K X.mg X.base (L2.CX X.prog X.w) k fa fd ps (spP X.K ca g) ∧ Room k X.A ∧ X.mg f = some (.ref fa) ∧ PySem.W.keepIn X.K (.ref fa) = true ∧ Binds X.K fd ps []
def FnsOk (X : Cx) (ca : Nat → Addr) (Γ : Gam) : Prop := ∀ f g, Γ f = some g → CallOk X ca f g

/-! ### from the tie -/
theorem star_of {bl N sc} {e : E} {x : Expr} (h : chk bl N sc e x = true) (es : List Expr) (env : Env) : starEach (x :: es) env = (false, eval x env) :: starEach es env := by
  cases x <;> first | rfl | (cases e <;> simp [chk] at h)
theorem plainIx_of {bl N sc} {e : E} {x : Expr} (h : chk bl N sc e x = true) : PlainIx x := by
  intro o i
  cases x <;> first | rfl | (cases e <;> simp [chk] at h)
theorem fold_of {bl N sc} {e : It} {x : Expr} (h : chki bl N sc e x = true) (env : Env) (v : Value) : foldedSetIterable x env v = pure v := by
  cases x <;> first | rfl | (cases e <;> simp [chki] at h <;> (rename_i e; cases e <;> simp [chk] at h))
theorem noback {bl N sc} : ∀ {es : Es} {l : List Expr} (_ : chks bl N sc es l = true) (pos : Pos) (env : Env), (backTo pos (starEach l env)).any (·.1) = false
  | .nil, [], _, _, _ => rfl
  | .nil, _ :: _, h, _, _ => by simp [chks] at h
  | .cons _ _, [], h, _, _ => by simp [chks] at h
  | .cons e es, x :: l, h, pos, env => by
    have h' : chk bl N sc e x = true ∧ chks bl N sc es l = true := by simpa [chks] using h
    rw [star_of h'.1]
    show (false || (backTo pos (starEach l env)).any (·.1)) = false
    rw [noback h'.2]
    rfl
theorem attr_base {x : Expr} {a : Str} (env : Env) (h : baseOk x = true) : attributeBase x a env (eval x env) = eval x env := by
  unfold attributeBase
  split
  · rename_i id p pos
    have e1 : (id != ("super" : Str)) = true := by
      have : (!(id == ("super" : Str))) = true := h
      simpa [bne] using this
    simp [e1]
  · rfl
theorem isTrue_of {x : Expr} (env : Env) (h1 : ∀ y p, x ≠ .UnaryOp .Not y p) (h2 : ∀ o l p, x ≠ .BoolOp o l p) (h3 : ∀ a b c p, x ≠ .IfExp a b c p) (h4 : ∀ a b c p, x ≠ .Compare a b c p) (whole : Sem Value) :
    isTrue x env whole = (do let v ← whole; standAt x.pos; holding [v] (truthy v)) := by
  cases x with
  | UnaryOp o y p => cases o <;> first | rfl | exact absurd rfl (h1 _ _)
  | BoolOp o l p => exact absurd rfl (h2 _ _ _)
  | IfExp a b c p => exact absurd rfl (h3 _ _ _ _)
  | Compare a b c p => exact absurd rfl (h4 _ _ _ _)
  | _ => rfl

/-! ### truth -/
theorem isEmpty_rep {K : PySem.W.Frag} {H : Hp} {xs : List D} {vs : List V} (r : RepDs K H xs vs) : (!vs.isEmpty) = !xs.isEmpty := by
  have := r.length
  cases xs <;> cases vs <;> simp_all
theorem tru_of {P K ca H} {w : W} {v : V} {k : Bool} (r : RepW P K ca H w v) (h : truth w = some (.ok k)) : TruV K v H k := by
  cases w with
  | obj => cases h
  | c x =>
    cases x with
    | d x =>
      cases x with
      | non => have r : v = V.non := r; subst r; exact (ok_inj h).symm
      | bl b => have r : v = V.bl b := r; subst r; exact (ok_inj h).symm
      | int i => have r : v = V.int i := r; subst r; exact (ok_inj h).symm
      | str z =>
        have r : v = V.str z := r
        subst r
        obtain ⟨h1, h2⟩ := guardN_ok h
        exact ⟨h1, (ok_inj h2).symm⟩
      | tup xs =>
        obtain ⟨a, vs, e, q, r⟩ : ∃ a vs, v = .ref a ∧ SqT K H a vs ∧ RepDs K H xs vs := r
        subst e
        exact .inr (.inl ⟨vs, q, by rw [isEmpty_rep r]; exact (ok_inj h).symm⟩)
    | lst xs =>
      obtain ⟨a, vs, e, q, r⟩ := r
      subst e
      exact .inl ⟨vs, q.seq, by rw [isEmpty_rep r]; exact (ok_inj h).symm⟩
    | dK kvs =>
      obtain ⟨a, vs, e, p, q, k1, r⟩ := r
      subst e
      refine .inr (.inr ⟨vs, q, ?_⟩)
      have hl : kvs.length = vs.length := by have := congrArg List.length k1; simpa using this
      rw [← ok_inj h]
      cases kvs <;> cases vs <;> simp_all
    | dT kvs => cases h

/-! ### operators over values -/
section
variable {X : Cx} {P : Addr → Prop} {ca : Nat → Addr}
theorem repI {H : Hp} {i : Int} {v : V} (r : RepW P X.K ca H (.c (.d (.int i))) v) : v = .int i := r
theorem repS {H : Hp} {z : Str} {v : V} (r : RepW P X.K ca H (.c (.d (.str z))) v) : v = .str z := r
theorem repL {H : Hp} {xs : List D} {v : V} (r : RepW P X.K ca H (.c (.lst xs)) v) : ∃ a vs, v = .ref a ∧ RdL P X.K H a vs ∧ RepDs X.K H xs vs := r
/-- a cat of lists that may be read -/
def rCatS (K : PySem.W.Frag) : R2 := fun x y H Q => ∃ l b xs zs, x = .ref l ∧ y = .ref b ∧ SqL K H l xs ∧ SqL K H b zs ∧ xs.length + zs.length ≤ sizeLine ∧ ∀ p, H p = none → Q (.ref p) (upd H p (.lst (xs ++ zs)))
theorem op_catS : OpR X (binaryOp .Add) (rCatS X.K) := by
  intro pins s σ H x y v u Q I rx ry h
  obtain ⟨l, b, xs, zs, rfl, rfl, h1, h2, hz, q⟩ := h
  cases rx
  cases ry
  obtain ⟨its, r, p1, _⟩ := I.list h1
  obtain ⟨its2, r2, p2, _⟩ := I.list h2
  obtain ⟨⟨cls, dd, data, sl⟩, ho, hc, n, hd⟩ := p1.isList
  obtain ⟨⟨cls2, dd2, data2, sl2⟩, ho2, hc2, n2, hd2⟩ := p2.isList
  simp only at hc hd hc2 hd2
  subst hc hd hc2 hd2
  have hl := r.length
  have hl2 := r2.length
  have e : its.toArray ++ its2.toArray = (its ++ its2).toArray := by simp
  refine concat_meets ⟨_, ho, rfl⟩ ⟨_, ho2, rfl⟩ noFill_list_add seq_list_add PySem.F.slot_list_add PySem.F.entry_list_add (PySem.F.args_list_add_2 _ _) (list_addW l b its.toArray its2.toArray n n2 dd dd2 sl sl2 (by simp; omega)) ⟨ho, ho2, ?_⟩
  rw [e]
  exact ⟨.ref _, _, I.lnew (t' := s.toks) (r.append r2) (by rw [List.length_append]; omega), rfl, q _ I.fresh⟩
/-- two values are joined: what the wish must bear -/
def rBin (o : Operator) (K : PySem.W.Frag) : R2 := match o with
  | .Add => fun x y H Q => rI0 (fun i j => .int (i + j)) x y H Q ∨ ((∃ i j, x = .str i ∧ y = .str j ∧ i.length + j.length ≤ sizeLine ∧ Q (.str (i ++ j)) H) ∨ rCatS K x y H Q)
  | .Sub => rI0 fun i j => .int (i - j)
  | .Mult => rI CMul fun i j => .int (i * j)
  | .FloorDiv => rI CDiv fun i j => .int (i / j)
  | .Mod => rI (fun _ j => 0 < j) fun i j => .int (i % j)
  | .Pow => rI CPow fun i j => .int (i ^ j.toNat)
  | .LShift => rI CPow fun i j => .int (i * 2 ^ j.toNat)
  | .BitAnd => rI0 fun i j => .int (Builtin.bitAnd i j)
  | .BitOr => rI0 fun i j => .int (Builtin.bitOr i j)
  | _ => fun _ _ _ _ => False
theorem op_bin (o : Operator) : OpR X (binaryOp o) (rBin o X.K) := by
  cases o with
  | Add => exact OpR.or op_add (OpR.or op_add_str op_catS)
  | Sub => exact op_sub
  | Mult => exact op_mul
  | FloorDiv => exact op_fdiv
  | Mod => exact op_mod
  | Pow => exact op_pow
  | LShift => exact op_shl
  | BitAnd => exact op_and
  | BitOr => exact op_or
  | _ => intro pins s σ H x y v u Q I rx ry h; exact False.elim h
theorem pow62 : (2 : Int) ^ 62 = 4611686018427387904 := by decide
theorem pow64 : (2 : Int) ^ 64 = 18446744073709551616 := by decide
theorem bin_ok {o : Operator} {a b : W} {w : W} {k : Kd} {H0 H : Hp} {x y : V} {ρ : L2.St} {Q : VK} (s0 : Same H0 H) (ra : RepW (fun _ => True) X.K ca H a x) (rb : RepW (fun _ => True) X.K ca H b y) (h : bin o a b = some (.ok (w, k)))
    (q : ∀ v H', Same H H' → RepV P X.K ca ρ H0 H' w k v → Q v H') : rBin o X.K x y H Q := by
  unfold bin at h
  split at h
  · rename_i i j
    have ex := repI ra
    have ey := repI rb
    subst ex ey
    have fin : ∀ n : Int, (W.int n, Kd.ro) = (w, k) → Q (.int n) H := fun n e => by
      cases e
      exact q _ H (fun _ _ z => z) (.ofD rfl)
    unfold binI at h
    split at h
    · exact .inl ⟨i, j, rfl, rfl, fin _ (ok_inj h)⟩
    · exact ⟨i, j, rfl, rfl, fin _ (ok_inj h)⟩
    · obtain ⟨c, h⟩ := guardP_ok h
      exact ⟨i, j, rfl, rfl, by unfold CMul; rw [pow64]; exact c, fin _ (ok_inj h)⟩
    · obtain ⟨c, h⟩ := guardP_ok h
      exact ⟨i, j, rfl, rfl, c, fin _ (ok_inj h)⟩
    · obtain ⟨c, h⟩ := guardP_ok h
      exact ⟨i, j, rfl, rfl, c, fin _ (ok_inj h)⟩
    · obtain ⟨c, h⟩ := guardP_ok h
      exact ⟨i, j, rfl, rfl, ⟨c.1, c.2.1, c.2.2⟩, fin _ (ok_inj h)⟩
    · obtain ⟨c, h⟩ := guardP_ok h
      exact ⟨i, j, rfl, rfl, ⟨c.1, c.2.1, c.2.2⟩, fin _ (ok_inj h)⟩
    · exact ⟨i, j, rfl, rfl, fin _ (ok_inj h)⟩
    · exact ⟨i, j, rfl, rfl, fin _ (ok_inj h)⟩
    · cases h
  · rename_i i j
    have ex := repS ra
    have ey := repS rb
    subst ex ey
    split at h
    · rename_i eo
      subst eo
      obtain ⟨c, h⟩ := guardN_ok h
      have e := ok_inj h
      cases e
      exact .inr (.inl ⟨i, j, rfl, rfl, c, q _ H (fun _ _ z => z) (.ofD rfl)⟩)
    · cases h
  · rename_i xs ys
    obtain ⟨l, vs, e1, h1, r1⟩ := repL ra
    obtain ⟨m, us, e2, h2, r2⟩ := repL rb
    subst e1 e2
    split at h
    · rename_i eo
      subst eo
      obtain ⟨c, h⟩ := guardN_ok h
      have e := ok_inj h
      cases e
      refine .inr (.inr ⟨l, m, vs, us, rfl, rfl, h1.seq, h2.seq, by rw [r1.length, r2.length]; exact c, fun p np => ?_⟩)
      exact q _ _ (Same.upd np) (.ofL (.of_same (s0.trans (Same.upd np))) np s0 (r1.app r2))
    · cases h
  · cases h
/-- comparisons -/
def rCmp (o : CmpOp) (K : PySem.W.Frag) : R2 := match o with
  | .Eq => fun x y H Q => rEq x y H Q ∨ rEqD K x y H Q
  | .NotEq => fun x y H Q => rNe x y H Q ∨ rNeD K x y H Q
  | .Lt => rI0 fun i j => .bl (decide (i < j))
  | .LtE => rI0 fun i j => .bl (decide (i ≤ j))
  | .Gt => rI0 fun i j => .bl (decide (j < i))
  | .GtE => rI0 fun i j => .bl (decide (j ≤ i))
  | .Is => fun x y H Q => y = .non ∧ Q (.bl (decide (x = .non))) H
  | .IsNot => fun x y H Q => y = .non ∧ Q (.bl (!decide (x = .non))) H
  | _ => fun _ _ _ _ => False
theorem op_cmp (hu : X.A.units + 64 < cLine) (o : CmpOp) : OpR X (compareOp o) (rCmp o X.K) := by
  cases o with
  | Eq => exact OpR.or op_eq (op_eqD hu)
  | NotEq => exact OpR.or op_ne (op_neD hu)
  | Lt => exact op_lt
  | LtE => exact op_le
  | Gt => exact op_gt
  | GtE => exact op_ge
  | Is => exact op_isN
  | IsNot => exact op_notN
  | _ => intro pins s σ H x y v u Q I rx ry h; exact False.elim h
theorem dp_of {H : Hp} {a : W} {v : V} {x : PyData} (r : RepW P X.K ca H a v) (h : wPy a = some x) : Dp X.K H v x := by
  unfold wPy at h
  split at h
  · cases h; exact RepD.dp r
  · cases h
    obtain ⟨a, vs, e, q, r2⟩ := repL r
    subst e
    exact .lst q.seq r2.dp
  · cases h
theorem eqW_ok {H : Hp} {a b : W} {u v : V} {k : Bool} (ra : RepW P X.K ca H a u) (rb : RepW P X.K ca H b v) (h : eqW a b = some (.ok k)) : ∃ d e, Dp X.K H u d ∧ Dp X.K H v e ∧ SeqAt.shaped d = true ∧ SeqAt.shaped e = true ∧ PyData.eqv d e = k := by
  unfold eqW at h
  split at h
  · rename_i x y ex ey
    obtain ⟨⟨c1, c2⟩, h⟩ := guardP_ok h
    exact ⟨x, y, dp_of ra ex, dp_of rb ey, c1, c2, ok_inj h⟩
  · cases h
theorem isNon_rep {H : Hp} {a : W} {v : V} (r : RepW P X.K ca H a v) : decide (v = .non) = isNonW a := by
  unfold isNonW
  split
  · have e : v = V.non := r
    subst e; rfl
  · rename_i hn
    refine decide_eq_false fun e => ?_
    subst e
    cases a with
    | obj c fs => obtain ⟨_, _, _, e, _⟩ := r; cases e
    | c x => cases x with
      | lst xs => obtain ⟨_, _, e, _⟩ := r; cases e
      | dK xs => obtain ⟨_, _, e, _⟩ := r; cases e
      | dT xs => obtain ⟨_, _, e, _⟩ := r; cases e
      | d x => cases x with
        | non => exact hn rfl
        | bl b => cases (show V.non = V.bl b from r)
        | int b => cases (show V.non = V.int b from r)
        | str b => cases (show V.non = V.str b from r)
        | tup xs =>
          obtain ⟨a, vs, e, _⟩ : ∃ a vs, V.non = .ref a ∧ SqT X.K H a vs ∧ RepDs X.K H xs vs := r
          cases e
theorem cmp_ok {o : CmpOp} {H : Hp} {a b : W} {u v : V} {k : Bool} {Q : VK} (ra : RepW (fun _ => True) X.K ca H a u) (rb : RepW (fun _ => True) X.K ca H b v) (h : cmp o a b = some (.ok k)) (q : Q (.bl k) H) : rCmp o X.K u v H Q := by
  unfold cmp at h
  split at h
  · rename_i i j
    have ex := repI ra
    have ey := repI rb
    subst ex ey
    unfold cmpI at h
    cases o with
    | Lt => simp only [Option.map_some, Option.some.injEq, RE.ok.injEq] at h; subst h; exact ⟨i, j, rfl, rfl, q⟩
    | LtE => simp only [Option.map_some, Option.some.injEq, RE.ok.injEq] at h; subst h; exact ⟨i, j, rfl, rfl, q⟩
    | Gt => simp only [Option.map_some, Option.some.injEq, RE.ok.injEq] at h; subst h; exact ⟨i, j, rfl, rfl, q⟩
    | GtE => simp only [Option.map_some, Option.some.injEq, RE.ok.injEq] at h; subst h; exact ⟨i, j, rfl, rfl, q⟩
    | Eq => 
      simp only [Option.map_some, Option.some.injEq, RE.ok.injEq] at h; subst h
      refine .inl ⟨rfl, ?_⟩
      have e : decide (V.int i = V.int j) = decide (i = j) := by by_cases z : i = j <;> simp [z]
      rw [e]; exact q
    | NotEq => 
      simp only [Option.map_some, Option.some.injEq, RE.ok.injEq] at h; subst h
      refine .inl ⟨rfl, ?_⟩
      have e : decide (V.int i = V.int j) = decide (i = j) := by by_cases z : i = j <;> simp [z]
      rw [e]; exact q
    | _ => simp at h
  · rename_i i j
    have ex := repS ra
    have ey := repS rb
    subst ex ey
    unfold cmpS at h
    cases o with
    | Eq => 
      simp only [Option.map_some, Option.some.injEq, RE.ok.injEq] at h; subst h
      refine .inl ⟨rfl, ?_⟩
      have e : decide (V.str i = V.str j) = decide (i = j) := by by_cases z : i = j <;> simp [z]
      rw [e]; exact q
    | NotEq => 
      simp only [Option.map_some, Option.some.injEq, RE.ok.injEq] at h; subst h
      refine .inl ⟨rfl, ?_⟩
      have e : decide (V.str i = V.str j) = decide (i = j) := by by_cases z : i = j <;> simp [z]
      rw [e]; exact q
    | _ => simp at h
  · have e : v = V.non := rb
    subst e
    refine ⟨rfl, ?_⟩
    rw [isNon_rep ra, ok_inj h]; exact q
  · have e : v = V.non := rb
    subst e
    refine ⟨rfl, ?_⟩
    rw [isNon_rep ra, ok_inj h]; exact q
  · obtain ⟨d, e, h1, h2, h3, h4, h5⟩ := eqW_ok ra rb h
    exact .inr ⟨d, e, h1, h2, h3, h4, by rw [h5]; exact q⟩
  · obtain ⟨c, h0, h⟩ := bind_ok h
    obtain ⟨d, e, h1, h2, h3, h4, h5⟩ := eqW_ok ra rb h0
    refine .inr ⟨d, e, h1, h2, h3, h4, ?_⟩
    rw [h5, ok_inj h]; exact q
  · cases h
/-! ### subscripts -/
theorem atI_get' {α β : Type} {R : β → Prop} {xs : List α} {ys : List β} {i : Int} {x : α} (hl : ys.length = xs.length) (h : atI xs i = some x) (g : ∀ j : Nat, xs[j]? = some x → ∃ y, ys[j]? = some y ∧ R y) : ∃ y, atI ys i = some y ∧ R y := by
  unfold atI at h ⊢
  rw [hl]
  cases e : ixN xs.length i with
  | none => rw [e] at h; simp at h
  | some j =>
    rw [e] at h
    exact g j (by simpa using h)
theorem ix_ok {a b : W} {w : W} {k : Kd} {H0 H : Hp} {x y : V} {ρ : L2.St} {Q : VK} (ra : RepW (fun _ => True) X.K ca H a x) (rb : RepW (fun _ => True) X.K ca H b y) (h : ix a b = some (.ok (w, k)))
    (q : ∀ v, RepV P X.K ca ρ H0 H w k v → Q v H) : rIx X.K x y H Q := by
  unfold ix at h
  split at h
  · rename_i xs i
    obtain ⟨l, vs, e1, h1, r1⟩ := repL ra
    have ey := repI rb
    subst e1 ey
    split at h
    · rename_i x e
      have e' := ok_inj h
      cases e'
      obtain ⟨y, q1, q2⟩ := atI_get' (R := fun y => RepD X.K H x y) r1.length e fun j hj => r1.get hj
      exact .inl ⟨l, vs, i, y, rfl, rfl, h1.seq, q1, q y (.ofD q2)⟩
    · cases h
  · rename_i xs i
    obtain ⟨l, vs, e1, h1, r1⟩ : ∃ a vs, x = .ref a ∧ SqT X.K H a vs ∧ RepDs X.K H xs vs := ra
    have ey := repI rb
    subst e1 ey
    split at h
    · rename_i x e
      have e' := ok_inj h
      cases e'
      obtain ⟨y, q1, q2⟩ := atI_get' (R := fun y => RepD X.K H x y) r1.length e fun j hj => r1.get hj
      exact .inr (.inl ⟨l, vs, i, y, rfl, rfl, h1, q1, q y (.ofD q2)⟩)
    · cases h
  · rename_i z i
    have ex := repS ra
    have ey := repI rb
    subst ex ey
    obtain ⟨c, h⟩ := guardN_ok h
    split at h
    · rename_i x e
      have e' := ok_inj h
      cases e'
      exact .inr (.inr ⟨z, i, x, rfl, rfl, c, e, q _ (.ofD rfl)⟩)
    · cases h
  · cases h
def rSlE (K : PySem.W.Frag) : V → Option Int → Option Int → Hp → VK → Prop := fun x lo hi H Q => rSlL K x lo hi H Q ∨ rSlS x lo hi H Q ∨ L2.rSlA K x lo hi H Q
theorem sl_any : SlR X (rSlE X.K) := SlR.or sl_list (SlR.or sl_str sl_tupA)
theorem RepDs.cut {K : PySem.W.Frag} {H : Hp} {xs : List D} {vs : List V} (r : RepDs K H xs vs) (lo hi : Option Int) : RepDs K H (cutD xs lo hi) (cutV vs lo hi) := by
  unfold cutD cutV
  rw [r.length]
  exact (r.drop _).take _
theorem sl_ok {a : W} {lo hi : Option Int} {w : W} {k : Kd} {H0 H : Hp} {x : V} {ρ : L2.St} {Q : VK} (s0 : Same H0 H) (ra : RepW (fun _ => True) X.K ca H a x) (h : sl a lo hi = some (.ok (w, k)))
    (q : ∀ v H', Same H H' → RepV P X.K ca ρ H0 H' w k v → Q v H') : rSlE X.K x lo hi H Q := by
  unfold sl at h
  split at h
  · rename_i xs
    obtain ⟨l, vs, e1, h1, r1⟩ := repL ra
    subst e1
    have e := ok_inj h
    cases e
    exact .inl ⟨l, vs, rfl, h1.seq, fun p np => q _ _ (Same.upd np) (.ofL (.of_same (s0.trans (Same.upd np))) np s0 (r1.cut _ _))⟩
  · rename_i z
    have ex := repS ra
    subst ex
    obtain ⟨c, h⟩ := guardN_ok h
    have e := ok_inj h
    cases e
    exact .inr (.inl ⟨z, rfl, c, q _ _ (fun _ _ z => z) (.ofD rfl)⟩)
  · rename_i xs
    obtain ⟨l, vs, e1, h1, r1⟩ : ∃ l vs, x = .ref l ∧ SqT X.K H l vs ∧ RepDs X.K H xs vs := ra
    subst e1
    have e := ok_inj h
    cases e
    refine .inr (.inr ⟨l, vs, rfl, h1, fun hw => ?_, fun _ p np => q _ _ (Same.upd np) (.ofD ⟨p, _, rfl, .inl (.inl upd_same), (r1.cut _ _).mono (.of_same (Same.upd np))⟩)⟩)
    have hc : cutV vs lo hi = vs := by
      unfold cutV
      rw [hw.1, hw.2]
      simp
    have r2 := r1.cut lo hi
    rw [hc] at r2
    exact q _ _ (fun _ _ z => z) (.ofD ⟨l, vs, rfl, h1, r2⟩)
  · cases h
end
end Ev
/-! Ev4: built-ins, what is walked, comprehensions, calls. -/
namespace Ev
open PySem PySem.Spec
open PyProof.Rows hiding St
open L2

section
variable {X : Cx} {P : Addr → Prop} {ca : Nat → Addr}
/-! ### built-in functions -/
theorem len_S : CallR X (.builtin "len") (fun xs H Q => ((∃ p ys, xs = [.ref p] ∧ (SqL X.K H p ys ∨ SqT X.K H p ys) ∧ Q (.int ys.length) H) ∨ ∃ z, xs = [.str z] ∧ z.length ≤ sizeLine ∧ Q (.int z.length) H)) := CallR.or call_len_seq call_len_str
def rBlt (f : B) (K : PySem.W.Frag) : List V → Hp → VK → Prop := match f with
  | .len => fun xs H Q => ((∃ p ys, xs = [.ref p] ∧ (SqL K H p ys ∨ SqT K H p ys) ∧ Q (.int ys.length) H) ∨ ∃ z, xs = [.str z] ∧ z.length ≤ sizeLine ∧ Q (.int z.length) H)
  | .list => fun xs H Q => ∃ p ys, xs = [.ref p] ∧ (SqL K H p ys ∨ SqT K H p ys) ∧ ∀ l, H l = none → Q (.ref l) (upd H l (.lst ys))
  | .sum => rSum K
  | .int => fun xs H Q => (∃ i, xs = [.int i] ∧ Q (.int i) H) ∨ ∃ k, xs = [.bl k] ∧ Q (.int (if k then 1 else 0)) H
  | .min => fun xs H Q => ∃ i j, xs = [.int i, .int j] ∧ Q (.int (if j < i then j else i)) H
  | .max => fun xs H Q => ∃ i j, xs = [.int i, .int j] ∧ Q (.int (if j > i then j else i)) H
theorem gl_of {sc : Scope} {x : Str} (hs : X.env.scope = sc) (h : glB sc x = true) : Gl X x := by
  unfold glB at h
  unfold Gl Env.kindOf
  rw [hs]
  split at h <;> first | assumption | cases h
theorem vis_of {sc : Scope} {x : Str} (hs : X.env.scope = sc) (h : visB sc x = true) : Vis X.env.scope x := by
  unfold visB at h
  rw [hs]
  unfold Vis
  split at h <;> first | exact .inl (by assumption) | exact .inr (.inl (by assumption)) | exact .inr (.inr (by assumption)) | cases h
theorem loc_of {sc : Scope} {x : Str} (hs : X.env.scope = sc) (h : locB sc x = true) : L2.Loc X.env.scope x := by
  unfold locB at h
  rw [hs]
  unfold L2.Loc
  split at h <;> first | exact .inl (by assumption) | exact .inr (by assumption) | cases h
theorem bln_of {bl : List Str} {x : Str} (hb : ∀ y ∈ bl, X.mg y = none) (h : bl.contains x = true) : X.mg x = none := hb x (by simpa using h)
theorem pe_blt {bl N sc} {f : B} {x : Str} {p pos : Pos} {e : E} {es : Es} {y : Expr} {l : List Expr} (C : Cok bl sc X) (hx : f.name = x) (hg : glB sc x = true) (hb : bl.contains x = true) (h : chks bl N sc (.cons e es) (y :: l) = true) :
    PE X (.Call (.Name x p) (y :: l) [] pos) (tCB (rBlt f X.K) (wpA X (y :: l))) := by
  have h' : chk bl N sc e y = true ∧ chks bl N sc es l = true := by simpa [chks] using h
  have g := gl_of C.scope hg
  have m := bln_of C.bln hb
  subst hx
  cases f with
  | len => exact pe_callB len_S g m PySem.boot_len pa_wp (by decide +kernel) (by decide +kernel) (star_of h'.1 _ _) (noback h'.2 _ _)
  | list => exact pe_callTy call_list_of g m (by decide +kernel) pa_wp (by decide +kernel) (by decide +kernel) (star_of h'.1 _ _) (noback h'.2 _ _)
  | sum => exact pe_callB (cr_sum C.calm) g m (by decide +kernel) pa_wp (by decide +kernel) (by decide +kernel) (star_of h'.1 _ _) (noback h'.2 _ _)
  | int => exact pe_callTy call_int1 g m (by decide +kernel) pa_wp (by decide +kernel) (by decide +kernel) (star_of h'.1 _ _) (noback h'.2 _ _)
  | min => exact pe_callB (call_min2 C.calm) g m (by decide +kernel) pa_wp (by decide +kernel) (by decide +kernel) (star_of h'.1 _ _) (noback h'.2 _ _)
  | max => exact pe_callB (call_max2 C.calm) g m (by decide +kernel) pa_wp (by decide +kernel) (by decide +kernel) (star_of h'.1 _ _) (noback h'.2 _ _)
theorem repWs1 {H : Hp} {w : W} {vs : List V} (r : RepWs X.K ca H [w] vs) : ∃ v, vs = [v] ∧ RepW (fun _ => True) X.K ca H w v := by
  obtain ⟨v, q, e, h, h2⟩ := r
  have : q = [] := h2
  subst this
  exact ⟨v, e, h⟩
theorem repWs2 {H : Hp} {w w' : W} {vs : List V} (r : RepWs X.K ca H [w, w'] vs) : ∃ v v', vs = [v, v'] ∧ RepW (fun _ => True) X.K ca H w v ∧ RepW (fun _ => True) X.K ca H w' v' := by
  obtain ⟨v, q, e, h, h2⟩ := r
  obtain ⟨v', e', h'⟩ := repWs1 (X := X) h2
  subst e'
  exact ⟨v, v', e, h, h'⟩
theorem intsD_rep {K : PySem.W.Frag} {H : Hp} : ∀ {xs : List D} {ns : List Int} {vs : List V}, intsD xs = some ns → RepDs K H xs vs → vs = ns.map V.int
  | [], ns, vs, h, r => by
    unfold RepDs at r
    subst r
    have : ns = [] := by simpa [intsD] using h.symm
    subst this; rfl
  | x :: xs, ns, vs, h, r => by
    unfold RepDs at r
    obtain ⟨v, q, e, h1, h2⟩ := r
    subst e
    cases x with
    | int i =>
      have e1 : v = V.int i := h1
      subst e1
      cases e2 : intsD xs with
      | none => simp [intsD, e2] at h
      | some ms =>
        have : ns = i :: ms := by simpa [intsD, e2] using h.symm
        subst this
        rw [intsD_rep e2 h2]
        rfl
    | _ => simp [intsD] at h
theorem strsD_rep {K : PySem.W.Frag} {H : Hp} : ∀ {xs : List D} {ns : List Str} {vs : List V}, strsD xs = some ns → RepDs K H xs vs → vs = ns.map V.str
  | [], ns, vs, h, r => by
    unfold RepDs at r
    subst r
    have : ns = [] := by simpa [strsD] using h.symm
    subst this; rfl
  | x :: xs, ns, vs, h, r => by
    unfold RepDs at r
    obtain ⟨v, q, e, h1, h2⟩ := r
    subst e
    cases x with
    | str i =>
      have e1 : v = V.str i := h1
      subst e1
      cases e2 : strsD xs with
      | none => simp [strsD, e2] at h
      | some ms =>
        have : ns = i :: ms := by simpa [strsD, e2] using h.symm
        subst this
        rw [strsD_rep e2 h2]
        rfl
    | _ => simp [strsD] at h
theorem blt_ok {f : B} {ws : List W} {vs : List V} {w : W} {k : Kd} {H0 H : Hp} {ρ : L2.St} {Q : VK} (s0 : Same H0 H) (r : RepWs X.K ca H ws vs) (h : blt f ws = some (.ok (w, k)))
    (q : ∀ v H', Same H H' → RepV P X.K ca ρ H0 H' w k v → Q v H') : rBlt f X.K vs H Q := by
  have fin : ∀ n : Int, vI n = some (.ok (w, k)) → Q (.int n) H := fun n e => by
    have e' := ok_inj e
    cases e'
    exact q _ H (fun _ _ z => z) (.ofD rfl)
  unfold blt at h
  split at h
  · obtain ⟨v, e, r1⟩ := repWs1 (X := X) r
    obtain ⟨a, us, e1, h1, r2⟩ := repL r1
    subst e e1
    exact .inl ⟨a, us, rfl, .inl h1.seq, fin _ (by rw [r2.length]; exact h)⟩
  · obtain ⟨v, e, r1⟩ := repWs1 (X := X) r
    obtain ⟨a, us, e1, h1, r2⟩ : ∃ a vs, v = .ref a ∧ SqT X.K H a vs ∧ RepDs X.K H _ vs := r1
    subst e e1
    exact .inl ⟨a, us, rfl, .inr h1, fin _ (by rw [r2.length]; exact h)⟩
  · obtain ⟨v, e, r1⟩ := repWs1 (X := X) r
    have e1 := repS r1
    subst e e1
    obtain ⟨c, h⟩ := guardN_ok h
    exact .inr ⟨_, rfl, c, fin _ h⟩
  · obtain ⟨v, e, r1⟩ := repWs1 (X := X) r
    obtain ⟨a, us, e1, h1, r2⟩ := repL r1
    subst e e1
    have e' := ok_inj h
    cases e'
    exact ⟨a, us, rfl, .inl h1.seq, fun p np => q _ _ (Same.upd np) (.ofL (.of_same (s0.trans (Same.upd np))) np s0 r2)⟩
  · obtain ⟨v, e, r1⟩ := repWs1 (X := X) r
    obtain ⟨a, us, e1, h1, r2⟩ : ∃ a vs, v = .ref a ∧ SqT X.K H a vs ∧ RepDs X.K H _ vs := r1
    subst e e1
    have e' := ok_inj h
    cases e'
    exact ⟨a, us, rfl, .inr h1, fun p np => q _ _ (Same.upd np) (.ofL (.of_same (s0.trans (Same.upd np))) np s0 r2)⟩
  · obtain ⟨v, e, r1⟩ := repWs1 (X := X) r
    obtain ⟨a, us, e1, h1, r2⟩ := repL r1
    subst e e1
    split at h
    · rename_i ns en
      have e2 := intsD_rep en r2
      subst e2
      exact ⟨a, ns, rfl, h1.seq, fin _ h⟩
    · cases h
  · obtain ⟨v, e, r1⟩ := repWs1 (X := X) r
    have e1 := repI r1
    subst e e1
    exact .inl ⟨_, rfl, fin _ h⟩
  · obtain ⟨v, e, r1⟩ := repWs1 (X := X) r
    have e1 : v = V.bl _ := r1
    subst e e1
    exact .inr ⟨_, rfl, fin _ h⟩
  · obtain ⟨v, v', e, r1, r2⟩ := repWs2 (X := X) r
    have e1 := repI r1
    have e2 := repI r2
    subst e e1 e2
    exact ⟨_, _, rfl, fin _ h⟩
  · obtain ⟨v, v', e, r1, r2⟩ := repWs2 (X := X) r
    have e1 := repI r1
    have e2 := repI r2
    subst e e1 e2
    exact ⟨_, _, rfl, fin _ h⟩
  · cases h
/-! ### isinstance -/
theorem kitT (a : String) (t : Ty) (b : Bool) (h : (match t with | .int => kitB a "int" | .bool => kitB a "bool" | .str => kitB a "str" | .list => kitB a "list" | .tuple => kitB a "tuple" | .dict => kitB a "dict") = some b) (K : PySem.W.Frag) :
    ∃ u, RelV (.ty (match t with | .int => "int" | .bool => "bool" | .str => "str" | .list => "list" | .tuple => "tuple" | .dict => "dict")) u ∧ ClsV (.ty (match t with | .int => "int" | .bool => "bool" | .str => "str" | .list => "list" | .tuple => "tuple" | .dict => "dict")) u ∧ PySem.W.kitOne K (.type a) u = some b := by
  cases t <;> exact ⟨_, rfl, .ty _, kit_ty h⟩
def Ty.s : Ty → String
  | .int => "int" | .bool => "bool" | .str => "str" | .list => "list" | .tuple => "tuple" | .dict => "dict"
theorem ty_name (t : Ty) : t.name = (t.s : Str) := by cases t <;> rfl
theorem boot_ty (t : Ty) : bootBuiltins t.name = some (.type t.s) := by cases t <;> decide +kernel
theorem ty_ne (t : Ty) : t.name ≠ "__name__" := by cases t <;> decide +kernel
theorem ty_nd (t : Ty) : (t.name == ("__debug__" : Str)) = false := by cases t <;> decide +kernel
theorem isi_ok {t : Ty} {w : W} {v : V} {H : Hp} {b : Bool} (r : RepW (fun _ => True) X.K ca H w v) (h : isiW t w = some b) : ∃ a, TyX X.K H v (.type a) ∧ kitB a t.s = some b := by
  have k1 : kitB "NoneType" t.s = some false := by cases t <;> decide +kernel
  have k2 : kitB "bool" t.s = some (t == .int || t == .bool) := by cases t <;> decide +kernel
  have k3 : kitB "int" t.s = some (t == .int) := by cases t <;> decide +kernel
  have k4 : kitB "str" t.s = some (t == .str) := by cases t <;> decide +kernel
  have k5 : kitB "tuple" t.s = some (t == .tuple) := by cases t <;> decide +kernel
  have k6 : kitB "list" t.s = some (t == .list) := by cases t <;> decide +kernel
  unfold isiW at h
  split at h
  · cases h
    have e : v = V.non := r
    subst e
    exact ⟨_, .base .non, k1⟩
  · cases h
    have e : v = V.bl _ := r
    subst e
    exact ⟨_, .base (.bl _), k2⟩
  · cases h
    have e : v = V.int _ := r
    subst e
    exact ⟨_, .base (.int _), k3⟩
  · cases h
    have e : v = V.str _ := r
    subst e
    exact ⟨_, .base (.str _), k4⟩
  · cases h
    obtain ⟨a, us, e1, h1, r2⟩ : ∃ a vs, v = .ref a ∧ SqT X.K H a vs ∧ RepDs X.K H _ vs := r
    subst e1
    refine ⟨_, ?_, k5⟩
    rcases h1 with (h1 | ⟨o, h1⟩) | ⟨o, its, n, h1, h2, _⟩
    · exact .base (.tup h1)
    · exact .fTuple h1
    · exact .kTuple h1 h2
  · cases h
    obtain ⟨a, us, e1, h1, r2⟩ := repL r
    subst e1
    refine ⟨_, ?_, k6⟩
    rcases h1.seq with (h1 | ⟨o, h1⟩) | ⟨o, its, n, h1, h2, _⟩
    · exact .base (.lst h1)
    · exact .base (.frz h1)
    · exact .kList h1 h2
  · cases h
/-! ### tuples and lists written out -/
theorem mapD_rep {H : Hp} : ∀ {ws : List W} {xs : List D} {vs : List V}, (ws.mapM wD) = some xs → RepWs X.K ca H ws vs → RepDs X.K H xs vs
  | [], xs, vs, h, r => by
    have : xs = [] := by simpa using h.symm
    subst this
    exact r
  | w :: ws, xs, vs, h, r => by
    obtain ⟨v, q, e, h1, h2⟩ := r
    subst e
    rw [List.mapM_cons] at h
    cases w with
    | obj => simp [wD] at h
    | c x =>
      cases x with
      | d x =>
        cases e2 : (ws.mapM wD) with
        | none => simp [wD, e2] at h
        | some ys =>
          have : xs = x :: ys := by simpa [wD, e2] using h.symm
          subst this
          exact .cons h1 (mapD_rep e2 h2)
      | _ => simp [wD] at h
end
/-! ### what is walked -/
/-- the iterator J walks xs wherever its sources stand -/
def ItOk (K : PySem.W.Frag) (ca : Nat → Addr) (J : L2.It) (xs : List D) (ws : List W) (vs : List V) : Prop :=
  ∀ H1, RepWs K ca H1 ws vs → (∀ i x, xs[i]? = some x → J.go i H1 ∧ ∀ v H2, J.yld i H1 v H2 → Same H1 H2 ∧ RepD K H2 x v) ∧ J.stop xs.length H1
section
variable {K : PySem.W.Frag} {ca : Nat → Addr}
theorem itl_ok {H : Hp} {xs : List D} {a : Addr} : ItOk K ca (Itl K a) xs [.c (.lst xs)] [.ref a] := fun H1 r => by
  obtain ⟨v, q, e, ⟨b, vs, e1, h1, r1⟩, h2⟩ := r
  cases e
  cases e1
  refine ⟨fun i x hx => ?_, vs, h1.seq, by rw [r1.length]; exact Nat.le_refl _⟩
  obtain ⟨y, hy, ry⟩ := r1.get hx
  refine ⟨⟨vs, y, h1.seq, hy⟩, fun v H2 z => ?_⟩
  obtain ⟨rfl, z⟩ := z
  have : vs[i]? = some v := z vs h1.seq
  rw [hy] at this
  cases this
  exact ⟨fun _ _ z => z, ry⟩
theorem itt_ok {xs : List D} {a : Addr} : ItOk K ca (Itt K a) xs [.c (.d (.tup xs))] [.ref a] := fun H1 r => by
  obtain ⟨v, q, e, h0, h2⟩ := r
  obtain ⟨b, vs, e1, h1, r1⟩ : ∃ a vs, v = .ref a ∧ SqT K H1 a vs ∧ RepDs K H1 xs vs := h0
  cases e
  cases e1
  refine ⟨fun i x hx => ?_, vs, h1, by rw [r1.length]; exact Nat.le_refl _⟩
  obtain ⟨y, hy, ry⟩ := r1.get hx
  refine ⟨⟨vs, y, h1, hy⟩, fun v H2 z => ?_⟩
  obtain ⟨rfl, z⟩ := z
  have : vs[i]? = some v := z vs h1
  rw [hy] at this
  cases this
  exact ⟨fun _ _ z => z, ry⟩
theorem its_ok {z : Str} : ItOk K ca (Its z) (z.cps.toList.map fun c => .str ⟨#[c]⟩) [] [] := fun H1 _ => by
  refine ⟨fun i x hx => ?_, ?_⟩
  · rw [List.getElem?_map] at hx
    cases e : z.cps.toList[i]? with
    | none => rw [e] at hx; cases hx
    | some c =>
      rw [e] at hx
      cases hx
      have hi : i < z.cps.size := by
        have := (List.getElem?_eq_some_iff.mp e).1
        simpa using this
      refine ⟨hi, fun v H2 q => ?_⟩
      obtain ⟨rfl, d, hd, rfl⟩ := q
      have : d = c := by
        have e2 : z.cps.toList[i]? = some d := by simpa using hd
        rw [e] at e2
        exact (Option.some.inj e2).symm
      subst this
      exact ⟨fun _ _ z => z, rfl⟩
  · show z.cps.size ≤ _
    simp
theorem itr_ok {lo : Int} {n : Nat} : ItOk K ca (Itr lo n) (rngD lo n) [] [] := fun H1 _ => by
  refine ⟨fun i x hx => ?_, ?_⟩
  · unfold rngD at hx
    rw [List.getElem?_map] at hx
    cases e : (List.range n)[i]? with
    | none => rw [e] at hx; cases hx
    | some c =>
      rw [e] at hx
      cases hx
      obtain ⟨hi, e2⟩ := List.getElem?_eq_some_iff.mp e
      simp at hi e2
      subst e2
      refine ⟨hi, fun v H2 q => ?_⟩
      obtain ⟨rfl, rfl⟩ := q
      exact ⟨fun _ _ z => z, rfl⟩
  · show n ≤ _
    simp [rngD]
theorem enumD_get : ∀ (xs : List D) (n i : Nat) (y : D), (enumD n xs)[i]? = some y → ∃ x, xs[i]? = some x ∧ y = .tup [.int ((n + i : Nat) : Int), x]
  | [], n, i, y, h => by simp [enumD] at h
  | x :: xs, n, 0, y, h => by simp [enumD] at h; exact ⟨x, rfl, by rw [← h]; rfl⟩
  | x :: xs, n, i + 1, y, h => by
    obtain ⟨z, h1, h2⟩ := enumD_get xs (n + 1) i y (by simpa [enumD] using h)
    exact ⟨z, by simpa using h1, by rw [h2, show n + 1 + i = n + (i + 1) by omega]⟩
theorem enumD_length : ∀ (xs : List D) (n : Nat), (enumD n xs).length = xs.length
  | [], _ => rfl
  | _ :: xs, n => by simp [enumD, enumD_length xs]
theorem ite_ok {xs : List D} {a : Addr} : ItOk K ca (Ite K a) (enumD 0 xs) [.c (.lst xs)] [.ref a] := fun H1 r => by
  obtain ⟨v, q, e, ⟨b, vs, e1, h1, r1⟩, h2⟩ := r
  cases e
  cases e1
  refine ⟨fun i y hy => ?_, vs, h1.seq, by rw [r1.length, enumD_length]; exact Nat.le_refl _⟩
  obtain ⟨x, hx, e⟩ := enumD_get xs 0 i y hy
  obtain ⟨u, hu, ru⟩ := r1.get hx
  refine ⟨⟨vs, u, h1.seq, hu⟩, fun v H2 z => ?_⟩
  obtain ⟨T, x', rfl, hT, rfl, z⟩ := z
  have : vs[i]? = some x' := z vs h1.seq
  rw [hu] at this
  cases this
  refine ⟨Same.upd hT, ?_⟩
  subst e
  have e0 : ((0 + i : Nat) : Int) = (i : Int) := by rw [Nat.zero_add]
  rw [e0]
  exact ⟨T, [.int i, u], rfl, .inl (.inl upd_same), .cons rfl (.cons (ru.mono (.of_same (Same.upd hT))) .nil)⟩
end
end Ev
/-! Ev5: the theorem for expressions. -/
namespace Ev
open PySem PySem.Spec
open PyProof.Rows hiding St
open L2

/-- the state of an expression: evaluator's slots σ, the run's slots σc (with hidden ones behind) -/
structure Ctx (bl : List Str) (sc : Scope) (X : Cx) (Γ : Gam) (P : Addr → Prop) (ca : Nat → Addr) (σ : List Sl) (σc : L2.St) (hid : L2.St) (H : Hp) (fp : Nat → List Addr) : Prop where
  ok : Cok bl sc X
  fns : FnsOk X ca Γ
  sr : SRep P X.K ca σ (σc ++ hid) H fp
  ln : σc.length = X.N.length
section
variable {bl : List Str} {sc : Scope} {X : Cx} {Γ : Gam} {P : Addr → Prop} {ca : Nat → Addr} {σ : List Sl} {σc hid : L2.St} {H H' : Hp} {fp : Nat → List Addr}
theorem Ctx.mono (c : Ctx bl sc X Γ P ca σ σc hid H fp) (t : Same H H') : Ctx bl sc X Γ P ca σ σc hid H' fp := ⟨c.ok, c.fns, c.sr.mono t, c.ln⟩
/-- an expression's claim -/
def SndE (bl : List Str) (Γ : Gam) (e : E) : Prop := ∀ (x : Expr) (sc : Scope) (X : Cx) (P : Addr → Prop) (ca : Nat → Addr) (σ : List Sl) (σc hid : L2.St) (H : Hp) (fp : Nat → List Addr), chk bl X.N sc e x = true → Ctx bl sc X Γ P ca σ σc hid H fp →
  ∀ w k, ev Γ e σ = some (.ok (w, k)) → ∀ Q, (∀ v H', Same H H' → RepV P X.K ca (σc ++ hid) H H' w k v → Q v H') → wpE X x σc H Q
def SndEs (bl : List Str) (Γ : Gam) (es : Es) : Prop := ∀ (x : List Expr) (sc : Scope) (X : Cx) (P : Addr → Prop) (ca : Nat → Addr) (σ : List Sl) (σc hid : L2.St) (H : Hp) (fp : Nat → List Addr), chks bl X.N sc es x = true → Ctx bl sc X Γ P ca σ σc hid H fp →
  ∀ ws, evs Γ es σ = some (.ok ws) → ∀ Q, (∀ vs H', Same H H' → RepWs X.K ca H' ws vs → Q vs H') → wpA X x σc H Q
def SndEo (bl : List Str) (Γ : Gam) : Eo → Prop
  | .none => True
  | .some e => SndE bl Γ e
def SndIt (bl : List Str) (Γ : Gam) : It → Prop
  | .e e => SndE bl Γ e
  | .tup e => SndE bl Γ e
  | .str e => SndE bl Γ e
  | .enum e => SndE bl Γ e
  | .rng1 a => SndE bl Γ a
  | .rng2 a b => SndE bl Γ a ∧ SndE bl Γ b
/-- a test's claim, of an expression that is claimed -/
theorem test_of {e : E} (S : SndE bl Γ e) {x : Expr} (hc : chk bl X.N sc e x = true) (C : Ctx bl sc X Γ P ca σ σc hid H fp) {w : W} {k : Kd} {b : Bool} (he : ev Γ e σ = some (.ok (w, k))) (ht : truth w = some (.ok b)) {Q : Bool → Hp → Prop}
    (q : ∀ H', Same H H' → Q b H') (h1 : ∀ y p, x ≠ .UnaryOp .Not y p) (h2 : ∀ o l p, x ≠ .BoolOp o l p) (h3 : ∀ a b c p, x ≠ .IfExp a b c p) (h4 : ∀ a b c p, x ≠ .Compare a b c p) : wpT X x σc H Q :=
  wpt_of (pt_truth pe_wp (isTrue_of _ h1 h2 h3 h4)) (S x sc X P ca σ σc hid H fp hc C w k he _ fun v H' s r => ⟨b, tru_of r.rep ht, q H' s⟩)
theorem getρ {i : Nat} {x : Str} (C : Ctx bl sc X Γ P ca σ σc hid H fp) (h : X.N[i]? = some x) : σc[i]? = (σc ++ hid)[i]? := by
  have : i < σc.length := by rw [C.ln]; exact (List.getElem?_eq_some_iff.mp h).1
  rw [List.getElem?_append_left this]
theorem var_ok (i : Nat) : SndE bl Γ (.var i) := by
  intro x sc X P ca σ σc hid H fp hc C w k he Q q
  cases x with
  | Name x pos =>
    have hc' : (decide (X.N[i]? = some x) && visB sc x && plainName x) = true := hc
    simp only [Bool.and_eq_true, decide_eq_true_eq, plainName, Bool.not_eq_true'] at hc'
    obtain ⟨⟨h1, h2⟩, ⟨h3, h4⟩, _⟩ := hc'
    refine wp_of (pe_var h1 (vis_of C.ok.scope h2) h3 h4) ?_
    have hg := getρ C h1
    unfold ev at he
    split at he
    · rename_i w' e
      obtain ⟨v, ev, r, _⟩ := C.sr.sl i _ e
      cases ok_inj he
      exact ⟨v, hg.trans ev, q v H (fun _ _ z => z) ⟨r.mono .refl fun _ _ => trivial, r⟩⟩
    · rename_i w' e
      obtain ⟨v, ev, r⟩ := C.sr.sl i _ e
      cases ok_inj he
      exact ⟨v, hg.trans ev, q v H (fun _ _ z => z) ⟨r.rep fun _ _ => trivial, ev⟩⟩
    · rename_i w' e
      obtain ⟨v, ev, r⟩ := C.sr.sl i _ e
      cases ok_inj he
      exact ⟨v, hg.trans ev, q v H (fun _ _ z => z) ⟨r.rep fun _ _ => trivial, ev⟩⟩
    · cases he
  | _ => simp [chk] at hc
theorem const_ok {d : D} {v : V} {x : Expr} {Q : VK} (pe : PE X x (tC v)) (hd : ∀ H, RepD X.K H d v) {w : W} {k : Kd} (h : vD d = some (.ok (w, k))) (q : ∀ v H', Same H H' → RepV P X.K ca (σc ++ hid) H H' w k v → Q v H') : wpE X x σc H Q := by
  cases ok_inj h
  exact wp_of pe (q v H (fun _ _ z => z) (.ofD (hd H)))
theorem bin_snd {o : Operator} {a b : E} (Sa : SndE bl Γ a) (Sb : SndE bl Γ b) : SndE bl Γ (.bin o a b) := by
  intro x sc X P ca σ σc hid H fp hc C w k he Q q
  cases x with
  | BinOp x p y pos =>
    have hc' : (decide (o = p) && chk bl X.N sc a x && chk bl X.N sc b y) = true := hc
    simp only [Bool.and_eq_true, decide_eq_true_eq] at hc'
    obtain ⟨⟨h1, h2⟩, h3⟩ := hc'
    subst h1
    unfold ev at he
    obtain ⟨⟨wa, ka⟩, ea, he⟩ := bind_ok he
    obtain ⟨⟨wb, kb⟩, eb, he⟩ := bind_ok he
    refine wp_of (pe_op (op_bin o) pe_wp pe_wp) ?_
    refine Sa x sc X P ca σ σc hid H fp h2 C wa ka ea _ fun va H1 s1 r1 => ?_
    refine Sb y sc X P ca σ σc hid H1 fp h3 (C.mono s1) wb kb eb _ fun vb H2 s2 r2 => ?_
    exact bin_ok (s1.trans s2) (r1.later s2).rep r2.rep he fun v H' s r => q v H' ((s1.trans s2).trans s) r
  | _ => simp [chk] at hc
theorem neg_snd {a : E} (Sa : SndE bl Γ a) : SndE bl Γ (.neg a) := by
  intro x sc X P ca σ σc hid H fp hc C w k he Q q
  cases x with
  | UnaryOp o x pos =>
    cases o with
    | USub =>
      have h2 : chk bl X.N sc a x = true := hc
      unfold ev at he
      obtain ⟨⟨wa, ka⟩, ea, he⟩ := bind_ok he
      refine wp_of (pe_un un_neg pe_wp) ?_
      refine Sa x sc X P ca σ σc hid H fp h2 C wa ka ea _ fun va H1 s1 r1 => ?_
      simp only at he
      split at he
      · have e1 := repI r1.rep
        subst e1
        cases ok_inj he
        exact ⟨_, rfl, q _ H1 s1 (.ofD rfl)⟩
      · cases he
    | _ => simp [chk] at hc
  | _ => simp [chk] at hc
theorem cmpt_snd {o : CmpOp} {a b : E} (Sa : SndE bl Γ a) (Sb : SndE bl Γ b) {x y : Expr} (h2 : chk bl X.N sc a x = true) (h3 : chk bl X.N sc b y = true) (C : Ctx bl sc X Γ P ca σ σc hid H fp) {wa wb : W} {ka kb : Kd} {c : Bool}
    (ea : ev Γ a σ = some (.ok (wa, ka))) (eb : ev Γ b σ = some (.ok (wb, kb))) (ec : cmp o wa wb = some (.ok c)) {Q : VK} (q : ∀ H', Same H H' → Q (.bl c) H') : tOp (rCmp o X.K) (wpE X x) (wpE X y) σc H Q := by
  refine Sa x sc X P ca σ σc hid H fp h2 C wa ka ea _ fun va H1 s1 r1 => ?_
  refine Sb y sc X P ca σ σc hid H1 fp h3 (C.mono s1) wb kb eb _ fun vb H2 s2 r2 => ?_
  exact cmp_ok (r1.later s2).rep r2.rep ec (q H2 (s1.trans s2))
theorem mark_of {N : List Str} {e : E} {y : Expr} (h : chk bl N sc e y = true) (o : CmpOp) : behindInMarks o y = false := by
  cases y <;> first | rfl | (cases e <;> simp [chk] at h)
theorem cmp_snd {o : CmpOp} {a b : E} (Sa : SndE bl Γ a) (Sb : SndE bl Γ b) : SndE bl Γ (.cmp o a b) := by
  intro x sc X P ca σ σc hid H fp hc C w k he Q q
  cases x with
  | Compare x ops l pos =>
    match ops, l with
    | [p], [y] =>
      have hc' : (decide (o = p) && chk bl X.N sc a x && chk bl X.N sc b y) = true := hc
      simp only [Bool.and_eq_true, decide_eq_true_eq] at hc'
      obtain ⟨⟨h1, h2⟩, h3⟩ := hc'
      subst h1
      unfold ev at he
      obtain ⟨⟨wa, ka⟩, ea, he⟩ := bind_ok he
      obtain ⟨⟨wb, kb⟩, eb, he⟩ := bind_ok he
      obtain ⟨c, ec, he⟩ := bind_ok he
      refine wp_of (pe_cmpR (op_cmp C.ok.un o) pe_wp pe_wp (mark_of h3 o)) ?_
      refine cmpt_snd Sa Sb h2 h3 C ea eb ec fun H' s => ?_
      cases ok_inj he
      exact q _ H' s (.ofD rfl)
    | [], _ => simp [chk] at hc
    | _ :: _ :: _, _ => cases l <;> simp [chk] at hc
    | [_], [] => simp [chk] at hc
    | [_], _ :: _ :: _ => simp [chk] at hc
  | _ => simp [chk] at hc
theorem cmp2_snd {o o' : CmpOp} {a b c : E} (Sa : SndE bl Γ a) (Sb : SndE bl Γ b) (Sc : SndE bl Γ c) : SndE bl Γ (.cmp2 o o' a b c) := by
  intro x sc X P ca σ σc hid H fp hc C w k he Q q
  cases x with
  | Compare x ops l pos =>
    match ops, l with
    | [p, p'], [y, z] =>
      have hc' : (decide (o = p) && decide (o' = p') && chk bl X.N sc a x && chk bl X.N sc b y && chk bl X.N sc c z) = true := hc
      simp only [Bool.and_eq_true, decide_eq_true_eq] at hc'
      obtain ⟨⟨⟨⟨h1, h1'⟩, h2⟩, h3⟩, h4⟩ := hc'
      subst h1 h1'
      unfold ev at he
      obtain ⟨⟨wa, ka⟩, ea, he⟩ := bind_ok he
      obtain ⟨⟨wb, kb⟩, eb, he⟩ := bind_ok he
      obtain ⟨c1, ec, he⟩ := bind_ok he
      refine wp_of (pe_chain (op_cmp C.ok.un o) (op_cmp C.ok.un o') pe_wp pe_wp pe_wp (show lastMarks [o'] [z] = false from mark_of h4 o')) ?_
      refine Sa x sc X P ca σ σc hid H fp h2 C wa ka ea _ fun va H1 s1 r1 => ?_
      refine Sb y sc X P ca σ σc hid H1 fp h3 (C.mono s1) wb kb eb _ fun vb H2 s2 r2 => ?_
      refine cmp_ok (r1.later s2).rep r2.rep ec ⟨c1, rfl, ?_⟩
      cases c1 with
      | false =>
        rw [if_neg Bool.false_ne_true]
        simp only [Bool.false_eq_true, if_false] at he
        cases ok_inj he
        exact q _ H2 (s1.trans s2) (.ofD rfl)
      | true =>
        rw [if_pos rfl]
        simp only [if_true] at he
        obtain ⟨⟨wc, kc⟩, ez, he⟩ := bind_ok he
        obtain ⟨c2, ec2, he⟩ := bind_ok he
        refine Sc z sc X P ca σ σc hid H2 fp h4 (C.mono (s1.trans s2)) wc kc ez _ fun vc H3 s3 r3 => ?_
        refine cmp_ok (r2.later s3).rep r3.rep ec2 ?_
        cases ok_inj he
        exact q _ H3 ((s1.trans s2).trans s3) (.ofD rfl)
    | [], _ => simp [chk] at hc
    | [_], [] => simp [chk] at hc
    | [_], [_] => simp [chk] at hc
    | [_], _ :: _ :: _ => simp [chk] at hc
    | [_, _], [] => simp [chk] at hc
    | [_, _], [_] => simp [chk] at hc
    | [_, _], _ :: _ :: _ :: _ => simp [chk] at hc
    | _ :: _ :: _ :: _, _ => cases l <;> simp [chk] at hc
  | _ => simp [chk] at hc
/-- a op1 b op2 c op3 d -/
def tChain3 (r r' r2 : R2) (ta tb tc td : TE) : TE := fun σ H Q => ta σ H fun x H1 => tb σ H1 fun y H2 => r x y H2 fun z H3 => ∃ k, z = .bl k ∧
  (if k = true then tc σ H3 fun w' H4 => r' y w' H4 fun z' H5 => ∃ k', z' = .bl k' ∧ (if k' = true then td σ H5 fun u' H6 => r2 w' u' H6 Q else Q (.bl false) H5) else Q (.bl false) H3)
theorem pe_chain3 {X : Cx} {op op' op2 : CmpOp} {r r' r2 : R2} {a b c d : Expr} {ta tb tc td : TE} {pos : Pos} (ho : OpR X (compareOp op) r) (ho' : OpR X (compareOp op') r') (ho2 : OpR X (compareOp op2) r2) (ha : PE X a ta) (hb : PE X b tb) (hc : PE X c tc) (hd : PE X d td)
    (hm : lastMarks [op, op', op2] [b, c, d] = false) : PE X (.Compare a [op, op', op2] [b, c, d] pos) (tChain3 r r' r2 ta tb tc td) := by
  refine ⟨fun pins s σ H Q I h => ?_⟩
  refine Compare_chain (thn (ha.run pins s σ H _ I h) fun v s1 ⟨x, H1, I1, r1, q1⟩ => chain_link (thn (hb.run pins s1 σ H1 _ I1 q1) fun u s2 ⟨y, H2, I2, r2', q2⟩ =>
    thn (ho pins s2 σ H2 x y v u _ I2 r1 r2' q2) fun dd s3 ⟨z, H3, I3, r3, k, e, q3⟩ => ?_)) hm
  subst e
  cases r3
  refine wpAny_truthy_bool ?_
  cases k with
  | false => exact ite_ff ⟨.bl false, H3, I3, rfl, q3⟩
  | true =>
    refine ite_tt (chain_link (thn (hc.run pins s3 σ H3 _ I3 q3) fun w' s4 ⟨z', H4, I4, r4, q4⟩ => thn (ho' pins s4 σ H4 y z' u w' _ I4 r2' r4 q4) fun d2 s5 ⟨zz, H5, I5, r5, k', e', q5⟩ => ?_))
    subst e'
    cases r5
    refine wpAny_truthy_bool ?_
    cases k' with
    | false => exact ite_ff ⟨.bl false, H5, I5, rfl, q5⟩
    | true => exact ite_tt (chain_last (thn (hd.run pins s5 σ H5 _ I5 q5) fun w2 s6 ⟨z6, H6, I6, r6, q6⟩ => ho2 pins s6 σ H6 z' z6 w' w2 Q I6 r4 r6 q6))
theorem pt_chain3 {X : Cx} {op op' op2 : CmpOp} {r r' r2 : R2} {a b c d : Expr} {ta tb tc td : TE} {pos : Pos} (ho : OpR X (compareOp op) r) (ho' : OpR X (compareOp op') r') (ho2 : OpR X (compareOp op2) r2) (ha : PE X a ta) (hb : PE X b tb) (hc : PE X c tc) (hd : PE X d td)
    (hm : lastMarks [op, op', op2] [b, c, d] = false) : PT X (.Compare a [op, op', op2] [b, c, d] pos) (tTest (tChain3 r r' r2 ta tb tc td)) := by
  refine ⟨fun pins s σ H Q I h => ?_⟩
  refine isTrue_chain (thn (ha.run pins s σ H _ I h) fun v s1 ⟨x, H1, I1, r1, q1⟩ => test_link (thn (hb.run pins s1 σ H1 _ I1 q1) fun u s2 ⟨y, H2, I2, r2', q2⟩ =>
    thn (ho pins s2 σ H2 x y v u _ I2 r1 r2' q2) fun dd s3 ⟨z, H3, I3, r3, k, e, q3⟩ => ?_)) hm
  subst e
  cases r3
  refine wpAny_truthy_bool ?_
  cases k with
  | false =>
    obtain ⟨k', e', q'⟩ := q3
    cases e'
    exact ite_ff ⟨H3, I3, q'⟩
  | true =>
    refine ite_tt (test_link (thn (hc.run pins s3 σ H3 _ I3 q3) fun w' s4 ⟨z', H4, I4, r4, q4⟩ => thn (ho' pins s4 σ H4 y z' u w' _ I4 r2' r4 q4) fun d2 s5 ⟨zz, H5, I5, r5, k', e', q5⟩ => ?_))
    subst e'
    cases r5
    refine wpAny_truthy_bool ?_
    cases k' with
    | false =>
      obtain ⟨k2, e2, q'⟩ := q5
      cases e2
      exact ite_ff ⟨H5, I5, q'⟩
    | true =>
      refine ite_tt (test_last (thn (hd.run pins s5 σ H5 _ I5 q5) fun w2 s6 ⟨z6, H6, I6, r6, q6⟩ => thn (ho2 pins s6 σ H6 z' z6 w' w2 _ I6 r4 r6 q6) fun d' s7 ⟨z7, H7, I7, r7, k2, e2, q7⟩ => ?_))
      subst e2
      cases r7
      exact wpAny_truthy_bool ⟨H7, I7, q7⟩
theorem cmp3_snd {o o' o2 : CmpOp} {a b c d : E} (Sa : SndE bl Γ a) (Sb : SndE bl Γ b) (Sc : SndE bl Γ c) (Sd : SndE bl Γ d) : SndE bl Γ (.cmp3 o o' o2 a b c d) := by
  intro x sc X P ca σ σc hid H fp hc C w k he Q q
  cases x with
  | Compare x ops l pos =>
    match ops, l with
    | [p, p', p2], [y, z, t] =>
      have hc' : (decide (o = p) && decide (o' = p') && decide (o2 = p2) && chk bl X.N sc a x && chk bl X.N sc b y && chk bl X.N sc c z && chk bl X.N sc d t) = true := hc
      simp only [Bool.and_eq_true, decide_eq_true_eq] at hc'
      obtain ⟨⟨⟨⟨⟨⟨h1, h1'⟩, h12⟩, h2⟩, h3⟩, h4⟩, h5⟩ := hc'
      subst h1 h1' h12
      unfold ev at he
      obtain ⟨⟨wa, ka⟩, ea, he⟩ := bind_ok he
      obtain ⟨⟨wb, kb⟩, eb, he⟩ := bind_ok he
      obtain ⟨c1, ec, he⟩ := bind_ok he
      refine wp_of (pe_chain3 (op_cmp C.ok.un o) (op_cmp C.ok.un o') (op_cmp C.ok.un o2) pe_wp pe_wp pe_wp pe_wp (show lastMarks [o2] [t] = false from mark_of h5 o2)) ?_
      refine Sa x sc X P ca σ σc hid H fp h2 C wa ka ea _ fun va H1 s1 r1 => ?_
      refine Sb y sc X P ca σ σc hid H1 fp h3 (C.mono s1) wb kb eb _ fun vb H2 s2 r2 => ?_
      refine cmp_ok (r1.later s2).rep r2.rep ec ⟨c1, rfl, ?_⟩
      cases c1 with
      | false =>
        rw [if_neg Bool.false_ne_true]
        simp only [Bool.false_eq_true, if_false] at he
        cases ok_inj he
        exact q _ H2 (s1.trans s2) (.ofD rfl)
      | true =>
        rw [if_pos rfl]
        simp only [if_true] at he
        obtain ⟨⟨wc, kc⟩, ez, he⟩ := bind_ok he
        obtain ⟨c2, ec2, he⟩ := bind_ok he
        refine Sc z sc X P ca σ σc hid H2 fp h4 (C.mono (s1.trans s2)) wc kc ez _ fun vc H3 s3 r3 => ?_
        refine cmp_ok (r2.later s3).rep r3.rep ec2 ⟨c2, rfl, ?_⟩
        cases c2 with
        | false =>
          rw [if_neg Bool.false_ne_true]
          simp only [Bool.false_eq_true, if_false] at he
          cases ok_inj he
          exact q _ H3 ((s1.trans s2).trans s3) (.ofD rfl)
        | true =>
          rw [if_pos rfl]
          simp only [if_true] at he
          obtain ⟨⟨wd, kd⟩, ez2, he⟩ := bind_ok he
          obtain ⟨c3, ec3, he⟩ := bind_ok he
          refine Sd t sc X P ca σ σc hid H3 fp h5 (C.mono ((s1.trans s2).trans s3)) wd kd ez2 _ fun vd H4 s4 r4 => ?_
          refine cmp_ok (r3.later s4).rep r4.rep ec3 ?_
          cases ok_inj he
          exact q _ H4 (((s1.trans s2).trans s3).trans s4) (.ofD rfl)
    | [], _ => simp [chk] at hc
    | [_], l => cases l <;> simp [chk] at hc
    | [_, _], l => cases l <;> simp [chk] at hc
    | [_, _, _], [] => simp [chk] at hc
    | [_, _, _], [_] => simp [chk] at hc
    | [_, _, _], [_, _] => simp [chk] at hc
    | [_, _, _], _ :: _ :: _ :: _ :: _ => simp [chk] at hc
    | _ :: _ :: _ :: _ :: _, _ => cases l <;> simp [chk] at hc
  | _ => simp [chk] at hc
theorem ix_snd {a b : E} (Sa : SndE bl Γ a) (Sb : SndE bl Γ b) : SndE bl Γ (.ix a b) := by
  intro x sc X P ca σ σc hid H fp hc C w k he Q q
  cases x with
  | Subscript x y pos =>
    have hc' : (chk bl X.N sc a x && chk bl X.N sc b y) = true := by
      cases y <;> exact hc
    simp only [Bool.and_eq_true] at hc'
    obtain ⟨h2, h3⟩ := hc'
    unfold ev at he
    obtain ⟨⟨wa, ka⟩, ea, he⟩ := bind_ok he
    obtain ⟨⟨wb, kb⟩, eb, he⟩ := bind_ok he
    refine wp_of (pe_ix ix_seq pe_wp pe_wp (plainIx_of h3)) ?_
    refine Sa x sc X P ca σ σc hid H fp h2 C wa ka ea _ fun va H1 s1 r1 => ?_
    refine Sb y sc X P ca σ σc hid H1 fp h3 (C.mono s1) wb kb eb _ fun vb H2 s2 r2 => ?_
    exact ix_ok (r1.later s2).rep r2.rep he fun v r => q v H2 (s1.trans s2) r
  | _ => simp [chk] at hc
def wpO (X : Cx) (l : Option Expr) : TO := fun σ H Q => ∀ (pins : List (Addr × Obj)) (s : Shared), Inv X pins σ H s → wpAny (model X.prog X.w) X.A (evalPart l X.env) (fun u s' => ∃ o H', Inv X pins σ H' s' ∧ IsPart u o ∧ Q o H') X.xe s
theorem po_wp {l : Option Expr} : PO X l (wpO X l) := ⟨fun pins s _ _ _ I h => h pins s I⟩
theorem wpo_of {l : Option Expr} {t : TO} {σ : L2.St} {H : Hp} {Q : Option Int → Hp → Prop} (p : PO X l t) (h : t σ H Q) : wpO X l σ H Q := fun pins s I => p.run pins s σ H Q I h
/-- a slice's bound -/
theorem part_snd {lo : Eo} (S : SndEo bl Γ lo) {l : Option Expr} (h : chko bl X.N sc lo l = true) (C : Ctx bl sc X Γ P ca σ σc hid H fp) {i : Option Int} (he : evo Γ lo σ = some (.ok i)) {Q : Option Int → Hp → Prop} (q : ∀ H', Same H H' → Q i H') : wpO X l σc H Q := by
  cases lo with
  | none =>
    cases l with
    | none =>
      unfold evo at he
      cases ok_inj he
      exact wpo_of po_none (q H fun _ _ z => z)
    | some x => simp [chko] at h
  | some e =>
    cases l with
    | none => simp [chko] at h
    | some x =>
      have h' : chk bl X.N sc e x = true := by simpa [chko] using h
      unfold evo at he
      obtain ⟨⟨w, k⟩, e1, he⟩ := bind_ok he
      refine wpo_of (po_some pe_wp) ?_
      refine S x sc X P ca σ σc hid H fp h' C w k e1 _ fun v H1 s1 r1 => ?_
      simp only [asInt] at he
      split at he
      · rename_i j ej
        cases ok_inj he
        split at ej
        · cases ej
          have e2 := repI r1.rep
          exact ⟨_, e2, q H1 s1⟩
        · cases ej
      · cases he
theorem sl_snd {a : E} {lo hi : Eo} (Sa : SndE bl Γ a) (Sl : SndEo bl Γ lo) (Sh : SndEo bl Γ hi) : SndE bl Γ (.sl a lo hi) := by
  intro x sc X P ca σ σc hid H fp hc C w k he Q q
  cases x with
  | Subscript x y pos =>
    cases y with
    | Slice l h st p2 =>
      cases st with
      | some _ => simp [chk] at hc
      | none =>
        have hc' : (chk bl X.N sc a x && chko bl X.N sc lo l && chko bl X.N sc hi h) = true := hc
        simp only [Bool.and_eq_true] at hc'
        obtain ⟨⟨h1, h2⟩, h3⟩ := hc'
        unfold ev at he
        obtain ⟨⟨wa, ka⟩, ea, he⟩ := bind_ok he
        obtain ⟨il, el, he⟩ := bind_ok he
        obtain ⟨ih, eh, he⟩ := bind_ok he
        refine wp_of (pe_slice sl_any pe_wp po_wp po_wp) ?_
        refine Sa x sc X P ca σ σc hid H fp h1 C wa ka ea _ fun va H1 s1 r1 => ?_
        refine part_snd Sl h2 (C.mono s1) el fun H2 s2 => ?_
        refine part_snd Sh h3 (C.mono (s1.trans s2)) eh fun H3 s3 => ?_
        exact sl_ok ((s1.trans s2).trans s3) (r1.later (s2.trans s3)).rep he fun v H' s r => q v H' (((s1.trans s2).trans s3).trans s) r
    | _ => simp [chk] at hc
  | _ => simp [chk] at hc
/-- argument lists -/
theorem nil_snd : SndEs bl Γ .nil := by
  intro x sc X P ca σ σc hid H fp hc C ws he Q q
  cases x with
  | nil =>
    unfold evs at he
    cases ok_inj he
    exact wpa_of pa_nil (q [] H (fun _ _ z => z) rfl)
  | cons _ _ => simp [chks] at hc
theorem cons_snd {e : E} {es : Es} (S : SndE bl Γ e) (Ss : SndEs bl Γ es) : SndEs bl Γ (.cons e es) := by
  intro x sc X P ca σ σc hid H fp hc C ws he Q q
  cases x with
  | nil => simp [chks] at hc
  | cons x l =>
    have hc' : chk bl X.N sc e x = true ∧ chks bl X.N sc es l = true := by simpa [chks] using hc
    unfold evs at he
    obtain ⟨⟨w, k⟩, e1, he⟩ := bind_ok he
    obtain ⟨us, e2, he⟩ := bind_ok he
    cases ok_inj he
    refine wpa_of (pa_cons pe_wp pa_wp (star_of hc'.1 _ _)) ?_
    refine S x sc X P ca σ σc hid H fp hc'.1 C w k e1 _ fun v H1 s1 r1 => ?_
    refine Ss l sc X P ca σ σc hid H1 fp hc'.2 (C.mono s1) us e2 _ fun vs H2 s2 r2 => ?_
    exact q _ H2 (s1.trans s2) ⟨v, vs, rfl, (r1.later s2).rep, r2⟩
theorem tup_snd {es : Es} (S : SndEs bl Γ es) : SndE bl Γ (.tup es) := by
  intro x sc X P ca σ σc hid H fp hc C w k he Q q
  cases x with
  | Tuple l x1 pos =>
    have hc' : chks bl X.N sc es l = true := hc
    unfold ev at he
    obtain ⟨ws, e1, he⟩ := bind_ok he
    split at he
    · rename_i xs ex
      obtain ⟨c, he⟩ := guardN_ok he
      cases ok_inj he
      refine wp_of (pe_tup pa_wp) ?_
      refine S l sc X P ca σ σc hid H fp hc' C ws e1 _ fun vs H1 s1 r1 => ?_
      have r2 := mapD_rep ex r1
      refine ⟨by rw [r2.length]; exact c, fun p np => q _ _ (s1.trans (Same.upd np)) (.ofD ?_)⟩
      exact ⟨p, vs, rfl, .inl (.inl upd_same), r2.mono (.of_same (Same.upd np))⟩
    · cases he
  | _ => simp [chk] at hc
theorem lst_snd {es : Es} (S : SndEs bl Γ es) : SndE bl Γ (.lst es) := by
  intro x sc X P ca σ σc hid H fp hc C w k he Q q
  cases x with
  | List l pos =>
    have hc' : chks bl X.N sc es l = true := hc
    unfold ev at he
    obtain ⟨ws, e1, he⟩ := bind_ok he
    split at he
    · rename_i xs ex
      obtain ⟨c, he⟩ := guardN_ok he
      cases ok_inj he
      refine wp_of (pe_lst pa_wp) ?_
      refine S l sc X P ca σ σc hid H fp hc' C ws e1 _ fun vs H1 s1 r1 => ?_
      have r2 := mapD_rep ex r1
      exact ⟨by rw [r2.length]; exact c, fun p np => q _ _ (s1.trans (Same.upd np)) (.ofL (.of_same (s1.trans (Same.upd np))) np s1 r2)⟩
    · cases he
  | _ => simp [chk] at hc
theorem blt_snd {f : B} {es : Es} (S : SndEs bl Γ es) : SndE bl Γ (.blt f es) := by
  intro x sc X P ca σ σc hid H fp hc C w k he Q q
  cases x with
  | Call g l kws pos =>
    cases g with
    | Name x p =>
      cases kws with
      | cons _ _ => simp [chk] at hc
      | nil =>
        have hc' : (decide (f.name = x) && glB sc x && bl.contains x && chks bl X.N sc es l) = true := hc
        simp only [Bool.and_eq_true, decide_eq_true_eq] at hc'
        obtain ⟨⟨⟨h1, h2⟩, h3⟩, h4⟩ := hc'
        unfold ev at he
        obtain ⟨ws, e1, he2⟩ := bind_ok he
        cases es with
        | nil =>
          unfold evs at e1
          cases ok_inj e1
          cases f <;> cases he2
        | cons e es =>
          cases l with
          | nil => simp [chks] at h4
          | cons y l =>
            refine wp_of (pe_blt C.ok h1 h2 h3 h4) ?_
            refine S (y :: l) sc X P ca σ σc hid H fp h4 C ws e1 _ fun vs H1 s1 r1 => ?_
            exact blt_ok s1 r1 he2 fun v H' s r => q v H' (s1.trans s) r
    | _ => simp [chk] at hc
  | _ => simp [chk] at hc
theorem call_snd {f : Str} {es : Es} (S : SndEs bl Γ es) : SndE bl Γ (.call f es) := by
  intro x sc X P ca σ σc hid H fp hc C w k he Q q
  cases x with
  | Call g l kws pos =>
    cases g with
    | Name x p =>
      cases kws with
      | cons _ _ => simp [chk] at hc
      | nil =>
        have hc' : (decide (f = x) && glB sc x && plainName x && chks bl X.N sc es l) = true := hc
        simp only [Bool.and_eq_true, decide_eq_true_eq, plainName, Bool.not_eq_true'] at hc'
        obtain ⟨⟨⟨h1, h2⟩, ⟨h3, _⟩, _⟩, h4⟩ := hc'
        subst h1
        unfold ev at he
        split at he
        · rename_i g eg
          obtain ⟨ws, e1, he⟩ := bind_ok he
          obtain ⟨w', e2, he⟩ := bind_ok he
          cases ok_inj he
          obtain ⟨fa, fd, ps, kk, F, hr, hm, hk, hb⟩ := C.fns f g eg
          have fin : ∀ vs H1, Same H H1 → RepWs X.K ca H1 ws vs → spP X.K ca g vs H1 Q E0 := fun vs H1 s1 r1 => by
            refine ⟨ws, w, r1, e2, fun v H' s b => q v H' (s1.trans s) ⟨b.1, ?_⟩⟩
            have b2 := b.2
            cases w with
            | obj c fs =>
              obtain ⟨f0, o, n, d⟩ : ∃ fp, OwnW X.K ca H' (.obj c fs) v fp ∧ (∀ a ∈ fp, H1 a = none) ∧ fp.Nodup := b2
              exact ⟨f0, o, fun a ha => s1.free (n a ha), d⟩
            | c y =>
              cases y with
              | d y => exact b.1
              | lst y =>
                obtain ⟨f0, o, n, d⟩ : ∃ fp, OwnW X.K ca H' (.c (.lst y)) v fp ∧ (∀ a ∈ fp, H1 a = none) ∧ fp.Nodup := b2
                exact ⟨f0, o, fun a ha => s1.free (n a ha), d⟩
              | dK y =>
                obtain ⟨f0, o, n, d⟩ : ∃ fp, OwnW X.K ca H' (.c (.dK y)) v fp ∧ (∀ a ∈ fp, H1 a = none) ∧ fp.Nodup := b2
                exact ⟨f0, o, fun a ha => s1.free (n a ha), d⟩
              | dT y =>
                obtain ⟨f0, o, n, d⟩ : ∃ fp, OwnW X.K ca H' (.c (.dT y)) v fp ∧ (∀ a ∈ fp, H1 a = none) ∧ fp.Nodup := b2
                exact ⟨f0, o, fun a ha => s1.free (n a ha), d⟩
          cases es with
          | nil =>
            cases l with
            | cons _ _ => simp [chks] at h4
            | nil =>
              unfold evs at e1
              cases ok_inj e1
              refine wp_of (pe_call0 (ds := []) (dvs := []) F hr (gl_of C.ok.scope h2) hm hk hb .nil passL h3) ?_
              exact fin [] H (fun _ _ z => z) rfl
          | cons e es =>
            cases l with
            | nil => simp [chks] at h4
            | cons y l =>
              have h4' : chk bl X.N sc e y = true ∧ chks bl X.N sc es l = true := by simpa [chks] using h4
              refine wp_of (pe_call (ds := []) (dvs := []) F hr (gl_of C.ok.scope h2) hm hk hb .nil passL pa_wp h3 (star_of h4'.1 _ _) (noback h4'.2 _ _)) ?_
              refine S (y :: l) sc X P ca σ σc hid H fp h4 C ws e1 _ fun vs H1 s1 r1 => ?_
              show spP X.K ca g (vs ++ []) H1 Q E0
              rw [List.append_nil]
              exact fin vs H1 s1 r1
        · cases he
    | _ => simp [chk] at hc
  | _ => simp [chk] at hc
theorem not_snd {a : E} (Sa : SndE bl Γ a) : SndE bl Γ (.not a) := by
  intro x sc X P ca σ σc hid H fp hc C w k he Q q
  cases x with
  | UnaryOp o x pos =>
    cases o with
    | Not =>
      have h2 : chk bl X.N sc a x = true := hc
      unfold ev at he
      obtain ⟨⟨wa, ka⟩, ea, he⟩ := bind_ok he
      obtain ⟨b, eb, he⟩ := bind_ok he
      refine wp_of (pe_notT pe_wp) ?_
      refine Sa x sc X P ca σ σc hid H fp h2 C wa ka ea _ fun va H1 s1 r1 => ?_
      cases ok_inj he
      exact ⟨b, tru_of r1.rep eb, q _ H1 s1 (.ofD rfl)⟩
    | _ => simp [chk] at hc
  | _ => simp [chk] at hc
theorem RepV.k_any {w : W} {k : Kd} {v : V} {H0 : Hp} (r : RepV P X.K ca (σc ++ hid) H0 H w k v) : RepV P X.K ca (σc ++ hid) H0 H w k v := r
def tailB (f : Expr → Bool) (o : BoolOp) (y : Expr) (r : List Expr) (pos : Pos) : Bool := match r with
  | [] => f y
  | z :: r => f (.BoolOp o (y :: z :: r) pos)
theorem and_snd {a b : E} (Sa : SndE bl Γ a) (Sb : SndE bl Γ b) : SndE bl Γ (.and a b) := by
  intro x sc X P ca σ σc hid H fp hc C w k he Q q
  cases x with
  | BoolOp o l pos =>
    cases o with
    | Or => cases l <;> simp [chk] at hc
    | And =>
      match l with
      | [] => simp [chk] at hc
      | [_] => simp [chk] at hc
      | x :: y :: r =>
        have hc' : chk bl X.N sc a x = true ∧ tailB (chk bl X.N sc b) .And y r pos = true := by
          have hh := hc
          cases r <;> (simp only [chk, Bool.and_eq_true] at hh; exact hh)
        unfold ev at he
        obtain ⟨⟨wa, ka⟩, ea, he⟩ := bind_ok he
        obtain ⟨k1, ek, he⟩ := bind_ok he
        have go : ∀ t, PE X (.BoolOp .And (y :: r) pos) t → (k1 = true → ∀ H1, Same H H1 → t σc H1 Q) → wpE X (.BoolOp .And (x :: y :: r) pos) σc H Q := fun t pt ht => by
          refine wp_of (pe_andT pe_wp pt) ?_
          refine Sa x sc X P ca σ σc hid H fp hc'.1 C wa ka ea _ fun va H1 s1 r1 => ⟨k1, tru_of r1.rep ek, ?_⟩
          cases k1 with
          | true => rw [if_pos rfl]; exact ht rfl H1 s1
          | false =>
            rw [if_neg Bool.false_ne_true]
            simp only [Bool.false_eq_true, if_false] at he
            cases ok_inj he
            exact q _ H1 s1 r1
        cases r with
        | nil =>
          refine go _ (pe_one pe_wp) fun hk H1 s1 => ?_
          subst hk
          simp only [if_true] at he
          exact Sb y sc X P ca σ σc hid H1 fp hc'.2 (C.mono s1) w k he _ fun v H' s r => q v H' (s1.trans s) (r.from s1)
        | cons z r =>
          refine go _ pe_wp fun hk H1 s1 => ?_
          subst hk
          simp only [if_true] at he
          exact Sb _ sc X P ca σ σc hid H1 fp hc'.2 (C.mono s1) w k he _ fun v H' s r => q v H' (s1.trans s) (r.from s1)
  | _ => simp [chk] at hc
theorem or_snd {a b : E} (Sa : SndE bl Γ a) (Sb : SndE bl Γ b) : SndE bl Γ (.or a b) := by
  intro x sc X P ca σ σc hid H fp hc C w k he Q q
  cases x with
  | BoolOp o l pos =>
    cases o with
    | And => cases l <;> simp [chk] at hc
    | Or =>
      match l with
      | [] => simp [chk] at hc
      | [_] => simp [chk] at hc
      | x :: y :: r =>
        have hc' : chk bl X.N sc a x = true ∧ tailB (chk bl X.N sc b) .Or y r pos = true := by
          have hh := hc
          cases r <;> (simp only [chk, Bool.and_eq_true] at hh; exact hh)
        unfold ev at he
        obtain ⟨⟨wa, ka⟩, ea, he⟩ := bind_ok he
        obtain ⟨k1, ek, he⟩ := bind_ok he
        have go : ∀ t, PE X (.BoolOp .Or (y :: r) pos) t → (k1 = false → ∀ H1, Same H H1 → t σc H1 Q) → wpE X (.BoolOp .Or (x :: y :: r) pos) σc H Q := fun t pt ht => by
          refine wp_of (pe_orT pe_wp pt) ?_
          refine Sa x sc X P ca σ σc hid H fp hc'.1 C wa ka ea _ fun va H1 s1 r1 => ⟨k1, tru_of r1.rep ek, ?_⟩
          cases k1 with
          | false => rw [if_neg Bool.false_ne_true]; exact ht rfl H1 s1
          | true =>
            rw [if_pos rfl]
            simp only [if_true] at he
            cases ok_inj he
            exact q _ H1 s1 r1
        cases r with
        | nil =>
          refine go _ (pe_one pe_wp) fun hk H1 s1 => ?_
          subst hk
          simp only [Bool.false_eq_true, if_false] at he
          exact Sb y sc X P ca σ σc hid H1 fp hc'.2 (C.mono s1) w k he _ fun v H' s r => q v H' (s1.trans s) (r.from s1)
        | cons z r =>
          refine go _ pe_wp fun hk H1 s1 => ?_
          subst hk
          simp only [Bool.false_eq_true, if_false] at he
          exact Sb _ sc X P ca σ σc hid H1 fp hc'.2 (C.mono s1) w k he _ fun v H' s r => q v H' (s1.trans s) (r.from s1)
  | _ => simp [chk] at hc
theorem isi_snd {e : E} {t : Ty} (S : SndE bl Γ e) : SndE bl Γ (.isi e t) := by
  intro x sc X P ca σ σc hid H fp hc C w k he Q q
  cases x with
  | Call g l kws pos =>
    cases g with
    | Name x p =>
      cases l with
      | nil => simp [chk] at hc
      | cons y l =>
        cases l with
        | nil => simp [chk] at hc
        | cons z0 l =>
          cases l with
          | cons _ _ => simp [chk] at hc
          | nil =>
            cases z0 with
            | Name z pz =>
              cases kws with
              | cons _ _ => simp [chk] at hc
              | nil =>
                have hc' : (decide (x = "isinstance") && glB sc x && bl.contains x && bl.contains z && chk bl X.N sc e y && decide (z = t.name) && glB sc z) = true := hc
                simp only [Bool.and_eq_true, decide_eq_true_eq] at hc'
                obtain ⟨⟨⟨⟨⟨⟨h1, h2⟩, h3⟩, h4⟩, h5⟩, h6⟩, h7⟩ := hc'
                subst h1 h6
                unfold ev at he
                obtain ⟨⟨wa, ka⟩, ea, he⟩ := bind_ok he
                simp only at he
                split at he
                · rename_i b eb
                  refine wp_of (pe_callB call_isi (gl_of C.ok.scope h2) (bln_of C.ok.bln h3) boot_isinstance (pa_cons pe_wp (pa_cons (pe_bltn (v := .ty t.s) (gl_of C.ok.scope h7) (bln_of C.ok.bln h4) (boot_ty t) rfl (ty_ne t) (ty_nd t)) pa_nil) (star_of h5 _ _)) (by decide +kernel) (by decide +kernel) (star_of h5 _ _) rfl) ?_
                  refine S y sc X P ca σ σc hid H fp h5 C wa ka ea _ fun va H1 s1 r1 => ?_
                  obtain ⟨a, ty, hk⟩ := isi_ok r1.rep eb
                  cases ok_inj he
                  exact ⟨va, .ty t.s, .type a, .type t.s, b, rfl, .ty _, ty, kit_ty hk, q _ H1 s1 (.ofD rfl)⟩
                · cases he

            | _ => simp [chk] at hc
    | _ => simp [chk] at hc
  | _ => simp [chk] at hc
/-! ### tests -/
def SndT (bl : List Str) (Γ : Gam) (e : E) : Prop := ∀ (x : Expr) (sc : Scope) (X : Cx) (P : Addr → Prop) (ca : Nat → Addr) (σ : List Sl) (σc hid : L2.St) (H : Hp) (fp : Nat → List Addr), chk bl X.N sc e x = true → Ctx bl sc X Γ P ca σ σc hid H fp →
  ∀ w k b, ev Γ e σ = some (.ok (w, k)) → truth w = some (.ok b) → ∀ Q, (∀ H', Same H H' → Q b H') → wpT X x σc H Q
theorem plain_t {e : E} (S : SndE bl Γ e) (h1 : ∀ a, e ≠ .not a) (h2 : ∀ a b, e ≠ .and a b) (h2' : ∀ a b, e ≠ .or a b) (h3 : ∀ a b c, e ≠ .ife a b c) (h4 : ∀ o a b, e ≠ .cmp o a b) (h5 : ∀ o o' a b c, e ≠ .cmp2 o o' a b c) (h6 : ∀ o o' o2 a b c d, e ≠ .cmp3 o o' o2 a b c d) : SndT bl Γ e := by
  intro x sc X P ca σ σc hid H fp hc C w k b he ht Q q
  refine test_of S hc C he ht q ?_ ?_ ?_ ?_
  · rintro y p rfl
    cases e <;> first | exact absurd rfl (h1 _) | (simp [chk] at hc)
  · rintro o l p rfl
    cases e <;> first | exact absurd rfl (h2 _ _) | exact absurd rfl (h2' _ _) | (simp [chk] at hc)
  · rintro a b c p rfl
    cases e <;> first | exact absurd rfl (h3 _ _ _) | (simp [chk] at hc)
  · rintro a b c p rfl
    cases e <;> first | exact absurd rfl (h4 _ _ _) | exact absurd rfl (h5 _ _ _ _ _) | exact absurd rfl (h6 _ _ _ _ _ _ _) | (simp [chk] at hc)
theorem not_t {a : E} (Sa : SndT bl Γ a) : SndT bl Γ (.not a) := by
  intro x sc X P ca σ σc hid H fp hc C w k b he ht Q q
  cases x with
  | UnaryOp o x pos =>
    cases o with
    | Not =>
      have h2 : chk bl X.N sc a x = true := hc
      unfold ev at he
      obtain ⟨⟨wa, ka⟩, ea, he⟩ := bind_ok he
      obtain ⟨b', eb, he⟩ := bind_ok he
      refine wpt_of (pt_not pt_wp) ?_
      refine Sa x sc X P ca σ σc hid H fp h2 C wa ka b' ea eb _ fun H1 s1 => ?_
      cases ok_inj he
      cases ok_inj ht
      exact q H1 s1
    | _ => simp [chk] at hc
  | _ => simp [chk] at hc
theorem pw_bool {o : BoolOp} {l : List Expr} {p : Pos} {t : TT} (h : PT X (.BoolOp o l p) t) : PW X (.BoolOp o l p) t := ⟨fun wh pins s σ H Q I q => h.run pins s σ H Q I q⟩
theorem truth_same {w : W} {b b' : Bool} (h : truth w = some (.ok b)) (h' : truth w = some (.ok b')) : b = b' := by
  rw [h] at h'
  cases h'
  rfl
theorem and_t {a b : E} (Sa : SndT bl Γ a) (Sb : SndT bl Γ b) : SndT bl Γ (.and a b) := by
  intro x sc X P ca σ σc hid H fp hc C w k c he ht Q q
  cases x with
  | BoolOp o l pos =>
    cases o with
    | Or => cases l <;> simp [chk] at hc
    | And =>
      match l with
      | [] => simp [chk] at hc
      | [_] => simp [chk] at hc
      | x :: y :: r =>
        have hc' : chk bl X.N sc a x = true ∧ tailB (chk bl X.N sc b) .And y r pos = true := by
          have hh := hc
          cases r <;> (simp only [chk, Bool.and_eq_true] at hh; exact hh)
        unfold ev at he
        obtain ⟨⟨wa, ka⟩, ea, he⟩ := bind_ok he
        obtain ⟨k1, ek, he⟩ := bind_ok he
        have go : ∀ t, PW X (.BoolOp .And (y :: r) pos) t → (k1 = true → ∀ H1, Same H H1 → t σc H1 Q) → wpT X (.BoolOp .And (x :: y :: r) pos) σc H Q := fun t pt ht' => by
          refine wpt_of (PW.pt (pw_and pt_wp pt)) ?_
          refine Sa x sc X P ca σ σc hid H fp hc'.1 C wa ka k1 ea ek _ fun H1 s1 => ?_
          cases k1 with
          | true => rw [if_pos rfl]; exact ht' rfl H1 s1
          | false =>
            rw [if_neg Bool.false_ne_true]
            simp only [Bool.false_eq_true, if_false] at he
            cases ok_inj he
            cases truth_same ek ht
            exact q H1 s1
        cases r with
        | nil =>
          refine go _ (pw_and1 pt_wp) fun hk H1 s1 => ?_
          subst hk
          simp only [if_true] at he
          exact Sb y sc X P ca σ σc hid H1 fp hc'.2 (C.mono s1) w k c he ht _ fun H' s => q H' (s1.trans s)
        | cons z r =>
          refine go _ (pw_bool pt_wp) fun hk H1 s1 => ?_
          subst hk
          simp only [if_true] at he
          exact Sb _ sc X P ca σ σc hid H1 fp hc'.2 (C.mono s1) w k c he ht _ fun H' s => q H' (s1.trans s)
  | _ => simp [chk] at hc
theorem or_t {a b : E} (Sa : SndT bl Γ a) (Sb : SndT bl Γ b) : SndT bl Γ (.or a b) := by
  intro x sc X P ca σ σc hid H fp hc C w k c he ht Q q
  cases x with
  | BoolOp o l pos =>
    cases o with
    | And => cases l <;> simp [chk] at hc
    | Or =>
      match l with
      | [] => simp [chk] at hc
      | [_] => simp [chk] at hc
      | x :: y :: r =>
        have hc' : chk bl X.N sc a x = true ∧ tailB (chk bl X.N sc b) .Or y r pos = true := by
          have hh := hc
          cases r <;> (simp only [chk, Bool.and_eq_true] at hh; exact hh)
        unfold ev at he
        obtain ⟨⟨wa, ka⟩, ea, he⟩ := bind_ok he
        obtain ⟨k1, ek, he⟩ := bind_ok he
        have go : ∀ t, PW X (.BoolOp .Or (y :: r) pos) t → (k1 = false → ∀ H1, Same H H1 → t σc H1 Q) → wpT X (.BoolOp .Or (x :: y :: r) pos) σc H Q := fun t pt ht' => by
          refine wpt_of (PW.pt (pw_or pt_wp pt)) ?_
          refine Sa x sc X P ca σ σc hid H fp hc'.1 C wa ka k1 ea ek _ fun H1 s1 => ?_
          cases k1 with
          | false => rw [if_neg Bool.false_ne_true]; exact ht' rfl H1 s1
          | true =>
            rw [if_pos rfl]
            simp only [if_true] at he
            cases ok_inj he
            cases truth_same ek ht
            exact q H1 s1
        cases r with
        | nil =>
          refine go _ (pw_or1 pt_wp) fun hk H1 s1 => ?_
          subst hk
          simp only [Bool.false_eq_true, if_false] at he
          exact Sb y sc X P ca σ σc hid H1 fp hc'.2 (C.mono s1) w k c he ht _ fun H' s => q H' (s1.trans s)
        | cons z r =>
          refine go _ (pw_bool pt_wp) fun hk H1 s1 => ?_
          subst hk
          simp only [Bool.false_eq_true, if_false] at he
          exact Sb _ sc X P ca σ σc hid H1 fp hc'.2 (C.mono s1) w k c he ht _ fun H' s => q H' (s1.trans s)
  | _ => simp [chk] at hc
theorem cmp_t {o : CmpOp} {a b : E} (Sa : SndE bl Γ a) (Sb : SndE bl Γ b) : SndT bl Γ (.cmp o a b) := by
  intro x sc X P ca σ σc hid H fp hc C w k c he ht Q q
  cases x with
  | Compare x ops l pos =>
    match ops, l with
    | [p], [y] =>
      have hc' : (decide (o = p) && chk bl X.N sc a x && chk bl X.N sc b y) = true := hc
      simp only [Bool.and_eq_true, decide_eq_true_eq] at hc'
      obtain ⟨⟨h1, h2⟩, h3⟩ := hc'
      subst h1
      unfold ev at he
      obtain ⟨⟨wa, ka⟩, ea, he⟩ := bind_ok he
      obtain ⟨⟨wb, kb⟩, eb, he⟩ := bind_ok he
      obtain ⟨c, ec, he⟩ := bind_ok he
      refine wpt_of (pt_cmpR (op_cmp C.ok.un o) pe_wp pe_wp (mark_of h3 o)) ?_
      cases ok_inj he
      cases ok_inj ht
      exact cmpt_snd Sa Sb h2 h3 C ea eb ec fun H' s => ⟨_, rfl, q H' s⟩
    | [], _ => simp [chk] at hc
    | _ :: _ :: _, _ => cases l <;> simp [chk] at hc
    | [_], [] => simp [chk] at hc
    | [_], _ :: _ :: _ => simp [chk] at hc
  | _ => simp [chk] at hc
theorem cmp2_t {o o' : CmpOp} {a b c : E} (Sa : SndE bl Γ a) (Sb : SndE bl Γ b) (Sc : SndE bl Γ c) : SndT bl Γ (.cmp2 o o' a b c) := by
  intro x sc X P ca σ σc hid H fp hc C w k bb he ht Q q
  cases x with
  | Compare x ops l pos =>
    match ops, l with
    | [p, p'], [y, z] =>
      have hc' : (decide (o = p) && decide (o' = p') && chk bl X.N sc a x && chk bl X.N sc b y && chk bl X.N sc c z) = true := hc
      simp only [Bool.and_eq_true, decide_eq_true_eq] at hc'
      obtain ⟨⟨⟨⟨h1, h1'⟩, h2⟩, h3⟩, h4⟩ := hc'
      subst h1 h1'
      unfold ev at he
      obtain ⟨⟨wa, ka⟩, ea, he⟩ := bind_ok he
      obtain ⟨⟨wb, kb⟩, eb, he⟩ := bind_ok he
      obtain ⟨c1, ec, he⟩ := bind_ok he
      refine wpt_of (pt_chain (op_cmp C.ok.un o) (op_cmp C.ok.un o') pe_wp pe_wp pe_wp (show lastMarks [o'] [z] = false from mark_of h4 o')) ?_
      refine Sa x sc X P ca σ σc hid H fp h2 C wa ka ea _ fun va H1 s1 r1 => ?_
      refine Sb y sc X P ca σ σc hid H1 fp h3 (C.mono s1) wb kb eb _ fun vb H2 s2 r2 => ?_
      refine cmp_ok (r1.later s2).rep r2.rep ec ⟨c1, rfl, ?_⟩
      cases c1 with
      | false =>
        rw [if_neg Bool.false_ne_true]
        simp only [Bool.false_eq_true, if_false] at he
        cases ok_inj he
        cases ok_inj ht
        exact ⟨_, rfl, q H2 (s1.trans s2)⟩
      | true =>
        rw [if_pos rfl]
        simp only [if_true] at he
        obtain ⟨⟨wc, kc⟩, ez, he⟩ := bind_ok he
        obtain ⟨c2, ec2, he⟩ := bind_ok he
        refine Sc z sc X P ca σ σc hid H2 fp h4 (C.mono (s1.trans s2)) wc kc ez _ fun vc H3 s3 r3 => ?_
        refine cmp_ok (r2.later s3).rep r3.rep ec2 ?_
        cases ok_inj he
        cases ok_inj ht
        exact ⟨_, rfl, q H3 ((s1.trans s2).trans s3)⟩
    | [], _ => simp [chk] at hc
    | [_], [] => simp [chk] at hc
    | [_], [_] => simp [chk] at hc
    | [_], _ :: _ :: _ => simp [chk] at hc
    | [_, _], [] => simp [chk] at hc
    | [_, _], [_] => simp [chk] at hc
    | [_, _], _ :: _ :: _ :: _ => simp [chk] at hc
    | _ :: _ :: _ :: _, _ => cases l <;> simp [chk] at hc
  | _ => simp [chk] at hc
theorem cmp3_t {o o' o2 : CmpOp} {a b c d : E} (Sa : SndE bl Γ a) (Sb : SndE bl Γ b) (Sc : SndE bl Γ c) (Sd : SndE bl Γ d) : SndT bl Γ (.cmp3 o o' o2 a b c d) := by
  intro x sc X P ca σ σc hid H fp hc C w k bb he ht Q q
  cases x with
  | Compare x ops l pos =>
    match ops, l with
    | [p, p', p2], [y, z, t] =>
      have hc' : (decide (o = p) && decide (o' = p') && decide (o2 = p2) && chk bl X.N sc a x && chk bl X.N sc b y && chk bl X.N sc c z && chk bl X.N sc d t) = true := hc
      simp only [Bool.and_eq_true, decide_eq_true_eq] at hc'
      obtain ⟨⟨⟨⟨⟨⟨h1, h1'⟩, h12⟩, h2⟩, h3⟩, h4⟩, h5⟩ := hc'
      subst h1 h1' h12
      unfold ev at he
      obtain ⟨⟨wa, ka⟩, ea, he⟩ := bind_ok he
      obtain ⟨⟨wb, kb⟩, eb, he⟩ := bind_ok he
      obtain ⟨c1, ec, he⟩ := bind_ok he
      refine wpt_of (pt_chain3 (op_cmp C.ok.un o) (op_cmp C.ok.un o') (op_cmp C.ok.un o2) pe_wp pe_wp pe_wp pe_wp (show lastMarks [o2] [t] = false from mark_of h5 o2)) ?_
      refine Sa x sc X P ca σ σc hid H fp h2 C wa ka ea _ fun va H1 s1 r1 => ?_
      refine Sb y sc X P ca σ σc hid H1 fp h3 (C.mono s1) wb kb eb _ fun vb H2 s2 r2 => ?_
      refine cmp_ok (r1.later s2).rep r2.rep ec ⟨c1, rfl, ?_⟩
      cases c1 with
      | false =>
        rw [if_neg Bool.false_ne_true]
        simp only [Bool.false_eq_true, if_false] at he
        cases ok_inj he
        cases ok_inj ht
        exact ⟨_, rfl, q H2 (s1.trans s2)⟩
      | true =>
        rw [if_pos rfl]
        simp only [if_true] at he
        obtain ⟨⟨wc, kc⟩, ez, he⟩ := bind_ok he
        obtain ⟨c2, ec2, he⟩ := bind_ok he
        refine Sc z sc X P ca σ σc hid H2 fp h4 (C.mono (s1.trans s2)) wc kc ez _ fun vc H3 s3 r3 => ?_
        refine cmp_ok (r2.later s3).rep r3.rep ec2 ⟨c2, rfl, ?_⟩
        cases c2 with
        | false =>
          rw [if_neg Bool.false_ne_true]
          simp only [Bool.false_eq_true, if_false] at he
          cases ok_inj he
          cases ok_inj ht
          exact ⟨_, rfl, q H3 ((s1.trans s2).trans s3)⟩
        | true =>
          rw [if_pos rfl]
          simp only [if_true] at he
          obtain ⟨⟨wd, kd⟩, ez2, he⟩ := bind_ok he
          obtain ⟨c3, ec3, he⟩ := bind_ok he
          refine Sd t sc X P ca σ σc hid H3 fp h5 (C.mono ((s1.trans s2).trans s3)) wd kd ez2 _ fun vd H4 s4 r4 => ?_
          refine cmp_ok (r3.later s4).rep r4.rep ec3 ?_
          cases ok_inj he
          cases ok_inj ht
          exact ⟨_, rfl, q H4 (((s1.trans s2).trans s3).trans s4)⟩
    | [], _ => simp [chk] at hc
    | [_], l => cases l <;> simp [chk] at hc
    | [_, _], l => cases l <;> simp [chk] at hc
    | [_, _, _], [] => simp [chk] at hc
    | [_, _, _], [_] => simp [chk] at hc
    | [_, _, _], [_, _] => simp [chk] at hc
    | [_, _, _], _ :: _ :: _ :: _ :: _ => simp [chk] at hc
    | _ :: _ :: _ :: _ :: _, _ => cases l <;> simp [chk] at hc
  | _ => simp [chk] at hc
theorem ife_snd {c a b : E} (Sc0 : tstOk c = true → SndT bl Γ c) (Sa : SndE bl Γ a) (Sb : SndE bl Γ b) : SndE bl Γ (.ife c a b) := by
  intro x sc X P ca σ σc hid H fp hc C w k he Q q
  cases x with
  | IfExp x y z pos =>
    have hc' : (tstOk c && chk bl X.N sc c x && chk bl X.N sc a y && chk bl X.N sc b z) = true := hc
    simp only [Bool.and_eq_true] at hc'
    obtain ⟨⟨⟨h0, h1⟩, h2⟩, h3⟩ := hc'
    unfold ev at he
    obtain ⟨⟨wc, kc⟩, ec, he⟩ := bind_ok he
    obtain ⟨k1, ek, he⟩ := bind_ok he
    have Sc := Sc0 h0
    refine wp_of (pe_ifExp pt_wp pe_wp pe_wp) ?_
    refine Sc x sc X P ca σ σc hid H fp h1 C wc kc k1 ec ek _ fun H1 s1 => ?_
    cases k1 with
    | true =>
      rw [if_pos rfl]
      simp only [if_true] at he
      exact Sa y sc X P ca σ σc hid H1 fp h2 (C.mono s1) w k he _ fun v H' s r => q v H' (s1.trans s) (r.from s1)
    | false =>
      rw [if_neg Bool.false_ne_true]
      simp only [Bool.false_eq_true, if_false] at he
      exact Sb z sc X P ca σ σc hid H1 fp h3 (C.mono s1) w k he _ fun v H' s r => q v H' (s1.trans s) (r.from s1)
  | _ => simp [chk] at hc
theorem join_snd {z e : E} (Sz : SndE bl Γ z) (S : SndE bl Γ e) : SndE bl Γ (.join z e) := by
  intro x sc X P ca σ σc hid H fp hc C w k he Q q
  cases x with
  | Call g l kws pos =>
    cases g with
    | Attribute x a p =>
      cases l with
      | nil => simp [chk] at hc
      | cons y l =>
        cases l with
        | cons _ _ => simp [chk] at hc
        | nil =>
          cases kws with
          | cons _ _ => simp [chk] at hc
          | nil =>
            have hc' : (decide (a = "join") && baseOk x && (p.endLine == pos.line) && chk bl X.N sc z x && chk bl X.N sc e y) = true := hc
            simp only [Bool.and_eq_true, decide_eq_true_eq] at hc'
            obtain ⟨⟨⟨⟨h1, h0⟩, h2⟩, h3⟩, h4⟩ := hc'
            subst h1
            unfold ev at he
            obtain ⟨⟨wz, kz⟩, ez, he⟩ := bind_ok he
            obtain ⟨⟨we, ke⟩, ee, he⟩ := bind_ok he
            simp only at he
            split at he
            · rename_i zz xs
              split at he
              · rename_i ys ey
                obtain ⟨c, he⟩ := guardN_ok he
                cases ok_inj he
                refine wp_of (pe_join pe_wp pe_wp (star_of h4 _ _) (attr_base _ h0) h2) ?_
                refine Sz x sc X P ca σ σc hid H fp h3 C _ _ ez _ fun vz H1 s1 r1 => ?_
                have e1 := repS r1.rep
                subst e1
                refine ⟨⟨_, rfl⟩, ?_⟩
                refine S y sc X P ca σ σc hid H1 fp h4 (C.mono s1) _ _ ee _ fun ve H2 s2 r2 => ?_
                obtain ⟨a, vs, e2, h5, r3⟩ := repL r2.rep
                subst e2
                have e3 := strsD_rep ey r3
                subst e3
                refine ⟨_, a, ys, rfl, rfl, .inl h5.seq, ?_, q _ H2 (s1.trans s2) (.ofD rfl)⟩
                have hs : sizeLine = 16777216 := sizeLine_eq
                rw [Nat.mul_comm ys.length]
                omega
              · cases he
            · cases he
    | _ => simp [chk] at hc
  | _ => simp [chk] at hc
/-! ### what is walked -/
def wpI (X : Cx) (tg it : Expr) : TI := fun σ H R => ∀ (pins : List (Addr × Obj)) (s : Shared), Inv X pins σ H s →
    wpAny (model X.prog X.w) X.A (eval it X.env) (fun v s1 => wpAny (model X.prog X.w) X.A (pyIter v) (PIE X pins σ tg R) X.xe s1) X.xe s
theorem pi_wp {tg it : Expr} : PI X tg it (wpI X tg it) := ⟨fun pins s _ _ _ I h => h pins s I⟩
theorem wpi_of {tg it : Expr} {t : TI} {R : L2.It → Hp → Prop} (p : PI X tg it t) (h : t σc H R) : wpI X tg it σc H R := fun pins s I => p.run pins s σc H R I h
/-- the sources: each value as it was told -/
def RepVs (P : Addr → Prop) (K : PySem.W.Frag) (ca : Nat → Addr) (ρ : L2.St) (H H' : Hp) : List VW → List V → Prop
  | [], vs => vs = []
  | x :: xs, vs => ∃ v r, vs = v :: r ∧ RepV P K ca ρ H H' x.1 x.2 v ∧ RepVs P K ca ρ H H' xs r
theorem repVs1 {ρ : L2.St} {H0 : Hp} {x : VW} {v : V} (r : RepV P X.K ca ρ H0 H x.1 x.2 v) : RepVs P X.K ca ρ H0 H [x] [v] := ⟨v, [], rfl, r, rfl⟩
theorem it_snd {it : Ev.It} (S : SndIt bl Γ it) {g : G} {tg x : Expr} (ht : tgOk it g = true) (hg : ∀ i p, tg = .Name i p → ∃ j, g = .nm j) (htt : (∃ j, g = .nm j) ∨ ∃ es k p, tg = .Tuple es k p) (hc : chki bl X.N sc it x = true) (C : Ctx bl sc X Γ P ca σ σc hid H fp)
    {xs : List D} {ls : List VW} (he : evi Γ it σ = some (.ok (xs, ls))) {R : L2.It → Hp → Prop} (q : ∀ J H' vs, Same H H' → RepVs P X.K ca (σc ++ hid) H H' ls vs → ItOk X.K ca J xs (ls.map (·.1)) vs → R J H') : wpI X tg x σc H R := by
  cases it with
  | e e =>
    unfold evi at he
    obtain ⟨⟨w, k⟩, e1, he⟩ := bind_ok he
    simp only at he
    split at he
    · rename_i ys
      cases ok_inj he
      refine wpi_of (pi_list pe_wp) ?_
      refine S x sc X P ca σ σc hid H fp hc C _ _ e1 _ fun v H1 s1 r1 => ?_
      obtain ⟨a, vs, e2, h5, r3⟩ := repL r1.rep
      subst e2
      exact ⟨a, rfl, ⟨vs, h5.seq⟩, q _ H1 [.ref a] s1 (repVs1 r1) (itl_ok (H := H1))⟩
    · cases he
  | tup e =>
    unfold evi at he
    obtain ⟨⟨w, k⟩, e1, he⟩ := bind_ok he
    simp only at he
    split at he
    · rename_i ys
      cases ok_inj he
      refine wpi_of (pi_tup pe_wp) ?_
      refine S x sc X P ca σ σc hid H fp hc C _ _ e1 _ fun v H1 s1 r1 => ?_
      obtain ⟨a, vs, e2, h5, r3⟩ : ∃ a vs, v = .ref a ∧ SqT X.K H1 a vs ∧ RepDs X.K H1 _ vs := r1.rep
      subst e2
      exact ⟨a, rfl, ⟨vs, h5⟩, q _ H1 [.ref a] s1 (repVs1 r1) itt_ok⟩
    · cases he
  | str e =>
    unfold evi at he
    obtain ⟨⟨w, k⟩, e1, he⟩ := bind_ok he
    simp only at he
    split at he
    · rename_i z
      cases ok_inj he
      refine wpi_of (pi_str pe_wp) ?_
      refine S x sc X P ca σ σc hid H fp hc C _ _ e1 _ fun v H1 s1 r1 => ?_
      have e2 := repS r1.rep
      subst e2
      exact ⟨z, rfl, q _ H1 [] s1 rfl its_ok⟩
    · cases he
  | rng1 a =>
    cases x with
    | Call f l kws pos =>
      cases f with
      | Name f p =>
        match l, kws with
        | [y], [] =>
          have hc' : (decide (f = "range") && glB sc f && bl.contains f && chk bl X.N sc a y) = true := hc
          simp only [Bool.and_eq_true, decide_eq_true_eq] at hc'
          obtain ⟨⟨⟨h1, h2⟩, h3⟩, h4⟩ := hc'
          subst h1
          unfold evi at he
          obtain ⟨⟨w, k⟩, e1, he⟩ := bind_ok he
          simp only at he
          split at he
          · rename_i j
            obtain ⟨⟨c1, c2⟩, he⟩ := guardP_ok he
            cases ok_inj he
            refine wpi_of (pi_range1 (gl_of C.ok.scope h2) (bln_of C.ok.bln h3) (pa_cons pe_wp pa_nil (star_of h4 _ _)) (star_of h4 _ _)) ?_
            refine S y sc X P ca σ σc hid H fp h4 C _ _ e1 _ fun v H1 s1 r1 => ?_
            have e2 := repI r1.rep
            subst e2
            exact ⟨j, rfl, by rw [pow62]; exact c1, by rw [pow62]; exact c2, q _ H1 [] s1 rfl itr_ok⟩
          · cases he
        | [], _ => simp [chki] at hc
        | _ :: _ :: _, _ => simp [chki] at hc
        | [_], _ :: _ => simp [chki] at hc
      | _ => simp [chki] at hc
    | _ => simp [chki] at hc
  | rng2 a b =>
    cases x with
    | Call f l kws pos =>
      cases f with
      | Name f p =>
        match l, kws with
        | [y, z], [] =>
          have hc' : (decide (f = "range") && glB sc f && bl.contains f && chk bl X.N sc a y && chk bl X.N sc b z) = true := hc
          simp only [Bool.and_eq_true, decide_eq_true_eq] at hc'
          obtain ⟨⟨⟨⟨h1, h2⟩, h3⟩, h4⟩, h5⟩ := hc'
          subst h1
          unfold evi at he
          obtain ⟨⟨w, k⟩, e1, he⟩ := bind_ok he
          obtain ⟨⟨w2, k2⟩, e2, he⟩ := bind_ok he
          simp only at he
          split at he
          · rename_i i j
            obtain ⟨⟨c1, c2, c3, c4⟩, he⟩ := guardP_ok he
            cases ok_inj he
            refine wpi_of (pi_range2 (gl_of C.ok.scope h2) (bln_of C.ok.bln h3) (pa_cons pe_wp (pa_cons pe_wp pa_nil (star_of h5 _ _)) (star_of h4 _ _)) (by rw [star_of h4, star_of h5]; rfl) (star_of h5 _ _)) ?_
            refine S.1 y sc X P ca σ σc hid H fp h4 C _ _ e1 _ fun v H1 s1 r1 => ?_
            refine S.2 z sc X P ca σ σc hid H1 fp h5 (C.mono s1) _ _ e2 _ fun v2 H2 s2 r2 => ?_
            have e3 := repI r1.rep
            have e4 := repI r2.rep
            subst e3 e4
            exact ⟨_, _, rfl, by rw [pow62]; exact ⟨c1, c2, c3, c4⟩, q _ H2 [] (s1.trans s2) rfl itr_ok⟩
          · cases he
        | [], _ => simp [chki] at hc
        | [_], _ => simp [chki] at hc
        | _ :: _ :: _ :: _, _ => simp [chki] at hc
        | [_, _], _ :: _ => simp [chki] at hc
      | _ => simp [chki] at hc
    | _ => simp [chki] at hc
  | enum a =>
    cases x with
    | Call f l kws pos =>
      cases f with
      | Name f p =>
        match l, kws with
        | [y], [] =>
          have hc' : (decide (f = "enumerate") && glB sc f && bl.contains f && chk bl X.N sc a y) = true := hc
          simp only [Bool.and_eq_true, decide_eq_true_eq] at hc'
          obtain ⟨⟨⟨h1, h2⟩, h3⟩, h4⟩ := hc'
          subst h1
          unfold evi at he
          obtain ⟨⟨w, k⟩, e1, he⟩ := bind_ok he
          simp only at he
          split at he
          · rename_i ys
            cases ok_inj he
            rcases htt with ⟨j, rfl⟩ | ⟨es, kk, tp, rfl⟩
            · cases ht
            refine wpi_of (pi_enum (gl_of C.ok.scope h2) (bln_of C.ok.bln h3) (pa_cons pe_wp pa_nil (star_of h4 _ _)) (star_of h4 _ _)) ?_
            refine S y sc X P ca σ σc hid H fp h4 C _ _ e1 _ fun v H1 s1 r1 => ?_
            obtain ⟨a, vs, e2, h5, r3⟩ := repL r1.rep
            subst e2
            exact ⟨a, vs, rfl, h5.seq, q _ H1 [.ref a] s1 (repVs1 r1) ite_ok⟩
          · cases he
        | [], _ => simp [chki] at hc
        | _ :: _ :: _, _ => simp [chki] at hc
        | [_], _ :: _ => simp [chki] at hc
      | _ => simp [chki] at hc
    | _ => simp [chki] at hc
end
end Ev
/-! Ev6: targets, comprehensions, the theorem for expressions. -/
namespace Ev
open PySem PySem.Spec
open PyProof.Rows hiding St
open L2

/-! ### slots stored -/
section
variable {P : Addr → Prop} {K : PySem.W.Frag} {ca : Nat → Addr} {σ σ' : List Sl} {ρ : L2.St} {H H' : Hp} {fp : Nat → List Addr}
theorem SRep.put (S : SRep P K ca σ ρ H fp) (i : Nat) (s : Sl) (o : Option V) (f : List Addr) (hi : i < σ.length) (h : SlRep P K ca H s (some o) f) (dj : ∀ j, j ≠ i → ∀ a ∈ f, a ∉ fp j) (nd : f.Nodup) (np : ∀ a ∈ f, ¬ P a) :
    SRep P K ca (σ.set i s) (ρ.set i o) H (fun j => if j = i then f else fp j) := by
  have hr : i < ρ.length := by rw [← S.len]; exact hi
  refine ⟨by simp [S.len], fun j t e => ?_, fun j k hjk a ha => ?_, fun j => ?_, fun j a ha => ?_, fun j hj => ?_, S.pa⟩
  · by_cases hj : j = i
    · subst hj
      rw [List.getElem?_set_self hi] at e
      cases e
      rw [List.getElem?_set_self hr]
      simpa using h
    · rw [List.getElem?_set_ne (Ne.symm hj)] at e
      rw [List.getElem?_set_ne (Ne.symm hj)]
      simpa [hj] using S.sl j t e
  · by_cases hj : j = i
    · have hk : k ≠ i := fun z => hjk (hj.trans z.symm)
      simp only [hj, if_true] at ha
      simp only [hk, if_false]
      exact dj k hk a ha
    · simp only [hj, if_false] at ha
      by_cases hk : k = i
      · simp only [hk, if_true]
        exact fun z => dj j hj a z ha
      · simp only [hk, if_false]
        exact S.dj j k hjk a ha
  · by_cases hj : j = i
    · simp only [hj, if_true]; exact nd
    · simp only [hj, if_false]; exact S.nd j
  · by_cases hj : j = i
    · simp only [hj, if_true] at ha; exact np a ha
    · simp only [hj, if_false] at ha; exact S.np j a ha
  · have hj' : σ.length ≤ j := by simpa using hj
    have : j ≠ i := by omega
    simp only [this, if_false]
    exact S.far j hj'
/-- locked slots stand; no slot comes or goes -/
structure Keep (σ σ' : List Sl) (ρ ρ' : L2.St) : Prop where
  len : σ'.length = σ.length
  lk : ∀ (i : Nat) (w : W), σ[i]? = some (Sl.lk w) → σ'[i]? = some (Sl.lk w) ∧ ρ'[i]? = ρ[i]?
theorem Keep.refl : Keep σ σ ρ ρ := ⟨rfl, fun _ _ h => ⟨h, rfl⟩⟩
theorem Keep.trans {σ1 : List Sl} {ρ1 ρ2 : L2.St} {σ2 : List Sl} (a : Keep σ σ1 ρ ρ1) (b : Keep σ1 σ2 ρ1 ρ2) : Keep σ σ2 ρ ρ2 := ⟨b.len.trans a.len, fun i w h => let ⟨h1, e1⟩ := a.lk i w h; let ⟨h2, e2⟩ := b.lk i w h1; ⟨h2, e2.trans e1⟩⟩
theorem Keep.set {i : Nat} {s : Sl} {o : Option V} (h : ∀ w : W, σ[i]? ≠ some (Sl.lk w)) : Keep σ (σ.set i s) ρ (ρ.set i o) := ⟨by simp, fun j w e => by
  have : i ≠ j := fun z => h w (z ▸ e)
  rw [List.getElem?_set_ne this, List.getElem?_set_ne this]
  exact ⟨e, rfl⟩⟩
theorem Keep.set1 {i : Nat} {s : Sl} (h : ∀ w : W, σ[i]? ≠ some (Sl.lk w)) : Keep σ (σ.set i s) ρ ρ := ⟨by simp, fun j w e => by
  have : i ≠ j := fun z => h w (z ▸ e)
  rw [List.getElem?_set_ne this]
  exact ⟨e, rfl⟩⟩
theorem putS_lt {i : Nat} {s : Sl} (h : putS σ i s = some σ') : i < σ.length ∧ σ' = σ.set i s ∧ (∀ w, σ[i]? ≠ some (.lk w)) := by
  unfold putS at h
  split at h
  · rename_i e; cases h; exact ⟨(List.getElem?_eq_some_iff.mp e).1, rfl, fun w z => by rw [e] at z; cases z⟩
  · rename_i e; cases h; exact ⟨(List.getElem?_eq_some_iff.mp e).1, rfl, fun w z => by rw [e] at z; cases z⟩
  · rename_i e; cases h; exact ⟨(List.getElem?_eq_some_iff.mp e).1, rfl, fun w z => by rw [e] at z; cases z⟩
  · cases h
theorem SRep.putRo (S : SRep P K ca σ ρ H fp) {i : Nat} {w : W} {v : V} (h : putS σ i (.ro w) = some σ') (r : RepW P K ca H w v) : SRep P K ca σ' (ρ.set i (some v)) H (fun j => if j = i then [] else fp j) := by
  obtain ⟨h1, rfl, _⟩ := putS_lt h
  exact S.put i (.ro w) (some v) [] h1 ⟨v, rfl, r, rfl⟩ (fun _ _ a ha => by cases ha) List.nodup_nil (fun a ha => by cases ha)
theorem SRep.putOut (S : SRep P K ca σ ρ H fp) (i : Nat) (o : Option V) (hi : i < σ.length) : SRep P K ca (σ.set i .out) (ρ.set i o) H (fun j => if j = i then [] else fp j) :=
  S.put i .out o [] hi rfl (fun _ _ a ha => by cases ha) List.nodup_nil (fun a ha => by cases ha)
theorem SRep.putOut' (S : SRep P K ca σ ρ H fp) (i : Nat) (o : Option V) : ∃ fp', SRep P K ca (σ.set i .out) (ρ.set i o) H fp' := by
  by_cases hi : i < σ.length
  · exact ⟨_, S.putOut i o hi⟩
  · rw [List.set_eq_of_length_le (by omega), List.set_eq_of_length_le (by rw [← S.len]; omega)]
    exact ⟨fp, S⟩
theorem wipe_len (σ : L2.St) : ∀ vs, (L2.wipe σ vs).length = σ.length := L2.wipe_length σ
theorem SRep.wipe {σc hid : L2.St} (S : SRep P K ca σ (σc ++ hid) H fp) : ∀ (vs : List Nat), (∀ v ∈ vs, v < σc.length) → ∃ fp', SRep P K ca (wipeS σ vs) (L2.wipe σc vs ++ hid) H fp'
  | [], _ => ⟨fp, S⟩
  | v :: vs, hv => by
    obtain ⟨fp', S'⟩ := SRep.wipe S vs fun u hu => hv u (List.mem_cons_of_mem _ hu)
    obtain ⟨fp2, S2⟩ := S'.putOut' v none
    refine ⟨fp2, ?_⟩
    rw [List.set_append_left _ _ (by rw [wipe_len]; exact hv v List.mem_cons_self)] at S2
    exact S2
theorem wipe_get (σ : L2.St) (i : Nat) : ∀ vs : List Nat, (L2.wipe σ vs)[i]? = if i ∈ vs then (σ[i]?).map (fun _ => none) else σ[i]?
  | [] => by simp [L2.wipe]
  | v :: vs => by
    unfold L2.wipe
    rw [List.getElem?_set]
    have ih := wipe_get σ i vs
    by_cases h : v = i
    · subst h
      simp only [if_true, List.mem_cons, true_or]
      rw [wipe_len]
      by_cases hl : v < σ.length
      · simp [hl]
      · simp [hl]
    · simp only [h, if_false, List.mem_cons]
      rw [ih]
      have : (i = v ∨ i ∈ vs) ↔ i ∈ vs := ⟨fun z => z.elim (fun z => absurd z.symm h) id, .inr⟩
      simp only [this]
theorem wipe_set {σ : L2.St} {i : Nat} {x : Option V} {vs : List Nat} (h : i ∈ vs) : L2.wipe (σ.set i x) vs = L2.wipe σ vs := by
  apply List.ext_getElem?
  intro j
  rw [wipe_get, wipe_get, List.getElem?_set]
  by_cases hj : j ∈ vs
  · simp only [hj, if_true]
    by_cases e : i = j
    · subst e
      by_cases hl : i < σ.length <;> simp [hl]
    · simp [e]
  · have : i ≠ j := fun z => hj (z ▸ h)
    simp [hj, this]
theorem wipe_idem {σ : L2.St} {vs : List Nat} : L2.wipe (L2.wipe σ vs) vs = L2.wipe σ vs := by
  apply List.ext_getElem?
  intro j
  rw [wipe_get, wipe_get]
  by_cases hj : j ∈ vs
  · simp only [hj, if_true, Option.map_map]
    rfl
  · simp [hj]
end

/-! ### targets -/
def gsr : List Nat → TGs
  | [] => gNil
  | i :: is => gCons (gName i) (gsr is)
def gr (K : PySem.W.Frag) : G → TG
  | .nm i => gName i
  | .tup is => gTup K is.length (gsr is)
section
variable {bl : List Str} {sc : Scope} {X : Cx} {str : Bool}
theorem nm_name {N : List Str} {i : Nat} {e : Expr} (h : nmOk str N sc i e = true) : ∃ x p, e = .Name x p ∧ N[i]? = some x ∧ (if str then decide (sc.names.lookup x = some .local) else locB sc x) = true := by
  cases e with
  | Name x p =>
    have h' : (decide (N[i]? = some x) && (if str then decide (sc.names.lookup x = some .local) else locB sc x)) = true := h
    rw [Bool.and_eq_true] at h'
    exact ⟨x, p, rfl, of_decide_eq_true h'.1, h'.2⟩
  | _ => simp [nmOk] at h
theorem pg_nm {i : Nat} {e : Expr} (C : Cok bl sc X) (hf : str = false → ∀ x, X.fn x = true) (h : nmOk str X.N sc i e = true) : PG X e (gName i) := by
  obtain ⟨x, p, rfl, h1, h2⟩ := nm_name h
  cases str with
  | true =>
    have h3 : sc.names.lookup x = some .local := by simpa using h2
    rw [← C.scope] at h3
    exact pg_name C.nd h1 (.inl h3) (.inr h3)
  | false => exact pg_name C.nd h1 (loc_of C.scope (by simpa using h2)) (.inl (hf rfl x))
theorem pgs_nms (C : Cok bl sc X) (hf : str = false → ∀ x, X.fn x = true) : ∀ {is : List Nat} {es : List Expr}, nmsOk str X.N sc is es = true → PGs X es (gsr is) ∧ es.length = is.length ∧ assignEach es X.env = es.map fun e => (false, assign e X.env)
  | [], [], _ => ⟨pgs_nil, rfl, rfl⟩
  | [], _ :: _, h => by simp [nmsOk] at h
  | _ :: _, [], h => by simp [nmsOk] at h
  | i :: is, e :: es, h => by
    have h' : nmOk str X.N sc i e = true ∧ nmsOk str X.N sc is es = true := by simpa [nmsOk] using h
    obtain ⟨r1, r2, r3⟩ := pgs_nms C hf h'.2
    have g := pg_nm C hf h'.1
    obtain ⟨x, p, rfl, _⟩ := nm_name h'.1
    exact ⟨pgs_cons g r1 rfl, by simp [r2], by show (false, _) :: assignEach es X.env = _; rw [r3]; rfl⟩
theorem pg_of {g : G} {t : Expr} (C : Cok bl sc X) (hf : str = false → ∀ x, X.fn x = true) (h : chkG str X.N sc g t = true) : PG X t (gr X.K g) := by
  cases g with
  | nm i => exact pg_nm C hf h
  | tup is =>
    cases t with
    | Tuple es k p =>
      obtain ⟨r1, r2, r3⟩ := pgs_nms C hf (show nmsOk str X.N sc is es = true from h)
      refine pg_tup C.calm r1 (by rw [r3, List.length_map, r2]) ?_
      rw [r3]
      rw [List.findIdx?_eq_none_iff]
      simp
    | _ => simp [chkG] at h
theorem gslots_lt {g : G} {t : Expr} {N : List Str} (h : chkG str N sc g t = true) : ∀ i ∈ gSlots g, i < N.length := by
  have key : ∀ {is : List Nat} {es : List Expr}, nmsOk str N sc is es = true → ∀ i ∈ is, i < N.length := by
    intro is
    induction is with
    | nil => intro es _ i hi; cases hi
    | cons j is ih =>
      intro es h i hi
      cases es with
      | nil => simp [nmsOk] at h
      | cons e es =>
        have h' : nmOk str N sc j e = true ∧ nmsOk str N sc is es = true := by simpa [nmsOk] using h
        rcases List.mem_cons.mp hi with rfl | hi
        · obtain ⟨x, p, rfl, h1, _⟩ := nm_name h'.1
          exact (List.getElem?_eq_some_iff.mp h1).1
        · exact ih h'.2 i hi
  cases g with
  | nm j =>
    intro i hi
    have e : i = j := by simpa [gSlots] using hi
    subst e
    obtain ⟨x, p, rfl, h1, _⟩ := nm_name (show nmOk str N sc i t = true from h)
    exact (List.getElem?_eq_some_iff.mp h1).1
  | tup is =>
    cases t with
    | Tuple es k p => exact key (show nmsOk str N sc is es = true from h)
    | _ => simp [chkG] at h
theorem gr_ok {P : Addr → Prop} {ca : Nat → Addr} {K : PySem.W.Frag} {σ σ' : List Sl} {σc hid : L2.St} {H : Hp} {fp : Nat → List Addr} {g : G} {x : D} {v : V} (S : SRep P K ca σ (σc ++ hid) H fp) (hl : ∀ i ∈ gSlots g, i < σc.length) (h : setG g x σ = some σ') (r : RepD K H x v)
    {Q : L2.St → Hp → Prop} (q : ∀ σc' fp', σc'.length = σc.length → (∀ vs, (∀ i ∈ gSlots g, i ∈ vs) → L2.wipe σc' vs = L2.wipe σc vs) → SRep P K ca σ' (σc' ++ hid) H fp' → Keep σ σ' (σc ++ hid) (σc' ++ hid) → Q σc' H) : gr K g v σc H Q := by
  have key : ∀ (is : List Nat) (xs : List D) (vs : List V) (σ : List Sl) (σc : L2.St) (fp : Nat → List Addr), SRep P K ca σ (σc ++ hid) H fp → (∀ i ∈ is, i < σc.length) → setGs is xs σ = some σ' → RepDs K H xs vs → ∀ Q : L2.St → Hp → Prop,
      (∀ σc' fp', σc'.length = σc.length → (∀ vs, (∀ i ∈ is, i ∈ vs) → L2.wipe σc' vs = L2.wipe σc vs) → SRep P K ca σ' (σc' ++ hid) H fp' → Keep σ σ' (σc ++ hid) (σc' ++ hid) → Q σc' H) → gsr is vs σc H Q := by
    intro is
    induction is with
    | nil =>
      intro xs vs σ σc fp S hl h r Q q
      cases xs with
      | nil =>
        unfold RepDs at r
        subst r
        have e : σ = σ' := by simpa [setGs] using h
        subst e
        exact ⟨rfl, q σc fp rfl (fun _ _ => rfl) S .refl⟩
      | cons _ _ => simp [setGs] at h
    | cons i is ih =>
      intro xs vs σ σc fp S hl h r Q q
      cases xs with
      | nil => simp [setGs] at h
      | cons x xs =>
        unfold RepDs at r
        obtain ⟨v, vr, e1, r1, r2⟩ := r
        subst e1
        unfold setGs at h
        cases e2 : putS σ i (.ro (.d x)) with
        | none => rw [e2] at h; cases h
        | some σ2 =>
          rw [e2] at h
          have hi : i < σc.length := hl i List.mem_cons_self
          have S2 := S.putRo (v := v) e2 r1
          rw [List.set_append_left _ _ hi] at S2
          have k1 : Keep σ σ2 (σc ++ hid) (σc.set i (some v) ++ hid) := by
            obtain ⟨_, e3, hk⟩ := putS_lt e2
            have k := Keep.set (σ := σ) (ρ := σc ++ hid) (s := .ro (.d x)) (o := some v) hk
            rw [List.set_append_left _ _ hi] at k
            rw [e3]; exact k
          refine ⟨v, vr, rfl, ?_⟩
          refine ih xs vr σ2 (σc.set i (some v)) _ S2 (fun j hj => by rw [List.length_set]; exact hl j (List.mem_cons_of_mem _ hj)) h r2 Q fun σc' fp' l' w' S' k' => ?_
          exact q σc' fp' (by rw [l', List.length_set]) (fun us hu => by rw [w' us fun j hj => hu j (List.mem_cons_of_mem _ hj), wipe_set (hu i List.mem_cons_self)]) S' (k1.trans k')
  cases g with
  | nm i =>
    have hi : i < σc.length := hl i (by simp [gSlots])
    have S2 := S.putRo (v := v) (show putS σ i (.ro (.d x)) = some σ' from h) r
    rw [List.set_append_left _ _ hi] at S2
    have k1 : Keep σ σ' (σc ++ hid) (σc.set i (some v) ++ hid) := by
      obtain ⟨_, e3, hk⟩ := putS_lt (show putS σ i (.ro (.d x)) = some σ' from h)
      have k := Keep.set (σ := σ) (ρ := σc ++ hid) (s := .ro (.d x)) (o := some v) hk
      rw [List.set_append_left _ _ hi] at k
      rw [e3]; exact k
    exact q _ _ (by rw [List.length_set]) (fun vs hv => wipe_set (hv i (by simp [gSlots]))) S2 k1
  | tup is =>
    cases x with
    | tup xs =>
      obtain ⟨a, vs, e, hq, r2⟩ : ∃ a vs, v = .ref a ∧ SqT K H a vs ∧ RepDs K H xs vs := r
      subst e
      have hlen : xs.length = is.length := by
        have key2 : ∀ (is : List Nat) (xs : List D) (σ : List Sl), setGs is xs σ = some σ' → xs.length = is.length := by
          intro is
          induction is with
          | nil => intro xs σ h; cases xs with
            | nil => rfl
            | cons _ _ => simp [setGs] at h
          | cons i is ih => intro xs σ h; cases xs with
            | nil => simp [setGs] at h
            | cons x xs =>
              unfold setGs at h
              cases e2 : putS σ i (.ro (.d x)) with
              | none => rw [e2] at h; cases h
              | some σ2 => rw [e2] at h; simp [ih xs σ2 h]
        exact key2 is xs σ h
      exact ⟨a, vs, rfl, hq, by rw [r2.length, hlen], key is xs vs σ σc fp S hl h r2 Q q⟩
    | _ => cases h
/-! ### comprehensions -/
section
variable {Γ : Gam} {P : Addr → Prop} {ca : Nat → Addr} {σ : List Sl} {σc hid : L2.St} {H : Hp} {fp : Nat → List Addr}
theorem Cok.blk (C : Cok bl sc X) (s0 : Shared) (H0 : Hp) (scope : Scope) (cl : List (Str × Addr)) (A : Addr) (fps : List Addr) (hk : scope.kind = .function) : Cok bl (relS scope sc) (X.blk s0 H0 scope (compEnvC scope cl A X.env) fps) := by
  refine ⟨?_, C.nd, C.calm, C.un, C.bln, ?_⟩
  · show relS scope X.env.scope = relS scope sc
    rw [C.scope]
  · show (relS scope X.env.scope).kind = .function
    exact hk
/-- an expression in a comprehension's block -/
def wpB (X : Cx) (scope : Scope) (e : Expr) : TE := fun σ H Q => ∀ (s0 : Shared) (H0 : Hp) (A : Addr) (cl : List (Str × Addr)) (fps : List Addr), wpE (X.blk s0 H0 scope (compEnvC scope cl A X.env) fps) e σ H Q
def wpBt (X : Cx) (scope : Scope) : List Expr → TT
  | [] => tYes
  | e :: _ => fun σ H Q => ∀ (s0 : Shared) (H0 : Hp) (A : Addr) (cl : List (Str × Addr)) (fps : List Addr), wpT (X.blk s0 H0 scope (compEnvC scope cl A X.env) fps) e σ H Q
theorem lc_core {own : List (Str × Nat)} {g : G} {it : Ev.It} {cs : Eo} {e : E} (Si : SndIt bl Γ it) (Sc : ∀ c, cs = .some c → tstOk c = true → SndT bl Γ c) (S : SndE bl Γ e)
    {elt : Expr} {gens : List Comprehension} {scope : Scope} {pos : Pos} (hc : chk bl X.N sc (.lc own g it cs e) (.ListComp elt gens scope pos) = true) (C : Ctx bl sc X Γ P ca σ σc hid H fp) {w : W} {k : Kd} (he : ev Γ (.lc own g it cs e) σ = some (.ok (w, k))) :
    ∃ tg iter ifs, gens = [⟨tg, iter, ifs, 0⟩] ∧ BlkOk X.N X.env.scope scope own ∧
      (∀ (s : Shared) (H : Hp) (C : Addr) (cl : List (Str × Addr)) (fp : List Addr), PG (X.blk s H scope (compEnvC scope cl C X.env) fp) tg (gr X.K g)) ∧
      (∀ (s : Shared) (H : Hp) (C : Addr) (cl : List (Str × Addr)) (fp : List Addr), PTs (X.blk s H scope (compEnvC scope cl C X.env) fp) ifs (wpBt X scope ifs)) ∧
      (∀ (s : Shared) (H : Hp) (C : Addr) (cl : List (Str × Addr)) (fp : List Addr), PE (X.blk s H scope (compEnvC scope cl C X.env) fp) elt (wpB X scope elt)) ∧
      (∀ x, foldedSetIterable iter X.env x = pure x) ∧
      ∀ Q : VK, (∀ v H', Same H H' → RepV P X.K ca (σc ++ hid) H H' w k v → Q v H') → tLc (wpI X tg iter) (gr X.K g) (wpBt X scope ifs) (wpB X scope elt) (own.map (·.2)) σc H Q := by
  have hc0 : (match oneGen gens with
    | some (tg, iter, ifs) => chki bl X.N sc it iter && tgOk it g && blkC X.N sc scope own && chkG true X.N (relS scope sc) g tg && (gSlots g).all (fun i => (own.map (·.2)).contains i) &&
        (own.map (·.2)).all (fun i => decide (i < X.N.length)) && chk bl X.N (relS scope sc) e elt && chkc bl X.N (relS scope sc) cs ifs
    | none => false) = true := hc
  cases eg : oneGen gens with
  | none => rw [eg] at hc0; cases hc0
  | some p =>
    obtain ⟨tg, iter, ifs⟩ := p
    rw [eg] at hc0
    simp only [Bool.and_eq_true] at hc0
    obtain ⟨⟨⟨⟨⟨⟨⟨h1, h2⟩, h3⟩, h4⟩, h5⟩, h6⟩, h7⟩, h8⟩ := hc0
    have hgens : gens = [⟨tg, iter, ifs, 0⟩] := by
      unfold oneGen at eg
      split at eg
      · split at eg
        · rename_i ea
          cases eg
          rw [ea]
        · cases eg
      · cases eg
    subst hgens
    have ok := blkOk_by h3
    unfold ev at he
    obtain ⟨⟨xs, ls⟩, e1, he⟩ := bind_ok he
    obtain ⟨hz, he⟩ := guardN_ok he
    simp only at hz
    obtain ⟨ys, e2, he⟩ := bind_ok he
    cases ok_inj he
    have okB : BlkOk X.N X.env.scope scope own := by rw [C.ok.scope]; exact ok
    -- the parts' readings
    have hl : ∀ i ∈ gSlots g, i < σc.length := fun i hi => by rw [C.ln]; exact gslots_lt h4 i hi
    have hown : ∀ v ∈ own.map (·.2), v < σc.length := fun v hv => by
      rw [C.ln]
      have := List.all_eq_true.mp h6 v hv
      exact of_decide_eq_true this
    have hin : ∀ i ∈ gSlots g, i ∈ own.map (·.2) := fun i hi => by
      have := List.all_eq_true.mp h5 i hi
      simpa using this
    refine ⟨tg, iter, ifs, rfl, okB, fun s0 H0 A cl fps => pg_of (C.ok.blk s0 H0 scope cl A fps ok.kind) (fun z => by cases z) h4, fun s0 H0 A cl fps => ?_, fun s0 H0 A cl fps => ⟨fun pins s σ H Q I h => h s0 H0 A cl fps pins s I⟩, fun x => fold_of h1 _ x, fun Q q => ?_⟩
    · cases ifs with
      | nil => exact pts_nil
      | cons c r =>
        cases r with
        | nil => exact pts_one ⟨fun pins s σ H Q I h => h s0 H0 A cl fps pins s I⟩
        | cons _ _ => cases cs <;> simp [chkc] at h8
    have htt : (∃ j, g = .nm j) ∨ ∃ es k p, tg = .Tuple es k p := by
      cases g with
      | nm j => exact .inl ⟨j, rfl⟩
      | tup is => cases tg with
        | Tuple es k p => exact .inr ⟨es, k, p, rfl⟩
        | _ => simp [chkG] at h4
    refine it_snd Si (tg := tg) h2 (fun i p z => by subst z; cases g with | nm j => exact ⟨j, rfl⟩ | tup is => simp [chkG] at h4) htt h1 C e1 fun J H1 vs s1 rv hJ => fun D hD => ?_
    -- the sources stand
    have src : ∀ H2, Same H1 H2 → RepWs X.K ca H2 (ls.map (·.1)) vs := fun H2 s2 => by
      have key : ∀ (ls : List VW) (vs : List V), RepVs P X.K ca (σc ++ hid) H H1 ls vs → RepWs X.K ca H2 (ls.map (·.1)) vs := by
        intro ls
        induction ls with
        | nil => intro vs h; exact h
        | cons l ls ih =>
          intro vs h
          obtain ⟨v, r, e, h1, h2⟩ := h
          exact ⟨v, r, e, h1.rep.mono (.of_same s2) (fun _ p => p), ih r h2⟩
      exact key ls vs rv
    obtain ⟨fpw, Sw⟩ := C.sr.wipe (own.map (·.2)) hown
    refine ⟨fun i m H2 => ∃ acc accv rest, m = xs.length - i ∧ i ≤ xs.length ∧ Same H1 H2 ∧ H2 D = some (.lst accv) ∧ RepDs X.K H2 acc accv ∧ acc.length ≤ i ∧
        lcRun (fun x => setG g x (wipeS σ (own.map (·.2)))) (evc Γ cs) (ev Γ e) (xs.drop i) = some (.ok rest) ∧ ys = acc ++ rest,
      ⟨xs.length, [], [], ys, by simp, Nat.zero_le _, Same.upd hD, upd_same, .nil, Nat.zero_le _, e2, rfl⟩, ?_⟩
    rintro i m H2 ⟨acc, accv, rest, rfl, hi, s2, hD2, racc, hacc, hrun, hys⟩
    obtain ⟨hgo, hstop⟩ := hJ H2 (src H2 s2)
    by_cases hlt : i < xs.length
    · have hx : xs[i]? = some xs[i] := List.getElem?_eq_getElem hlt
      obtain ⟨go, yld⟩ := hgo i _ hx
      refine .inr ⟨go, fun H3 => ∃ acc accv rest, Same H1 H3 ∧ H3 D = some (.lst accv) ∧ RepDs X.K H3 acc accv ∧ acc.length ≤ i + 1 ∧
        lcRun (fun x => setG g x (wipeS σ (own.map (·.2)))) (evc Γ cs) (ev Γ e) (xs.drop (i + 1)) = some (.ok rest) ∧ ys = acc ++ rest, ?_, ?_⟩
      · rintro H3 ⟨acc', accv', rest', a1, a2, a3, a4, a5, a6⟩
        exact ⟨xs.length - (i + 1), by omega, acc', accv', rest', rfl, hlt, a1, a2, a3, a4, a5, a6⟩
      · intro v H3 hy
        obtain ⟨s3, rx⟩ := yld v H3 hy
        rw [List.drop_eq_getElem_cons hlt] at hrun
        unfold lcRun at hrun
        cases eb : setG g xs[i] (wipeS σ (own.map (·.2))) with
        | none => rw [eb] at hrun; cases hrun
        | some σ2 =>
          rw [eb] at hrun
          simp only at hrun
          obtain ⟨bt, et, hrun⟩ := bind_ok hrun
          have s03 : Same H H3 := (s1.trans s2).trans s3
          refine gr_ok (Sw.mono s03) (fun i hi => by rw [wipe_len]; exact hl i hi) eb rx fun σc2 fp2 l2 w2 S2 _ => ?_
          have l2' : σc2.length = X.N.length := by rw [l2, wipe_len, C.ln]
          refine ⟨by rw [w2 _ hin, wipe_idem], ?_⟩
          have hD3 : H3 D = some (.lst accv) := s3 _ _ hD2
          -- the element, the list grown
          have elt_go : ∀ H4, Same H3 H4 → bt = true → wpB X scope elt σc2 H4 fun y H5 => ∃ acc', H5 D = some (.lst acc') ∧ acc'.length < sizeLine ∧
              (∃ acc accv rest, Same H1 (upd H5 D (.lst (acc' ++ [y]))) ∧ (upd H5 D (.lst (acc' ++ [y]))) D = some (.lst accv) ∧ RepDs X.K (upd H5 D (.lst (acc' ++ [y]))) acc accv ∧ acc.length ≤ i + 1 ∧
                lcRun (fun x => setG g x (wipeS σ (own.map (·.2)))) (evc Γ cs) (ev Γ e) (xs.drop (i + 1)) = some (.ok rest) ∧ ys = acc ++ rest) := fun H4 s4 hb => by
            subst hb
            simp only [if_true] at hrun
            obtain ⟨⟨wy, ky⟩, ey, hrun⟩ := bind_ok hrun
            simp only at hrun
            split at hrun
            · rename_i y
              obtain ⟨zs, ez, hrun⟩ := bind_ok hrun
              cases ok_inj hrun
              intro s0 H0 A cl fps
              refine S elt (relS scope sc) (X.blk s0 H0 scope (compEnvC scope cl A X.env) fps) P ca σ2 σc2 hid H4 fp2 h7 ⟨C.ok.blk s0 H0 scope cl A fps ok.kind, C.fns, S2.mono s4, l2'⟩ _ _ ey _ fun vy H5 s5 ry => ?_
              have s35 := s4.trans s5
              have hD5 : H5 D = some (.lst accv) := s35 _ _ hD3
              have nt : Same H1 (upd H5 D (.lst (accv ++ [vy]))) := fun b o z => by
                rw [upd_ne (ne_of_none z hD)]
                exact s35 _ _ (s3 _ _ (s2 _ _ z))
              have tk5 : TK X.K H5 (upd H5 D (.lst (accv ++ [vy]))) := fun b us z => by
                rcases z with (z | ⟨o, z⟩) | z
                · refine .inl (.inl ?_)
                  rw [upd_ne (ne_of z hD5 (by simp))]
                  exact z
                · refine .inl (.inr ⟨o, ?_⟩)
                  rw [upd_ne (ne_of z hD5 (by simp))]
                  exact z
                · exact .inr z
              have ryD : RepD X.K H5 y vy := ry.rep
              refine ⟨accv, hD5, ?_, acc ++ [y], accv ++ [vy], zs, nt, upd_same, ?_, by simp; omega, ez, by rw [hys]; simp⟩
              · rw [racc.length]; omega
              · exact ((racc.mono (.of_same (s3.trans s35))).app (.cons ryD .nil)).mono tk5
            · cases hrun
          have skip : ∀ H4, Same H3 H4 → bt = false → ∃ acc accv rest, Same H1 H4 ∧ H4 D = some (.lst accv) ∧ RepDs X.K H4 acc accv ∧ acc.length ≤ i + 1 ∧
              lcRun (fun x => setG g x (wipeS σ (own.map (·.2)))) (evc Γ cs) (ev Γ e) (xs.drop (i + 1)) = some (.ok rest) ∧ ys = acc ++ rest := fun H4 s4 hb => by
            subst hb
            simp only [Bool.false_eq_true, if_false] at hrun
            exact ⟨acc, accv, rest, (s2.trans s3).trans s4, s4 _ _ hD3, racc.mono (.of_same (s3.trans s4)), by omega, hrun, hys⟩
          cases ifs with
          | nil =>
            have hcs : cs = .none := by cases cs <;> simp_all [chkc]
            subst hcs
            unfold evc at et
            cases ok_inj et
            simp only [wpBt, tYes, if_true]
            exact elt_go H3 (fun _ _ z => z) rfl
          | cons c r =>
            cases r with
            | cons _ _ => cases cs <;> simp [chkc] at h8
            | nil =>
              cases cs with
              | none => simp [chkc] at h8
              | some ce =>
                have h8' : tstOk ce = true ∧ chk bl X.N (relS scope sc) ce c = true := by simpa [chkc] using h8
                unfold evc at et
                obtain ⟨⟨wc, kc⟩, ec, et⟩ := bind_ok et
                intro s0 H0 A cl fps
                refine Sc ce rfl h8'.1 c (relS scope sc) (X.blk s0 H0 scope (compEnvC scope cl A X.env) fps) P ca σ2 σc2 hid H3 fp2 h8'.2 ⟨C.ok.blk s0 H0 scope cl A fps ok.kind, C.fns, S2, l2'⟩ wc kc bt ec et _ fun H4 s4 => ?_
                cases bt with
                | true => rw [if_pos rfl]; exact elt_go H4 s4 rfl
                | false => rw [if_neg Bool.false_ne_true]; exact skip H4 s4 rfl
    · have e : i = xs.length := by omega
      subst e
      refine .inl ⟨hstop, ?_⟩
      rw [List.drop_length] at hrun
      unfold lcRun at hrun
      cases ok_inj hrun
      rw [List.append_nil] at hys
      subst hys
      have hs := s1.trans s2
      have hDH : H D = none := s1.free hD
      exact q (.ref D) H2 hs ⟨⟨D, accv, rfl, .inl ⟨trivial, .inl hD2⟩, racc⟩, [D], ⟨D, accv, rfl, hD2, racc, rfl⟩, fun a ha => by
        have e : a = D := by simpa using ha
        subst e
        exact hDH, by simp⟩

theorem lc_snd {own : List (Str × Nat)} {g : G} {it : Ev.It} {cs : Eo} {e : E} (Si : SndIt bl Γ it) (Sc : ∀ c, cs = .some c → tstOk c = true → SndT bl Γ c) (S : SndE bl Γ e) : SndE bl Γ (.lc own g it cs e) := by
  intro x sc X P ca σ σc hid H fp hc C w k he Q q
  cases x with
  | ListComp elt gens scope pos =>
    obtain ⟨tg, iter, ifs, rfl, okB, hg, ht, hel, hs, hq⟩ := lc_core Si Sc S hc C he
    exact wp_of (pe_lc C.ok.calm C.ok.nd pi_wp okB hg ht hel hs) (hq Q q)
  | _ => simp [chk] at hc
end
end
/-! ### the theorem -/
section
variable {bl : List Str} {Γ : Gam}
mutual
theorem sndE : ∀ e : E, SndE bl Γ e
  | .var i => var_ok i
  | .non => fun x sc X P ca σ σc hid H fp hc C w k he Q q => by
      cases x with
      | Constant c j p => cases c with
        | none => exact const_ok (d := .non) pe_non (fun _ => rfl) he q
        | _ => simp [chk] at hc
      | _ => simp [chk] at hc
  | .bl b => fun x sc X P ca σ σc hid H fp hc C w k he Q q => by
      cases x with
      | Constant c j p => cases c with
        | bool b' =>
          have e : b = b' := by simpa [chk] using hc
          subst e
          exact const_ok (d := .bl b) pe_bl (fun _ => rfl) he q
        | _ => simp [chk] at hc
      | _ => simp [chk] at hc
  | .int i => fun x sc X P ca σ σc hid H fp hc C w k he Q q => by
      cases x with
      | Constant c j p => cases c with
        | int b' =>
          have e : i = b' := by simpa [chk] using hc
          subst e
          exact const_ok (d := .int i) pe_int (fun _ => rfl) he q
        | _ => simp [chk] at hc
      | _ => simp [chk] at hc
  | .str z => fun x sc X P ca σ σc hid H fp hc C w k he Q q => by
      cases x with
      | Constant c j p => cases c with
        | str b' =>
          have e : z = b' := by simpa [chk] using hc
          subst e
          exact const_ok (d := .str z) pe_str (fun _ => rfl) he q
        | _ => simp [chk] at hc
      | _ => simp [chk] at hc
  | .tup es => tup_snd (sndEs es)
  | .lst es => lst_snd (sndEs es)
  | .bin _ a b => bin_snd (sndE a) (sndE b)
  | .neg a => neg_snd (sndE a)
  | .cmp _ a b => cmp_snd (sndE a) (sndE b)
  | .cmp2 _ _ a b c => cmp2_snd (sndE a) (sndE b) (sndE c)
  | .cmp3 _ _ _ a b c d => cmp3_snd (sndE a) (sndE b) (sndE c) (sndE d)
  | .and a b => and_snd (sndE a) (sndE b)
  | .or a b => or_snd (sndE a) (sndE b)
  | .not a => not_snd (sndE a)
  | .ife c a b => ife_snd (sndT c) (sndE a) (sndE b)
  | .ix a b => ix_snd (sndE a) (sndE b)
  | .sl a lo hi => sl_snd (sndE a) (sndEo lo) (sndEo hi)
  | .call _ es => call_snd (sndEs es)
  | .blt _ es => blt_snd (sndEs es)
  | .isi e _ => isi_snd (sndE e)
  | .join z e => join_snd (sndE z) (sndE e)
  | .lc _ _ it cs e => lc_snd (sndIt it) (sndC cs) (sndE e)
theorem sndEs : ∀ es : Es, SndEs bl Γ es
  | .nil => nil_snd
  | .cons e es => cons_snd (sndE e) (sndEs es)
theorem sndEo : ∀ e : Eo, SndEo bl Γ e
  | .none => trivial
  | .some e => sndE e
theorem sndC : ∀ (cs : Eo) (c : E), cs = .some c → tstOk c = true → SndT bl Γ c
  | .none, _, h, _ => by cases h
  | .some e, c, h, t => by cases h; exact sndT e t
theorem sndIt : ∀ it : Ev.It, SndIt bl Γ it
  | .e e => sndE e
  | .tup e => sndE e
  | .str e => sndE e
  | .enum e => sndE e
  | .rng1 a => sndE a
  | .rng2 a b => ⟨sndE a, sndE b⟩
theorem sndT : ∀ e : E, tstOk e = true → SndT bl Γ e
  | .not a, h => not_t (sndT a h)
  | .and a b, h => and_t (sndT a (Bool.and_eq_true_iff.mp h).1) (sndT b (Bool.and_eq_true_iff.mp h).2)
  | .or a b, h => or_t (sndT a (Bool.and_eq_true_iff.mp h).1) (sndT b (Bool.and_eq_true_iff.mp h).2)
  | .cmp _ a b, _ => cmp_t (sndE a) (sndE b)
  | .cmp2 _ _ a b c, _ => cmp2_t (sndE a) (sndE b) (sndE c)
  | .cmp3 _ _ _ a b c d, _ => cmp3_t (sndE a) (sndE b) (sndE c) (sndE d)
  | .ife _ _ _, h => by cases h
  | .var i, _ => plain_t (var_ok i) (by simp) (by simp) (by simp) (by simp) (by simp) (by simp) (by simp)
  | .ix a b, _ => plain_t (ix_snd (sndE a) (sndE b)) (by simp) (by simp) (by simp) (by simp) (by simp) (by simp) (by simp)
  | .call _ es, _ => plain_t (call_snd (sndEs es)) (by simp) (by simp) (by simp) (by simp) (by simp) (by simp) (by simp)
  | .blt _ es, _ => plain_t (blt_snd (sndEs es)) (by simp) (by simp) (by simp) (by simp) (by simp) (by simp) (by simp)
  | .isi e _, _ => plain_t (isi_snd (sndE e)) (by simp) (by simp) (by simp) (by simp) (by simp) (by simp) (by simp)
  | .bin _ a b, _ => plain_t (bin_snd (sndE a) (sndE b)) (by simp) (by simp) (by simp) (by simp) (by simp) (by simp) (by simp)
  | .sl a lo hi, _ => plain_t (sl_snd (sndE a) (sndEo lo) (sndEo hi)) (by simp) (by simp) (by simp) (by simp) (by simp) (by simp) (by simp)
  | .lc _ _ it cs e, _ => plain_t (lc_snd (sndIt it) (sndC cs) (sndE e)) (by simp) (by simp) (by simp) (by simp) (by simp) (by simp) (by simp)
  | .non, h => by cases h
  | .bl _, h => by cases h
  | .int _, h => by cases h
  | .str _, h => by cases h
  | .tup _, h => by cases h
  | .lst _, h => by cases h
  | .neg _, h => by cases h
  | .join _ _, h => by cases h
end
end
end Ev
/-! Ev7: statements. -/
namespace Ev
open PySem PySem.Spec
open PyProof.Rows hiding St
open L2

section
variable {P : Addr → Prop} {K : PySem.W.Frag} {ca : Nat → Addr} {σ σ1 σ' : List Sl} {ρ : L2.St} {H H' : Hp} {fp : Nat → List Addr}
theorem OwnC.alive : ∀ {x : C} {v : V} {fp : List Addr}, OwnC K H x v fp → ∀ a ∈ fp, ∃ o, H a = some o
  | .d x, v, fp, ⟨_, e⟩, a, ha => by subst e; cases ha
  | .lst xs, v, fp, ⟨b, vs, _, h, _, e⟩, a, ha => by subst e; have : a = b := by simpa using ha
                                                     subst this; exact ⟨_, h⟩
  | .dK xs, v, fp, ⟨b, vs, _, h, _, _, e⟩, a, ha => by subst e; have : a = b := by simpa using ha
                                                       subst this; exact ⟨_, h⟩
  | .dT xs, v, fp, ⟨b, vs, _, h, _, _, e⟩, a, ha => by subst e; have : a = b := by simpa using ha
                                                       subst this; exact ⟨_, h⟩
theorem OwnFs.alive {fs' : List (Str × V)} : ∀ {fs : List (Str × C)} {fp : List Addr}, OwnFs K H fs' fs fp → ∀ a ∈ fp, ∃ o, H a = some o
  | [], _, h, a, ha => by
    have : _ = [] := h
    subst this; cases ha
  | (f, x) :: r, fp, ⟨v, fp1, fp2, l, h1, h2, e⟩, a, ha => by
    subst e
    rcases List.mem_append.mp ha with z | z
    · exact h1.alive a z
    · exact OwnFs.alive h2 a z
theorem OwnW.alive : ∀ {x : W} {v : V} {fp : List Addr}, OwnW K ca H x v fp → ∀ a ∈ fp, ∃ o, H a = some o
  | .c x, _, _, h, a, ha => OwnC.alive h a ha
  | .obj c fs, v, fp, ⟨b, dx, fs', fp', e, h, q, _, _, ef⟩, a, ha => by
    subst ef
    rcases List.mem_cons.mp ha with z | z
    · subst z; exact ⟨_, h⟩
    · exact q.alive a z
theorem SRep.alive (S : SRep P K ca σ ρ H fp) (j : Nat) : ∀ a ∈ fp j, ∃ o, H a = some o := fun a ha => by
  cases e : σ[j]? with
  | none =>
    have : fp j = [] := S.far j (by simpa using e)
    rw [this] at ha; cases ha
  | some s =>
    have h := S.sl j s e
    cases s with
    | own w => obtain ⟨v, _, q⟩ := h; exact q.alive a ha
    | lk w => obtain ⟨v, _, q⟩ := h; exact q.alive a ha
    | ro w => obtain ⟨v, _, _, z⟩ := h; rw [z] at ha; cases ha
    | out => rw [show fp j = [] from h] at ha; cases ha
/-- the heap is changed at one owned place -/
theorem fut_upd {a : Addr} {o o' : HO} (hP : ¬ P a) (e : H a = some o) (ht : ∀ xs, o ≠ .tup xs) (hf : ∀ ob u, o ≠ .frz ob u) : Fut P K H (upd H a o') := by
  refine ⟨fun b xs z => ?_, fun b u p z => ?_⟩
  · rcases z with (z | ⟨ob, z⟩) | z
    · refine .inl (.inl ?_)
      rw [upd_ne (ne_of z e (fun q => ht xs q.symm))]
      exact z
    · refine .inl (.inr ⟨ob, ?_⟩)
      rw [upd_ne (ne_of z e (fun q => hf ob _ q.symm))]
      exact z
    · exact .inr z
  · have : b ≠ a := fun q => hP (q ▸ p)
    rw [upd_ne this]
    exact z
/-- a slot's object is changed in place -/
theorem SRep.mut (S : SRep P K ca σ ρ H fp) {i : Nat} {w : W} {a : Addr} {w' : W} {o' : HO} (e : σ[i]? = some (Sl.own w)) (ha : a ∈ fp i) (f : Fut P K H (upd H a o')) (h : ∃ v, ρ[i]? = some (some v) ∧ OwnW K ca (upd H a o') w' v (fp i)) :
    SRep P K ca (σ.set i (.own w')) ρ (upd H a o') fp := by
  have hi : i < σ.length := (List.getElem?_eq_some_iff.mp e).1
  refine ⟨by rw [List.length_set]; exact S.len, fun j t q => ?_, S.dj, S.nd, S.np, fun j hj => S.far j (by simpa using hj), fun b p => ?_⟩
  · by_cases hj : j = i
    · subst hj
      rw [List.getElem?_set_self hi] at q
      cases q
      exact h
    · rw [List.getElem?_set_ne (Ne.symm hj)] at q
      have r := S.sl j t q
      have st : ∀ b ∈ fp j, ∀ u, H b = some u → (upd H a o') b = some u := fun b hb u z => by
        have : b ≠ a := fun y => S.dj j i hj b hb (y ▸ ha)
        rw [upd_ne this]; exact z
      cases t with
      | own w => obtain ⟨v, e1, r⟩ := r; exact ⟨v, e1, r.stay f.tk st⟩
      | lk w => obtain ⟨v, e1, r⟩ := r; exact ⟨v, e1, r.stay f.tk st⟩
      | ro w => obtain ⟨v, e1, r, z⟩ := r; exact ⟨v, e1, r.mono f fun _ p => p, z⟩
      | out => exact r
  · obtain ⟨o, z⟩ := S.pa b p
    exact ⟨o, f.at_ b o p z⟩
/-- own and locked are laid alike -/
theorem SRep.relock (S : SRep P K ca σ ρ H fp) {i : Nat} {s s' : Sl} {w : W} (e : σ[i]? = some s) (h : (s = .own w ∧ s' = .lk w) ∨ (s = .lk w ∧ s' = .own w)) : SRep P K ca (σ.set i s') ρ H fp := by
  have hi : i < σ.length := (List.getElem?_eq_some_iff.mp e).1
  refine ⟨by rw [List.length_set]; exact S.len, fun j t q => ?_, S.dj, S.nd, S.np, fun j hj => S.far j (by simpa using hj), S.pa⟩
  by_cases hj : j = i
  · subst hj
    rw [List.getElem?_set_self hi] at q
    cases q
    have r := S.sl j s e
    rcases h with ⟨rfl, rfl⟩ | ⟨rfl, rfl⟩ <;> exact r
  · rw [List.getElem?_set_ne (Ne.symm hj)] at q
    exact S.sl j t q
theorem SRep.push (S : SRep P K ca σ ρ H fp) {w : W} {v : V} {f : List Addr} (o : OwnW K ca H w v f) (n : f.Nodup) (dj : ∀ j, ∀ a ∈ f, a ∉ fp j) (np : ∀ a ∈ f, ¬ P a) : SRep P K ca (σ ++ [.lk w]) (ρ ++ [some v]) H (fun j => if j = σ.length then f else fp j) := by
  have hf : fp σ.length = [] := S.far _ (Nat.le_refl _)
  refine ⟨by simp [S.len], fun j t q => ?_, fun j k hjk a ha => ?_, fun j => ?_, fun j a ha => ?_, fun j hj => ?_, S.pa⟩
  · by_cases hj : j < σ.length
    · rw [List.getElem?_append_left hj] at q
      rw [List.getElem?_append_left (by rw [← S.len]; exact hj)]
      have : j ≠ σ.length := by omega
      simp only [this, if_false]
      exact S.sl j t q
    · have : j = σ.length := by
        have := (List.getElem?_eq_some_iff.mp q).1
        simp at this
        omega
      subst this
      rw [List.getElem?_append_right (Nat.le_refl _)] at q
      simp at q
      subst q
      simp only [if_true]
      rw [List.getElem?_append_right (by rw [S.len]; exact Nat.le_refl _)]
      exact ⟨v, by simp [S.len], o⟩
  · by_cases hj : j = σ.length
    · simp only [hj, if_true] at ha
      have : k ≠ σ.length := fun z => hjk (hj.trans z.symm)
      simp only [this, if_false]
      exact dj k a ha
    · simp only [hj, if_false] at ha
      by_cases hk : k = σ.length
      · simp only [hk, if_true]
        exact fun z => dj j a z ha
      · simp only [hk, if_false]
        exact S.dj j k hjk a ha
  · by_cases hj : j = σ.length
    · simp only [hj, if_true]; exact n
    · simp only [hj, if_false]; exact S.nd j
  · by_cases hj : j = σ.length
    · simp only [hj, if_true] at ha; exact np a ha
    · simp only [hj, if_false] at ha; exact S.np j a ha
  · have hj' : σ.length + 1 ≤ j := by simpa using hj
    have : j ≠ σ.length := by omega
    simp only [this, if_false]
    exact S.far j (by omega)
theorem SRep.pop {n : Nat} {o : Option V} (S : SRep P K ca σ (ρ ++ [o]) H fp) (hn : ρ.length = n) : SRep P K ca (σ.take n) ρ H (fun j => if j < n then fp j else []) := by
  have hl : σ.length = n + 1 := by rw [S.len]; simp [hn]
  refine ⟨by rw [List.length_take, hl, hn]; omega, fun j t q => ?_, fun j k hjk a ha => ?_, fun j => ?_, fun j a ha => ?_, fun j hj => ?_, S.pa⟩
  · have hj : j < n := by
      have := (List.getElem?_eq_some_iff.mp q).1
      simp at this
      omega
    rw [List.getElem?_take_of_lt hj] at q
    have r := S.sl j t q
    rw [List.getElem?_append_left (by omega)] at r
    simp only [hj, if_true]
    exact r
  · by_cases hj : j < n
    · simp only [hj, if_true] at ha
      by_cases hk : k < n
      · simp only [hk, if_true]; exact S.dj j k hjk a ha
      · simp [hk]
    · simp [hj] at ha
  · by_cases hj : j < n
    · simp only [hj, if_true]; exact S.nd j
    · simp [hj]
  · by_cases hj : j < n
    · simp only [hj, if_true] at ha; exact S.np j a ha
    · simp [hj] at ha
  · have hj' : n ≤ j := by
      rw [List.length_take, hl] at hj
      omega
    have : ¬ j < n := by omega
    simp [this]
end
end Ev
/-! Ev8: the theorem for statements. -/
namespace Ev
open PySem PySem.Spec
open PyProof.Rows hiding St
open L2

/-- what a statement's context must bear besides -/
structure Sok (X : Cx) : Prop where
  fn : ∀ x, X.fn x = true
  own : PassesOwn (model X.prog X.w) X.A X.env X.xe
/-- what must follow a statement that comes to σ' -/
def Nxt (P : Addr → Prop) (K : PySem.W.Frag) (ca : Nat → Addr) (σ : List Sl) (σc hid : L2.St) (H : Hp) (σ' : List Sl) (Q : L2.St → Hp → Prop) : Prop :=
  ∀ σc' H' fp', σc'.length = σc.length → Fut P K H H' → Keep σ σ' (σc ++ hid) (σc' ++ hid) → SRep P K ca σ' (σc' ++ hid) H' fp' → Q σc' H'
def Rtn (P : Addr → Prop) (K : PySem.W.Frag) (ca : Nat → Addr) (σ : List Sl) (σc hid : L2.St) (H : Hp) (w : W) (σ' : List Sl) (Q : VK) : Prop :=
  ∀ v σc' H' fp' f, σc'.length = σc.length → Fut P K H H' → Keep σ σ' (σc ++ hid) (σc' ++ hid) → SRep P K ca σ' (σc' ++ hid) H' fp' → OwnW K ca H' w v f → f.Nodup → (∀ a ∈ f, ¬ P a) → (∀ j, ∀ a ∈ f, a ∉ fp' j) → Q v H'
def PostS (P : Addr → Prop) (K : PySem.W.Frag) (ca : Nat → Addr) (σ : List Sl) (σc hid : L2.St) (H : Hp) (D : Ends) : Out → Prop
  | .nx σ' => Nxt P K ca σ σc hid H σ' D.nx
  | .brk σ' => Nxt P K ca σ σc hid H σ' D.bk
  | .cnt σ' => Nxt P K ca σ σc hid H σ' D.ct
  | .ret w σ' => Rtn P K ca σ σc hid H w σ' D.rt
def SndS (bl : List Str) (Γ : Gam) (t : T) : Prop := ∀ (st : Stmt) (sc : Scope) (X : Cx) (P : Addr → Prop) (ca : Nat → Addr) (σ : List Sl) (σc hid : L2.St) (H : Hp) (fp : Nat → List Addr), chkT bl X.N sc t st = true → Ctx bl sc X Γ P ca σ σc hid H fp → Sok X →
  ∀ o, run Γ t σ = some (.ok o) → ∀ D, PostS P X.K ca σ σc hid H D o → wpS X st D σc H
def SndSs (bl : List Str) (Γ : Gam) (t : Ts) : Prop := ∀ (st : List Stmt) (sc : Scope) (X : Cx) (P : Addr → Prop) (ca : Nat → Addr) (σ : List Sl) (σc hid : L2.St) (H : Hp) (fp : Nat → List Addr), chkTs bl X.N sc t st = true → Ctx bl sc X Γ P ca σ σc hid H fp → Sok X →
  ∀ o, runs Γ t σ = some (.ok o) → ∀ D, PostS P X.K ca σ σc hid H D o → wpSs X st D σc H
section
variable {bl : List Str} {sc : Scope} {X : Cx} {Γ : Gam} {P : Addr → Prop} {K : PySem.W.Frag} {ca : Nat → Addr} {σ σ1 : List Sl} {σc σc1 hid : L2.St} {H H1 : Hp} {fp : Nat → List Addr}
theorem Nxt.here {Q : L2.St → Hp → Prop} (q : Nxt P K ca σ σc hid H σ Q) (S : SRep P K ca σ (σc ++ hid) H1 fp) (s : Fut P K H H1) : Q σc H1 := q σc H1 fp rfl s .refl S
theorem Nxt.after {Q : L2.St → Hp → Prop} {σ2 : List Sl} (q : Nxt P K ca σ σc hid H σ2 Q) (l : σc1.length = σc.length) (s : Fut P K H H1) (k : Keep σ σ1 (σc ++ hid) (σc1 ++ hid)) : Nxt P K ca σ1 σc1 hid H1 σ2 Q :=
  fun σc' H' fp' l' s' k' S' => q σc' H' fp' (l'.trans l) (s.trans s') (k.trans k') S'
theorem Rtn.after {Q : VK} {w : W} {σ2 : List Sl} (q : Rtn P K ca σ σc hid H w σ2 Q) (l : σc1.length = σc.length) (s : Fut P K H H1) (k : Keep σ σ1 (σc ++ hid) (σc1 ++ hid)) : Rtn P K ca σ1 σc1 hid H1 w σ2 Q :=
  fun v σc' H' fp' f l' s' k' S' => q v σc' H' fp' f (l'.trans l) (s.trans s') (k.trans k') S'
theorem PostS.after {D : Ends} {o : Out} (q : PostS P K ca σ σc hid H D o) (l : σc1.length = σc.length) (s : Fut P K H H1) (k : Keep σ σ1 (σc ++ hid) (σc1 ++ hid)) : PostS P K ca σ1 σc1 hid H1 D o := by
  cases o with
  | nx σ' => exact Nxt.after q l s k
  | brk σ' => exact Nxt.after q l s k
  | cnt σ' => exact Nxt.after q l s k
  | ret w σ' => exact Rtn.after q l s k
theorem swaps_of {N : List Str} {e : E} {x : Expr} (h : chk bl N sc e x = true) (hl : isLc e = false) (t : Option Expr) (n : Nat) (env : Env) : swapsWith x t n env = pure false := by
  cases x <;> first | rfl | (cases e <;> simp [chk, isLc] at h hl)
theorem isLc_of {e : E} (h : isLc e = true) : ∃ own g it cs e', e = .lc own g it cs e' := by
  cases e <;> first | exact ⟨_, _, _, _, _, rfl⟩ | cases h
/-- a value is given to a name -/
theorem setN_ok {i : Nat} {x : VW} {σ' : List Sl} {v : V} {H1 : Hp} (hi : i < σc.length) (S : SRep P K ca σ (σc ++ hid) H fp) (s : Same H H1) (r : RepV P K ca (σc ++ hid) H H1 x.1 x.2 v) (e : setN i x σ = some σ') {Q : L2.St → Hp → Prop}
    (q : Nxt P K ca σ σc hid H σ' Q) : Q (σc.set i (some v)) H1 := by
  have S1 := S.mono s
  have fin : ∀ s' f, putS σ i s' = some σ' → SlRep P K ca H1 s' (some (some v)) f → (∀ j, j ≠ i → ∀ a ∈ f, a ∉ fp j) → f.Nodup → (∀ a ∈ f, ¬ P a) → Q (σc.set i (some v)) H1 := fun s' f e h1 h2 h3 h4 => by
    obtain ⟨l, rfl, hk⟩ := putS_lt e
    have S2 := S1.put i s' (some v) f l h1 h2 h3 h4
    rw [List.set_append_left _ _ hi] at S2
    have k := Keep.set (σ := σ) (ρ := σc ++ hid) (s := s') (o := some v) hk
    rw [List.set_append_left _ _ hi] at k
    exact q _ H1 _ (by simp) (.of_same s) k S2
  have ro : ∀ w, putS σ i (.ro w) = some σ' → RepW P K ca H1 w v → Q (σc.set i (some v)) H1 := fun w e h => fin _ [] e ⟨v, rfl, h, rfl⟩ (fun _ _ a ha => by cases ha) List.nodup_nil (fun a ha => by cases ha)
  have ow : ∀ w, putS σ i (.own w) = some σ' → (∃ f, OwnW K ca H1 w v f ∧ (∀ a ∈ f, H a = none) ∧ f.Nodup) → Q (σc.set i (some v)) H1 := fun w e ⟨f, o, n, d⟩ => by
    refine fin _ f e ⟨v, rfl, o⟩ (fun j _ a ha hb => ?_) d (fun a ha p => ?_)
    · obtain ⟨u, z⟩ := S.alive j a hb
      rw [n a ha] at z; cases z
    · obtain ⟨u, z⟩ := S.pa a p
      rw [n a ha] at z; cases z
  obtain ⟨w, k⟩ := x
  have kd := r.kd
  cases w with
  | obj c fs =>
    cases k with
    | fr => exact ow _ e kd
    | ro => exact ro _ e kd
    | «at» j => cases e
  | c y =>
    cases y with
    | d y => exact ro _ e r.rep
    | lst y => cases k with
      | fr => exact ow _ e kd
      | ro => exact ro _ e kd
      | «at» j => cases e
    | dK y => cases k with
      | fr => exact ow _ e kd
      | ro => exact ro _ e kd
      | «at» j => cases e
    | dT y => cases k with
      | fr => exact ow _ e kd
      | ro => exact ro _ e kd
      | «at» j => cases e
theorem nxO_ok {o : Option (List Sl)} {r : Out} (h : nxO o = some (.ok r)) : ∃ σ', o = some σ' ∧ r = .nx σ' := by
  cases o with
  | none => cases h
  | some σ' => exact ⟨σ', rfl, (ok_inj h).symm⟩
theorem repV_D {x : W} {d : D} {k : Kd} {v : V} (r : RepV P K ca (σc ++ hid) H H1 (.c (.d d)) k v) : RepD K H1 d v := r.rep
theorem asg_snd {g : G} {e : E} : SndS bl Γ (.asg g e) := by
  intro st sc X P ca σ σc hid H fp hc C hS o he D q
  cases st with
  | Assign ts x pos =>
    match ts with
    | [] => simp [chkT] at hc
    | _ :: _ :: _ => simp [chkT] at hc
    | [t] =>
      have hc' : (chkG false X.N sc g t && chk bl X.N sc e x && noSwap t x && (!isLc e || lcLine sc t x)) = true := hc
      simp only [Bool.and_eq_true] at hc'
      obtain ⟨⟨⟨h1, h2⟩, h3⟩, h4⟩ := hc'
      unfold run at he
      obtain ⟨⟨w, k⟩, e1, he⟩ := bind_ok he
      have hl : ∀ i ∈ gSlots g, i < σc.length := fun i hi => by rw [C.ln]; exact gslots_lt h1 i hi
      cases g with
      | nm i =>
        obtain ⟨y, py, rfl, hN, hlc⟩ := nm_name (show nmOk false X.N sc i t = true from h1)
        simp only at he
        obtain ⟨σ', e2, rfl⟩ := nxO_ok he
        have hloc := loc_of C.ok.scope (by simpa using hlc : locB sc y = true)
        have fin : ∀ v H1, Same H H1 → RepV P X.K ca (σc ++ hid) H H1 w k v → D.nx (σc.set i (some v)) H1 := fun v H1 s r => setN_ok (x := (w, k)) (hl i (by simp [gSlots])) C.sr s r e2 q
        by_cases hlcE : isLc e = true
        · obtain ⟨own, g', it, cs, e', rfl⟩ := isLc_of hlcE
          have h5 : lcLine sc (.Name y py) x = true := by simpa [isLc] using h4
          cases x with
          | ListComp elt gens scope p2 =>
            have h6 : ((py.line == p2.line) && decide (sc.names.lookup y = some .local) && !(scope.names.any fun (n, k) => n == y && (k == .local || k == .cell))) = true := h5
            simp only [Bool.and_eq_true, decide_eq_true_eq, Bool.not_eq_true'] at h6
            obtain ⟨⟨hline, hly⟩, hany⟩ := h6
            obtain ⟨tg, iter, ifs, rfl, okB, hg, ht, hel, hs, hq⟩ := lc_core (sndIt it) (sndC cs) (sndE e') h2 C e1
            have hly' : X.env.scope.names.lookup y = some .local := by rw [C.ok.scope]; exact hly
            exact wps_of (ps_setLc C.ok.calm C.ok.nd hN hly' (sw_true C.ok.kd hly' hline hany) pi_wp okB hg ht hel hs) (hq _ fin)
          | _ => simp [chk] at h2
        · have hz : isLc e = false := by simpa using hlcE
          exact wps_of (ps_set C.ok.nd hN hloc pe_wp (swaps_of h2 hz _ _ _) (.inl (hS.fn y))) (sndE e x sc X P ca σ σc hid H fp h2 C w k e1 _ fin)
      | tup is =>
        simp only at he
        split at he
        · rename_i d
          obtain ⟨σ', e2, rfl⟩ := nxO_ok he
          cases t with
          | Tuple es kk tp =>
            have hz : isLc e = false := by
              by_cases hlcE : isLc e = true
              · have h5 : lcLine sc (.Tuple es kk tp) x = true := by
                  rw [hlcE] at h4
                  simpa using h4
                cases h5
              · simpa using hlcE
            have hsw : swappedStores [.Tuple es kk tp] x X.env = pure none := by
              cases x <;> first | rfl | (simp [noSwap] at h3)
            refine wps_of (ps_asg pe_wp (pg_of C.ok (fun _ => hS.fn) h1) (by unfold swapsWithSole; exact swaps_of h2 hz _ _ _) hsw rfl) ?_
            refine sndE e x sc X P ca σ σc hid H fp h2 C _ k e1 _ fun v H1 s r => ?_
            refine gr_ok (C.sr.mono s) hl e2 r.rep fun σc' fp' l' _ S' k' => ?_
            exact q σc' H1 fp' l' (.of_same s) k' S'
          | _ => simp [chkG] at h1
        · cases he
  | _ => simp [chkT] at hc
theorem inp_ok (o : Operator) : PIp X o (match o with
    | .Add => fun x y H Q => rI0 (fun i j => .int (i + j)) x y H Q ∨ ∃ i j, x = .str i ∧ y = .str j ∧ i.length + j.length ≤ sizeLine ∧ Q (.str (i ++ j)) H
    | .Sub => rI0 fun i j => .int (i - j)
    | _ => fun _ _ _ _ => False) := by
  cases o with
  | Add => exact OpR.or iop_add iop_add_str
  | Sub => exact iop_sub
  | _ => intro pins s σ H x y v u Q I rx ry h; exact False.elim h
theorem aug_snd {i : Nat} {o : Operator} {e : E} : SndS bl Γ (.aug i o e) := by
  intro st sc X P ca σ σc hid H fp hc C hS r he D q
  cases st with
  | AugAssign t p y pos =>
    cases t with
    | Name x py =>
      have hc' : (decide (X.N[i]? = some x) && locB sc x && decide (o = p) && chk bl X.N sc e y) = true := hc
      simp only [Bool.and_eq_true, decide_eq_true_eq] at hc'
      obtain ⟨⟨⟨h1, h2⟩, h3⟩, h4⟩ := hc'
      subst h3
      unfold run at he
      obtain ⟨⟨wy, ky⟩, e1, he⟩ := bind_ok he
      have hi : i < σc.length := by rw [C.ln]; exact (List.getElem?_eq_some_iff.mp h1).1
      have hgi := getρ C h1
      split at he
      · rename_i x0 e2
        obtain ⟨⟨z, kz⟩, e3, he⟩ := bind_ok he
        simp only at he
        split at he
        · rename_i d
          obtain ⟨σ', e4, rfl⟩ := nxO_ok he
          obtain ⟨v, ev, r0, _⟩ := C.sr.sl i _ e2
          refine wps_of (ps_aug C.ok.nd h1 (loc_of C.ok.scope h2) pe_wp (inp_ok o) (.inl (hS.fn x))) ?_
          refine ⟨v, hgi.trans ev, ?_⟩
          refine sndE e y sc X P ca σ σc hid H fp h4 C wy ky e1 _ fun vy H1 s1 r1 => ?_
          have fin : ∀ u, RepD X.K H1 d u → D.nx (σc.set i (some u)) H1 := fun u hu => setN_ok (x := (.c (.d d), .ro)) hi C.sr s1 (.ofD hu) (by simpa [setN] using e4) q
          have rx := r0.mono (.of_same s1) (fun _ p => p)
          have key : ∀ {b : M VW}, b = some (.ok (.c (.d d), kz)) → True := fun _ => trivial
          cases o with
          | Add =>
            simp only at e3
            unfold bin at e3
            split at e3
            · have a1 := repI rx
              have a2 := repI r1.rep
              subst a1 a2
              have := ok_inj e3
              cases this
              exact .inl ⟨_, _, rfl, rfl, fin _ rfl⟩
            · have a1 := repS rx
              have a2 := repS r1.rep
              subst a1 a2
              simp only [if_true] at e3
              obtain ⟨c, e3⟩ := guardN_ok e3
              have := ok_inj e3
              cases this
              exact .inr ⟨_, _, rfl, rfl, c, fin _ rfl⟩
            · simp only [if_true] at e3
              obtain ⟨c, e3⟩ := guardN_ok e3
              cases ok_inj e3
            · cases e3
          | Sub =>
            simp only at e3
            unfold bin at e3
            split at e3
            · have a1 := repI rx
              have a2 := repI r1.rep
              subst a1 a2
              have := ok_inj e3
              cases this
              exact ⟨_, _, rfl, rfl, fin _ rfl⟩
            · cases e3
            · cases e3
            · cases e3
          | _ => cases e3
        · cases he
      · cases he
    | _ => simp [chkT] at hc
  | _ => simp [chkT] at hc
/-- an owned list in a slot -/
theorem own_list {i : Nat} {xs : List D} (S : SRep P K ca σ (σc ++ hid) H fp) (e : σ[i]? = some (Sl.own (.c (.lst xs)))) : ∃ a vs, (σc ++ hid)[i]? = some (some (.ref a)) ∧ H a = some (.lst vs) ∧ RepDs K H xs vs ∧ fp i = [a] ∧ ¬ P a := by
  obtain ⟨v, ev, a, vs, e1, e2, e3, e4⟩ := S.sl i _ e
  subst e1
  exact ⟨a, vs, ev, e2, e3, e4, S.np i a (by rw [e4]; simp)⟩
/-- it is changed -/
theorem list_set {i : Nat} {xs ys : List D} {a : Addr} {vs us : List V} (S : SRep P K ca σ (σc ++ hid) H fp) (e : σ[i]? = some (Sl.own (.c (.lst xs)))) (ev : (σc ++ hid)[i]? = some (some (.ref a))) (hH : H a = some (.lst vs)) (hf : fp i = [a]) (hP : ¬ P a) (r : RepDs K H ys us)
    {Q : L2.St → Hp → Prop} (q : Nxt P K ca σ σc hid H (σ.set i (.own (.c (.lst ys)))) Q) : Q σc (upd H a (.lst us)) := by
  have f : Fut P K H (upd H a (.lst us)) := fut_upd hP hH (fun _ z => by cases z) (fun _ _ z => by cases z)
  refine q σc _ fp rfl f (.set1 fun w z => by rw [e] at z; cases z) ?_
  exact S.mut e (by rw [hf]; simp) f ⟨_, ev, a, us, rfl, upd_same, r.mono f.tk, hf⟩
theorem app_snd {i : Nat} {e : E} : SndS bl Γ (.app i e) := by
  intro st sc X P ca σ σc hid H fp hc C hS r he D q
  cases st with
  | Expr c pos =>
    cases c with
    | Call f l kws cpos =>
      cases f with
      | Attribute o a ap =>
        cases o with
        | Name x xp =>
          match l, kws with
          | [y], [] =>
            have hc' : (decide (X.N[i]? = some x) && visB sc x && plainName x && decide (a = "append") && (ap.endLine == cpos.line) && chk bl X.N sc e y) = true := hc
            simp only [Bool.and_eq_true, decide_eq_true_eq, plainName, Bool.not_eq_true'] at hc'
            obtain ⟨⟨⟨⟨⟨h1, h2⟩, ⟨h3, h3'⟩, _⟩, h4⟩, h5⟩, h6⟩ := hc'
            subst h4
            unfold run at he
            obtain ⟨⟨wy, ky⟩, e1, he⟩ := bind_ok he
            have hgi := getρ C h1
            simp only at he
            split at he
            · rename_i xs d e2
              obtain ⟨hz, he⟩ := guardN_ok he
              cases ok_inj he
              obtain ⟨a, vs, ev, hH, rD, hf, hP⟩ := own_list C.sr e2
              refine wps_of (ps_expr (pe_bm PySem.F.plainAttrs_list PySem.F.slot_list_append PySem.F.type_list_append mt_append (pe_var h1 (vis_of C.ok.scope h2) h3 h3') (pa_cons pe_wp pa_nil (star_of h6 _ _)) rfl (by rw [star_of h6]; rfl) h5 (star_of h6 _ _) rfl)) ?_
              refine ⟨_, hgi.trans ev, .inl ⟨rfl, _, .inl (.inl hH)⟩, ?_⟩
              refine sndE e y sc X P ca σ σc hid H fp h6 C _ _ e1 _ fun vy H1 s1 r1 => ?_
              refine ⟨a, vs, vy, rfl, rfl, s1 _ _ hH, by rw [rD.length]; omega, ?_⟩
              exact list_set (C.sr.mono s1) e2 ev (s1 _ _ hH) hf hP ((rD.mono (.of_same s1)).app (.cons r1.rep .nil)) (q.after rfl (.of_same s1) .refl)
            · cases he
          | [], _ => simp [chkT] at hc
          | _ :: _ :: _, _ => simp [chkT] at hc
          | [_], _ :: _ => simp [chkT] at hc
        | _ => simp [chkT] at hc
      | _ => simp [chkT] at hc
    | _ => simp [chkT] at hc
  | _ => simp [chkT] at hc
theorem clear_snd {i : Nat} : SndS bl Γ (.clear i) := by
  intro st sc X P ca σ σc hid H fp hc C hS r he D q
  cases st with
  | Expr c pos =>
    cases c with
    | Call f l kws cpos =>
      cases f with
      | Attribute o a ap =>
        cases o with
        | Name x xp =>
          match l, kws with
          | [], [] =>
            have hc' : (decide (X.N[i]? = some x) && visB sc x && plainName x && decide (a = "clear") && (ap.endLine == cpos.line)) = true := hc
            simp only [Bool.and_eq_true, decide_eq_true_eq, plainName, Bool.not_eq_true'] at hc'
            obtain ⟨⟨⟨⟨h1, h2⟩, ⟨h3, h3'⟩, _⟩, h4⟩, h5⟩ := hc'
            subst h4
            unfold run at he
            have hgi := getρ C h1
            split at he
            · rename_i xs e2
              cases ok_inj he
              obtain ⟨a, vs, ev, hH, rD, hf, hP⟩ := own_list C.sr e2
              refine wps_of (ps_expr (pe_bm0 PySem.F.plainAttrs_list PySem.F.slot_list_clear PySem.F.type_list_clear mt_clear (pe_var h1 (vis_of C.ok.scope h2) h3 h3') rfl h5)) ?_
              refine ⟨_, hgi.trans ev, .inl ⟨rfl, _, .inl (.inl hH)⟩, a, vs, rfl, rfl, hH, ?_⟩
              exact list_set C.sr e2 ev hH hf hP .nil q
            · cases he
          | _ :: _, _ => simp [chkT] at hc
          | [], _ :: _ => simp [chkT] at hc
        | _ => simp [chkT] at hc
      | _ => simp [chkT] at hc
    | _ => simp [chkT] at hc
  | _ => simp [chkT] at hc
theorem setI_snd {i : Nat} {k e : E} : SndS bl Γ (.setI i k e) := by
  intro st sc X P ca σ σc hid H fp hc C hS r he D q
  cases st with
  | Assign ts z pos =>
    match ts with
    | [] => simp [chkT] at hc
    | [t] =>
      cases t with
      | Subscript o y sp =>
        cases o with
        | Name x xp =>
          have hc' : (decide (X.N[i]? = some x) && visB sc x && plainName x && chk bl X.N sc k y && chk bl X.N sc e z && !isLc e) = true := hc
          simp only [Bool.and_eq_true, decide_eq_true_eq, plainName, Bool.not_eq_true'] at hc'
          obtain ⟨⟨⟨⟨⟨h1, h2⟩, ⟨h3, h3'⟩, _⟩, h4⟩, h5⟩, h6⟩ := hc'
          unfold run at he
          obtain ⟨⟨wz, kz⟩, e1, he⟩ := bind_ok he
          obtain ⟨⟨wk, kk⟩, e2, he⟩ := bind_ok he
          have hgi := getρ C h1
          simp only at he
          split at he
          · rename_i xs j d e3 _
            split at he
            · rename_i n en
              cases ok_inj he
              obtain ⟨a, vs, ev, hH, rD, hf, hP⟩ := own_list C.sr e3
              have ha : ∀ v, assign (.Subscript (.Name x xp) y sp) X.env v = (do
                  let ov ← holding [v] (eval (.Name x xp) X.env)
                  let iv ← holding [v, ov] (eval y X.env)
                  standAt sp
                  holding [v, ov, iv] (setItem ov iv v)
                  release [v, ov, iv] []) := by
                intro v
                cases y <;> first | rfl | (cases k <;> simp [chk] at h4)
              refine wps_of (ps_asg pe_wp (pg_sub (pe_var h1 (vis_of C.ok.scope h2) h3 h3') pe_wp set_list ha) (by unfold swapsWithSole; exact swaps_of h5 (by simpa using h6) _ _ _) (by cases z <;> rfl) rfl) ?_
              refine sndE e z sc X P ca σ σc hid H fp h5 C _ _ e1 _ fun vz H1 s1 r1 => ?_
              refine ⟨_, hgi.trans ev, ?_⟩
              refine sndE k y sc X P ca σ σc hid H1 fp h4 (C.mono s1) _ _ e2 _ fun vk H2 s2 r2 => ?_
              have a1 := repI r2.rep
              subst a1
              have s12 := s1.trans s2
              refine ⟨a, vs, j, _, rfl, rfl, s12 _ _ hH, by rw [rD.length]; exact en, ?_⟩
              have rz : RepD X.K H2 d vz := (r1.later s2).rep
              have rD2 := rD.mono (.of_same s12 : TK X.K H H2)
              exact list_set (C.sr.mono s12) e3 ev (s12 _ _ hH) hf hP (rD2.set _ rz) (q.after rfl (.of_same s12) .refl)
            · cases he
          · cases he
        | _ => simp [chkT] at hc
      | _ => simp [chkT] at hc
    | a :: b :: r => cases a <;> first | exact absurd hc Bool.false_ne_true | (rename_i o _ _; cases o <;> exact absurd hc Bool.false_ne_true)
  | _ => simp [chkT] at hc
theorem expr_snd {e : E} : SndS bl Γ (.expr e) := by
  intro st sc X P ca σ σc hid H fp hc C hS r he D q
  cases st with
  | Expr x pos =>
    have hc' : (chk bl X.N sc e x && !isLc e) = true := hc
    simp only [Bool.and_eq_true, Bool.not_eq_true'] at hc'
    obtain ⟨h1, h2⟩ := hc'
    unfold run at he
    obtain ⟨⟨w, k⟩, e1, he⟩ := bind_ok he
    cases ok_inj he
    refine wps_of (ps_expr pe_wp (swaps_of h1 h2 _ _ _)) ?_
    exact sndE e x sc X P ca σ σc hid H fp h1 C w k e1 _ fun v H1 s r => q σc H1 fp rfl (.of_same s) .refl (C.sr.mono s)
  | _ => simp [chkT] at hc
/-- a value that is told is none that stands in a slot -/
def NoAt (x : M VW) : Prop := ∀ w i, x ≠ some (.ok (w, .at i))
theorem noAt_vD {d : Ev.D} : NoAt (vD d) := fun w i h => by cases ok_inj h
theorem noAt_vF {w : W} : NoAt (vF w) := fun w i h => by cases ok_inj h
theorem noAt_none : NoAt none := fun w i h => by cases h
theorem noAt_N {n : Nat} {k : M VW} (h : NoAt k) : NoAt (guardN n k) := fun w i e => h w i (guardN_ok e).2
theorem noAt_P {p : Prop} {k : M VW} (h : NoAt k) : NoAt (guardP p k) := fun w i e => h w i (guardP_ok e).2
theorem noAt_bind {α : Type} {x : M α} {f : α → M VW} (h : ∀ a, NoAt (f a)) : NoAt (x.bind f) := fun w i e => let ⟨a, _, e2⟩ := bind_ok e; h a w i e2
theorem noAt_binI {o : Operator} {i j : Int} : NoAt (binI o i j) := by
  unfold binI
  split <;> first | exact noAt_vD | exact noAt_P noAt_vD | exact noAt_none
theorem noAt_bin {o : Operator} {a b : W} : NoAt (bin o a b) := by
  unfold bin
  split
  · exact noAt_binI
  · split <;> first | exact noAt_N noAt_vD | exact noAt_none
  · split <;> first | exact noAt_N noAt_vF | exact noAt_none
  · exact noAt_none
theorem noAt_ix {a b : W} : NoAt (ix a b) := by
  unfold ix
  split
  · split <;> first | exact noAt_vD | exact noAt_none
  · split <;> first | exact noAt_vD | exact noAt_none
  · refine noAt_N ?_
    split <;> first | exact noAt_vD | exact noAt_none
  · exact noAt_none
theorem noAt_sl {a : W} {l h : Option Int} : NoAt (sl a l h) := by
  unfold sl
  split <;> first | exact noAt_vF | exact noAt_N noAt_vD | exact noAt_vD | exact noAt_none
theorem noAt_blt {f : B} {ws : List W} : NoAt (blt f ws) := by
  unfold blt
  split <;> first | exact noAt_vD | exact noAt_vF | exact noAt_N noAt_vD | exact noAt_none | skip
  split <;> first | exact noAt_vD | exact noAt_none
theorem ev_at : ∀ (e : E) {w : W} {i : Nat}, ev Γ e σ = some (.ok (w, .at i)) → σ[i]? = some (Sl.own w) ∨ σ[i]? = some (Sl.lk w)
  | .var j, w, i, h => by
    unfold ev at h
    split at h
    · cases ok_inj h
    · rename_i e; cases ok_inj h; exact .inl e
    · rename_i e; cases ok_inj h; exact .inr e
    · cases h
  | .non, w, i, h => absurd h (noAt_vD w i)
  | .bl _, w, i, h => absurd h (noAt_vD w i)
  | .int _, w, i, h => absurd h (noAt_vD w i)
  | .str _, w, i, h => absurd h (noAt_vD w i)
  | .tup es, w, i, h => by
    unfold ev at h
    refine absurd h ((noAt_bind fun a => ?_) w i)
    split <;> first | exact noAt_N noAt_vD | exact noAt_none
  | .lst es, w, i, h => by
    unfold ev at h
    refine absurd h ((noAt_bind fun a => ?_) w i)
    split <;> first | exact noAt_N noAt_vF | exact noAt_none
  | .bin o a b, w, i, h => by unfold ev at h; exact absurd h ((noAt_bind fun a => noAt_bind fun b => noAt_bin) w i)
  | .neg a, w, i, h => by
    unfold ev at h
    refine absurd h ((noAt_bind fun a => ?_) w i)
    split <;> first | exact noAt_vD | exact noAt_none
  | .cmp o a b, w, i, h => by unfold ev at h; exact absurd h ((noAt_bind fun a => noAt_bind fun b => noAt_bind fun c => noAt_vD) w i)
  | .cmp2 o o' a b c, w, i, h => by
    unfold ev at h
    refine absurd h ((noAt_bind fun a => noAt_bind fun b => noAt_bind fun c => ?_) w i)
    split
    · exact noAt_bind fun _ => noAt_bind fun _ => noAt_vD
    · exact noAt_vD
  | .cmp3 o o' o2 a b c d, w, i, h => by
    unfold ev at h
    refine absurd h ((noAt_bind fun a => noAt_bind fun b => noAt_bind fun c => ?_) w i)
    split
    · refine noAt_bind fun _ => noAt_bind fun _ => ?_
      split
      · exact noAt_bind fun _ => noAt_bind fun _ => noAt_vD
      · exact noAt_vD
    · exact noAt_vD
  | .and a b, w, i, h => by
    unfold ev at h
    obtain ⟨⟨wa, ka⟩, ea, h⟩ := bind_ok h
    obtain ⟨k, ek, h⟩ := bind_ok h
    split at h
    · exact ev_at b h
    · cases ok_inj h; exact ev_at a ea
  | .or a b, w, i, h => by
    unfold ev at h
    obtain ⟨⟨wa, ka⟩, ea, h⟩ := bind_ok h
    obtain ⟨k, ek, h⟩ := bind_ok h
    split at h
    · cases ok_inj h; exact ev_at a ea
    · exact ev_at b h
  | .not a, w, i, h => by unfold ev at h; exact absurd h ((noAt_bind fun a => noAt_bind fun b => noAt_vD) w i)
  | .ife c a b, w, i, h => by
    unfold ev at h
    obtain ⟨⟨wa, ka⟩, ea, h⟩ := bind_ok h
    obtain ⟨k, ek, h⟩ := bind_ok h
    split at h
    · exact ev_at a h
    · exact ev_at b h
  | .ix a b, w, i, h => by unfold ev at h; exact absurd h ((noAt_bind fun a => noAt_bind fun b => noAt_ix) w i)
  | .sl a l u, w, i, h => by unfold ev at h; exact absurd h ((noAt_bind fun a => noAt_bind fun b => noAt_bind fun c => noAt_sl) w i)
  | .call f es, w, i, h => by
    unfold ev at h
    split at h
    · refine absurd h ((noAt_bind fun a => noAt_bind fun b => fun w i e => ?_) w i)
      have e' := ok_inj e
      have : kdOf b = .at i := (Prod.mk.inj e').2
      unfold kdOf at this
      split at this <;> cases this
    · cases h
  | .blt f es, w, i, h => by unfold ev at h; exact absurd h ((noAt_bind fun a => noAt_blt) w i)
  | .isi e t, w, i, h => by
    unfold ev at h
    refine absurd h ((noAt_bind fun a => ?_) w i)
    split <;> first | exact noAt_vD | exact noAt_none
  | .join s e, w, i, h => by
    unfold ev at h
    refine absurd h ((noAt_bind fun a => noAt_bind fun b => ?_) w i)
    split
    · split <;> first | exact noAt_N noAt_vD | exact noAt_none
    · exact noAt_none
  | .lc own g it cs e, w, i, h => by unfold ev at h; exact absurd h ((noAt_bind fun a => noAt_N (noAt_bind fun b => noAt_vF)) w i)
/-- a value told to stand in a slot is what the slot has -/
theorem at_same {e : E} {w w0 : W} {i : Nat} (h : ev Γ e σ = some (.ok (w, .at i))) (hs : σ[i]? = some (Sl.own w0)) : w0 = w := by
  rcases ev_at e h with z | z <;> (rw [hs] at z; cases z)
  rfl
theorem ret_snd {e : E} : SndS bl Γ (.ret e) := by
  intro st sc X P ca σ σc hid H fp hc C hS r he D q
  cases st with
  | Return x pos =>
    cases x with
    | none => simp [chkT] at hc
    | some x =>
      have h1 : chk bl X.N sc e x = true := hc
      unfold run at he
      obtain ⟨⟨w, k⟩, e1, he⟩ := bind_ok he
      refine wps_of (ps_ret pe_wp) ?_
      refine sndE e x sc X P ca σ σc hid H fp h1 C w k e1 _ fun v H1 s r => ?_
      have S1 := C.sr.mono s
      have dcase : ∀ d, w = .c (.d d) → PostS P X.K ca σ σc hid H D (.ret (.c (.d d)) σ) → D.rt v H1 := fun d e2 q => by
        subst e2
        exact q v σc H1 fp [] rfl (.of_same s) .refl S1 ⟨r.rep, rfl⟩ List.nodup_nil (fun a ha => by cases ha) (fun j a ha => by cases ha)
      have fcase : k = .fr → PostS P X.K ca σ σc hid H D (.ret w σ) → D.rt v H1 := fun e2 q => by
        subst e2
        obtain ⟨f, o, n, d⟩ : ∃ fp, OwnW X.K ca H1 w v fp ∧ (∀ a ∈ fp, H a = none) ∧ fp.Nodup := r.kd
        refine q v σc H1 fp f rfl (.of_same s) .refl S1 o d (fun a ha p => ?_) (fun j a ha hb => ?_)
        · obtain ⟨u, z⟩ := C.sr.pa a p
          rw [n a ha] at z; cases z
        · obtain ⟨u, z⟩ := C.sr.alive j a hb
          rw [n a ha] at z; cases z
      have acase : ∀ i w0, k = .at i → σ[i]? = some (Sl.own w0) → ev Γ e σ = some (.ok (w, k)) → PostS P X.K ca σ σc hid H D (.ret w (σ.set i .out)) → w0 = w → D.rt v H1 := fun i w0 e2 e3 _ q e4 => by
        subst e2 e4
        have kd : (σc ++ hid)[i]? = some (some v) := r.kd
        obtain ⟨v', e5, o⟩ := S1.sl i _ e3
        rw [kd] at e5
        cases e5
        have hi : i < σ.length := (List.getElem?_eq_some_iff.mp e3).1
        have S2 := S1.putOut i (some v) hi
        have e6 : (σc ++ hid).set i (some v) = σc ++ hid := by
          apply List.ext_getElem?
          intro j
          by_cases hj : i = j
          · subst hj
            rw [List.getElem?_set_self (by rw [← S1.len]; exact hi), kd]
          · rw [List.getElem?_set_ne hj]
        rw [e6] at S2
        refine q v σc H1 _ (fp i) rfl (.of_same s) (.set1 fun w z => by rw [e3] at z; cases z) S2 o (S1.nd i) (S1.np i) (fun j a ha => ?_)
        by_cases hj : j = i
        · simp [hj]
        · simp only [hj, if_false]
          exact S1.dj i j (Ne.symm hj) a ha
      cases w with
      | obj c fs =>
        cases k with
        | fr => cases ok_inj he; exact fcase rfl q
        | ro => cases he
        | «at» i =>
          simp only at he
          split at he
          · rename_i w0 e3
            cases ok_inj he
            refine acase i w0 rfl e3 e1 q (at_same e1 e3)
          · cases he
      | c y =>
        cases y with
        | d y => cases ok_inj he; exact dcase y rfl q
        | lst y =>
          cases k with
          | fr => cases ok_inj he; exact fcase rfl q
          | ro => cases he
          | «at» i =>
            simp only at he
            split at he
            · rename_i w0 e3
              cases ok_inj he
              refine acase i w0 rfl e3 e1 q (at_same e1 e3)
            · cases he
        | dK y =>
          cases k with
          | fr => cases ok_inj he; exact fcase rfl q
          | ro => cases he
          | «at» i =>
            simp only at he
            split at he
            · rename_i w0 e3
              cases ok_inj he
              refine acase i w0 rfl e3 e1 q (at_same e1 e3)
            · cases he
        | dT y =>
          cases k with
          | fr => cases ok_inj he; exact fcase rfl q
          | ro => cases he
          | «at» i =>
            simp only at he
            split at he
            · rename_i w0 e3
              cases ok_inj he
              refine acase i w0 rfl e3 e1 q (at_same e1 e3)
            · cases he
  | _ => simp [chkT] at hc
theorem retN_snd : SndS bl Γ .retN := by
  intro st sc X P ca σ σc hid H fp hc C hS r he D q
  cases st with
  | Return x pos =>
    cases x with
    | some x => simp [chkT] at hc
    | none =>
      unfold run at he
      cases ok_inj he
      exact wps_of ps_retN (q .non σc H fp [] rfl .refl .refl C.sr ⟨rfl, rfl⟩ List.nodup_nil (fun a ha => by cases ha) (fun j a ha => by cases ha))
  | _ => simp [chkT] at hc
theorem brk_snd : SndS bl Γ .brk := by
  intro st sc X P ca σ σc hid H fp hc C hS r he D q
  cases st with
  | Break pos =>
    unfold run at he
    cases ok_inj he
    exact wps_of ps_break (Nxt.here q C.sr .refl)
  | _ => simp [chkT] at hc
theorem cnt_snd : SndS bl Γ .cnt := by
  intro st sc X P ca σ σc hid H fp hc C hS r he D q
  cases st with
  | Continue pos =>
    unfold run at he
    cases ok_inj he
    exact wps_of ps_continue (Nxt.here q C.sr .refl)
  | _ => simp [chkT] at hc
theorem pass_snd : SndS bl Γ .pass := by
  intro st sc X P ca σ σc hid H fp hc C hS r he D q
  cases st with
  | Pass pos =>
    unfold run at he
    cases ok_inj he
    exact wps_of ps_pass (Nxt.here q C.sr .refl)
  | _ => simp [chkT] at hc
theorem tst_ok {c : E} {b : Bool} (h : tstV (ev Γ c σ) = some (.ok b)) : ∃ w k, ev Γ c σ = some (.ok (w, k)) ∧ truth w = some (.ok b) := by
  unfold tstV at h
  obtain ⟨⟨w, k⟩, e1, h⟩ := bind_ok h
  exact ⟨w, k, e1, h⟩
theorem ite_snd {c : E} {a b : Ts} (Sa : SndSs bl Γ a) (Sb : SndSs bl Γ b) : SndS bl Γ (.ite c a b) := by
  intro st sc X P ca σ σc hid H fp hc C hS r he D q
  cases st with
  | If x l m pos =>
    have hc' : (tstOk c && chk bl X.N sc c x && chkTs bl X.N sc a l && chkTs bl X.N sc b m) = true := hc
    simp only [Bool.and_eq_true] at hc'
    obtain ⟨⟨⟨h0, h1⟩, h2⟩, h3⟩ := hc'
    unfold run at he
    obtain ⟨kb, e1, he⟩ := bind_ok he
    obtain ⟨w, k, e2, e3⟩ := tst_ok e1
    refine wps_of (ps_if pt_wp pss_wp pss_wp) ?_
    refine sndT c h0 x sc X P ca σ σc hid H fp h1 C w k kb e2 e3 _ fun H1 s => ?_
    have q' := q.after (σ1 := σ) (σc1 := σc) rfl (.of_same s) .refl
    cases kb with
    | true =>
      rw [if_pos rfl]
      exact Sa l sc X P ca σ σc hid H1 fp h2 (C.mono s) hS r he D q'
    | false =>
      rw [if_neg Bool.false_ne_true]
      exact Sb m sc X P ca σ σc hid H1 fp h3 (C.mono s) hS r he D q'
  | _ => simp [chkT] at hc
theorem nil_sndS : SndSs bl Γ .nil := by
  intro st sc X P ca σ σc hid H fp hc C hS r he D q
  cases st with
  | nil =>
    unfold runs at he
    cases ok_inj he
    exact wpss_of pss_nil (Nxt.here q C.sr .refl)
  | cons _ _ => simp [chkTs] at hc
theorem cons_sndS {t : T} {ts : Ts} (S : SndS bl Γ t) (Ss : SndSs bl Γ ts) : SndSs bl Γ (.cons t ts) := by
  intro st sc X P ca σ σc hid H fp hc C hS r he D q
  cases st with
  | nil => simp [chkTs] at hc
  | cons st l =>
    have hc' : chkT bl X.N sc t st = true ∧ chkTs bl X.N sc ts l = true := by simpa [chkTs] using hc
    unfold runs at he
    obtain ⟨o, e1, he⟩ := bind_ok he
    refine wpss_of (pss_cons ps_wp pss_wp) ?_
    refine S st sc X P ca σ σc hid H fp hc'.1 C hS o e1 _ ?_
    cases o with
    | nx σ' =>
      intro σc' H' fp' l' s' k' S'
      exact Ss l sc X P ca σ' σc' hid H' fp' hc'.2 ⟨C.ok, C.fns, S', l'.trans C.ln⟩ hS r he D (q.after l' s' k')
    | brk σ' => cases ok_inj he; exact q
    | cnt σ' => cases ok_inj he; exact q
    | ret w σ' => cases ok_inj he; exact q
end
end Ev
/-! Ev9: loops, the theorem for statements, defs. -/
namespace Ev
open PySem PySem.Spec
open PyProof.Rows hiding St
open L2
section
variable {bl : List Str} {sc : Scope} {X : Cx} {Γ : Gam} {P : Addr → Prop} {K : PySem.W.Frag} {ca : Nat → Addr} {σ σ1 : List Sl} {σc σc1 hid : L2.St} {H H1 : Hp} {fp : Nat → List Addr}
theorem evi_src {it : Ev.It} {xs : List Ev.D} {ls : List VW} (h : evi Γ it σ = some (.ok (xs, ls))) : ls = [] ∨ ∃ x, ls = [x] ∧ ∀ i, x.2 = .at i → σ[i]? = some (Sl.own x.1) ∨ σ[i]? = some (Sl.lk x.1) := by
  cases it with
  | e e =>
    unfold evi at h
    obtain ⟨x, e1, h⟩ := bind_ok h
    split at h
    · cases ok_inj h
      exact .inr ⟨x, rfl, fun i hi => ev_at e (w := x.1) (i := i) (by rw [e1, ← hi])⟩
    · cases h
  | tup e =>
    unfold evi at h
    obtain ⟨x, e1, h⟩ := bind_ok h
    split at h
    · cases ok_inj h
      exact .inr ⟨x, rfl, fun i hi => ev_at e (w := x.1) (i := i) (by rw [e1, ← hi])⟩
    · cases h
  | str e =>
    unfold evi at h
    obtain ⟨x, e1, h⟩ := bind_ok h
    split at h
    · cases ok_inj h; exact .inl rfl
    · cases h
  | enum e =>
    unfold evi at h
    obtain ⟨x, e1, h⟩ := bind_ok h
    split at h
    · cases ok_inj h
      exact .inr ⟨x, rfl, fun i hi => ev_at e (w := x.1) (i := i) (by rw [e1, ← hi])⟩
    · cases h
  | rng1 a =>
    unfold evi at h
    obtain ⟨x, e1, h⟩ := bind_ok h
    split at h
    · obtain ⟨_, h⟩ := guardP_ok h
      cases ok_inj h; exact .inl rfl
    · cases h
  | rng2 a b =>
    unfold evi at h
    obtain ⟨x, e1, h⟩ := bind_ok h
    obtain ⟨y, e2, h⟩ := bind_ok h
    split at h
    · obtain ⟨_, h⟩ := guardP_ok h
      cases ok_inj h; exact .inl rfl
    · cases h
theorem get_of_same {ρ ρ' : L2.St} {i : Nat} {v : V} (h : ρ[i]? = some (some v)) (e : ρ'[i]? = ρ[i]?) : ρ'[i]? = some (some v) := e.trans h
/-- the sources are locked: what then stands, and how they are unlocked -/
theorem lock_ok {ls : List VW} {vs : List V} (hs : ls = [] ∨ ∃ x, ls = [x] ∧ ∀ i, x.2 = .at i → σ[i]? = some (Sl.own x.1) ∨ σ[i]? = some (Sl.lk x.1)) (S : SRep P K ca σ (σc ++ hid) H fp) (s : Same H H1) (r : RepVs P K ca (σc ++ hid) H H1 ls vs) (hl : lockS ls σ = some σ1) :
    ∃ hid1 fp1, SRep P K ca σ1 (σc ++ hid1) H1 fp1 ∧ ∀ σ2 σc2 H2 fp2, σc2.length = σc.length → Fut P K H1 H2 → Keep σ1 σ2 (σc ++ hid1) (σc2 ++ hid1) → SRep P K ca σ2 (σc2 ++ hid1) H2 fp2 →
      RepWs K ca H2 (ls.map (·.1)) vs ∧ ∃ fp3, SRep P K ca (unlockS ls σ σ2) (σc2 ++ hid) H2 fp3 ∧ Keep σ (unlockS ls σ σ2) (σc ++ hid) (σc2 ++ hid) ∧ ∀ j, ∀ a ∈ fp3 j, ∃ j', a ∈ fp2 j' := by
  have S1 := S.mono s
  rcases hs with rfl | ⟨⟨w, k⟩, rfl, hat⟩
  · have e : σ = σ1 := by simpa [lockS] using hl
    subst e
    have : vs = [] := r
    subst this
    exact ⟨hid, fp, S1, fun σ2 σc2 H2 fp2 l f kp S2 => ⟨rfl, fp2, S2, kp, fun j a ha => ⟨j, ha⟩⟩⟩
  · obtain ⟨v, vr, e0, r1, e1⟩ := r
    have e1' : vr = [] := e1
    subst e0 e1'
    cases k with
    | ro =>
      have e : σ = σ1 := by simpa [lockS] using hl
      subst e
      exact ⟨hid, fp, S1, fun σ2 σc2 H2 fp2 l f kp S2 => ⟨⟨v, [], rfl, RepW.mono f (fun _ _ => trivial) r1.kd, rfl⟩, fp2, S2, kp, fun j a ha => ⟨j, ha⟩⟩⟩
    | fr =>
      have e : σ ++ [Sl.lk w] = σ1 := by simpa [lockS] using hl
      subst e
      obtain ⟨f, o, n, d⟩ : ∃ fp, OwnW K ca H1 w v fp ∧ (∀ a ∈ fp, H a = none) ∧ fp.Nodup := r1.kd
      have Sp := S1.push o d (fun j a ha hb => by
        obtain ⟨u, z⟩ := S.alive j a hb
        rw [n a ha] at z; cases z) (fun a ha p => by
        obtain ⟨u, z⟩ := S.pa a p
        rw [n a ha] at z; cases z)
      rw [List.append_assoc] at Sp
      refine ⟨hid ++ [some v], _, Sp, fun σ2 σc2 H2 fp2 l ft kp S2 => ?_⟩
      have hlen : σ.length = (σc ++ hid).length := S.len
      have hlen2 : (σc2 ++ hid).length = σ.length := by rw [hlen]; simp [l]
      obtain ⟨k1, k2⟩ := kp.lk σ.length w (by simp)
      have hv : (σc ++ (hid ++ [some v]))[σ.length]? = some (some v) := by
        rw [← List.append_assoc, hlen]
        simp
      rw [hv] at k2
      obtain ⟨v', e3, o2⟩ := S2.sl _ _ k1
      rw [k2] at e3
      cases e3
      refine ⟨⟨v, [], rfl, o2.rep fun _ _ => trivial, rfl⟩, ?_⟩
      rw [← List.append_assoc] at S2
      have Sq := S2.pop hlen2
      refine ⟨_, Sq, ⟨?_, fun i w' hi => ?_⟩, fun j a ha => ?_⟩
      · show (σ2.take σ.length).length = σ.length
        have : σ2.length = σ.length + 1 := by rw [kp.len]; simp
        rw [List.length_take]; omega
      · have hlt : i < σ.length := (List.getElem?_eq_some_iff.mp hi).1
        obtain ⟨a1, a2⟩ := kp.lk i w' (by rw [List.getElem?_append_left hlt]; exact hi)
        refine ⟨?_, ?_⟩
        · show (σ2.take σ.length)[i]? = _
          rw [List.getElem?_take_of_lt hlt]; exact a1
        · have b1 : ((σc2 ++ hid) ++ [some v])[i]? = (σc2 ++ hid)[i]? := List.getElem?_append_left (by rw [hlen2]; exact hlt)
          have b2 : ((σc ++ hid) ++ [some v])[i]? = (σc ++ hid)[i]? := List.getElem?_append_left (by rw [← hlen]; exact hlt)
          rw [List.append_assoc] at b1 b2
          exact (b1.symm.trans a2).trans b2
      · by_cases hj : j < σ.length
        · simp only [hj, if_true] at ha; exact ⟨j, ha⟩
        · simp [hj] at ha
    | «at» i =>
      have kd : (σc ++ hid)[i]? = some (some v) := r1.kd
      rcases hat i rfl with hi | hi
      · have hi' : σ[i]? = some (Sl.own w) := hi
        have e : σ.set i (.lk w) = σ1 := by simpa [lockS, hi'] using hl
        subst e
        have hlt : i < σ.length := (List.getElem?_eq_some_iff.mp hi').1
        have Sp := S1.relock hi' (s' := .lk w) (.inl ⟨rfl, rfl⟩)
        refine ⟨hid, fp, Sp, fun σ2 σc2 H2 fp2 l ft kp S2 => ?_⟩
        obtain ⟨k1, k2⟩ := kp.lk i w (by rw [List.getElem?_set_self hlt])
        rw [kd] at k2
        obtain ⟨v', e3, o2⟩ := S2.sl _ _ k1
        rw [k2] at e3
        cases e3
        refine ⟨⟨v, [], rfl, o2.rep fun _ _ => trivial, rfl⟩, fp2, ?_, ?_, fun j a ha => ⟨j, ha⟩⟩
        · show SRep P K ca (match σ[i]? with | some (.own w) => σ2.set i (.own w) | _ => σ2) _ _ _
          rw [hi']
          exact S2.relock k1 (.inr ⟨rfl, rfl⟩)
        · show Keep σ (match σ[i]? with | some (.own w) => σ2.set i (.own w) | _ => σ2) _ _
          rw [hi']
          refine ⟨by simp [kp.len], fun j w' hj => ?_⟩
          have hne : i ≠ j := fun z => by rw [← z, hi'] at hj; cases hj
          obtain ⟨a1, a2⟩ := kp.lk j w' (by rw [List.getElem?_set_ne hne]; exact hj)
          exact ⟨by rw [List.getElem?_set_ne hne]; exact a1, a2⟩
      · have hi' : σ[i]? = some (Sl.lk w) := hi
        have e : σ = σ1 := by simpa [lockS, hi'] using hl
        subst e
        refine ⟨hid, fp, S1, fun σ2 σc2 H2 fp2 l ft kp S2 => ?_⟩
        obtain ⟨k1, k2⟩ := kp.lk i w hi'
        rw [kd] at k2
        obtain ⟨v', e3, o2⟩ := S2.sl _ _ k1
        rw [k2] at e3
        cases e3
        refine ⟨⟨v, [], rfl, o2.rep fun _ _ => trivial, rfl⟩, fp2, ?_, ?_, fun j a ha => ⟨j, ha⟩⟩
        · show SRep P K ca (match σ[i]? with | some (.own w) => σ2.set i (.own w) | _ => σ2) _ _ _
          rw [hi']
          exact S2
        · show Keep σ (match σ[i]? with | some (.own w) => σ2.set i (.own w) | _ => σ2) _ _
          rw [hi']
          exact kp
theorem for_snd {g : G} {it : Ev.It} {b : Ts} (Sb : SndSs bl Γ b) : SndS bl Γ (.for_ g it b) := by
  intro st sc X P ca σ σc hid H fp hc C hS o he D q
  cases st with
  | For tg iter body orelse pos =>
    cases orelse with
    | cons _ _ => simp [chkT] at hc
    | nil =>
      have hc' : (tgOk it g && chkG false X.N sc g tg && chki bl X.N sc it iter && chkTs bl X.N sc b body) = true := hc
      simp only [Bool.and_eq_true] at hc'
      obtain ⟨⟨⟨h1, h2⟩, h3⟩, h4⟩ := hc'
      unfold run at he
      obtain ⟨⟨xs, ls⟩, e1, he⟩ := bind_ok he
      simp only at he
      cases elk : lockS ls σ with
      | none => rw [elk] at he; cases he
      | some σ1 =>
        rw [elk] at he
        simp only at he
        obtain ⟨o', e2, he⟩ := bind_ok he
        cases ok_inj he
        have hl : ∀ i ∈ gSlots g, i < σc.length := fun i hi => by rw [C.ln]; exact gslots_lt h2 i hi
        have htt : (∃ j, g = .nm j) ∨ ∃ es k p, tg = .Tuple es k p := by
          cases g with
          | nm j => exact .inl ⟨j, rfl⟩
          | tup is => cases tg with
            | Tuple es k p => exact .inr ⟨es, k, p, rfl⟩
            | _ => simp [chkG] at h2
        refine wps_of (ps_for hS.own C.ok.calm pi_wp (pg_of C.ok (fun _ => hS.fn) h2) pss_wp (fun x => fold_of h3 _ x)) ?_
        refine it_snd (sndIt it) (tg := tg) h1 (fun i p z => by subst z; cases g with | nm j => exact ⟨j, rfl⟩ | tup is => simp [chkG] at h2) htt h3 C e1 fun J H1 vs s1 rv hJ => ?_
        obtain ⟨hid1, fp1, S1, un⟩ := lock_ok (evi_src e1) C.sr s1 rv elk
        -- what is wanted behind the loop, by the locked state
        have qn : ∀ σ2 σc2 H2 fp2, σc2.length = σc.length → Fut P X.K H1 H2 → Keep σ1 σ2 (σc ++ hid1) (σc2 ++ hid1) → SRep P X.K ca σ2 (σc2 ++ hid1) H2 fp2 → o' = .nx σ2 → D.nx σc2 H2 := fun σ2 σc2 H2 fp2 l f k S e => by
          subst e
          obtain ⟨_, fp3, S3, k3, _⟩ := un σ2 σc2 H2 fp2 l f k S
          exact q σc2 H2 fp3 l ((Fut.of_same s1).trans f) k3 S3
        refine ⟨fun i m σc2 H2 => ∃ σ2 fp2, m = xs.length - i ∧ i ≤ xs.length ∧ σc2.length = σc.length ∧ Fut P X.K H1 H2 ∧ Keep σ1 σ2 (σc ++ hid1) (σc2 ++ hid1) ∧ SRep P X.K ca σ2 (σc2 ++ hid1) H2 fp2 ∧
          forRun (fun x σ => setG g x σ) (runs Γ b) (xs.drop i) σ2 = some (.ok o'), ⟨xs.length, σ1, fp1, by simp, Nat.zero_le _, rfl, .refl, .refl, S1, e2⟩, ?_⟩
        rintro i m σc2 H2 ⟨σ2, fp2, rfl, hi, l2, f2, k2, S2, e3⟩
        obtain ⟨rw2, _⟩ := un σ2 σc2 H2 fp2 l2 f2 k2 S2
        obtain ⟨hgo, hstop⟩ := hJ H2 rw2
        by_cases hlt : i < xs.length
        · have hx : xs[i]? = some xs[i] := List.getElem?_eq_getElem hlt
          obtain ⟨go, yld⟩ := hgo i _ hx
          refine .inr ⟨go, fun σc3 H3 => ∃ σ3 fp3, σc3.length = σc.length ∧ Fut P X.K H1 H3 ∧ Keep σ1 σ3 (σc ++ hid1) (σc3 ++ hid1) ∧ SRep P X.K ca σ3 (σc3 ++ hid1) H3 fp3 ∧
            forRun (fun x σ => setG g x σ) (runs Γ b) (xs.drop (i + 1)) σ3 = some (.ok o'), ?_, ?_⟩
          · rintro σc3 H3 ⟨σ3, fp3, a1, a2, a3, a4, a5⟩
            exact ⟨xs.length - (i + 1), by omega, σ3, fp3, rfl, hlt, a1, a2, a3, a4, a5⟩
          · intro v H3 hy
            obtain ⟨s3, rx⟩ := yld v H3 hy
            rw [List.drop_eq_getElem_cons hlt] at e3
            unfold forRun at e3
            cases eb : setG g xs[i] σ2 with
            | none => rw [eb] at e3; cases e3
            | some σ3 =>
              rw [eb] at e3
              simp only at e3
              obtain ⟨ob, e4, e3⟩ := bind_ok e3
              refine gr_ok (S2.mono s3) (fun j hj => by rw [l2]; exact hl j hj) eb rx fun σc3 fp3 l3 _ S3 k3 => ?_
              have l3' : σc3.length = σc.length := l3.trans l2
              have f3 : Fut P X.K H1 H3 := f2.trans (.of_same s3)
              have k13 := k2.trans k3
              refine Sb body sc X P ca σ3 σc3 hid1 H3 fp3 h4 ⟨C.ok, C.fns, S3, l3'.trans C.ln⟩ hS ob e4 _ ?_
              cases ob with
              | nx σ4 =>
                intro σc4 H4 fp4 l4 f4 k4 S4
                exact ⟨σ4, fp4, l4.trans l3', f3.trans f4, k13.trans k4, S4, e3⟩
              | cnt σ4 =>
                intro σc4 H4 fp4 l4 f4 k4 S4
                exact ⟨σ4, fp4, l4.trans l3', f3.trans f4, k13.trans k4, S4, e3⟩
              | brk σ4 =>
                intro σc4 H4 fp4 l4 f4 k4 S4
                exact qn σ4 σc4 H4 fp4 (l4.trans l3') (f3.trans f4) (k13.trans k4) S4 (ok_inj e3).symm
              | ret w σ4 =>
                have e5 := ok_inj e3
                subst e5
                intro v4 σc4 H4 fp4 f l4 f4 k4 S4 o4 n4 p4 d4
                obtain ⟨_, fp5, S5, k5, sub5⟩ := un σ4 σc4 H4 fp4 (l4.trans l3') (f3.trans f4) (k13.trans k4) S4
                exact q v4 σc4 H4 fp5 f (l4.trans l3') (((Fut.of_same s1).trans f3).trans f4) k5 S5 o4 n4 p4 fun j a ha hb => by
                  obtain ⟨j', z⟩ := sub5 j a hb
                  exact d4 j' a ha z
        · have e : i = xs.length := by omega
          subst e
          refine .inl ⟨hstop, ?_⟩
          rw [List.drop_length] at e3
          unfold forRun at e3
          exact qn σ2 σc2 H2 fp2 l2 f2 k2 S2 (ok_inj e3).symm
  | _ => simp [chkT] at hc
theorem whil_snd {n : Nat} {c : E} {b : Ts} (Sb : SndSs bl Γ b) : SndS bl Γ (.whil n c b) := by
  intro st sc X P ca σ σc hid H fp hc C hS o he D q
  cases st with
  | While x body orelse pos =>
    cases orelse with
    | cons _ _ => simp [chkT] at hc
    | nil =>
      have hc' : (tstOk c && chk bl X.N sc c x && chkTs bl X.N sc b body) = true := hc
      simp only [Bool.and_eq_true] at hc'
      obtain ⟨⟨h0, h1⟩, h2⟩ := hc'
      unfold run at he
      refine wps_of (ps_while hS.own pt_wp pss_wp) ?_
      refine ⟨fun m σc2 H2 => ∃ σ2 fp2, σc2.length = σc.length ∧ Fut P X.K H H2 ∧ Keep σ σ2 (σc ++ hid) (σc2 ++ hid) ∧ SRep P X.K ca σ2 (σc2 ++ hid) H2 fp2 ∧ whilRun (fun σ => tstV (ev Γ c σ)) (runs Γ b) m σ2 = some (.ok o), ⟨n, σ, fp, rfl, .refl, .refl, C.sr, he⟩, ?_⟩
      rintro m σc2 H2 ⟨σ2, fp2, l2, f2, k2, S2, e2⟩
      cases m with
      | zero => unfold whilRun at e2; cases e2
      | succ m =>
        unfold whilRun at e2
        obtain ⟨bt, e3, e2⟩ := bind_ok e2
        obtain ⟨w, k, e4, e5⟩ := tst_ok e3
        refine sndT c h0 x sc X P ca σ2 σc2 hid H2 fp2 h1 ⟨C.ok, C.fns, S2, l2.trans C.ln⟩ w k bt e4 e5 _ fun H3 s3 => ?_
        have f3 := f2.trans (Fut.of_same s3 : Fut P X.K H2 H3)
        cases bt with
        | false =>
          rw [if_neg Bool.false_ne_true]
          simp only [Bool.false_eq_true, if_false] at e2
          cases ok_inj e2
          exact q σc2 H3 fp2 l2 f3 k2 (S2.mono s3)
        | true =>
          rw [if_pos rfl]
          simp only [if_true] at e2
          obtain ⟨ob, e6, e2⟩ := bind_ok e2
          refine ⟨fun σc4 H4 => ∃ σ4 fp4, σc4.length = σc.length ∧ Fut P X.K H H4 ∧ Keep σ σ4 (σc ++ hid) (σc4 ++ hid) ∧ SRep P X.K ca σ4 (σc4 ++ hid) H4 fp4 ∧ whilRun (fun σ => tstV (ev Γ c σ)) (runs Γ b) m σ4 = some (.ok o), ?_, ?_⟩
          · rintro σc4 H4 ⟨σ4, fp4, a⟩
            exact ⟨m, Nat.lt_succ_self m, σ4, fp4, a⟩
          · refine Sb body sc X P ca σ2 σc2 hid H3 fp2 h2 ⟨C.ok, C.fns, S2.mono s3, l2.trans C.ln⟩ hS ob e6 _ ?_
            cases ob with
            | nx σ4 =>
              intro σc4 H4 fp4 l4 f4 k4 S4
              exact ⟨σ4, fp4, l4.trans l2, f3.trans f4, k2.trans k4, S4, e2⟩
            | cnt σ4 =>
              intro σc4 H4 fp4 l4 f4 k4 S4
              exact ⟨σ4, fp4, l4.trans l2, f3.trans f4, k2.trans k4, S4, e2⟩
            | brk σ4 =>
              cases ok_inj e2
              intro σc4 H4 fp4 l4 f4 k4 S4
              exact q σc4 H4 fp4 (l4.trans l2) (f3.trans f4) (k2.trans k4) S4
            | ret w σ4 =>
              cases ok_inj e2
              intro v4 σc4 H4 fp4 f l4 f4 k4 S4 o4 n4 p4 d4
              exact q v4 σc4 H4 fp4 f (l4.trans l2) (f3.trans f4) (k2.trans k4) S4 o4 n4 p4 d4
  | _ => simp [chkT] at hc
mutual
theorem sndS : ∀ t : T, SndS bl Γ t
  | .asg _ _ => asg_snd
  | .aug _ _ _ => aug_snd
  | .setI _ _ _ => setI_snd
  | .app _ _ => app_snd
  | .clear _ => clear_snd
  | .expr _ => expr_snd
  | .ret _ => ret_snd
  | .retN => retN_snd
  | .ite _ a b => ite_snd (sndSs a) (sndSs b)
  | .for_ _ _ b => for_snd (sndSs b)
  | .whil _ _ b => whil_snd (sndSs b)
  | .brk => brk_snd
  | .cnt => cnt_snd
  | .pass => pass_snd
theorem sndSs : ∀ ts : Ts, SndSs bl Γ ts
  | .nil => nil_sndS
  | .cons t ts => cons_sndS (sndS t) (sndSs ts)
end
end
/-! ### defs -/
section
variable {Pg : Program} {w : World} {K : PySem.W.Frag} {mg : Str → Option Value} {base : Heap} {ca : Nat → Addr}
/-- what the defs of the text promise, up to a level -/
def EnvOk (Pg : Program) (w : World) (K : PySem.W.Frag) (mg : Str → Option Value) (base : Heap) (ca : Nat → Addr) (k : Nat) (Γ : Gam) : Prop :=
  ∀ f g, Γ f = some g → ∃ fa fd ps, FnOk Pg w K mg base (L2.CX Pg w) k fa fd ps (spP K ca g) ∧ mg f = some (.ref fa) ∧ PySem.W.keepIn K (.ref fa) = true ∧ Binds K fd ps []
theorem EnvOk.mono {j k : Nat} {Γ : Gam} (h : EnvOk Pg w K mg base ca j Γ) (l : j ≤ k) : EnvOk Pg w K mg base ca k Γ := fun f g e =>
  let ⟨fa, fd, ps, F, r⟩ := h f g e
  ⟨fa, fd, ps, F.mono l, r⟩
theorem EnvOk.nil {k : Nat} : EnvOk Pg w K mg base ca k (fun _ => none) := fun _ _ e => by cases e
theorem EnvOk.cons {k : Nat} {Γ : Gam} {f : Str} {g : List W → M W} {fa : Addr} {fd : FuncData} {ps : List Str} (h : EnvOk Pg w K mg base ca k Γ) (F : FnOk Pg w K mg base (L2.CX Pg w) k fa fd ps (spP K ca g)) (hm : mg f = some (.ref fa)) (hk : PySem.W.keepIn K (.ref fa) = true) (hb : Binds K fd ps []) :
    EnvOk Pg w K mg base ca k (fun x => if x = f then some g else Γ x) := fun x g' e => by
  by_cases hx : x = f
  · simp only [hx, if_true, Option.some.injEq] at e
    subst e hx
    exact ⟨fa, fd, ps, F, hm, hk, hb⟩
  · simp only [hx, if_false] at e
    exact h x g' e
theorem RdL.live {H : Hp} {a : Addr} {vs : List V} (h : RdL (fun _ => True) K H a vs) : RdL (fun a => ∃ o, H a = some o) K H a vs := by
  rcases h with ⟨_, h⟩ | h
  · refine .inl ⟨?_, h⟩
    rcases h with h | ⟨o, h⟩ <;> exact ⟨_, h⟩
  · exact .inr h
theorem repWs_alive {H : Hp} : ∀ {ws : List W} {vs : List V}, RepWs K ca H ws vs → ∀ (i : Nat) (w : W), ws[i]? = some w → ∃ v, vs[i]? = some v ∧ RepW (fun a => ∃ o, H a = some o) K ca H w v
  | [], _, _, i, w, e => by simp at e
  | y :: ws, _, ⟨v, r, e0, h1, h2⟩, 0, w, e => by
    subst e0
    simp at e; subst e
    refine ⟨v, rfl, ?_⟩
    cases y with
    | c x =>
      cases x with
      | d x => exact h1
      | lst xs =>
        obtain ⟨a, vs, e, h, r⟩ := h1
        exact ⟨a, vs, e, h.live, r⟩
      | dK xs => obtain ⟨a, vs, e, _, h, r⟩ := h1; exact ⟨a, vs, e, ⟨_, h⟩, h, r⟩
      | dT xs => obtain ⟨a, vs, e, _, h, r⟩ := h1; exact ⟨a, vs, e, ⟨_, h⟩, h, r⟩
    | obj c fs =>
      obtain ⟨a, dx, fs', e, _, h, r⟩ := h1
      refine ⟨a, dx, fs', e, ⟨_, h⟩, h, fun f => ?_⟩
      have q := r f
      unfold RepF at q ⊢
      cases e2 : fs.lookup f with
      | none => rw [e2] at q; exact q
      | some x =>
        rw [e2] at q
        obtain ⟨v, l, q⟩ := q
        refine ⟨v, l, ?_⟩
        cases x with
        | d x => exact q
        | lst xs =>
          obtain ⟨a, vs, e, h, r⟩ := q
          exact ⟨a, vs, e, h.live, r⟩
        | dK xs => obtain ⟨a, vs, e, _, h, r⟩ := q; exact ⟨a, vs, e, ⟨_, h⟩, h, r⟩
        | dT xs => obtain ⟨a, vs, e, _, h, r⟩ := q; exact ⟨a, vs, e, ⟨_, h⟩, h, r⟩
  | y :: ws, _, ⟨v, r, e0, h1, h2⟩, i + 1, w, e => by
    subst e0
    obtain ⟨u, q1, q2⟩ := repWs_alive h2 i w (by simpa using e)
    exact ⟨u, by simpa using q1, q2⟩
/-- THE RULE for a def that changes nothing: its text by the small language, its worth by the evaluator -/
theorem fn_ok {x qual : Str} {st : Stmt} {f : Addr} {fd : FuncData} {N ps : List Str} {k : Nat} {bl : List Str} {Γ : Gam} (F : Fun K x qual st f fd) (S : FnScope N ps (defScope st)) (b : Ts) (g : List W → M W)
    (hc : chkTs bl N (defScope st) b (defBody st) = true) (hb : ∀ y ∈ bl, mg y = none) (hΓ : EnvOk Pg w K mg base ca k Γ) (hg : ∀ ws r, g ws = some (.ok r) → ws.length = ps.length ∧ fnRun Γ N.length b ws = some (.ok r)) :
    FnOk Pg w K mg base (L2.CX Pg w) (k + 1) f fd ps (spP K ca g) := by
  refine F.okX S (fun vs H Q E h => ?_) (fun cdv A outer s H vs Q E hr h => ?_)
  · obtain ⟨ws, r, h1, h2, _⟩ := h
    rw [h1.length]
    exact (hg ws r h2).1
  · obtain ⟨ws, r, h1, h2, q⟩ := h
    obtain ⟨hl, hr2⟩ := hg ws r h2
    refine ⟨_, pss_wp, ?_⟩
    unfold fnRun at hr2
    obtain ⟨o, e1, e2⟩ := bind_ok hr2
    generalize hX : cxOf (L2.CX Pg w) Pg w K mg base N qual (defScope st) f cdv A outer s H E = X
    have hlen := h1.length
    have hpn : ps.length ≤ N.length := by have := congrArg List.length S.pre; rw [List.length_take] at this; omega
    have ok : Cok bl (defScope st) X := by
      rw [← hX]
      exact ⟨rfl, S.nd, rfl, by have := hr.units; exact this, hb, S.kind⟩
    have fns : FnsOk X ca Γ := fun f g e => by
      obtain ⟨fa, fd, ps, F2, m2, k2, b2⟩ := hΓ f g e
      rw [← hX]
      exact ⟨fa, fd, ps, k, F2, hr, m2, k2, b2⟩
    have sok : Sok X := by
      rw [← hX]
      exact ⟨fun _ => rfl, passes_of rfl⟩
    have sr : SRep (fun a => ∃ o, H a = some o) X.K ca (ws.map Sl.ro ++ List.replicate (N.length - ws.length) Sl.out) (L2.start N vs ++ []) H (fun _ => []) := by
      rw [← hX, List.append_nil]
      refine ⟨by simp [L2.start, hlen], fun i t e => ?_, fun _ _ _ a ha => (by cases ha), fun _ => List.nodup_nil, fun _ a ha => (by cases ha), fun _ _ => rfl, fun _ p => p⟩
      by_cases hi : i < ws.length
      · rw [List.getElem?_append_left (by simpa using hi), List.getElem?_map] at e
        cases ew : ws[i]? with
        | none => rw [ew] at e; cases e
        | some w0 =>
          rw [ew] at e
          cases e
          obtain ⟨v, e3, r3⟩ := repWs_alive h1 i w0 ew
          refine ⟨v, ?_, r3, rfl⟩
          unfold L2.start
          rw [List.getElem?_append_left (by rw [List.length_map, hlen]; exact hi), List.getElem?_map, e3]
          rfl
      · rw [List.getElem?_append_right (by simpa using hi)] at e
        rw [List.getElem?_replicate] at e
        split at e
        · cases e; rfl
        · cases e
    have ln : (L2.start N vs).length = X.N.length := by
      rw [← hX]
      show (L2.start N vs).length = N.length
      simp [L2.start, hlen]
      omega
    refine sndSs b (defBody st) (defScope st) X (fun a => ∃ o, H a = some o) ca _ (L2.start N vs) [] H _ (by rw [← hX]; exact hc) ⟨ok, fns, sr, ln⟩ sok o e1 _ ?_
    have fin : ∀ (w0 : W) v H' f, r = w0 → Fut (fun a => ∃ o, H a = some o) X.K H H' → OwnW X.K ca H' w0 v f → f.Nodup → (∀ a ∈ f, ¬ ∃ o, H a = some o) → Q v H' := fun w0 v H' f e ft o n p => by
      subst e
      have sm : Same H H' := fun a o z => ft.at_ a o ⟨o, z⟩ z
      have hk : X.K = K := by rw [← hX]; rfl
      rw [hk] at o
      have n2 : ∀ a ∈ f, H a = none := fun a ha => by
        cases e : H a with
        | none => rfl
        | some o => exact absurd ⟨o, e⟩ (p a ha)
      refine q v H' sm ⟨o.rep fun _ _ => trivial, ?_⟩
      split
      · trivial
      · exact ⟨f, o, n2, n⟩
    cases o with
    | nx σ' =>
      cases ok_inj e2
      intro σc' H' fp' l' f' k' S'
      exact fin .non .non H' [] rfl f' ⟨rfl, rfl⟩ List.nodup_nil (fun a ha => by cases ha)
    | ret w0 σ' =>
      have e3 := ok_inj e2
      intro v σc' H' fp' f l' f' k' S' o' n' p' d'
      exact fin w0 v H' f e3.symm f' o' n' p'
    | brk _ => cases e2
    | cnt _ => cases e2
end
end Ev
/-! Ev10: how the evaluator is run in a proof. -/
namespace Ev
open PySem PySem.Spec
open PyProof.Rows hiding St
open L2
theorem bok {α β : Type} (a : α) (f : α → M β) : M.bind (some (.ok a)) f = f a := rfl
theorem mok {α : Type} (a : α) : M.ok a = some (.ok a) := rfl
theorem guardP_pos {α : Type} {p : Prop} {k : M α} (h : p) : guardP p k = k := if_pos h
theorem guardN_pos {α : Type} {n : Nat} {k : M α} (h : n ≤ 16777216) : guardN n k = k := guardP_pos (by rw [sizeLine_eq]; exact h)
theorem bassoc {α β γ : Type} (x : M α) (f : α → M β) (g : β → M γ) : (x.bind f).bind g = x.bind fun a => (f a).bind g := by
  cases x with
  | none => rfl
  | some r => cases r <;> rfl
/-- a def's value once its body has come to a return, or to its end -/
theorem fnRun_ret {Γ : Gam} {n : Nat} {b : Ts} {ws : List W} {w : W} {σ : List Sl} (h : runs Γ b (ws.map Sl.ro ++ List.replicate (n - ws.length) Sl.out) = some (.ok (.ret w σ))) : fnRun Γ n b ws = some (.ok w) := by
  unfold fnRun
  rw [h]
  rfl
theorem putS_ro {σ : List Sl} {i : Nat} {s : Sl} {w : W} (h : σ[i]? = some (Sl.ro w)) : putS σ i s = some (σ.set i s) := by unfold putS; rw [h]
theorem putS_own {σ : List Sl} {i : Nat} {s : Sl} {w : W} (h : σ[i]? = some (Sl.own w)) : putS σ i s = some (σ.set i s) := by unfold putS; rw [h]
theorem putS_out {σ : List Sl} {i : Nat} {s : Sl} (h : σ[i]? = some Sl.out) : putS σ i s = some (σ.set i s) := by unfold putS; rw [h]
/-- a comprehension's list -/
theorem lcRun_map {bind : D → Option (List Sl)} {test : List Sl → M Bool} {elt : List Sl → M VW} (p : D → Bool) (f : D → D) : ∀ (xs : List D), (∀ x ∈ xs, ∃ σ, bind x = some σ ∧ test σ = some (.ok (p x)) ∧ (p x = true → ∃ k, elt σ = some (.ok (.c (.d (f x)), k)))) →
    lcRun bind test elt xs = some (.ok ((xs.filter p).map f))
  | [], _ => rfl
  | x :: xs, h => by
    obtain ⟨σ, h1, h2, h3⟩ := h x List.mem_cons_self
    have ih := lcRun_map p f xs fun y hy => h y (List.mem_cons_of_mem _ hy)
    unfold lcRun
    rw [h1]
    simp only [h2, bok]
    cases e : p x with
    | true =>
      obtain ⟨k, h3⟩ := h3 e
      simp only [if_true, h3, bok, ih, List.filter_cons, e, List.map_cons]
      rfl
    | false =>
      simp only [Bool.false_eq_true, if_false, ih, List.filter_cons, e]
/-- .. over written items -/
theorem lcRun_mapT {bind : D → Option (List Sl)} {elt : List Sl → M VW} (f : D → D) (xs : List D) (h : ∀ x ∈ xs, ∃ σ, bind x = some σ ∧ ∃ k, elt σ = some (.ok (.c (.d (f x)), k))) :
    lcRun bind (fun _ => some (.ok true)) elt xs = some (.ok (xs.map f)) := by
  rw [lcRun_map (fun _ => true) f xs fun x hx => let ⟨σ, h1, h2⟩ := h x hx; ⟨σ, h1, rfl, fun _ => h2⟩, List.filter_eq_self.mpr (by simp)]
/-- a loop, by what holds between its turns -/
theorem forRun_inv {bind : D → List Sl → Option (List Sl)} {body : List Sl → M Out} (xs : List D) (I : Nat → List Sl → Prop) {σ : List Sl} (h0 : I 0 σ)
    (step : ∀ (i : Nat) (x : D) (σ : List Sl), xs[i]? = some x → I i σ → ∃ σ1 σ2, bind x σ = some σ1 ∧ (body σ1 = some (.ok (.nx σ2)) ∨ body σ1 = some (.ok (.cnt σ2))) ∧ I (i + 1) σ2) :
    ∃ σ', forRun bind body xs σ = some (.ok (.nx σ')) ∧ I xs.length σ' := by
  have key : ∀ (ys : List D) (n : Nat) (σ : List Sl), (∀ j, ys[j]? = xs[n + j]?) → n + ys.length = xs.length → I n σ → ∃ σ', forRun bind body ys σ = some (.ok (.nx σ')) ∧ I xs.length σ' := by
    intro ys
    induction ys with
    | nil =>
      intro n σ _ hl hI
      have : n = xs.length := by simpa using hl
      exact ⟨σ, rfl, by rw [← this]; exact hI⟩
    | cons y ys ih =>
      intro n σ hy hl hI
      obtain ⟨σ1, σ2, e1, e2, e3⟩ := step n y σ (by have := hy 0; simpa using this.symm) hI
      obtain ⟨σ', e4, e5⟩ := ih (n + 1) σ2 (fun j => by have := hy (j + 1); simpa [Nat.add_assoc, Nat.add_comm 1 j] using this) (by simp at hl ⊢; omega) e3
      refine ⟨σ', ?_, e5⟩
      unfold forRun
      rw [e1]
      rcases e2 with e2 | e2 <;> simp only [e2, bok, e4]
  exact key xs 0 σ (fun j => by simp) (by simp) h0
/-- a def's worth, by a relation that is a function -/
noncomputable def rel (R : List W → W → Prop) : List W → M W := fun ws => open Classical in if h : ∃ r, R ws r then some (.ok (Classical.choose h)) else none
theorem rel_inv {R : List W → W → Prop} {ws : List W} {r : W} (h : rel R ws = some (.ok r)) : R ws r := by
  unfold rel at h
  split at h
  · rename_i e
    cases h
    exact Classical.choose_spec e
  · cases h
theorem rel_ok {R : List W → W → Prop} {ws : List W} {r : W} (h : R ws r) (u : ∀ r', R ws r' → r' = r) : rel R ws = some (.ok r) := by
  unfold rel
  rw [dif_pos ⟨r, h⟩]
  rw [u _ (Classical.choose_spec (⟨r, h⟩ : ∃ r, R ws r))]
theorem rngD_get {lo : Int} {n i : Nat} {x : D} (h : (rngD lo n)[i]? = some x) : i < n ∧ x = .int (lo + (i : Int)) := by
  unfold rngD at h
  rw [List.getElem?_map] at h
  cases e : (List.range n)[i]? with
  | none => rw [e] at h; cases h
  | some c =>
    rw [e] at h
    cases h
    obtain ⟨hi, e2⟩ := List.getElem?_eq_some_iff.mp e
    simp at hi e2
    subst e2
    exact ⟨hi, rfl⟩
theorem rngD_mem {lo : Int} {n : Nat} {x : D} (h : x ∈ rngD lo n) : ∃ i : Nat, i < n ∧ x = .int (lo + (i : Int)) := by
  obtain ⟨i, hi, e⟩ := List.mem_iff_getElem.mp h
  obtain ⟨h1, h2⟩ := rngD_get (i := i) (x := x) (lo := lo) (n := n) (by rw [List.getElem?_eq_getElem hi, e])
  exact ⟨i, h1, h2⟩
theorem rngD_length {lo : Int} {n : Nat} : (rngD lo n).length = n := by simp [rngD]
theorem atI_lt {α : Type} {xs : List α} {i : Nat} (h : i < xs.length) : L2.atI xs (i : Int) = some xs[i] := L2.atI_nat (List.getElem?_eq_getElem h)
theorem atI_int {α : Type} {xs : List α} {i : Int} (h0 : 0 ≤ i) (h : i < xs.length) : ∃ x, xs[i.toNat]? = some x ∧ L2.atI xs i = some x := by
  have hl : i.toNat < xs.length := by omega
  refine ⟨xs[i.toNat], List.getElem?_eq_getElem hl, ?_⟩
  have := L2.atI_nat (xs := xs) (j := i.toNat) (List.getElem?_eq_getElem hl)
  rwa [show ((i.toNat : Nat) : Int) = i by omega] at this
/-! ### slices by numbers that are not negative -/
theorem sIx_pos (n d : Nat) {v : Int} (h : 0 ≤ v) : HT.sIx n d (some v) = min v.toNat n := by
  have e : v = ((v.toNat : Nat) : Int) := by omega
  conv => lhs; rw [e]
  exact HT.sIx_nat n d v.toNat
theorem cutD_pos {xs : List D} {i j : Int} (hi : 0 ≤ i) (hj : 0 ≤ j) : cutD xs (some i) (some j) = (xs.take j.toNat).drop i.toNat := by
  unfold cutD
  rw [sIx_pos _ _ hi, sIx_pos _ _ hj, List.drop_take]
  by_cases h1 : i.toNat ≤ xs.length
  · rw [Nat.min_eq_left h1]
    by_cases h2 : j.toNat ≤ xs.length
    · rw [Nat.min_eq_left h2]
    · rw [Nat.min_eq_right (by omega), List.take_of_length_le (by simp), List.take_of_length_le (by simp; omega)]
  · rw [Nat.min_eq_right (by omega : xs.length ≤ i.toNat)]
    rw [List.drop_eq_nil_of_le (Nat.le_refl _), List.drop_eq_nil_of_le (by omega : xs.length ≤ i.toNat)]
    simp
theorem cutD_to {xs : List D} {j : Int} (hj : 0 ≤ j) : cutD xs none (some j) = xs.take j.toNat := by
  unfold cutD
  rw [sIx_pos _ _ hj, HT.sIx_none]
  simp only [List.drop_zero, Nat.sub_zero]
  by_cases h2 : j.toNat ≤ xs.length
  · rw [Nat.min_eq_left h2]
  · rw [Nat.min_eq_right (by omega), List.take_of_length_le (Nat.le_refl _), List.take_of_length_le (by omega)]
theorem cutD_from {xs : List D} {i : Int} (hi : 0 ≤ i) : cutD xs (some i) none = xs.drop i.toNat := by
  unfold cutD
  rw [sIx_pos _ _ hi, HT.sIx_none]
  by_cases h1 : i.toNat ≤ xs.length
  · rw [Nat.min_eq_left h1, List.take_of_length_le (by simp)]
  · rw [Nat.min_eq_right (by omega), List.drop_eq_nil_of_le (Nat.le_refl _), List.drop_eq_nil_of_le (by omega : xs.length ≤ i.toNat)]
    simp
/-! ### what may be compared -/
mutual
def okD : Nat → D → Bool
  | _, .non => true
  | _, .bl _ => true
  | _, .int _ => true
  | _, .str x => PyData.strOk x
  | 0, .tup _ => false
  | n + 1, .tup xs => okDs n xs
def okDs : Nat → List D → Bool
  | _, [] => true
  | n, x :: xs => okD n x && okDs n xs
end
mutual
theorem okD_lay : ∀ (n : Nat) (x : D), okD n x = true → PyData.canLay0 (toPy x) = true ∧ PyData.depth (toPy x) ≤ n
  | _, .non, _ => ⟨rfl, Nat.zero_le _⟩
  | _, .bl _, _ => ⟨rfl, Nat.zero_le _⟩
  | _, .int _, _ => ⟨rfl, Nat.zero_le _⟩
  | n, .str x, h => by
    have h : PyData.strOk x = true := by cases n <;> simpa [okD] using h
    exact ⟨by simpa [toPy, PyData.canLay0] using h, Nat.zero_le _⟩
  | 0, .tup xs, h => by simp [okD] at h
  | n + 1, .tup xs, h => by
    have h' : okDs n xs = true := by simpa [okD] using h
    obtain ⟨h1, h2⟩ := okDs_lay n xs h'
    refine ⟨by simpa [toPy, PyData.canLay0] using h1, ?_⟩
    simp only [toPy, PyData.depth]
    omega
theorem okDs_lay : ∀ (n : Nat) (xs : List D), okDs n xs = true → PyData.canLayAll0 (toPys xs) = true ∧ PyData.depthAll (toPys xs) ≤ n
  | n, [], _ => ⟨rfl, Nat.zero_le _⟩
  | n, x :: xs, h => by
    have h' : okD n x = true ∧ okDs n xs = true := by simpa [okDs] using h
    obtain ⟨h1, h2⟩ := okD_lay n x h'.1
    obtain ⟨h3, h4⟩ := okDs_lay n xs h'.2
    refine ⟨by simp [toPys, PyData.canLayAll0, h1, h3], ?_⟩
    simp only [toPys, PyData.depthAll]
    omega
end
theorem okDs_all {n : Nat} {xs : List D} : okDs n xs = true ↔ ∀ x ∈ xs, okD n x = true := by
  induction xs with
  | nil => simp [okDs]
  | cons x xs ih => simp [okDs, ih]
theorem shaped_D {n : Nat} {x : D} (h : okD n x = true) (hn : n ≤ 64) : SeqAt.shaped (toPy x) = true := by
  obtain ⟨h1, h2⟩ := okD_lay n x h
  unfold SeqAt.shaped
  rw [h1, decide_eq_true (by omega)]
  rfl
theorem shaped_L {n : Nat} {xs : List D} (h : okDs n xs = true) (hn : n ≤ 63) : SeqAt.shaped (.list (toPys xs)) = true := by
  obtain ⟨h1, h2⟩ := okDs_lay n xs h
  unfold SeqAt.shaped
  have e1 : PyData.canLay0 (.list (toPys xs)) = true := by simpa [PyData.canLay0] using h1
  have e2 : PyData.depth (.list (toPys xs)) ≤ 64 := by simp only [PyData.depth]; omega
  rw [e1, decide_eq_true e2]
  rfl
theorem eqW_D {n : Nat} {x y : D} (h : okD n x = true) (h' : okD n y = true) (hn : n ≤ 64) : eqW (.c (.d x)) (.c (.d y)) = some (.ok (PyData.eqv (toPy x) (toPy y))) := by
  unfold eqW wPy
  simp only
  rw [guardP_pos ⟨shaped_D h hn, shaped_D h' hn⟩]
  rfl
theorem eqW_L {n : Nat} {xs ys : List D} (h : okDs n xs = true) (h' : okDs n ys = true) (hn : n ≤ 63) : eqW (.c (.lst xs)) (.c (.lst ys)) = some (.ok (PyData.eqvAll (toPys xs) (toPys ys))) := by
  unfold eqW wPy
  simp only
  rw [guardP_pos ⟨shaped_L h hn, shaped_L h' hn⟩]
  simp only [PyData.eqv]
  rfl
mutual
theorem eqv_toPy : ∀ x : D, PyData.eqv (toPy x) (toPy x) = true
  | .non => rfl
  | .bl b => by simp [toPy, PyData.eqv]
  | .int i => by simp [toPy, PyData.eqv]
  | .str x => by simp [toPy, PyData.eqv]
  | .tup xs => by simp only [toPy, PyData.eqv]; exact eqvAll_toPys xs
theorem eqvAll_toPys : ∀ xs : List D, PyData.eqvAll (toPys xs) (toPys xs) = true
  | [] => rfl
  | x :: xs => by simp only [toPys, PyData.eqvAll, eqv_toPy x, eqvAll_toPys xs]; rfl
end
/-! ### step by step -/
section
variable {Γ : Gam} {t : T} {ts a b : Ts} {c : E} {σ σ' σ1 : List Sl} {o : Out} {w : W} {g : G} {it : It} {xs : List D} {ls : List VW} {r : M Out}
theorem seq (h1 : run Γ t σ = some (.ok (.nx σ'))) (h2 : runs Γ ts σ' = r) : runs Γ (.cons t ts) σ = r := by
  unfold runs
  rw [h1, bok]
  exact h2
theorem fin_ret (h1 : run Γ t σ = some (.ok (.ret w σ'))) : runs Γ (.cons t ts) σ = some (.ok (.ret w σ')) := by
  unfold runs
  rw [h1, bok]
  rfl
theorem ite_t (h1 : tstV (ev Γ c σ) = some (.ok true)) (h2 : runs Γ a σ = r) : run Γ (.ite c a b) σ = r := by
  unfold run
  rw [h1, bok, if_pos rfl]
  exact h2
theorem ite_f (h1 : tstV (ev Γ c σ) = some (.ok false)) (h2 : runs Γ b σ = r) : run Γ (.ite c a b) σ = r := by
  unfold run
  rw [h1, bok, if_neg Bool.false_ne_true]
  exact h2
theorem nil_nx : runs Γ .nil σ = some (.ok (.nx σ)) := by unfold runs; rfl
theorem for_inv (hi : evi Γ it σ = some (.ok (xs, ls))) (hl : lockS ls σ = some σ1) (I : Nat → List Sl → Prop) (h0 : I 0 σ1)
    (step : ∀ (i : Nat) (x : D) (σ : List Sl), xs[i]? = some x → I i σ → ∃ σ1 σ2, setG g x σ = some σ1 ∧ (runs Γ b σ1 = some (.ok (.nx σ2)) ∨ runs Γ b σ1 = some (.ok (.cnt σ2))) ∧ I (i + 1) σ2) :
    ∃ σ', run Γ (.for_ g it b) σ = some (.ok (.nx (unlockS ls σ σ'))) ∧ I xs.length σ' := by
  obtain ⟨σ', e1, e2⟩ := forRun_inv (bind := fun x σ => setG g x σ) (body := runs Γ b) xs I h0 step
  refine ⟨σ', ?_, e2⟩
  unfold run
  rw [hi, bok]
  simp only
  rw [hl]
  simp only
  rw [e1, bok]
  rfl
end
theorem mapM_nil : List.mapM wD ([] : List W) = some [] := rfl
theorem mapM_cons1 (x : D) (r : List W) : List.mapM wD (W.c (C.d x) :: r) = (List.mapM wD r).map (x :: ·) := by
  rw [List.mapM_cons]
  cases List.mapM wD r <;> rfl
/-- one more def -/
def ext (Γ : Gam) (f : Str) (g : List W → M W) : Gam := fun x => if x = f then some g else Γ x
theorem ext_same {Γ : Gam} {f : Str} {g : List W → M W} : ext Γ f g f = some g := if_pos rfl
theorem ext_ne {Γ : Gam} {f x : Str} {g : List W → M W} (h : x ≠ f) : ext Γ f g x = Γ x := if_neg h
def Gm0 : Gam := fun _ => none
theorem EnvOk.zero {Pg : Program} {w : World} {K : PySem.W.Frag} {mg : Str → Option Value} {base : Heap} {ca : Nat → Addr} {k : Nat} : EnvOk Pg w K mg base ca k Gm0 := fun _ _ e => by cases e
theorem EnvOk.ext {Pg : Program} {w : World} {K : PySem.W.Frag} {mg : Str → Option Value} {base : Heap} {ca : Nat → Addr} {j k : Nat} {Γ : Gam} {f : Str} {g : List W → M W} {fa : Addr} {fd : FuncData} {ps : List Str} (h : EnvOk Pg w K mg base ca j Γ)
    (F : L2.FnOk Pg w K mg base (L2.CX Pg w) k fa fd ps (spP K ca g)) (hl : j ≤ k) (hm : mg f = some (.ref fa)) (hk : PySem.W.keepIn K (.ref fa) = true) (hb : L2.Binds K fd ps []) : EnvOk Pg w K mg base ca k (ext Γ f g) := EnvOk.cons (h.mono hl) F hm hk hb
theorem lcRun_evc {Γ : Gam} {bind : D → Option (List Sl)} {elt : List Sl → M VW} (f : D → D) (xs : List D) (h : ∀ x ∈ xs, ∃ σ, bind x = some σ ∧ ∃ k, elt σ = some (.ok (.c (.d (f x)), k))) :
    lcRun bind (evc Γ .none) elt xs = some (.ok (xs.map f)) := by
  rw [lcRun_map (fun _ => true) f xs fun x hx => let ⟨σ, h1, h2⟩ := h x hx; ⟨σ, h1, by unfold evc; rfl, fun _ => h2⟩, List.filter_eq_self.mpr (by simp)]
theorem intsD_map : ∀ l : List Int, intsD (l.map D.int) = some l
  | [] => rfl
  | i :: l => by rw [List.map_cons, intsD, intsD_map l]; rfl
theorem strsD_map : ∀ l : List Str, strsD (l.map D.str) = some l
  | [] => rfl
  | i :: l => by rw [List.map_cons, strsD, strsD_map l]; rfl
theorem ev_lc {Γ : Gam} {own : List (Str × Nat)} {g : G} {it : It} {cs : Eo} {e : E} {σ : List Sl} {xs ys : List D} {ls : List VW} (hi : evi Γ it σ = some (.ok (xs, ls))) (hn : xs.length ≤ 16777216)
    (h : lcRun (fun x => setG g x (wipeS σ (own.map (·.2)))) (evc Γ cs) (ev Γ e) xs = some (.ok ys)) : ev Γ (.lc own g it cs e) σ = some (.ok (.lst ys, .fr)) := by
  unfold ev
  rw [hi, bok]
  simp only
  rw [guardN_pos hn, h, bok]
  rfl
end Ev
/-! X42a: own exception classes whose __init__ calls the base's by the base's name. -/
namespace X42
open PySem PySem.Spec
open PyProof.Rows hiding St
open L2 ClX
section
variable {X : Cx} {e : Expr} {es : List Expr} {ta : TA} {p1 p2 pos : Pos} {x : Str} {C : Addr} {mc : Value}
/-- B.__init__(self, ..), B an own class that has it of ValueError -/
theorem pe_qinit {pl : Sem Bool} (hg : Gl X x) (hm : X.mg x = some (.ref C)) (r : CRead X.K C mc) (hv : PySem.W.findCls X.K (.ref C) mc "__init__" = some (.val (.builtin "ValueError.__init__"))) (ha : PA X (e :: es) ta) (hd : (x == ("__debug__" : Str)) = false)
    (hc : eval (.Call (.Attribute (.Name x p1) "__init__" p2) (e :: es) [] pos) X.env = (do let ov ← eval (.Name x p1) X.env; standAt p2.atName; let (f, first) ← holding [ov] (getMethod ov "__init__" pl); callWith pos f first (backTo pos (starEach (e :: es) X.env)) (backToKw pos (keywordEach [] X.env))) := by rfl)
    (he : starEach (e :: es) X.env = (false, eval e X.env) :: starEach es X.env := by rfl) (hpl : (backTo pos (starEach es X.env)).any (·.1) = false := by rfl) : PE X (.Call (.Attribute (.Name x p1) "__init__" p2) (e :: es) [] pos) (tVeI X.K ta) := by
  refine ⟨fun pins s σ H Q I h => PySem.W.methodCall_KW (ld_glob I hg hm ?_ hd) hc⟩
  refine PySem.W.method_cls I.kIn r.ga (PySem.W.cls_value I.kIn r.rd hv rfl ?_)
  refine PyProof.Rows.callWith_method1 (first := []) (thn (ha.run pos pins _ σ H _ (I.tok _) h) fun us s1 hh => ?_) he hpl
  obtain ⟨vs, H1, I1, r1, a, C', ws, ev, hl, T, ea, q⟩ := hh
  subst ev
  cases r1 with
  | @cons _ u0 _ ur ra rw' =>
    obtain rfl : u0 = Value.ref a := ra
    exact oinit_ok T I1 ea (by rw [← Paired.length rw', sizeLine_eq]; omega) fun s' J => ⟨.non, H1, J, rfl, q⟩
/-- isinstance(e, c), e the error that the suite holds, of the class at D, with a dict -/
structure IsX (K : PySem.W.Frag) (D : Addr) : Prop where
  cl : (PySem.W.clsIn K D).isSome = true
  ga : PySem.W.findIn K (.ref D) "__getattribute__" = some (some (.builtin "BaseException.__getattribute__"))
  gt : PySem.W.findIn K (.ref D) "__getattr__" = some none
  sb : PySem.W.subIn K (.ref D) (.type "BaseException") = some true
  fc : PySem.W.findIn K (.ref D) "__class__" = some (some (.builtin "object.__class__"))
  sp : PySem.W.specialIn K (.builtin "object.__class__") "__get__" = some (some (.builtin "getset_descriptor.__get__"))
  tk : PySem.W.takesIn K (.builtin "object.__class__") = some true
  mr : PySem.W.mroIn K D (.type "object") = some true
def rIsX (K : PySem.W.Frag) (D a : Addr) (cls : Value) (d : Option Addr) : List V → Hp → VK → Prop := fun xs H Q => cls = .ref D ∧ ∃ (c : V) (cv : Value) (b : Bool) (dd : Addr) (fs : List (Str × V)), xs = [.ref a, c] ∧ (∀ u, RelV c u → u = cv) ∧ PySem.W.kitOne K (.ref D) cv = some b ∧ d = some dd ∧ H dd = some (.xd fs) ∧ Q (.bl b) H
theorem call_isX {a D : Addr} {d : Option Addr} {oe : Obj} {pn : List (Addr × Obj)} (T : IsX X.K D) {cls : Value} (hz : Zc cls d oe) (hf : ∃ vs, oe.data = .fields vs) : CallR (X.suite a ((a, oe) :: pn)) (.builtin "isinstance") (rIsX X.K D a cls d) := by
  intro pins s σ H xs us Q I r h
  obtain ⟨ec, c, cv, b, dd, fs, rfl, hcv, e, rfl, hd, q⟩ := h
  subst ec
  obtain _ | ⟨rx, rr⟩ := r
  obtain _ | ⟨rt, rr⟩ := rr
  cases rr
  cases rx
  obtain rfl := hcv _ rt
  have hget := (I.pin (a, oe) (List.mem_append.mpr (.inl List.mem_cons_self))).1
  obtain ⟨vs, hv⟩ := hf
  have hx : ObjOk X.prog X.w H s.heap dd (.xd fs) := I.hok dd _ hd
  obtain ⟨mA, hns, _⟩ := hx
  obtain ⟨od, ho, _⟩ := lookIn_ns hns
  have J : PySem.W.InstAt s.heap a oe D (some od) := ⟨hget, hz.1, by unfold PySem.W.notCls; rw [hv] <;> rfl, by rw [hz.2]; exact ho⟩
  exact PySem.W.kia_one (PySem.W.kitx_exc T.cl T.ga T.gt T.sb T.fc T.sp T.tk T.mr) I.kIn J e (fun z => nomatch z) fun tk => ⟨.bl b, H, I.kept (t' := tk) fun _ _ z => z, rfl, q⟩
end
end X42
namespace L42
open PySem PySem.Spec
open PyProof.Rows hiding St
open L2 Ev
def topS (i : Nat) : Stmt := PySem.Challenge.pw_redquill_k42_at_a_place.main.body.getD i (.Pass ⟨0, 0, 0, 0⟩)
def bl : List Str := ["len", "range", "list", "sum", "int", "bool", "isinstance", "min"]
-- class QuillError at 1: []
-- class OutOfPlace at 2: ['__init__']
-- class NoRow at 3: []
abbrev s_ends_of : Stmt := topS 5
abbrev N_ends_of : List Str := ["rows", "at"]
def b_ends_of : Ts :=
 (.cons (.ret (.lc [("at", 1)] (.nm 1) (.rng1 (.blt .len (.cons (.var 0) .nil))) (.some (.cmp .Eq (.ix (.ix (.var 0) (.var 1)) (.int 1)) (.str "\n"))) (.var 1)))
 .nil)
theorem sc_ends_of : FnScope N_ends_of ["rows"] (defScope s_ends_of) := ⟨rfl, rfl, rfl, by decide +kernel, rfl, by decide +kernel, by decide +kernel⟩
theorem ck_ends_of : chkTs bl N_ends_of (defScope s_ends_of) b_ends_of (defBody s_ends_of) = true := by decide +kernel
-- calls []; built-ins ['len', 'range']
-- paragraph_at: NOT IN THE LANGUAGE: stmt raise OutOfPlace(at)
abbrev s_law_drawn : Stmt := topS 8
abbrev N_law_drawn : List Str := ["_law_cell", "_law_place", "_law_number"]
def b_law_drawn : Ts :=
 (.cons (.asg (.nm 2) (.bin .Mod (.bin .Mult (.bin .Add (.bin .Add (.var 0) (.bin .Mult (.int 7919) (.var 1))) (.int 1)) (.int 48271)) (.int 2147483647)))
 (.cons (.ret (.bin .Mod (.bin .Mult (.var 2) (.bin .Add (.bin .FloorDiv (.var 2) (.int 1009)) (.int 69621))) (.int 2147483647)))
 .nil))
theorem sc_law_drawn : FnScope N_law_drawn ["_law_cell", "_law_place"] (defScope s_law_drawn) := ⟨rfl, rfl, rfl, by decide +kernel, rfl, by decide +kernel, by decide +kernel⟩
theorem ck_law_drawn : chkTs bl N_law_drawn (defScope s_law_drawn) b_law_drawn (defBody s_law_drawn) = true := by decide +kernel
-- calls []; built-ins []
abbrev s_law_rows : Stmt := topS 9
abbrev N_law_rows : List Str := ["_law_script", "_law_often", "_law_rows_here", "_law_k", "_law_sign"]
def b_law_rows : Ts :=
 (.cons (.asg (.nm 1) (.bin .Add (.int 1) (.bin .Mod (.blt .sum (.cons (.sl (.var 0) .none (.some (.int 1))) .nil)) (.int 3))))
 (.cons (.asg (.nm 2) (.lst .nil))
 (.cons (.for_ (.nm 3) (.rng2 (.int 1) (.blt .min (.cons (.int 61) (.cons (.blt .len (.cons (.var 0) .nil)) .nil))))
  (.cons (.asg (.nm 4) (.ix (.str "abcdefgh") (.bin .Mod (.call "_law_drawn" (.cons (.ix (.var 0) (.var 3)) (.cons (.int 1) .nil))) (.int 8))))
  (.cons (.ite (.cmp .Lt (.bin .Mod (.call "_law_drawn" (.cons (.ix (.var 0) (.var 3)) (.cons (.int 2) .nil))) (.int 4)) (.var 1))
   (.cons (.asg (.nm 4) (.str "\n"))
   .nil)
   .nil)
  (.cons (.app 2 (.tup (.cons (.tup (.cons (.str "") (.cons (.int 0) (.cons (.var 3) .nil)))) (.cons (.var 4) (.cons (.ix (.lst (.cons (.str "") (.cons (.str "red") .nil))) (.bin .Mod (.call "_law_drawn" (.cons (.ix (.var 0) (.var 3)) (.cons (.int 3) .nil))) (.int 2))) .nil)))))
  .nil))))
 (.cons (.ret (.var 2))
 .nil))))
theorem sc_law_rows : FnScope N_law_rows ["_law_script"] (defScope s_law_rows) := ⟨rfl, rfl, rfl, by decide +kernel, rfl, by decide +kernel, by decide +kernel⟩
theorem ck_law_rows : chkTs bl N_law_rows (defScope s_law_rows) b_law_rows (defBody s_law_rows) = true := by decide +kernel
-- calls ['_law_drawn']; built-ins ['len', 'min', 'range', 'sum']
abbrev s_law : Stmt := topS 11
abbrev N_law : List Str := ["_law_script", "_law_cell", "_law_rows_here", "_law_step", "_law_due", "_law_at", "_law_found"]
def b_law : Ts :=
 (.cons (.asg (.nm 1) (.blt .sum (.cons (.sl (.var 0) .none (.some (.int 1))) .nil)))
 (.cons (.asg (.nm 2) (.call "_law_rows" (.cons (.var 0) .nil)))
 (.cons (.asg (.nm 3) (.bin .Add (.int 1) (.bin .Mod (.bin .FloorDiv (.var 1) (.int 3)) (.int 5))))
 (.cons (.asg (.nm 4) (.int 0))
 (.cons (.for_ (.nm 5) (.rng1 (.bin .Add (.blt .len (.cons (.var 2) .nil)) (.int 1)))
  (.cons (.ite (.and (.cmp .Gt (.var 5) (.int 0)) (.cmp .Eq (.ix (.ix (.var 2) (.bin .Sub (.var 5) (.int 1))) (.int 1)) (.str "\n")))
   (.cons (.asg (.nm 4) (.bin .Add (.var 4) (.int 1)))
   .nil)
   .nil)
  (.cons (.ite (.or (.cmp .Eq (.bin .Mod (.var 5) (.var 3)) (.bin .Mod (.bin .FloorDiv (.var 1) (.int 15)) (.var 3))) (.cmp .Eq (.var 5) (.blt .len (.cons (.var 2) .nil))))
   (.cons (.asg (.nm 6) (.call "paragraph_at" (.cons (.blt .list (.cons (.var 2) .nil)) (.cons (.var 5) .nil))))
   (.cons (.ite (.or (.not (.isi (.var 6) .int)) (.or (.isi (.var 6) .bool) (.cmp .NotEq (.var 6) (.var 4))))
    (.cons (.ret (.bl false))
    .nil)
    .nil)
   .nil))
   .nil)
  .nil)))
 (.cons (.for_ (.nm 5) (.e (.lst (.cons (.neg (.int 1)) (.cons (.bin .Add (.blt .len (.cons (.var 2) .nil)) (.int 1)) (.cons (.bin .Sub (.neg (.int 1)) (.bin .Mod (.var 1) (.bin .Pow (.int 10) (.int 12)))) (.cons (.bin .Add (.bin .Add (.blt .len (.cons (.var 2) .nil)) (.int 1)) (.bin .Mod (.var 1) (.bin .Pow (.int 10) (.int 12)))) .nil))))))
  (.cons (.ite (.not (.call "_law_refused" (.cons (.blt .list (.cons (.var 2) .nil)) (.cons (.var 5) .nil))))
   (.cons (.ret (.bl false))
   .nil)
   .nil)
  .nil))
 (.cons (.ret (.bl true))
 .nil)))))))
theorem sc_law : FnScope N_law ["_law_script"] (defScope s_law) := ⟨rfl, rfl, rfl, by decide +kernel, rfl, by decide +kernel, by decide +kernel⟩
theorem ck_law : chkTs bl N_law (defScope s_law) b_law (defBody s_law) = true := by decide +kernel
-- calls ['_law_refused', '_law_rows', 'paragraph_at']; built-ins ['bool', 'int', 'isinstance', 'len', 'list', 'range', 'sum']
end L42
namespace L42
open PySem PySem.Spec
open L2 Ev

/-! ### the mirror -/
def drawn (c p : Int) : Int := ((c + 7919 * p + 1) * 48271 % 2147483647) * (((c + 7919 * p + 1) * 48271 % 2147483647) / 1009 + 69621) % 2147483647
structure Row where
  nm : D
  sg : Str
  wd : Str
def enc (r : Row) : D := .tup [r.nm, .str r.sg, .str r.wd]
def okR (r : Row) : Bool := okD 3 r.nm && PyData.strOk r.sg && PyData.strOk r.wd
def nl (rows : List Row) (i : Nat) : Bool := match rows[i]? with
  | some r => decide (r.sg = "\n")
  | none => false
def ends (rows : List Row) : List Nat := (List.range rows.length).filter (nl rows)
def endsD (rows : List Row) : List D := (ends rows).map fun (i : Nat) => .int (i : Int)
def g_drawn : List W → M W
  | [.c (.d (.int c)), .c (.d (.int p))] => some (.ok (.int (drawn c p)))
  | _ => none
theorem run_drawn (Γ : Gam) (ws : List W) (r : W) (h : g_drawn ws = some (.ok r)) : ws.length = 2 ∧ fnRun Γ 3 b_law_drawn ws = some (.ok r) := by
  unfold g_drawn at h
  split at h
  · rename_i c p
    cases h
    refine ⟨rfl, fnRun_ret (σ := [.ro (.int c), .ro (.int p), .ro (.int ((c + 7919 * p + 1) * 48271 % 2147483647))]) ?_⟩
    have h1 : 0 ≤ (c + 7919 * p + 1) * 48271 % 2147483647 := Int.emod_nonneg _ (by decide)
    have h2 : (c + 7919 * p + 1) * 48271 % 2147483647 < 2147483647 := Int.emod_lt_of_pos _ (by decide)
    simp (disch := omega) only [b_law_drawn, List.map_cons, List.map_nil, List.length_cons, List.length_nil, Ev.runs, Ev.run, Ev.ev, Ev.evs, bok, mok, Ev.bin, Ev.binI, vI, vD, setN, putS, nxO, guardP_pos, Nat.reduceAdd, Nat.reduceSub, List.replicate, List.cons_append, List.nil_append, List.getElem?_cons_zero, List.getElem?_cons_succ, List.set_cons_succ, List.set_cons_zero]
    rfl
  · cases h
theorem row_at {rows : List Row} {i : Nat} (h : i < rows.length) : atI (rows.map enc) (i : Int) = some (enc rows[i]) := by
  rw [atI_lt (by simpa using h)]
  simp
theorem filter_rng (n : Nat) (p : Nat → Bool) (f : D → Bool) (h : ∀ i, i < n → f (.int (0 + (i : Int))) = p i) : (rngD 0 n).filter f = ((List.range n).filter p).map fun (i : Nat) => .int (i : Int) := by
  unfold rngD
  rw [List.filter_map]
  have e : (List.range n).filter (f ∘ fun (k : Nat) => D.int (0 + (k : Int))) = (List.range n).filter p := by
    apply List.filter_congr
    intro i hi
    exact h i (by simpa using hi)
  rw [e]
  congr 1
  funext k
  rw [Int.zero_add]
theorem run_ends {rows : List Row} (hl : rows.length ≤ 1000) : fnRun (fun _ => none) 2 b_ends_of [.lst (rows.map enc)] = some (.ok (.lst (endsD rows))) := by
  refine fnRun_ret (σ := [.ro (.lst (rows.map enc)), .out]) ?_
  simp (disch := omega) only [b_ends_of, List.map_cons, List.map_nil, List.length_cons, List.length_nil, Ev.runs, Ev.run, Ev.ev, Ev.evs, Ev.evi, blt, bok, mok, vI, vD, guardP_pos, Nat.reduceAdd, Nat.reduceSub, List.replicate, List.cons_append, List.nil_append, List.getElem?_cons_zero, List.getElem?_cons_succ, List.length_map, rngD_length, guardN_pos, Int.toNat_natCast]
  rw [lcRun_map (fun d => match d with | .int i => nl rows i.toNat | _ => false) id]
  · simp only [bok, List.map_id]
    rw [filter_rng _ (nl rows) _ (fun i _ => by simp)]
    simp only [vF, mok, bok, endsD, ends]
  · intro x hx
    obtain ⟨i, hi, rfl⟩ := rngD_mem hx
    have e : (0 : Int) + (i : Int) = (i : Int) := by omega
    refine ⟨[.ro (.lst (rows.map enc)), .ro (.int (0 + (i : Int)))], rfl, ?_, fun _ => ⟨.ro, rfl⟩⟩
    simp only [evc, Ev.ev, bok, mok, List.getElem?_cons_zero, List.getElem?_cons_succ, Ev.ix, e, row_at hi, vD, enc, vI]
    have e2 : atI [rows[i].nm, D.str rows[i].sg, D.str rows[i].wd] 1 = some (.str rows[i].sg) := rfl
    simp only [e2, bok, mok, Ev.cmp, cmpS, Option.map_some, vB, vD, truth, nl, Int.toNat_natCast, List.getElem?_eq_getElem hi]
end L42
namespace L42
open PySem PySem.Spec
open PyProof.Rows hiding St
open L2 Ev ClX
noncomputable def fnG (Γ : Gam) (m n : Nat) (b : Ts) : List W → M W := fun ws => if ws.length = m then fnRun Γ n b ws else none
theorem fnG_ok {Γ : Gam} {m n : Nat} {b : Ts} {ws : List W} {r : W} (hl : ws.length = m) (h : fnRun Γ n b ws = some (.ok r)) : fnG Γ m n b ws = some (.ok r) := (if_pos hl).trans h
theorem fnG_hg {Γ : Gam} {m n : Nat} {b : Ts} (ws : List W) (r : W) (h : fnG Γ m n b ws = some (.ok r)) : ws.length = m ∧ fnRun Γ n b ws = some (.ok r) := by
  unfold fnG at h
  split at h
  · rename_i e; exact ⟨e, h⟩
  · cases h
def isNl (r : Row) : Bool := decide (r.sg = "\n")
def cnt (rows : List Row) (n : Nat) : Nat := (ends (rows.take n)).length
noncomputable def Gm1 : Gam := ext Gm0 "ends_of" (fnG Gm0 1 2 b_ends_of)
theorem run_ends0 {rows : List Row} (hl : rows.length ≤ 1000) : fnRun Gm0 2 b_ends_of [.lst (rows.map enc)] = some (.ok (.lst (endsD rows))) := run_ends hl
/-! ### the error's class -/
structure Oop (K : PySem.W.Frag) (mg : Str → Option Value) (C Cq Cn fI : Addr) : Prop where
  gC : mg "OutOfPlace" = some (.ref C)
  gQ : mg "QuillError" = some (.ref Cq)
  gN : mg "NoRow" = some (.ref Cn)
  T : OexC K C
  rQ : CRead K Cq (.type "type")
  vQ : PySem.W.findCls K (.ref Cq) (.type "type") "__init__" = some (.val (.builtin "ValueError.__init__"))
  noN : PySem.W.findIn K (.ref C) "at" = some none
  iC : PySem.W.findIn K (.ref C) "__init__" = some (some (.ref fI))
  tI : PySem.W.typeIn K (.ref fI) = some (.type "function")
  xf : XfC K C
  ix : X42.IsX K C
  ex : PySem.W.exmOne K (.ref C) (.ref Cq) = some true
  isC : PySem.W.kitOne K (.ref C) (.ref C) = some true
  isN : PySem.W.kitOne K (.ref C) (.ref Cn) = some false
  isV : PySem.W.kitOne K (.ref C) (.type "ValueError") = some true
def inCls (i : Nat) : Stmt → Stmt
  | .ClassDef (body := b) .. => b.getD i (.Pass ⟨0, 0, 0, 0⟩)
  | s => s
abbrev s_init : Stmt := inCls 0 (topS 2)
theorem sc_init : FnScope ["self", "at"] ["self", "at"] (defScope s_init) := ⟨rfl, rfl, rfl, by decide +kernel, rfl, by decide +kernel, by decide +kernel⟩
def spInit (K : PySem.W.Frag) : Sp := fun vs H Q _ => ∃ (a C : Addr) (v : V), vs = [.ref a, v] ∧ OexC K C ∧ PySem.W.findIn K (.ref C) "at" = some none ∧ H a = some (exo a C none) ∧
  ∀ dx, H dx = none → dx ≠ a → Q .non (upd (upd H dx (exd dx [("at", v)])) a (exo a C (some dx)))
section
variable {P : Program} {w : World} {K : PySem.W.Frag} {mg : Str → Option Value} {base : Heap} {C Cq Cn fI : Addr} {ca : Nat → Addr}
theorem ok_init {f : Addr} {fd : FuncData} (F : Fun K "__init__" "OutOfPlace.__init__" s_init f fd) (T : Oop K mg C Cq Cn fI) : FnOk P w K mg base (L2.CX P w) 1 f fd ["self", "at"] (spInit K) := by
  refine F.okX sc_init (fun vs H Q E h => ?_) (fun cdv A outer s H vs Q E hr h => ?_)
  · obtain ⟨a, C, v, rfl, _⟩ := h
    rfl
  · obtain ⟨a, C', v, rfl, Tx, hno, ha, q⟩ := h
    refine ⟨_, pss_cons (ps_expr (X42.pe_qinit rfl T.gQ T.rQ T.vQ (by exact (pa_cons (pv 0) (pa_cons pe_str pa_nil))) (by decide))) (pss_one (ps_ost (pv 0) (pv 1))), ?_⟩
    refine ⟨.ref a, rfl, a, C', [.str "out of place"], rfl, by decide, Tx, ha, v, rfl, .ref a, rfl, a, C', rfl, Tx, hno, .inl ⟨ha, fun dx h1 h2 => q dx h1 h2⟩⟩
/-! ### a def walked by hand: its slots at the start -/
theorem start_rep {N : List Str} {ws : List W} {vs : List V} {H : Hp} (h1 : RepWs K ca H ws vs) : SRep (fun a => ∃ o, H a = some o) K ca (ws.map Sl.ro ++ List.replicate (N.length - ws.length) Sl.out) (L2.start N vs ++ []) H (fun _ => []) := by
  have hlen := h1.length
  rw [List.append_nil]
  refine ⟨by simp [L2.start, hlen], fun i t e => ?_, fun _ _ _ a ha => (by cases ha), fun _ => List.nodup_nil, fun _ a ha => (by cases ha), fun _ _ => rfl, fun _ p => p⟩
  by_cases hi : i < ws.length
  · rw [List.getElem?_append_left (by simpa using hi), List.getElem?_map] at e
    cases ew : ws[i]? with
    | none => rw [ew] at e; cases e
    | some w0 =>
      rw [ew] at e
      cases e
      obtain ⟨v, e3, r3⟩ := repWs_alive h1 i w0 ew
      refine ⟨v, ?_, r3, rfl⟩
      unfold L2.start
      rw [List.getElem?_append_left (by rw [List.length_map, hlen]; exact hi), List.getElem?_map, e3]
      rfl
  · rw [List.getElem?_append_right (by simpa using hi)] at e
    rw [List.getElem?_replicate] at e
    split at e
    · cases e; rfl
    · cases e
abbrev s_pat : Stmt := topS 6
abbrev N_pat : List Str := ["rows", "at"]
theorem sc_pat : FnScope N_pat ["rows", "at"] (defScope s_pat) := ⟨rfl, rfl, rfl, by decide +kernel, rfl, by decide +kernel, by decide +kernel⟩
def c_pat : Expr := match defBody s_pat with
  | .If c _ _ _ :: _ => c
  | _ => .Constant .none 0 ⟨0, 0, 0, 0⟩
def r_pat : Stmt := (defBody s_pat).getD 1 (.Pass ⟨0, 0, 0, 0⟩)
def e_cond : Ev.E := .not (.cmp2 .LtE .LtE (.int 0) (.var 1) (.blt .len (.cons (.var 0) .nil)))
def t_ret : Ev.T := .ret (.blt .len (.cons (.call "ends_of" (.cons (.sl (.var 0) .none (.some (.var 1))) .nil)) .nil))
theorem ck_cond : chk bl N_pat (defScope s_pat) e_cond c_pat = true := by decide +kernel
theorem ck_ret : chkT bl N_pat (defScope s_pat) t_ret r_pat = true := by decide +kernel
/-- paragraph_at(rows, at) -/
def spPat (K : PySem.W.Frag) (ca : Nat → Addr) (C : Addr) : Sp := fun vs H Q E => ∃ (rows : List Row) (i : Int) (va : V), vs = [va, .int i] ∧ rows.length ≤ 1000 ∧ RepW (fun _ => True) K ca H (.lst (rows.map enc)) va ∧
  (0 ≤ i ∧ i ≤ rows.length → ∀ H', Same H H' → Q (.int (cnt rows i.toNat : Nat)) H') ∧ (¬ (0 ≤ i ∧ i ≤ rows.length) → ∀ H' d, Same H H' → H' d = some (.xd [("at", .int i)]) → E (.ref C) (some d) H')
theorem ev_cond {rows : List Row} {i : Int} : ev Gm1 e_cond [.ro (.lst (rows.map enc)), .ro (.int i)] = some (.ok (.bl (!decide (0 ≤ i ∧ i ≤ rows.length)), .ro)) := by
  unfold e_cond
  by_cases h0 : 0 ≤ i
  · by_cases h1 : i ≤ rows.length
    · simp (disch := omega) only [mapM_nil, mapM_cons1, List.map_cons, List.map_nil, List.length_cons, List.length_nil, Ev.runs, Ev.run, Ev.ev, Ev.evs, Ev.evo, Ev.evc, Ev.evi, Ev.tstV, Ev.asInt, bok, mok, Ev.bin, Ev.binI, Ev.cmp, Ev.cmpI, Ev.cmpS, Ev.isNonW, Ev.isiW, Ev.kdOf, vI, vD, vB, vF, setN, putS, setG, setGs, nxO, truth, Ev.sl, Ev.ix, blt, lockS, unlockS, Out.map, wipeS, guardP_pos, guardN_pos, Option.map_some, Option.bind_some, Nat.reduceAdd, Nat.reduceSub, List.replicate, List.cons_append, List.nil_append, List.getElem?_cons_zero, List.getElem?_cons_succ, List.set_cons_succ, List.set_cons_zero, if_true, if_false, Bool.false_eq_true, Bool.not_true, Bool.not_false, reduceCtorEq, eq_self, decide_true, decide_false, decide_not, List.take_succ_cons, List.take_zero, List.length_map, Int.toNat_natCast, h0, h1, and_self]
    · simp (disch := omega) only [mapM_nil, mapM_cons1, List.map_cons, List.map_nil, List.length_cons, List.length_nil, Ev.runs, Ev.run, Ev.ev, Ev.evs, Ev.evo, Ev.evc, Ev.evi, Ev.tstV, Ev.asInt, bok, mok, Ev.bin, Ev.binI, Ev.cmp, Ev.cmpI, Ev.cmpS, Ev.isNonW, Ev.isiW, Ev.kdOf, vI, vD, vB, vF, setN, putS, setG, setGs, nxO, truth, Ev.sl, Ev.ix, blt, lockS, unlockS, Out.map, wipeS, guardP_pos, guardN_pos, Option.map_some, Option.bind_some, Nat.reduceAdd, Nat.reduceSub, List.replicate, List.cons_append, List.nil_append, List.getElem?_cons_zero, List.getElem?_cons_succ, List.set_cons_succ, List.set_cons_zero, if_true, if_false, Bool.false_eq_true, Bool.not_true, Bool.not_false, reduceCtorEq, eq_self, decide_true, decide_false, decide_not, List.take_succ_cons, List.take_zero, List.length_map, Int.toNat_natCast, h0, h1, and_false]
  · simp (disch := omega) only [mapM_nil, mapM_cons1, List.map_cons, List.map_nil, List.length_cons, List.length_nil, Ev.runs, Ev.run, Ev.ev, Ev.evs, Ev.evo, Ev.evc, Ev.evi, Ev.tstV, Ev.asInt, bok, mok, Ev.bin, Ev.binI, Ev.cmp, Ev.cmpI, Ev.cmpS, Ev.isNonW, Ev.isiW, Ev.kdOf, vI, vD, vB, vF, setN, putS, setG, setGs, nxO, truth, Ev.sl, Ev.ix, blt, lockS, unlockS, Out.map, wipeS, guardP_pos, guardN_pos, Option.map_some, Option.bind_some, Nat.reduceAdd, Nat.reduceSub, List.replicate, List.cons_append, List.nil_append, List.getElem?_cons_zero, List.getElem?_cons_succ, List.set_cons_succ, List.set_cons_zero, if_true, if_false, Bool.false_eq_true, Bool.not_true, Bool.not_false, reduceCtorEq, eq_self, decide_true, decide_false, decide_not, List.take_succ_cons, List.take_zero, List.length_map, Int.toNat_natCast, h0, false_and]
theorem run_ret {rows : List Row} {i : Int} (hl : rows.length ≤ 1000) (h0 : 0 ≤ i) : Ev.run Gm1 t_ret [.ro (.lst (rows.map enc)), .ro (.int i)] = some (.ok (.ret (.int (cnt rows i.toNat : Nat)) [.ro (.lst (rows.map enc)), .ro (.int i)])) := by
  have hg : Gm1 "ends_of" = some (fnG Gm0 1 2 b_ends_of) := ext_same
  have hv := fnG_ok (m := 1) rfl (run_ends0 (rows := rows.take i.toNat) (by simp; omega))
  have hs : cutD (rows.map enc) none (some i) = (rows.take i.toNat).map enc := by rw [cutD_to h0, List.map_take]
  unfold t_ret
  simp (disch := omega) only [mapM_nil, mapM_cons1, List.map_cons, List.map_nil, List.length_cons, List.length_nil, Ev.runs, Ev.run, Ev.ev, Ev.evs, Ev.evo, Ev.evc, Ev.evi, Ev.tstV, Ev.asInt, bok, mok, Ev.bin, Ev.binI, Ev.cmp, Ev.cmpI, Ev.cmpS, Ev.isNonW, Ev.isiW, Ev.kdOf, vI, vD, vB, vF, setN, putS, setG, setGs, nxO, truth, Ev.sl, Ev.ix, blt, lockS, unlockS, Out.map, wipeS, guardP_pos, guardN_pos, Option.map_some, Option.bind_some, Nat.reduceAdd, Nat.reduceSub, List.replicate, List.cons_append, List.nil_append, List.getElem?_cons_zero, List.getElem?_cons_succ, List.set_cons_succ, List.set_cons_zero, if_true, if_false, Bool.false_eq_true, Bool.not_true, Bool.not_false, reduceCtorEq, eq_self, decide_true, decide_false, decide_not, List.take_succ_cons, List.take_zero, List.length_map, Int.toNat_natCast, hg, hs, hv, endsD, cnt]
theorem ok_pat {f f1 : Addr} {fd fd1 : FuncData} {j k : Nat} (F : Fun K "paragraph_at" "paragraph_at" s_pat f fd) (T : Oop K mg C Cq Cn fI) (F1 : Fun K "__init__" "OutOfPlace.__init__" s_init fI fd1) (b1 : Binds K fd1 ["self", "at"] [])
    (hb : ∀ y ∈ bl, mg y = none) (hΓ : EnvOk P w K mg base ca j Gm1) (hj : j ≤ k) (hk : 2 ≤ k) : FnOk P w K mg base (L2.CX P w) (k + 1) f fd ["rows", "at"] (spPat K ca C) := by
  refine F.okX sc_pat (fun vs H Q E h => ?_) (fun cdv A outer s H vs Q E hr h => ?_)
  · obtain ⟨rows, i, va, rfl, _⟩ := h
    rfl
  · obtain ⟨rows, i, va, rfl, hl, hrep, q1, q2⟩ := h
    have GI : FnOk P w K mg base (L2.CX P w) 1 fI fd1 ["self", "at"] (spInit K) := ok_init F1 T
    have hr1 : Room 2 _ := hr.mono hk
    have hΓ' := hΓ.mono hj
    refine ⟨_, pss_cons (ps_if pt_wp (pss_one (ps_raise rfl (takes_of rfl rfl rfl rfl) (pmk_oex T.T T.iC T.tI GI hr1 b1 .nil passL rfl T.gC (by exact (pa_cons (pv 1) pa_nil))))) pss_nil) (pss_one ps_wp), ?_⟩
    have ok : Cok bl (defScope s_pat) (cxOf (L2.CX P w) P w K mg base N_pat "paragraph_at" (defScope s_pat) f cdv A outer s H E) := ⟨rfl, sc_pat.nd, rfl, by have := hr.units; exact this, hb, sc_pat.kind⟩
    have fns : FnsOk (cxOf (L2.CX P w) P w K mg base N_pat "paragraph_at" (defScope s_pat) f cdv A outer s H E) ca Gm1 := fun f g e => by
      obtain ⟨fa, fd, ps, F2, m2, k2, b2⟩ := hΓ' f g e
      exact ⟨fa, fd, ps, k, F2, hr, m2, k2, b2⟩
    have sok : Sok (cxOf (L2.CX P w) P w K mg base N_pat "paragraph_at" (defScope s_pat) f cdv A outer s H E) := ⟨fun _ => rfl, passes_of rfl⟩
    have rw_ : RepWs K ca H [.lst (rows.map enc), .int i] [va, .int i] := ⟨va, _, rfl, hrep, .int i, _, rfl, rfl, rfl⟩
    have sr := start_rep (N := N_pat) rw_
    refine sndT (Γ := Gm1) (bl := bl) e_cond rfl c_pat (defScope s_pat) _ (fun a => ∃ o, H a = some o) ca [.ro (.lst (rows.map enc)), .ro (.int i)] _ [] H (fun _ => []) ck_cond ⟨ok, fns, sr, rfl⟩ _ _ (!decide (0 ≤ i ∧ i ≤ rows.length)) ev_cond rfl _ (fun H1 s1 => ?_)
    by_cases hi : 0 ≤ i ∧ i ≤ rows.length
    · rw [decide_eq_true hi, Bool.not_true, if_neg Bool.false_ne_true]
      refine sndS (Γ := Gm1) (bl := bl) t_ret r_pat (defScope s_pat) _ (fun a => ∃ o, H a = some o) ca [.ro (.lst (rows.map enc)), .ro (.int i)] _ [] H1 (fun _ => []) ck_ret ⟨ok, fns, sr.mono s1, rfl⟩ sok _ (run_ret hl hi.1) _ ?_
      intro v σc' H' fp' f l' f' k' S' o' n' p' d'
      have e : v = .int (cnt rows i.toNat : Nat) := o'.1
      subst e
      exact q1 hi H' fun a o z => f'.at_ a o ⟨o, z⟩ (s1 a o z)
    · rw [decide_eq_false hi, Bool.not_false, if_pos rfl]
      refine ⟨.int i, rfl, by simp, fun a ha => ⟨a, C, .int i, rfl, T.T, T.noN, upd_same, fun dx h1 h2 => ⟨rfl, dx, [("at", .int i)], upd_same, by rw [upd_ne h2]; exact upd_same, by rw [upd_ne h2] at h1; exact h1, ?_⟩⟩⟩
      refine q2 hi _ dx (fun b o z => ?_) upd_same
      have z1 := s1 b o z
      have hba : b ≠ a := ne_of_none z1 ha
      have h1' : H1 dx = none := by rw [upd_ne h2] at h1; exact h1
      have hbd : b ≠ dx := ne_of_none z1 h1'
      rw [upd_ne hbd, del_ne hba, upd_ne hba, upd_ne hbd, upd_ne hba]
      exact z1
end
end L42
namespace L42
open PySem PySem.Spec
open PyProof.Rows hiding St
open L2 Ev ClX
/-- _law_refused(rows, at), at out of place -/
noncomputable def g_ref : List W → M W := rel fun ws r => ∃ (rows : List Row) (i : Int), rows.length ≤ 1000 ∧ ws = [.lst (rows.map enc), .int i] ∧ ¬ (0 ≤ i ∧ i ≤ rows.length) ∧ r = .bl true
theorem g_ref_ok {rows : List Row} {i : Int} (hl : rows.length ≤ 1000) (h : ¬ (0 ≤ i ∧ i ≤ rows.length)) : g_ref [.lst (rows.map enc), .int i] = some (.ok (.bl true)) := by
  refine rel_ok ⟨rows, i, hl, rfl, h, rfl⟩ ?_
  rintro r' ⟨_, _, _, _, _, rfl⟩
  rfl
/-- paragraph_at in its place -/
noncomputable def g_pat : List W → M W := rel fun ws r => ∃ (rows : List Row) (i : Int), rows.length ≤ 1000 ∧ ws = [.lst (rows.map enc), .int i] ∧ (0 ≤ i ∧ i ≤ rows.length) ∧ r = .int (cnt rows i.toNat : Nat)
theorem enc_inj {a b : Row} (h : enc a = enc b) : a = b := by
  cases a; cases b
  simp only [enc, D.tup.injEq, List.cons.injEq, D.str.injEq, and_true] at h
  obtain ⟨h1, h2, h3⟩ := h
  subst h1 h2 h3
  rfl
theorem g_pat_ok {rows : List Row} {i : Int} (hl : rows.length ≤ 1000) (h : 0 ≤ i ∧ i ≤ rows.length) : g_pat [.lst (rows.map enc), .int i] = some (.ok (.int (cnt rows i.toNat : Nat))) := by
  refine rel_ok ⟨rows, i, hl, rfl, h, rfl⟩ ?_
  rintro r' ⟨rows', i', _, e, _, rfl⟩
  have e1 : rows.map enc = rows'.map enc ∧ i = i' := by simpa using e
  obtain ⟨e1, rfl⟩ := e1
  have := (List.map_inj_right fun _ _ h => enc_inj h).mp e1
  subst this
  rfl
abbrev s_ref : Stmt := topS 10
abbrev N_ref : List Str := ["_law_rows_here", "_law_at", "e"]
theorem sc_ref : FnScope N_ref ["_law_rows_here", "_law_at"] (defScope s_ref) := ⟨rfl, rfl, rfl, by decide +kernel, rfl, by decide +kernel, by decide +kernel⟩
section
variable {P : Program} {w : World} {K : PySem.W.Frag} {mg : Str → Option Value} {base : Heap} {C Cq Cn fI : Addr} {ca : Nat → Addr}
def rEqE : R2 := rEq
def t_suite (K : PySem.W.Frag) (C Cn : Addr) : Addr → Value → Option Addr → TS := fun a cls d =>
  tRet (tAndV (tCB (X42.rIsX K C a cls d) (tCons (tVar 2) (tCons (tC (.ref C)) tNil))) (tAndV (tNotV (tCB (X42.rIsX K C a cls d) (tCons (tVar 2) (tCons (tC (.ref Cn)) tNil))))
    (tAndV (tCB (X42.rIsX K C a cls d) (tCons (tVar 2) (tCons (tC (.ty "ValueError")) tNil))) (tOp rEq (tXf a cls d C "at" (tVar 2)) (tVar 1)))))
theorem ok_pat' {fP : Addr} {fdP : FuncData} {k : Nat} (G : FnOk P w K mg base (L2.CX P w) k fP fdP ["rows", "at"] (spPat K ca C)) : FnOk P w K mg base (L2.CX P w) k fP fdP ["rows", "at"] (spP K ca g_pat) := by
  refine G.imp fun vs H Q E h => ?_
  obtain ⟨ws, r, hR, hg, q⟩ := h
  obtain ⟨rows, i, hl, rfl, hi, rfl⟩ := rel_inv hg
  obtain ⟨va, rest, rfl, hrep, vi, rest2, rfl, hi2, hn⟩ := hR
  obtain rfl : vi = .int i := hi2
  obtain rfl : rest2 = [] := hn
  exact ⟨rows, i, va, rfl, hl, hrep, fun _ H' s => q _ H' s ⟨rfl, trivial⟩, fun hh => absurd hi hh⟩
theorem ok_ref {f fP : Addr} {fd fdP : FuncData} {k : Nat} (F : Fun K "_law_refused" "_law_refused" s_ref f fd) (T : Oop K mg C Cq Cn fI) (G : FnOk P w K mg base (L2.CX P w) k fP fdP ["rows", "at"] (spPat K ca C)) (gP : mg "paragraph_at" = some (.ref fP)) (kP : PySem.W.keepIn K (.ref fP) = true) (bP : Binds K fdP ["rows", "at"] [])
    (hi : mg "isinstance" = none) (hv : mg "ValueError" = none) : FnOk P w K mg base (L2.CX P w) (k + 1) f fd ["_law_rows_here", "_law_at"] (spP K ca g_ref) := by
  refine F.okX sc_ref (fun vs H Q E h => ?_) (fun cdv A outer s H vs Q E hr h => ?_)
  · obtain ⟨ws, r, hR, hg, _⟩ := h
    obtain ⟨rows, i, _, rfl, _⟩ := rel_inv hg
    exact hR.length
  · obtain ⟨ws, r, hR, hg, q⟩ := h
    obtain ⟨rows, i, hl, rfl, hni, rfl⟩ := rel_inv hg
    obtain ⟨va, rest, rfl, hrep, vi, rest2, rfl, hi2, hn⟩ := hR
    obtain rfl : vi = .int i := hi2
    obtain rfl : rest2 = [] := hn
    refine ⟨_, pss_cons (ps_try_as (i := 2) (tb := fun W => tDrop (tCallS (spPat K ca C) (WE W) (tCons (tVar 0) (tCons (tVar 1) tNil)))) (ts := t_suite K C Cn) (Wout := fun _ _ _ _ => False) rfl rfl sc_ref.nd rfl rfl ⟨rfl, by decide, .inl T.gQ⟩
      (fun _ _ x => by obtain ⟨_, _, _, _, _, _, _, _, _, _, _, _, _, _, _, _, z⟩ := x; exact z.elim)
      (fun W pn xe tk _ => pss_one (ps_expr (by exact (pe_callS G hr rfl gP kP bP (fun σ => passAt tk σ) (by exact (pa_cons (pv 0) (pa_cons (pv 1) pa_nil)))))))
      (fun a oe cls d pn hz hf => pss_one (ps_ret (pe_and (pe_callB (X42.call_isX T.ix hz hf) rfl hi PyProof.Rows.boot_isinstance (by exact (pa_cons (pv 2) (pa_cons (pe_glob rfl T.gC rfl) pa_nil))))
        (pe_and (pe_not (pe_callB (X42.call_isX T.ix hz hf) rfl hi PyProof.Rows.boot_isinstance (by exact (pa_cons (pv 2) (pa_cons (pe_glob rfl T.gN rfl) pa_nil)))))
        (pe_and (pe_callB (X42.call_isX T.ix hz hf) rfl hi PyProof.Rows.boot_isinstance (by exact (pa_cons (pv 2) (pa_cons (pe_bltn (v := .ty "ValueError") rfl hv PyProof.Rows.Boot.«ValueError» rfl) pa_nil))))
        (pe_one (pe_cmpR op_eq (pe_xf T.xf T.noN hz hf (pv 2)) (pv 1) (nomark _)))))))))
      (pss_one (ps_ret pe_bl)), ?_⟩
    refine ⟨va, rfl, .int i, rfl, rows, i, va, rfl, hl, hrep, fun hh => absurd hh hni, fun _ H' d s1 hd => ?_⟩
    refine ⟨true, T.ex, fun _ a ha => ?_, fun z => by cases z⟩
    refine ⟨.ref a, rfl, rfl, .ref C, .ref C, true, d, _, rfl, fun u hu => hu, T.isC, rfl, hd, true, rfl, ?_⟩
    rw [if_pos rfl]
    refine ⟨.ref a, rfl, rfl, .ref Cn, .ref Cn, false, d, _, rfl, fun u hu => hu, T.isN, rfl, hd, false, rfl, true, rfl, ?_⟩
    rw [if_pos rfl]
    refine ⟨.ref a, rfl, rfl, .ty "ValueError", .type "ValueError", true, d, _, rfl, fun u hu => hu, T.isV, rfl, hd, true, rfl, ?_⟩
    rw [if_pos rfl]
    refine ⟨.ref a, rfl, rfl, rfl, d, _, .int i, rfl, hd, rfl, .int i, rfl, rfl, ?_⟩
    rw [decide_eq_true rfl]
    exact q _ H' s1 ⟨rfl, trivial⟩
end
end L42
namespace L42
open PySem PySem.Spec
open L2 Ev
theorem filt_len_to (rows : List Row) : ∀ k, k ≤ rows.length → ((rows.take k).filter isNl).length = ((List.range k).filter (nl rows)).length := by
  intro k
  induction k with
  | zero => intro _; rfl
  | succ k ih =>
    intro hk
    have hx : rows[k]? = some rows[k] := List.getElem?_eq_getElem (by omega)
    rw [List.take_add_one, hx, Option.toList_some, List.filter_append, List.length_append, List.range_succ, List.filter_append, List.length_append, ih (by omega)]
    congr 1
    have e : nl rows k = isNl rows[k] := by unfold nl; rw [hx]; rfl
    simp only [List.filter_cons, List.filter_nil, e]
    split <;> rfl
theorem cnt_filt (rows : List Row) (n : Nat) : cnt rows n = ((rows.take n).filter isNl).length := by
  have h := filt_len_to (rows.take n) (rows.take n).length (Nat.le_refl _)
  rw [List.take_length] at h
  rw [h]
  rfl
theorem cnt_succ {rows : List Row} {n : Nat} (h : n < rows.length) : cnt rows (n + 1) = cnt rows n + (if rows[n].sg = "\n" then 1 else 0) := by
  rw [cnt_filt, cnt_filt, List.take_add_one, List.getElem?_eq_getElem h, Option.toList_some, List.filter_append, List.length_append]
  congr 1
  simp only [List.filter_cons, List.filter_nil, isNl, decide_eq_true_eq]
  split <;> rfl
noncomputable def Gm2 : Gam := ext Gm1 "paragraph_at" g_pat
noncomputable def Gm3 : Gam := ext Gm2 "_law_drawn" g_drawn
theorem strOk_one {z : Nat} (h : z < 1114112) : PyData.strOk ⟨#[z]⟩ = true := by
  simp [PyData.strOk]
  omega
def abh : Str := "abcdefgh"
theorem abh_list : abh.cps.toList.length = 8 := by decide +kernel
theorem abh_at {i : Int} (h0 : 0 ≤ i) (h1 : i < 8) : ∃ z, atI (("abcdefgh" : Str).cps.toList) i = some z := by
  obtain ⟨z, hz, hz2⟩ := atI_int (xs := abh.cps.toList) h0 (by rw [abh_list]; exact h1)
  exact ⟨z, hz2⟩
theorem abh_len : ("abcdefgh" : Str).length = 8 := by decide +kernel
theorem two_at {i : Int} (h0 : 0 ≤ i) (h1 : i < 2) : ∃ s : Str, atI [D.str "", D.str "red"] i = some (.str s) := by
  have : i = 0 ∨ i = 1 := by omega
  rcases this with rfl | rfl
  · exact ⟨_, rfl⟩
  · exact ⟨_, rfl⟩
theorem int_at {ns : List Int} {i : Nat} (h : i < ns.length) : atI (ns.map D.int) (i : Int) = some (.int ns[i]) := by
  rw [atI_lt (by simpa using h)]
  simp
theorem run_rows {ns : List Int} (hl : ns.length ≤ 63) : ∃ rows : List Row, rows.length ≤ 60 ∧ fnRun Gm3 5 b_law_rows [.lst (ns.map D.int)] = some (.ok (.lst (rows.map enc))) := by
  have hg : Gm3 "_law_drawn" = some g_drawn := ext_same
  have hv : ∀ c p : Int, g_drawn [.int c, .int p] = some (.ok (.int (drawn c p))) := fun _ p => rfl
  have e1 : cutD (ns.map D.int) none (some 1) = (ns.take 1).map D.int := by rw [cutD_to (by decide)]; simp [List.map_take]
  have e3 : intsD ((ns.take 1).map D.int) = some (ns.take 1) := intsD_map _
  have hm : ∃ m : Nat, m ≤ 60 ∧ m ≤ ns.length - 1 ∧ ((if (ns.length : Int) < 61 then (ns.length : Int) else 61) - 1).toNat = m := by
    split
    · exact ⟨ns.length - 1, by omega, Nat.le_refl _, by omega⟩
    · exact ⟨60, Nat.le_refl _, by omega, by omega⟩
  obtain ⟨m, hm1, hm2, hm3⟩ := hm
  generalize hoft : 1 + (ns.take 1).sum % 3 = oft
  obtain ⟨σ', f1, rows, y3, y4, hr1, hy3, hy4, f2⟩ := for_inv (Γ := Gm3) (g := .nm 3) (it := .rng2 (.int 1) (.blt .min (.cons (.int 61) (.cons (.blt .len (.cons (.var 0) .nil)) .nil))))
    (b := (.cons (.asg (.nm 4) (.ix (.str "abcdefgh") (.bin .Mod (.call "_law_drawn" (.cons (.ix (.var 0) (.var 3)) (.cons (.int 1) .nil))) (.int 8))))
  (.cons (.ite (.cmp .Lt (.bin .Mod (.call "_law_drawn" (.cons (.ix (.var 0) (.var 3)) (.cons (.int 2) .nil))) (.int 4)) (.var 1))
   (.cons (.asg (.nm 4) (.str "\n"))
   .nil)
   .nil)
  (.cons (.app 2 (.tup (.cons (.tup (.cons (.str "") (.cons (.int 0) (.cons (.var 3) .nil)))) (.cons (.var 4) (.cons (.ix (.lst (.cons (.str "") (.cons (.str "red") .nil))) (.bin .Mod (.call "_law_drawn" (.cons (.ix (.var 0) (.var 3)) (.cons (.int 3) .nil))) (.int 2))) .nil)))))
  .nil)))) (σ := [.ro (.lst (ns.map D.int)), .ro (.int oft), .own (.lst []), .out, .out]) (xs := rngD 1 m) (ls := []) (σ1 := [.ro (.lst (ns.map D.int)), .ro (.int oft), .own (.lst []), .out, .out])
    (by simp (disch := omega) only [mapM_nil, mapM_cons1, List.map_cons, List.map_nil, List.length_cons, List.length_nil, Ev.runs, Ev.run, Ev.ev, Ev.evs, Ev.evo, Ev.evc, Ev.evi, Ev.tstV, Ev.asInt, bok, mok, Ev.bin, Ev.binI, Ev.cmp, Ev.cmpI, Ev.cmpS, Ev.isNonW, Ev.isiW, Ev.kdOf, vI, vD, vB, vF, setN, putS, setG, setGs, nxO, truth, Ev.sl, Ev.ix, blt, lockS, unlockS, Out.map, wipeS, guardP_pos, guardN_pos, Option.map_some, Option.bind_some, Nat.reduceAdd, Nat.reduceSub, List.replicate, List.cons_append, List.nil_append, List.getElem?_cons_zero, List.getElem?_cons_succ, List.set_cons_succ, List.set_cons_zero, if_true, if_false, Bool.false_eq_true, Bool.not_true, Bool.not_false, reduceCtorEq, eq_self, decide_true, decide_false, decide_not, List.take_succ_cons, List.take_zero, List.length_map, Int.toNat_natCast, hm3]) (by simp only [mapM_nil, mapM_cons1, List.map_cons, List.map_nil, List.length_cons, List.length_nil, Ev.runs, Ev.run, Ev.ev, Ev.evs, Ev.evo, Ev.evc, Ev.evi, Ev.tstV, Ev.asInt, bok, mok, Ev.bin, Ev.binI, Ev.cmp, Ev.cmpI, Ev.cmpS, Ev.isNonW, Ev.isiW, Ev.kdOf, vI, vD, vB, vF, setN, putS, setG, setGs, nxO, truth, Ev.sl, Ev.ix, blt, lockS, unlockS, Out.map, wipeS, guardP_pos, guardN_pos, Option.map_some, Option.bind_some, Nat.reduceAdd, Nat.reduceSub, List.replicate, List.cons_append, List.nil_append, List.getElem?_cons_zero, List.getElem?_cons_succ, List.set_cons_succ, List.set_cons_zero, if_true, if_false, Bool.false_eq_true, Bool.not_true, Bool.not_false, reduceCtorEq, eq_self, decide_true, decide_false, decide_not, List.take_succ_cons, List.take_zero, List.length_map, Int.toNat_natCast])
    (fun i σ => ∃ (rows : List Row) (y3 y4 : Sl), rows.length = i ∧ (∀ w, y3 ≠ .lk w) ∧ (∀ w, y4 ≠ .lk w) ∧ σ = [.ro (.lst (ns.map D.int)), .ro (.int oft), .own (.lst (rows.map enc)), y3, y4])
    ⟨[], .out, .out, rfl, fun _ h => (by cases h), fun _ h => (by cases h), rfl⟩ (by
      rintro i x σ hx ⟨rows, y3, y4, hr1, hy3, hy4, rfl⟩
      obtain ⟨hi, rfl⟩ := rngD_get hx
      have ez : (1 : Int) + (i : Int) = ((i + 1 : Nat) : Int) := by omega
      rw [ez]
      have hat := int_at (ns := ns) (i := i + 1) (by omega)
      generalize ns[i + 1]'(by omega) = c at hat
      obtain ⟨z, hz2⟩ := abh_at (i := drawn c 1 % 8) (Int.emod_nonneg _ (by decide)) (Int.emod_lt_of_pos _ (by decide))
      obtain ⟨t, ht⟩ := two_at (i := drawn c 3 % 2) (Int.emod_nonneg _ (by decide)) (Int.emod_lt_of_pos _ (by decide))
      obtain ⟨s, f2⟩ : ∃ s, Ev.run Gm3 (.ite (.cmp .Lt (.bin .Mod (.call "_law_drawn" (.cons (.ix (.var 0) (.var 3)) (.cons (.int 2) .nil))) (.int 4)) (.var 1))
   (.cons (.asg (.nm 4) (.str "\n"))
   .nil)
   .nil) [.ro (.lst (ns.map D.int)), .ro (.int oft), .own (.lst (rows.map enc)), .ro (.int ((i + 1 : Nat) : Int)), .ro (.str ⟨#[z]⟩)] = some (.ok (.nx [.ro (.lst (ns.map D.int)), .ro (.int oft), .own (.lst (rows.map enc)), .ro (.int ((i + 1 : Nat) : Int)), .ro (.str s)])) := by
        by_cases h : drawn c 2 % 4 < oft
        · exact ⟨"\n", by simp (disch := omega) only [mapM_nil, mapM_cons1, List.map_cons, List.map_nil, List.length_cons, List.length_nil, Ev.runs, Ev.run, Ev.ev, Ev.evs, Ev.evo, Ev.evc, Ev.evi, Ev.tstV, Ev.asInt, bok, mok, Ev.bin, Ev.binI, Ev.cmp, Ev.cmpI, Ev.cmpS, Ev.isNonW, Ev.isiW, Ev.kdOf, vI, vD, vB, vF, setN, putS, setG, setGs, nxO, truth, Ev.sl, Ev.ix, blt, lockS, unlockS, Out.map, wipeS, guardP_pos, guardN_pos, Option.map_some, Option.bind_some, Nat.reduceAdd, Nat.reduceSub, List.replicate, List.cons_append, List.nil_append, List.getElem?_cons_zero, List.getElem?_cons_succ, List.set_cons_succ, List.set_cons_zero, if_true, if_false, Bool.false_eq_true, Bool.not_true, Bool.not_false, reduceCtorEq, eq_self, decide_true, decide_false, decide_not, List.take_succ_cons, List.take_zero, List.length_map, Int.toNat_natCast, hg, hv, hat, h]⟩
        · have h' : decide (drawn c 2 % 4 < oft) = false := by simpa using h
          exact ⟨⟨#[z]⟩, by simp (disch := omega) only [mapM_nil, mapM_cons1, List.map_cons, List.map_nil, List.length_cons, List.length_nil, Ev.runs, Ev.run, Ev.ev, Ev.evs, Ev.evo, Ev.evc, Ev.evi, Ev.tstV, Ev.asInt, bok, mok, Ev.bin, Ev.binI, Ev.cmp, Ev.cmpI, Ev.cmpS, Ev.isNonW, Ev.isiW, Ev.kdOf, vI, vD, vB, vF, setN, putS, setG, setGs, nxO, truth, Ev.sl, Ev.ix, blt, lockS, unlockS, Out.map, wipeS, guardP_pos, guardN_pos, Option.map_some, Option.bind_some, Nat.reduceAdd, Nat.reduceSub, List.replicate, List.cons_append, List.nil_append, List.getElem?_cons_zero, List.getElem?_cons_succ, List.set_cons_succ, List.set_cons_zero, if_true, if_false, Bool.false_eq_true, Bool.not_true, Bool.not_false, reduceCtorEq, eq_self, decide_true, decide_false, decide_not, List.take_succ_cons, List.take_zero, List.length_map, Int.toNat_natCast, hg, hv, hat, h']⟩
      refine ⟨[.ro (.lst (ns.map D.int)), .ro (.int oft), .own (.lst (rows.map enc)), .ro (.int ((i + 1 : Nat) : Int)), y4], _, ?_, .inl (seq (σ' := [.ro (.lst (ns.map D.int)), .ro (.int oft), .own (.lst (rows.map enc)), .ro (.int ((i + 1 : Nat) : Int)), .ro (.str ⟨#[z]⟩)]) ?_ (seq f2 (seq (σ' := [.ro (.lst (ns.map D.int)), .ro (.int oft), .own (.lst ((rows ++ [Row.mk (.tup [.str "", .int 0, .int ((i + 1 : Nat) : Int)]) s t]).map enc)), .ro (.int ((i + 1 : Nat) : Int)), .ro (.str s)]) ?_ nil_nx))), _, _, _, by simp [hr1], fun _ h => (by cases h), fun _ h => (by cases h), rfl⟩
      · simp only [setG]
        cases y3 with
        | lk w => exact absurd rfl (hy3 w)
        | _ => rfl
      · cases y4 with
        | lk w => exact absurd rfl (hy4 w)
        | _ => simp (disch := omega) only [mapM_nil, mapM_cons1, List.map_cons, List.map_nil, List.length_cons, List.length_nil, Ev.runs, Ev.run, Ev.ev, Ev.evs, Ev.evo, Ev.evc, Ev.evi, Ev.tstV, Ev.asInt, bok, mok, Ev.bin, Ev.binI, Ev.cmp, Ev.cmpI, Ev.cmpS, Ev.isNonW, Ev.isiW, Ev.kdOf, vI, vD, vB, vF, setN, putS, setG, setGs, nxO, truth, Ev.sl, Ev.ix, blt, lockS, unlockS, Out.map, wipeS, guardP_pos, guardN_pos, Option.map_some, Option.bind_some, Nat.reduceAdd, Nat.reduceSub, List.replicate, List.cons_append, List.nil_append, List.getElem?_cons_zero, List.getElem?_cons_succ, List.set_cons_succ, List.set_cons_zero, if_true, if_false, Bool.false_eq_true, Bool.not_true, Bool.not_false, reduceCtorEq, eq_self, decide_true, decide_false, decide_not, List.take_succ_cons, List.take_zero, List.length_map, Int.toNat_natCast, hg, hv, hat, hz2, abh_len]
      · simp (disch := omega) only [mapM_nil, mapM_cons1, List.map_cons, List.map_nil, List.length_cons, List.length_nil, Ev.runs, Ev.run, Ev.ev, Ev.evs, Ev.evo, Ev.evc, Ev.evi, Ev.tstV, Ev.asInt, bok, mok, Ev.bin, Ev.binI, Ev.cmp, Ev.cmpI, Ev.cmpS, Ev.isNonW, Ev.isiW, Ev.kdOf, vI, vD, vB, vF, setN, putS, setG, setGs, nxO, truth, Ev.sl, Ev.ix, blt, lockS, unlockS, Out.map, wipeS, guardP_pos, guardN_pos, Option.map_some, Option.bind_some, Nat.reduceAdd, Nat.reduceSub, List.replicate, List.cons_append, List.nil_append, List.getElem?_cons_zero, List.getElem?_cons_succ, List.set_cons_succ, List.set_cons_zero, if_true, if_false, Bool.false_eq_true, Bool.not_true, Bool.not_false, reduceCtorEq, eq_self, decide_true, decide_false, decide_not, List.take_succ_cons, List.take_zero, List.length_map, Int.toNat_natCast, hg, hv, hat, ht, List.map_append, enc])
  subst f2
  rw [rngD_length] at hr1
  refine ⟨rows, by omega, fnRun_ret (σ := [.ro (.lst (ns.map D.int)), .ro (.int oft), .out, y3, y4]) ?_⟩
  refine seq (σ' := [.ro (.lst (ns.map D.int)), .ro (.int oft), .out, .out, .out]) (by simp (disch := omega) only [mapM_nil, mapM_cons1, List.map_cons, List.map_nil, List.length_cons, List.length_nil, Ev.runs, Ev.run, Ev.ev, Ev.evs, Ev.evo, Ev.evc, Ev.evi, Ev.tstV, Ev.asInt, bok, mok, Ev.bin, Ev.binI, Ev.cmp, Ev.cmpI, Ev.cmpS, Ev.isNonW, Ev.isiW, Ev.kdOf, vI, vD, vB, vF, setN, putS, setG, setGs, nxO, truth, Ev.sl, Ev.ix, blt, lockS, unlockS, Out.map, wipeS, guardP_pos, guardN_pos, Option.map_some, Option.bind_some, Nat.reduceAdd, Nat.reduceSub, List.replicate, List.cons_append, List.nil_append, List.getElem?_cons_zero, List.getElem?_cons_succ, List.set_cons_succ, List.set_cons_zero, if_true, if_false, Bool.false_eq_true, Bool.not_true, Bool.not_false, reduceCtorEq, eq_self, decide_true, decide_false, decide_not, List.take_succ_cons, List.take_zero, List.length_map, Int.toNat_natCast, e1, e3, hoft]) ?_
  refine seq (σ' := [.ro (.lst (ns.map D.int)), .ro (.int oft), .own (.lst []), .out, .out]) (by simp (disch := omega) only [mapM_nil, mapM_cons1, List.map_cons, List.map_nil, List.length_cons, List.length_nil, Ev.runs, Ev.run, Ev.ev, Ev.evs, Ev.evo, Ev.evc, Ev.evi, Ev.tstV, Ev.asInt, bok, mok, Ev.bin, Ev.binI, Ev.cmp, Ev.cmpI, Ev.cmpS, Ev.isNonW, Ev.isiW, Ev.kdOf, vI, vD, vB, vF, setN, putS, setG, setGs, nxO, truth, Ev.sl, Ev.ix, blt, lockS, unlockS, Out.map, wipeS, guardP_pos, guardN_pos, Option.map_some, Option.bind_some, Nat.reduceAdd, Nat.reduceSub, List.replicate, List.cons_append, List.nil_append, List.getElem?_cons_zero, List.getElem?_cons_succ, List.set_cons_succ, List.set_cons_zero, if_true, if_false, Bool.false_eq_true, Bool.not_true, Bool.not_false, reduceCtorEq, eq_self, decide_true, decide_false, decide_not, List.take_succ_cons, List.take_zero, List.length_map, Int.toNat_natCast]) ?_
  refine seq f1 (fin_ret ?_)
  simp only [mapM_nil, mapM_cons1, List.map_cons, List.map_nil, List.length_cons, List.length_nil, Ev.runs, Ev.run, Ev.ev, Ev.evs, Ev.evo, Ev.evc, Ev.evi, Ev.tstV, Ev.asInt, bok, mok, Ev.bin, Ev.binI, Ev.cmp, Ev.cmpI, Ev.cmpS, Ev.isNonW, Ev.isiW, Ev.kdOf, vI, vD, vB, vF, setN, putS, setG, setGs, nxO, truth, Ev.sl, Ev.ix, blt, lockS, unlockS, Out.map, wipeS, guardP_pos, guardN_pos, Option.map_some, Option.bind_some, Nat.reduceAdd, Nat.reduceSub, List.replicate, List.cons_append, List.nil_append, List.getElem?_cons_zero, List.getElem?_cons_succ, List.set_cons_succ, List.set_cons_zero, if_true, if_false, Bool.false_eq_true, Bool.not_true, Bool.not_false, reduceCtorEq, eq_self, decide_true, decide_false, decide_not, List.take_succ_cons, List.take_zero, List.length_map, Int.toNat_natCast]
noncomputable def Gm4 : Gam := ext Gm3 "_law_rows" (fnG Gm3 1 5 b_law_rows)
noncomputable def Gm5 : Gam := ext Gm4 "_law_refused" g_ref
theorem g5_rows : Gm5 "_law_rows" = some (fnG Gm3 1 5 b_law_rows) := by
  unfold Gm5 Gm4
  rw [ext_ne (by decide +kernel), ext_same]
theorem g5_pat : Gm5 "paragraph_at" = some g_pat := by
  unfold Gm5 Gm4 Gm3 Gm2
  rw [ext_ne (by decide +kernel), ext_ne (by decide +kernel), ext_ne (by decide +kernel), ext_same]
def tB1 : Ev.T := .ite (.and (.cmp .Gt (.var 5) (.int 0)) (.cmp .Eq (.ix (.ix (.var 2) (.bin .Sub (.var 5) (.int 1))) (.int 1)) (.str "\n")))
   (.cons (.asg (.nm 4) (.bin .Add (.var 4) (.int 1)))
   .nil)
   .nil
def tB2 : Ev.T := .ite (.or (.cmp .Eq (.bin .Mod (.var 5) (.var 3)) (.bin .Mod (.bin .FloorDiv (.var 1) (.int 15)) (.var 3))) (.cmp .Eq (.var 5) (.blt .len (.cons (.var 2) .nil))))
   (.cons (.asg (.nm 6) (.call "paragraph_at" (.cons (.blt .list (.cons (.var 2) .nil)) (.cons (.var 5) .nil))))
   (.cons (.ite (.or (.not (.isi (.var 6) .int)) (.or (.isi (.var 6) .bool) (.cmp .NotEq (.var 6) (.var 4))))
    (.cons (.ret (.bl false))
    .nil)
    .nil)
   .nil))
   .nil
theorem run_tB1 {ns : List Int} {rows : List Row} {c st : Int} {i : Nat} {y6 : Sl} (hi : i ≤ rows.length) : Ev.run Gm5 tB1 [.ro (.lst (ns.map D.int)), .ro (.int c), .own (.lst (rows.map enc)), .ro (.int st), .ro (.int (cnt rows (i - 1) : Nat)), .ro (.int (i : Int)), y6]
    = some (.ok (.nx [.ro (.lst (ns.map D.int)), .ro (.int c), .own (.lst (rows.map enc)), .ro (.int st), .ro (.int (cnt rows i : Nat)), .ro (.int (i : Int)), y6])) := by
  unfold tB1
  cases i with
  | zero =>
    have d : decide ((0 : Int) < ((0 : Nat) : Int)) = false := rfl
    simp (disch := omega) only [mapM_nil, mapM_cons1, List.map_cons, List.map_nil, List.length_cons, List.length_nil, Ev.runs, Ev.run, Ev.ev, Ev.evs, Ev.evo, Ev.evc, Ev.evi, Ev.tstV, Ev.asInt, bok, mok, Ev.bin, Ev.binI, Ev.cmp, Ev.cmpI, Ev.cmpS, Ev.isNonW, Ev.isiW, Ev.kdOf, vI, vD, vB, vF, setN, putS, setG, setGs, nxO, truth, Ev.sl, Ev.ix, blt, lockS, unlockS, Out.map, wipeS, guardP_pos, guardN_pos, Option.map_some, Option.bind_some, Nat.reduceAdd, Nat.reduceSub, List.replicate, List.cons_append, List.nil_append, List.getElem?_cons_zero, List.getElem?_cons_succ, List.set_cons_succ, List.set_cons_zero, if_true, if_false, Bool.false_eq_true, Bool.not_true, Bool.not_false, reduceCtorEq, eq_self, decide_true, decide_false, decide_not, List.take_succ_cons, List.take_zero, List.length_map, Int.toNat_natCast, d]
  | succ n =>
    have hn : n < rows.length := by omega
    have hat := row_at hn
    have ez : ((n + 1 : Nat) : Int) - 1 = (n : Int) := by omega
    have d : decide ((0 : Int) < ((n + 1 : Nat) : Int)) = true := by simp
    have hs := cnt_succ hn
    have t1 : atI [rows[n].nm, D.str rows[n].sg, D.str rows[n].wd] 1 = some (.str rows[n].sg) := rfl
    rw [show n + 1 - 1 = n from rfl]
    by_cases h : rows[n].sg = "\n"
    · have h' : decide (rows[n].sg = "\n") = true := by simpa using h
      rw [if_pos h] at hs
      have hz : ((cnt rows n : Nat) : Int) + 1 = ((cnt rows (n + 1) : Nat) : Int) := by rw [hs]; rfl
      refine ite_t (by simp (disch := omega) only [mapM_nil, mapM_cons1, List.map_cons, List.map_nil, List.length_cons, List.length_nil, Ev.runs, Ev.run, Ev.ev, Ev.evs, Ev.evo, Ev.evc, Ev.evi, Ev.tstV, Ev.asInt, bok, mok, Ev.bin, Ev.binI, Ev.cmp, Ev.cmpI, Ev.cmpS, Ev.isNonW, Ev.isiW, Ev.kdOf, vI, vD, vB, vF, setN, putS, setG, setGs, nxO, truth, Ev.sl, Ev.ix, blt, lockS, unlockS, Out.map, wipeS, guardP_pos, guardN_pos, Option.map_some, Option.bind_some, Nat.reduceAdd, Nat.reduceSub, List.replicate, List.cons_append, List.nil_append, List.getElem?_cons_zero, List.getElem?_cons_succ, List.set_cons_succ, List.set_cons_zero, if_true, if_false, Bool.false_eq_true, Bool.not_true, Bool.not_false, reduceCtorEq, eq_self, decide_true, decide_false, decide_not, List.take_succ_cons, List.take_zero, List.length_map, Int.toNat_natCast, d, ez, hat, enc, t1, h']) (seq (σ' := [.ro (.lst (ns.map D.int)), .ro (.int c), .own (.lst (rows.map enc)), .ro (.int st), .ro (.int (cnt rows (n + 1) : Nat)), .ro (.int ((n + 1 : Nat) : Int)), y6]) (by simp (disch := omega) only [mapM_nil, mapM_cons1, List.map_cons, List.map_nil, List.length_cons, List.length_nil, Ev.runs, Ev.run, Ev.ev, Ev.evs, Ev.evo, Ev.evc, Ev.evi, Ev.tstV, Ev.asInt, bok, mok, Ev.bin, Ev.binI, Ev.cmp, Ev.cmpI, Ev.cmpS, Ev.isNonW, Ev.isiW, Ev.kdOf, vI, vD, vB, vF, setN, putS, setG, setGs, nxO, truth, Ev.sl, Ev.ix, blt, lockS, unlockS, Out.map, wipeS, guardP_pos, guardN_pos, Option.map_some, Option.bind_some, Nat.reduceAdd, Nat.reduceSub, List.replicate, List.cons_append, List.nil_append, List.getElem?_cons_zero, List.getElem?_cons_succ, List.set_cons_succ, List.set_cons_zero, if_true, if_false, Bool.false_eq_true, Bool.not_true, Bool.not_false, reduceCtorEq, eq_self, decide_true, decide_false, decide_not, List.take_succ_cons, List.take_zero, List.length_map, Int.toNat_natCast, hz]) nil_nx)
    · have h' : decide (rows[n].sg = "\n") = false := by simpa using h
      rw [if_neg h, Nat.add_zero] at hs
      rw [hs]
      exact ite_f (by simp (disch := omega) only [mapM_nil, mapM_cons1, List.map_cons, List.map_nil, List.length_cons, List.length_nil, Ev.runs, Ev.run, Ev.ev, Ev.evs, Ev.evo, Ev.evc, Ev.evi, Ev.tstV, Ev.asInt, bok, mok, Ev.bin, Ev.binI, Ev.cmp, Ev.cmpI, Ev.cmpS, Ev.isNonW, Ev.isiW, Ev.kdOf, vI, vD, vB, vF, setN, putS, setG, setGs, nxO, truth, Ev.sl, Ev.ix, blt, lockS, unlockS, Out.map, wipeS, guardP_pos, guardN_pos, Option.map_some, Option.bind_some, Nat.reduceAdd, Nat.reduceSub, List.replicate, List.cons_append, List.nil_append, List.getElem?_cons_zero, List.getElem?_cons_succ, List.set_cons_succ, List.set_cons_zero, if_true, if_false, Bool.false_eq_true, Bool.not_true, Bool.not_false, reduceCtorEq, eq_self, decide_true, decide_false, decide_not, List.take_succ_cons, List.take_zero, List.length_map, Int.toNat_natCast, d, ez, hat, enc, t1, h']) nil_nx
theorem run_tB2 {ns : List Int} {rows : List Row} {c st : Int} {i : Nat} {y6 : Sl} (hl : rows.length ≤ 1000) (hi : i ≤ rows.length) (hst : 0 < st) (h6 : ∀ w, y6 ≠ .lk w) : ∃ y6', (∀ w, y6' ≠ .lk w) ∧ Ev.run Gm5 tB2 [.ro (.lst (ns.map D.int)), .ro (.int c), .own (.lst (rows.map enc)), .ro (.int st), .ro (.int (cnt rows i : Nat)), .ro (.int (i : Int)), y6]
    = some (.ok (.nx [.ro (.lst (ns.map D.int)), .ro (.int c), .own (.lst (rows.map enc)), .ro (.int st), .ro (.int (cnt rows i : Nat)), .ro (.int (i : Int)), y6'])) := by
  have hg := g5_pat
  have hv := g_pat_ok (rows := rows) (i := (i : Int)) hl ⟨by omega, by omega⟩
  rw [Int.toNat_natCast] at hv
  have yes : ∀ {cnd : Ev.E}, tstV (ev Gm5 cnd [.ro (.lst (ns.map D.int)), .ro (.int c), .own (.lst (rows.map enc)), .ro (.int st), .ro (.int (cnt rows i : Nat)), .ro (.int (i : Int)), y6]) = some (.ok true) → Ev.run Gm5 (.ite cnd (.cons (.asg (.nm 6) (.call "paragraph_at" (.cons (.blt .list (.cons (.var 2) .nil)) (.cons (.var 5) .nil))))
   (.cons (.ite (.or (.not (.isi (.var 6) .int)) (.or (.isi (.var 6) .bool) (.cmp .NotEq (.var 6) (.var 4))))
    (.cons (.ret (.bl false))
    .nil)
    .nil)
   .nil)) .nil) [.ro (.lst (ns.map D.int)), .ro (.int c), .own (.lst (rows.map enc)), .ro (.int st), .ro (.int (cnt rows i : Nat)), .ro (.int (i : Int)), y6]
    = some (.ok (.nx [.ro (.lst (ns.map D.int)), .ro (.int c), .own (.lst (rows.map enc)), .ro (.int st), .ro (.int (cnt rows i : Nat)), .ro (.int (i : Int)), .ro (.int (cnt rows i : Nat))])) := fun {cnd} h => by
    refine ite_t h (seq (σ' := [.ro (.lst (ns.map D.int)), .ro (.int c), .own (.lst (rows.map enc)), .ro (.int st), .ro (.int (cnt rows i : Nat)), .ro (.int (i : Int)), .ro (.int (cnt rows i : Nat))]) ?_ (seq (ite_f ?_ nil_nx) nil_nx))
    · cases y6 with
      | lk w => exact absurd rfl (h6 w)
      | _ => simp (disch := omega) only [mapM_nil, mapM_cons1, List.map_cons, List.map_nil, List.length_cons, List.length_nil, Ev.runs, Ev.run, Ev.ev, Ev.evs, Ev.evo, Ev.evc, Ev.evi, Ev.tstV, Ev.asInt, bok, mok, Ev.bin, Ev.binI, Ev.cmp, Ev.cmpI, Ev.cmpS, Ev.isNonW, Ev.isiW, Ev.kdOf, vI, vD, vB, vF, setN, putS, setG, setGs, nxO, truth, Ev.sl, Ev.ix, blt, lockS, unlockS, Out.map, wipeS, guardP_pos, guardN_pos, Option.map_some, Option.bind_some, Nat.reduceAdd, Nat.reduceSub, List.replicate, List.cons_append, List.nil_append, List.getElem?_cons_zero, List.getElem?_cons_succ, List.set_cons_succ, List.set_cons_zero, if_true, if_false, Bool.false_eq_true, Bool.not_true, Bool.not_false, reduceCtorEq, eq_self, decide_true, decide_false, decide_not, List.take_succ_cons, List.take_zero, List.length_map, Int.toNat_natCast, hg, hv]
    · simp (disch := omega) only [mapM_nil, mapM_cons1, List.map_cons, List.map_nil, List.length_cons, List.length_nil, Ev.runs, Ev.run, Ev.ev, Ev.evs, Ev.evo, Ev.evc, Ev.evi, Ev.tstV, Ev.asInt, bok, mok, Ev.bin, Ev.binI, Ev.cmp, Ev.cmpI, Ev.cmpS, Ev.isNonW, Ev.isiW, Ev.kdOf, vI, vD, vB, vF, setN, putS, setG, setGs, nxO, truth, Ev.sl, Ev.ix, blt, lockS, unlockS, Out.map, wipeS, guardP_pos, guardN_pos, Option.map_some, Option.bind_some, Nat.reduceAdd, Nat.reduceSub, List.replicate, List.cons_append, List.nil_append, List.getElem?_cons_zero, List.getElem?_cons_succ, List.set_cons_succ, List.set_cons_zero, if_true, if_false, Bool.false_eq_true, Bool.not_true, Bool.not_false, reduceCtorEq, eq_self, decide_true, decide_false, decide_not, List.take_succ_cons, List.take_zero, List.length_map, Int.toNat_natCast]
      rfl
  unfold tB2
  by_cases h1 : (i : Int) % st = c / 15 % st
  · have d1 : decide ((i : Int) % st = c / 15 % st) = true := by simpa using h1
    exact ⟨_, fun _ h => (by cases h), yes (by simp (disch := omega) only [mapM_nil, mapM_cons1, List.map_cons, List.map_nil, List.length_cons, List.length_nil, Ev.runs, Ev.run, Ev.ev, Ev.evs, Ev.evo, Ev.evc, Ev.evi, Ev.tstV, Ev.asInt, bok, mok, Ev.bin, Ev.binI, Ev.cmp, Ev.cmpI, Ev.cmpS, Ev.isNonW, Ev.isiW, Ev.kdOf, vI, vD, vB, vF, setN, putS, setG, setGs, nxO, truth, Ev.sl, Ev.ix, blt, lockS, unlockS, Out.map, wipeS, guardP_pos, guardN_pos, Option.map_some, Option.bind_some, Nat.reduceAdd, Nat.reduceSub, List.replicate, List.cons_append, List.nil_append, List.getElem?_cons_zero, List.getElem?_cons_succ, List.set_cons_succ, List.set_cons_zero, if_true, if_false, Bool.false_eq_true, Bool.not_true, Bool.not_false, reduceCtorEq, eq_self, decide_true, decide_false, decide_not, List.take_succ_cons, List.take_zero, List.length_map, Int.toNat_natCast, d1])⟩
  · have d1 : decide ((i : Int) % st = c / 15 % st) = false := by simpa using h1
    by_cases h2 : (i : Int) = (rows.length : Int)
    · have d2 : decide ((i : Int) = (rows.length : Int)) = true := by simpa using h2
      exact ⟨_, fun _ h => (by cases h), yes (by simp (disch := omega) only [mapM_nil, mapM_cons1, List.map_cons, List.map_nil, List.length_cons, List.length_nil, Ev.runs, Ev.run, Ev.ev, Ev.evs, Ev.evo, Ev.evc, Ev.evi, Ev.tstV, Ev.asInt, bok, mok, Ev.bin, Ev.binI, Ev.cmp, Ev.cmpI, Ev.cmpS, Ev.isNonW, Ev.isiW, Ev.kdOf, vI, vD, vB, vF, setN, putS, setG, setGs, nxO, truth, Ev.sl, Ev.ix, blt, lockS, unlockS, Out.map, wipeS, guardP_pos, guardN_pos, Option.map_some, Option.bind_some, Nat.reduceAdd, Nat.reduceSub, List.replicate, List.cons_append, List.nil_append, List.getElem?_cons_zero, List.getElem?_cons_succ, List.set_cons_succ, List.set_cons_zero, if_true, if_false, Bool.false_eq_true, Bool.not_true, Bool.not_false, reduceCtorEq, eq_self, decide_true, decide_false, decide_not, List.take_succ_cons, List.take_zero, List.length_map, Int.toNat_natCast, d1, d2])⟩
    · have d2 : decide ((i : Int) = (rows.length : Int)) = false := by simpa using h2
      exact ⟨y6, h6, ite_f (by simp (disch := omega) only [mapM_nil, mapM_cons1, List.map_cons, List.map_nil, List.length_cons, List.length_nil, Ev.runs, Ev.run, Ev.ev, Ev.evs, Ev.evo, Ev.evc, Ev.evi, Ev.tstV, Ev.asInt, bok, mok, Ev.bin, Ev.binI, Ev.cmp, Ev.cmpI, Ev.cmpS, Ev.isNonW, Ev.isiW, Ev.kdOf, vI, vD, vB, vF, setN, putS, setG, setGs, nxO, truth, Ev.sl, Ev.ix, blt, lockS, unlockS, Out.map, wipeS, guardP_pos, guardN_pos, Option.map_some, Option.bind_some, Nat.reduceAdd, Nat.reduceSub, List.replicate, List.cons_append, List.nil_append, List.getElem?_cons_zero, List.getElem?_cons_succ, List.set_cons_succ, List.set_cons_zero, if_true, if_false, Bool.false_eq_true, Bool.not_true, Bool.not_false, reduceCtorEq, eq_self, decide_true, decide_false, decide_not, List.take_succ_cons, List.take_zero, List.length_map, Int.toNat_natCast, d1, d2]) nil_nx⟩
theorem pow12 : (10 : Int) ^ (12 : Int).toNat = 1000000000000 := by decide +kernel
theorem run_law {ns : List Int} (hl : ns.length ≤ 63) : fnRun Gm5 7 b_law [.lst (ns.map D.int)] = some (.ok (.bl true)) := by
  have hg1 := g5_rows
  have hg3 : Gm5 "_law_refused" = some g_ref := ext_same
  obtain ⟨rows, hr1, hr3⟩ := run_rows hl
  have hv1 := fnG_ok (m := 1) rfl hr3
  have e1 : cutD (ns.map D.int) none (some 1) = (ns.take 1).map D.int := by rw [cutD_to (by decide)]; simp [List.map_take]
  have e3 : intsD ((ns.take 1).map D.int) = some (ns.take 1) := intsD_map _
  generalize hc : (ns.take 1).sum = c at e3
  have hst : 0 < 1 + c / 3 % 5 := by have := Int.emod_nonneg (c / 3) (by decide : (5 : Int) ≠ 0); omega
  generalize hs : 1 + c / 3 % 5 = st at hst
  have hn : ((rows.length : Int) + 1).toNat = rows.length + 1 := by omega
  obtain ⟨σ', f1, y5, y6, hy5, hy6, f2⟩ := for_inv (Γ := Gm5) (g := .nm 5) (it := .rng1 (.bin .Add (.blt .len (.cons (.var 2) .nil)) (.int 1))) (b := .cons tB1 (.cons tB2 .nil))
    (σ := [.ro (.lst (ns.map D.int)), .ro (.int c), .own (.lst (rows.map enc)), .ro (.int st), .ro (.int 0), .out, .out]) (xs := rngD 0 (rows.length + 1)) (ls := [])
    (σ1 := [.ro (.lst (ns.map D.int)), .ro (.int c), .own (.lst (rows.map enc)), .ro (.int st), .ro (.int 0), .out, .out])
    (by simp (disch := omega) only [mapM_nil, mapM_cons1, List.map_cons, List.map_nil, List.length_cons, List.length_nil, Ev.runs, Ev.run, Ev.ev, Ev.evs, Ev.evo, Ev.evc, Ev.evi, Ev.tstV, Ev.asInt, bok, mok, Ev.bin, Ev.binI, Ev.cmp, Ev.cmpI, Ev.cmpS, Ev.isNonW, Ev.isiW, Ev.kdOf, vI, vD, vB, vF, setN, putS, setG, setGs, nxO, truth, Ev.sl, Ev.ix, blt, lockS, unlockS, Out.map, wipeS, guardP_pos, guardN_pos, Option.map_some, Option.bind_some, Nat.reduceAdd, Nat.reduceSub, List.replicate, List.cons_append, List.nil_append, List.getElem?_cons_zero, List.getElem?_cons_succ, List.set_cons_succ, List.set_cons_zero, if_true, if_false, Bool.false_eq_true, Bool.not_true, Bool.not_false, reduceCtorEq, eq_self, decide_true, decide_false, decide_not, List.take_succ_cons, List.take_zero, List.length_map, Int.toNat_natCast, hn]) (by simp only [mapM_nil, mapM_cons1, List.map_cons, List.map_nil, List.length_cons, List.length_nil, Ev.runs, Ev.run, Ev.ev, Ev.evs, Ev.evo, Ev.evc, Ev.evi, Ev.tstV, Ev.asInt, bok, mok, Ev.bin, Ev.binI, Ev.cmp, Ev.cmpI, Ev.cmpS, Ev.isNonW, Ev.isiW, Ev.kdOf, vI, vD, vB, vF, setN, putS, setG, setGs, nxO, truth, Ev.sl, Ev.ix, blt, lockS, unlockS, Out.map, wipeS, guardP_pos, guardN_pos, Option.map_some, Option.bind_some, Nat.reduceAdd, Nat.reduceSub, List.replicate, List.cons_append, List.nil_append, List.getElem?_cons_zero, List.getElem?_cons_succ, List.set_cons_succ, List.set_cons_zero, if_true, if_false, Bool.false_eq_true, Bool.not_true, Bool.not_false, reduceCtorEq, eq_self, decide_true, decide_false, decide_not, List.take_succ_cons, List.take_zero, List.length_map, Int.toNat_natCast])
    (fun i σ => ∃ y5 y6, (∀ w, y5 ≠ .lk w) ∧ (∀ w, y6 ≠ .lk w) ∧ σ = [.ro (.lst (ns.map D.int)), .ro (.int c), .own (.lst (rows.map enc)), .ro (.int st), .ro (.int (cnt rows (i - 1) : Nat)), y5, y6])
    ⟨.out, .out, fun _ h => (by cases h), fun _ h => (by cases h), rfl⟩ (by
      rintro i x σ hx ⟨y5, y6, hy5, hy6, rfl⟩
      obtain ⟨hi, rfl⟩ := rngD_get hx
      have ez : (0 : Int) + (i : Int) = (i : Int) := by omega
      rw [ez]
      obtain ⟨y6', h6', f3⟩ := run_tB2 (ns := ns) (rows := rows) (c := c) (st := st) (i := i) (y6 := y6) (by omega) (by omega) hst hy6
      refine ⟨[.ro (.lst (ns.map D.int)), .ro (.int c), .own (.lst (rows.map enc)), .ro (.int st), .ro (.int (cnt rows (i - 1) : Nat)), .ro (.int (i : Int)), y6], _, ?_, .inl (seq (run_tB1 (by omega)) (seq f3 nil_nx)), _, _, fun _ h => (by cases h), h6', rfl⟩
      simp only [setG]
      cases y5 with
      | lk w => exact absurd rfl (hy5 w)
      | _ => rfl)
  subst f2
  rw [rngD_length, show rows.length + 1 - 1 = rows.length from rfl] at f1
  generalize cnt rows rows.length = due at f1
  have hp : 0 ≤ c % 1000000000000 := Int.emod_nonneg _ (by decide)
  obtain ⟨σ', f3, y5', hy5', f4⟩ := for_inv (Γ := Gm5) (g := .nm 5) (it := .e (.lst (.cons (.neg (.int 1)) (.cons (.bin .Add (.blt .len (.cons (.var 2) .nil)) (.int 1)) (.cons (.bin .Sub (.neg (.int 1)) (.bin .Mod (.var 1) (.bin .Pow (.int 10) (.int 12)))) (.cons (.bin .Add (.bin .Add (.blt .len (.cons (.var 2) .nil)) (.int 1)) (.bin .Mod (.var 1) (.bin .Pow (.int 10) (.int 12)))) .nil))))))
    (b := (.cons (.ite (.not (.call "_law_refused" (.cons (.blt .list (.cons (.var 2) .nil)) (.cons (.var 5) .nil))))
   (.cons (.ret (.bl false))
   .nil)
   .nil)
  .nil)) (σ := [.ro (.lst (ns.map D.int)), .ro (.int c), .own (.lst (rows.map enc)), .ro (.int st), .ro (.int (due : Nat)), y5, y6])
    (xs := [.int (-1), .int ((rows.length : Int) + 1), .int (-1 - c % 1000000000000), .int ((rows.length : Int) + 1 + c % 1000000000000)]) (ls := [(.lst [.int (-1), .int ((rows.length : Int) + 1), .int (-1 - c % 1000000000000), .int ((rows.length : Int) + 1 + c % 1000000000000)], .fr)])
    (σ1 := [.ro (.lst (ns.map D.int)), .ro (.int c), .own (.lst (rows.map enc)), .ro (.int st), .ro (.int (due : Nat)), y5, y6, .lk (.lst [.int (-1), .int ((rows.length : Int) + 1), .int (-1 - c % 1000000000000), .int ((rows.length : Int) + 1 + c % 1000000000000)])])
    (by
      have g1 : (0 : Int) ≤ 12 ∧ (12 : Int) ≤ 1000000 ∧ (10 : Int).natAbs < 18446744073709551616 := by decide
      have g2 : (0 : Int) < 1000000000000 := by decide
      have hb : Ev.ev Gm5 (.bin .Mod (.var 1) (.bin .Pow (.int 10) (.int 12))) [.ro (.lst (ns.map D.int)), .ro (.int c), .own (.lst (rows.map enc)), .ro (.int st), .ro (.int (due : Nat)), y5, y6] = some (.ok (.int (c % 1000000000000), .ro)) := by
        simp only [Ev.ev, bok, mok, List.getElem?_cons_zero, List.getElem?_cons_succ, vD, vI, Ev.bin, Ev.binI, guardP_pos g1, pow12, guardP_pos g2]
      generalize Ev.E.bin .Mod (.var 1) (.bin .Pow (.int 10) (.int 12)) = eb at hb
      simp (disch := omega) only [mapM_nil, mapM_cons1, List.map_cons, List.map_nil, List.length_cons, List.length_nil, Ev.runs, Ev.run, Ev.ev, Ev.evs, Ev.evo, Ev.evc, Ev.evi, Ev.tstV, Ev.asInt, bok, mok, Ev.bin, Ev.binI, Ev.cmp, Ev.cmpI, Ev.cmpS, Ev.isNonW, Ev.isiW, Ev.kdOf, vI, vD, vB, vF, setN, putS, setG, setGs, nxO, truth, Ev.sl, Ev.ix, blt, lockS, unlockS, Out.map, wipeS, guardP_pos, guardN_pos, Option.map_some, Option.bind_some, Nat.reduceAdd, Nat.reduceSub, List.replicate, List.cons_append, List.nil_append, List.getElem?_cons_zero, List.getElem?_cons_succ, List.set_cons_succ, List.set_cons_zero, if_true, if_false, Bool.false_eq_true, Bool.not_true, Bool.not_false, reduceCtorEq, eq_self, decide_true, decide_false, decide_not, List.take_succ_cons, List.take_zero, List.length_map, Int.toNat_natCast, hb]) (by simp only [mapM_nil, mapM_cons1, List.map_cons, List.map_nil, List.length_cons, List.length_nil, Ev.runs, Ev.run, Ev.ev, Ev.evs, Ev.evo, Ev.evc, Ev.evi, Ev.tstV, Ev.asInt, bok, mok, Ev.bin, Ev.binI, Ev.cmp, Ev.cmpI, Ev.cmpS, Ev.isNonW, Ev.isiW, Ev.kdOf, vI, vD, vB, vF, setN, putS, setG, setGs, nxO, truth, Ev.sl, Ev.ix, blt, lockS, unlockS, Out.map, wipeS, guardP_pos, guardN_pos, Option.map_some, Option.bind_some, Nat.reduceAdd, Nat.reduceSub, List.replicate, List.cons_append, List.nil_append, List.getElem?_cons_zero, List.getElem?_cons_succ, List.set_cons_succ, List.set_cons_zero, if_true, if_false, Bool.false_eq_true, Bool.not_true, Bool.not_false, reduceCtorEq, eq_self, decide_true, decide_false, decide_not, List.take_succ_cons, List.take_zero, List.length_map, Int.toNat_natCast])
    (fun i σ => ∃ y5, (∀ w, y5 ≠ .lk w) ∧ σ = [.ro (.lst (ns.map D.int)), .ro (.int c), .own (.lst (rows.map enc)), .ro (.int st), .ro (.int (due : Nat)), y5, y6, .lk (.lst [.int (-1), .int ((rows.length : Int) + 1), .int (-1 - c % 1000000000000), .int ((rows.length : Int) + 1 + c % 1000000000000)])])
    ⟨y5, hy5, rfl⟩ (by
      rintro i x σ hx ⟨y5, hy5, rfl⟩
      obtain ⟨v, rfl, hv⟩ : ∃ v : Int, x = .int v ∧ ¬ (0 ≤ v ∧ v ≤ rows.length) := by
        match i, hx with
        | 0, hx => cases hx; exact ⟨_, rfl, by omega⟩
        | 1, hx => cases hx; exact ⟨_, rfl, by omega⟩
        | 2, hx => cases hx; exact ⟨_, rfl, by omega⟩
        | 3, hx => cases hx; exact ⟨_, rfl, by omega⟩
        | i + 4, hx => cases hx
      have hv3 := g_ref_ok (rows := rows) (i := v) (by omega) hv
      refine ⟨[.ro (.lst (ns.map D.int)), .ro (.int c), .own (.lst (rows.map enc)), .ro (.int st), .ro (.int (due : Nat)), .ro (.int v), y6, .lk (.lst [.int (-1), .int ((rows.length : Int) + 1), .int (-1 - c % 1000000000000), .int ((rows.length : Int) + 1 + c % 1000000000000)])], _, ?_, .inl (seq (ite_f ?_ nil_nx) nil_nx), _, fun _ h => (by cases h), rfl⟩
      · simp only [setG]
        cases y5 with
        | lk w => exact absurd rfl (hy5 w)
        | _ => rfl
      · simp (disch := omega) only [mapM_nil, mapM_cons1, List.map_cons, List.map_nil, List.length_cons, List.length_nil, Ev.runs, Ev.run, Ev.ev, Ev.evs, Ev.evo, Ev.evc, Ev.evi, Ev.tstV, Ev.asInt, bok, mok, Ev.bin, Ev.binI, Ev.cmp, Ev.cmpI, Ev.cmpS, Ev.isNonW, Ev.isiW, Ev.kdOf, vI, vD, vB, vF, setN, putS, setG, setGs, nxO, truth, Ev.sl, Ev.ix, blt, lockS, unlockS, Out.map, wipeS, guardP_pos, guardN_pos, Option.map_some, Option.bind_some, Nat.reduceAdd, Nat.reduceSub, List.replicate, List.cons_append, List.nil_append, List.getElem?_cons_zero, List.getElem?_cons_succ, List.set_cons_succ, List.set_cons_zero, if_true, if_false, Bool.false_eq_true, Bool.not_true, Bool.not_false, reduceCtorEq, eq_self, decide_true, decide_false, decide_not, List.take_succ_cons, List.take_zero, List.length_map, Int.toNat_natCast, hg3, hv3])
  subst f4
  refine fnRun_ret (σ := [.ro (.lst (ns.map D.int)), .ro (.int c), .own (.lst (rows.map enc)), .ro (.int st), .ro (.int (due : Nat)), y5', y6]) ?_
  refine seq (σ' := [.ro (.lst (ns.map D.int)), .ro (.int c), .out, .out, .out, .out, .out]) (by simp (disch := omega) only [mapM_nil, mapM_cons1, List.map_cons, List.map_nil, List.length_cons, List.length_nil, Ev.runs, Ev.run, Ev.ev, Ev.evs, Ev.evo, Ev.evc, Ev.evi, Ev.tstV, Ev.asInt, bok, mok, Ev.bin, Ev.binI, Ev.cmp, Ev.cmpI, Ev.cmpS, Ev.isNonW, Ev.isiW, Ev.kdOf, vI, vD, vB, vF, setN, putS, setG, setGs, nxO, truth, Ev.sl, Ev.ix, blt, lockS, unlockS, Out.map, wipeS, guardP_pos, guardN_pos, Option.map_some, Option.bind_some, Nat.reduceAdd, Nat.reduceSub, List.replicate, List.cons_append, List.nil_append, List.getElem?_cons_zero, List.getElem?_cons_succ, List.set_cons_succ, List.set_cons_zero, if_true, if_false, Bool.false_eq_true, Bool.not_true, Bool.not_false, reduceCtorEq, eq_self, decide_true, decide_false, decide_not, List.take_succ_cons, List.take_zero, List.length_map, Int.toNat_natCast, e1, e3, hc]) ?_
  refine seq (σ' := [.ro (.lst (ns.map D.int)), .ro (.int c), .own (.lst (rows.map enc)), .out, .out, .out, .out]) (by simp (disch := omega) only [mapM_nil, mapM_cons1, List.map_cons, List.map_nil, List.length_cons, List.length_nil, Ev.runs, Ev.run, Ev.ev, Ev.evs, Ev.evo, Ev.evc, Ev.evi, Ev.tstV, Ev.asInt, bok, mok, Ev.bin, Ev.binI, Ev.cmp, Ev.cmpI, Ev.cmpS, Ev.isNonW, Ev.isiW, Ev.kdOf, vI, vD, vB, vF, setN, putS, setG, setGs, nxO, truth, Ev.sl, Ev.ix, blt, lockS, unlockS, Out.map, wipeS, guardP_pos, guardN_pos, Option.map_some, Option.bind_some, Nat.reduceAdd, Nat.reduceSub, List.replicate, List.cons_append, List.nil_append, List.getElem?_cons_zero, List.getElem?_cons_succ, List.set_cons_succ, List.set_cons_zero, if_true, if_false, Bool.false_eq_true, Bool.not_true, Bool.not_false, reduceCtorEq, eq_self, decide_true, decide_false, decide_not, List.take_succ_cons, List.take_zero, List.length_map, Int.toNat_natCast, hg1, hv1]) ?_
  refine seq (σ' := [.ro (.lst (ns.map D.int)), .ro (.int c), .own (.lst (rows.map enc)), .ro (.int st), .out, .out, .out]) (by simp (disch := omega) only [mapM_nil, mapM_cons1, List.map_cons, List.map_nil, List.length_cons, List.length_nil, Ev.runs, Ev.run, Ev.ev, Ev.evs, Ev.evo, Ev.evc, Ev.evi, Ev.tstV, Ev.asInt, bok, mok, Ev.bin, Ev.binI, Ev.cmp, Ev.cmpI, Ev.cmpS, Ev.isNonW, Ev.isiW, Ev.kdOf, vI, vD, vB, vF, setN, putS, setG, setGs, nxO, truth, Ev.sl, Ev.ix, blt, lockS, unlockS, Out.map, wipeS, guardP_pos, guardN_pos, Option.map_some, Option.bind_some, Nat.reduceAdd, Nat.reduceSub, List.replicate, List.cons_append, List.nil_append, List.getElem?_cons_zero, List.getElem?_cons_succ, List.set_cons_succ, List.set_cons_zero, if_true, if_false, Bool.false_eq_true, Bool.not_true, Bool.not_false, reduceCtorEq, eq_self, decide_true, decide_false, decide_not, List.take_succ_cons, List.take_zero, List.length_map, Int.toNat_natCast, hs]) ?_
  refine seq (σ' := [.ro (.lst (ns.map D.int)), .ro (.int c), .own (.lst (rows.map enc)), .ro (.int st), .ro (.int 0), .out, .out]) (by simp (disch := omega) only [mapM_nil, mapM_cons1, List.map_cons, List.map_nil, List.length_cons, List.length_nil, Ev.runs, Ev.run, Ev.ev, Ev.evs, Ev.evo, Ev.evc, Ev.evi, Ev.tstV, Ev.asInt, bok, mok, Ev.bin, Ev.binI, Ev.cmp, Ev.cmpI, Ev.cmpS, Ev.isNonW, Ev.isiW, Ev.kdOf, vI, vD, vB, vF, setN, putS, setG, setGs, nxO, truth, Ev.sl, Ev.ix, blt, lockS, unlockS, Out.map, wipeS, guardP_pos, guardN_pos, Option.map_some, Option.bind_some, Nat.reduceAdd, Nat.reduceSub, List.replicate, List.cons_append, List.nil_append, List.getElem?_cons_zero, List.getElem?_cons_succ, List.set_cons_succ, List.set_cons_zero, if_true, if_false, Bool.false_eq_true, Bool.not_true, Bool.not_false, reduceCtorEq, eq_self, decide_true, decide_false, decide_not, List.take_succ_cons, List.take_zero, List.length_map, Int.toNat_natCast]) ?_
  refine seq f1 (seq f3 (fin_ret ?_))
  simp only [mapM_nil, mapM_cons1, List.map_cons, List.map_nil, List.length_cons, List.length_nil, Ev.runs, Ev.run, Ev.ev, Ev.evs, Ev.evo, Ev.evc, Ev.evi, Ev.tstV, Ev.asInt, bok, mok, Ev.bin, Ev.binI, Ev.cmp, Ev.cmpI, Ev.cmpS, Ev.isNonW, Ev.isiW, Ev.kdOf, vI, vD, vB, vF, setN, putS, setG, setGs, nxO, truth, Ev.sl, Ev.ix, blt, lockS, unlockS, Out.map, wipeS, guardP_pos, guardN_pos, Option.map_some, Option.bind_some, Nat.reduceAdd, Nat.reduceSub, List.replicate, List.cons_append, List.nil_append, List.getElem?_cons_zero, List.getElem?_cons_succ, List.set_cons_succ, List.set_cons_zero, if_true, if_false, Bool.false_eq_true, Bool.not_true, Bool.not_false, reduceCtorEq, eq_self, decide_true, decide_false, decide_not, List.take_succ_cons, List.take_zero, List.length_map, Int.toNat_natCast]
end L42
namespace L42
open PySem PySem.Spec
open PyProof.Rows hiding St
open L2 Ev ClX
noncomputable def g_law : List W → M W := rel fun ws r => ∃ ns : List Int, ns.length ≤ 63 ∧ ws = [.lst (ns.map D.int)] ∧ r = .bl true
theorem h_law (ws : List W) (r : W) (h : g_law ws = some (.ok r)) : ws.length = 1 ∧ fnRun Gm5 7 b_law ws = some (.ok r) := by
  obtain ⟨ns, hl, rfl, rfl⟩ := rel_inv h
  exact ⟨rfl, run_law hl⟩
theorem rep_ints {K : PySem.W.Frag} {H : Hp} : ∀ ns : List Int, RepDs K H (ns.map D.int) (ns.map V.int)
  | [] => rfl
  | i :: ns => ⟨_, _, rfl, rfl, rep_ints ns⟩
theorem start {K : PySem.W.Frag} {H : Hp} {a : Addr} {ns : List Int} (hl : ns.length ≤ 63) (hS : SqL K H a (ns.map V.int)) : spP K (fun _ => 0) g_law [.ref a] H (fun v _ => v = .bl true) fun _ _ _ => False := by
  refine ⟨[.lst (ns.map D.int)], .bl true, ⟨_, _, rfl, ⟨a, _, rfl, RdL.of_seq hS, rep_ints ns⟩, rfl⟩, rel_ok ⟨ns, hl, rfl, rfl⟩ ?_, fun v H' _ b => b.1⟩
  rintro r' ⟨_, _, _, rfl⟩
  rfl
theorem nope {Pg : Program} {w : World} {A : List Env} {H : Hp} {s : Shared} {e : Value} {s' : Shared} (h : L2.CX Pg w A H s (fun _ _ _ => False) e s') : False := by
  obtain ⟨_, _, _, _, _, _, _, _, _, _, _, _, z⟩ := h
  exact z.elim
theorem kit_self {K : PySem.W.Frag} {C : Addr} : PySem.W.kitOne K (.ref C) (.ref C) = some true := by
  unfold PySem.W.kitOne
  rw [if_pos (by simp)]
theorem kit_own {K : PySem.W.Frag} {C Cn : Addr} {b : Bool} (ne : C ≠ Cn) (l : PySem.W.isClsIn K Cn = true) (t : PySem.W.typeIn K (.ref Cn) = some (.type "type")) (h : PySem.W.subIn K (.ref C) (.ref Cn) = some b) : PySem.W.kitOne K (.ref C) (.ref Cn) = some b := by
  have l' : (PySem.W.clsIn K Cn).isSome = true := l
  unfold PySem.W.kitOne PySem.W.kitCls
  rw [if_neg (by simpa using ne)]
  simp only [l', t, h]
  rfl
theorem kit_VE {K : PySem.W.Frag} {C : Addr} {b : Bool} (h : PySem.W.subIn K (.ref C) (.type "ValueError") = some b) : PySem.W.kitOne K (.ref C) (.type "ValueError") = some b := by
  have e : PySem.W.kitMeta "ValueError" = true := by decide +kernel
  unfold PySem.W.kitOne PySem.W.kitCls
  rw [if_neg (by simp)]
  simp only [e, h, if_true]
theorem all_mk {l : PySem.W.OpenLaw} {w : World} {K : PySem.W.Frag} {h : Heap} {mg : Str → Option Value} {fa f1 f2 f3 f4 f5 f6 : Addr} (X : K.In h) (G : h.Ns mainGlobals mg) (hfa : mg "law" = some (.ref fa))
    {od1 an1 od2 an2 od3 an3 od4 an4 od5 an5 od6 an6 : Option Addr} {sl1 sl2 sl3 sl4 sl5 sl6 : Array (Option Value)} {oc1 kV1 dc1 pm1 cd1 ct1 oc2 kV2 dc2 pm2 cd2 ct2 oc3 kV3 dc3 pm3 cd3 ct3 oc4 kV4 dc4 pm4 cd4 ct4 oc5 kV5 dc5 pm5 cd5 ct5 oc6 kV6 dc6 pm6 cd6 ct6 : Value}
    (a1 : PySem.W.nsIn K mainGlobals "ends_of" = some (some (.ref f1))) (l1 : K.lookup f1 = some ⟨oc1, od1, .func (PySem.W.fnOf "ends_of" "ends_of" (defArgs s_ends_of) (defBody s_ends_of) (defScope s_ends_of) .none kV1 dc1 pm1 an1 cd1 ct1), sl1⟩) (c1 : PySem.W.codeIn K cd1 "ends_of" = true) (k1 : PySem.W.keepIn K (.ref f1) = true)
    (a2 : PySem.W.nsIn K mainGlobals "paragraph_at" = some (some (.ref f2))) (l2 : K.lookup f2 = some ⟨oc2, od2, .func (PySem.W.fnOf "paragraph_at" "paragraph_at" (defArgs s_pat) (defBody s_pat) (defScope s_pat) .none kV2 dc2 pm2 an2 cd2 ct2), sl2⟩) (c2 : PySem.W.codeIn K cd2 "paragraph_at" = true) (k2 : PySem.W.keepIn K (.ref f2) = true)
    (a3 : PySem.W.nsIn K mainGlobals "_law_drawn" = some (some (.ref f3))) (l3 : K.lookup f3 = some ⟨oc3, od3, .func (PySem.W.fnOf "_law_drawn" "_law_drawn" (defArgs s_law_drawn) (defBody s_law_drawn) (defScope s_law_drawn) .none kV3 dc3 pm3 an3 cd3 ct3), sl3⟩) (c3 : PySem.W.codeIn K cd3 "_law_drawn" = true) (k3 : PySem.W.keepIn K (.ref f3) = true)
    (a4 : PySem.W.nsIn K mainGlobals "_law_rows" = some (some (.ref f4))) (l4 : K.lookup f4 = some ⟨oc4, od4, .func (PySem.W.fnOf "_law_rows" "_law_rows" (defArgs s_law_rows) (defBody s_law_rows) (defScope s_law_rows) .none kV4 dc4 pm4 an4 cd4 ct4), sl4⟩) (c4 : PySem.W.codeIn K cd4 "_law_rows" = true) (k4 : PySem.W.keepIn K (.ref f4) = true)
    (a5 : PySem.W.nsIn K mainGlobals "_law_refused" = some (some (.ref f5))) (l5 : K.lookup f5 = some ⟨oc5, od5, .func (PySem.W.fnOf "_law_refused" "_law_refused" (defArgs s_ref) (defBody s_ref) (defScope s_ref) .none kV5 dc5 pm5 an5 cd5 ct5), sl5⟩) (c5 : PySem.W.codeIn K cd5 "_law_refused" = true) (k5 : PySem.W.keepIn K (.ref f5) = true)
    (a6 : PySem.W.nsIn K mainGlobals "law" = some (some (.ref f6))) (l6 : K.lookup f6 = some ⟨oc6, od6, .func (PySem.W.fnOf "law" "law" (defArgs s_law) (defBody s_law) (defScope s_law) .none kV6 dc6 pm6 an6 cd6 ct6), sl6⟩) (c6 : PySem.W.codeIn K cd6 "law" = true) (k6 : PySem.W.keepIn K (.ref f6) = true)
    (z1 : PySem.W.nsIn K mainGlobals "len" = some none)
    (z2 : PySem.W.nsIn K mainGlobals "range" = some none)
    (z3 : PySem.W.nsIn K mainGlobals "list" = some none)
    (z4 : PySem.W.nsIn K mainGlobals "sum" = some none)
    (z5 : PySem.W.nsIn K mainGlobals "int" = some none)
    (z6 : PySem.W.nsIn K mainGlobals "bool" = some none)
    (z7 : PySem.W.nsIn K mainGlobals "isinstance" = some none)
    (z8 : PySem.W.nsIn K mainGlobals "min" = some none)
    {nm q : Str} {Nn : Addr} {bs bm : List Value} {sn : List Str} {sub : List Value} {ab : Bool} {col : Option Bool} {dd : Option Addr} {m0 m1 m2 m3 m5 : Option Value} {C Cq Cn fI : Addr} {od0 an0 : Option Addr} {sl0 : Array (Option Value)} {oc0 kV0 dc0 pm0 cd0 ct0 : Value}
    (aC : PySem.W.nsIn K mainGlobals "OutOfPlace" = some (some (.ref C))) (aQ : PySem.W.nsIn K mainGlobals "QuillError" = some (some (.ref Cq))) (aN : PySem.W.nsIn K mainGlobals "NoRow" = some (some (.ref Cn)))
    (xC : K.lookup C = some (excClassObj nm q C Nn bs bm true sn sub ab col dd m0 m1 m2 m3 m5 "ValueError.__new__")) (xm : PySem.HandSPX.refsVE bm = true)
    (sa : PySem.W.findIn K (.ref C) "__setattr__" = some (some (.builtin "object.__setattr__"))) (eC : PySem.W.subIn K (.ref C) (.type "BaseException") = some true) (tC : PySem.W.typeIn K (.ref C) = some (.type "type")) (kC : PySem.W.keepIn K (.ref C) = true)
    (rQ : PySem.W.readsIn K Cq (.type "type") = true) (gQ : PySem.W.specialIn K (.ref Cq) "__getattribute__" = some (some (.builtin "type.__getattribute__"))) (vQ : PySem.W.findCls K (.ref Cq) (.type "type") "__init__" = some (.val (.builtin "ValueError.__init__")))
    (nC : PySem.W.findIn K (.ref C) "at" = some none) (iC : PySem.W.findIn K (.ref C) "__init__" = some (some (.ref fI))) (tI : PySem.W.typeIn K (.ref fI) = some (.type "function"))
    (lI : K.lookup fI = some ⟨oc0, od0, .func (PySem.W.fnOf "__init__" "OutOfPlace.__init__" (defArgs s_init) (defBody s_init) (defScope s_init) .none kV0 dc0 pm0 an0 cd0 ct0), sl0⟩) (cI : PySem.W.codeIn K cd0 "OutOfPlace.__init__" = true) (kI : PySem.W.keepIn K (.ref fI) = true)
    (ga : PySem.W.findIn K (.ref C) "__getattribute__" = some (some (.builtin "BaseException.__getattribute__"))) (gg : PySem.W.findIn K (.ref C) "__getattr__" = some none) (hC : PySem.W.hasDictIn K C = true) (lC : PySem.W.isClsIn K C = true)
    (fc : PySem.W.findIn K (.ref C) "__class__" = some (some (.builtin "object.__class__"))) (sc : PySem.W.specialIn K (.builtin "object.__class__") "__get__" = some (some (.builtin "getset_descriptor.__get__"))) (tk : PySem.W.takesIn K (.builtin "object.__class__") = some true) (mr : PySem.W.mroIn K C (.type "object") = some true)
    (eQ : PySem.W.subIn K (.ref Cq) (.type "BaseException") = some true) (hQ : PySem.W.hasDictIn K Cq = true) (tQ : PySem.W.typeIn K (.ref Cq) = some (.type "type")) (sQ : PySem.W.subIn K (.ref C) (.ref Cq) = some true) (neN : decide (C = Cn) = false) (lN : PySem.W.isClsIn K Cn = true) (tN : PySem.W.typeIn K (.ref Cn) = some (.type "type")) (sN : PySem.W.subIn K (.ref C) (.ref Cn) = some false) (sV : PySem.W.subIn K (.ref C) (.type "ValueError") = some true) (zV : PySem.W.nsIn K mainGlobals "ValueError" = some none)
    : ∃ fd : FuncData, (∀ (s : Shared) (v : Value), BindsTo s fd ⟨[v], []⟩ [("_law_script", v)]) ∧ ∀ base : Heap, K.In base → base.Ns mainGlobals mg → L2.FnOk l.prog w K mg base (L2.CX l.prog w) 7 fa fd ["_law_script"] (spP K (fun _ => 0) g_law) := by
  have e := hfa.symm.trans (PySem.W.mg_of X G a6)
  cases e
  have F1 := L2.fun_mk (st := s_ends_of) l1 c1 k1
  have b1 := F1.binds (ps := ["rows"]) fun _ _ _ _ _ _ us hl => match us, hl with | [_], _ => rfl
  have F2 := L2.fun_mk (st := s_pat) l2 c2 k2
  have b2 := F2.binds (ps := ["rows", "at"]) fun _ _ _ _ _ _ us hl => match us, hl with | [_, _], _ => rfl
  have F3 := L2.fun_mk (st := s_law_drawn) l3 c3 k3
  have b3 := F3.binds (ps := ["_law_cell", "_law_place"]) fun _ _ _ _ _ _ us hl => match us, hl with | [_, _], _ => rfl
  have F4 := L2.fun_mk (st := s_law_rows) l4 c4 k4
  have b4 := F4.binds (ps := ["_law_script"]) fun _ _ _ _ _ _ us hl => match us, hl with | [_], _ => rfl
  have F5 := L2.fun_mk (st := s_ref) l5 c5 k5
  have b5 := F5.binds (ps := ["_law_rows_here", "_law_at"]) fun _ _ _ _ _ _ us hl => match us, hl with | [_, _], _ => rfl
  have F6 := L2.fun_mk (st := s_law) l6 c6 k6
  have b6 := F6.binds (ps := ["_law_script"]) fun _ _ _ _ _ _ us hl => match us, hl with | [_], _ => rfl
  have hb : ∀ y ∈ bl, mg y = none := by
    intro y hy
    simp only [bl, List.mem_cons, List.not_mem_nil, or_false] at hy
    rcases hy with rfl | rfl | rfl | rfl | rfl | rfl | rfl | rfl
    · exact PySem.W.mg_none_of X G z1
    · exact PySem.W.mg_none_of X G z2
    · exact PySem.W.mg_none_of X G z3
    · exact PySem.W.mg_none_of X G z4
    · exact PySem.W.mg_none_of X G z5
    · exact PySem.W.mg_none_of X G z6
    · exact PySem.W.mg_none_of X G z7
    · exact PySem.W.mg_none_of X G z8
  refine ⟨PySem.W.fnOf "law" "law" (defArgs s_law) (defBody s_law) (defScope s_law) .none kV6 dc6 pm6 an6 cd6 ct6, fun s v => .of_eq rfl, fun base _ _ => ?_⟩
  have T : Oop K mg C Cq Cn fI := { gC := PySem.W.mg_of X G aC, gQ := PySem.W.mg_of X G aQ, gN := PySem.W.mg_of X G aN, T := ⟨⟨nm, q, Nn, bs, bm, sn, sub, ab, col, dd, m0, m1, m2, m3, m5, xC, xm⟩, sa, eC, tC, kC⟩, rQ := ⟨rQ, gQ⟩, vQ := vQ, noN := nC, iC := iC, tI := tI, xf := ⟨ga, gg, eC, hC⟩, ix := ⟨lC, ga, gg, eC, fc, sc, tk, mr⟩, ex := PySem.W.exm_ref eQ hQ tQ sQ, isC := kit_self, isN := kit_own (of_decide_eq_false neN) lN tN sN, isV := kit_VE sV }
  have FI := L2.fun_mk (st := s_init) lI cI kI
  have bI := FI.binds (ps := ["self", "at"]) fun _ _ _ _ _ _ us hl => match us, hl with | [_, _], _ => rfl
  have E0 : EnvOk l.prog w K mg base (fun _ => 0) 0 Gm0 := EnvOk.zero
  have P1 := fn_ok F1 sc_ends_of b_ends_of (fnG Gm0 1 2 b_ends_of) ck_ends_of hb E0 fnG_hg
  have E1 : EnvOk l.prog w K mg base (fun _ => 0) 1 Gm1 := E0.ext P1 (by decide) (PySem.W.mg_of X G a1) k1 b1
  have G2 := ok_pat (P := l.prog) (w := w) (base := base) (ca := fun _ => 0) (f1 := fI) (k := 2) F2 T FI bI hb E1 (by decide) (by decide)
  have P2 := ok_pat' G2
  have E2 : EnvOk l.prog w K mg base (fun _ => 0) 3 Gm2 := E1.ext P2 (by decide) (PySem.W.mg_of X G a2) k2 b2
  have P3 := fn_ok F3 sc_law_drawn b_law_drawn g_drawn ck_law_drawn hb E2 (run_drawn _)
  have E3 : EnvOk l.prog w K mg base (fun _ => 0) 4 Gm3 := E2.ext P3 (by decide) (PySem.W.mg_of X G a3) k3 b3
  have P4 := fn_ok F4 sc_law_rows b_law_rows (fnG Gm3 1 5 b_law_rows) ck_law_rows hb E3 fnG_hg
  have E4 : EnvOk l.prog w K mg base (fun _ => 0) 5 Gm4 := E3.ext P4 (by decide) (PySem.W.mg_of X G a4) k4 b4
  have P5 := ok_ref F5 T (G2.mono (j := 3) (k := 5) (by decide)) (PySem.W.mg_of X G a2) k2 b2 (hb _ (by decide)) (PySem.W.mg_none_of X G zV)
  have E5 : EnvOk l.prog w K mg base (fun _ => 0) 6 Gm5 := E4.ext P5 (by decide) (PySem.W.mg_of X G a5) k5 b5
  have P6 := fn_ok F6 sc_law b_law g_law ck_law hb E5 h_law
  exact P6
end L42
open PySem PySem.W PyProof.Rows
set_option maxHeartbeats 0 in
theorem PySem.Challenge.cw_redquill_k42_at_a_place_holds : PySem.Challenge.rw_redquill_k42_at_a_place.Holds := by
  w_on; o_law; k_head; (case hw => w_witness2)
  k_fill
  refine L2.walk_of (l := PySem.Challenge.rw_redquill_k42_at_a_place) (n := 63) (k := 7) (x := "_law_script") (CX := fun w => L2.CX PySem.Challenge.rw_redquill_k42_at_a_place.prog w) (sp := fun w => Ev.spP _ (fun _ => 0) L42.g_law) rfl (by decide) rfl ⟨rfl, by decide, by decide⟩ (fun w h Y => PySem.W.kIn_of Y) ?F (fun w H a ns hl _ hS => L42.start hl hS) (fun _ _ _ _ _ h => L42.nope h)
  case F =>
    intro w mg fa h KX G hmg
    refine' L42.all_mk KX G hmg ?a1 ?l1 ?c1 ?k1 ?a2 ?l2 ?c2 ?k2 ?a3 ?l3 ?c3 ?k3 ?a4 ?l4 ?c4 ?k4 ?a5 ?l5 ?c5 ?k5 ?a6 ?l6 ?c6 ?k6 ?z1 ?z2 ?z3 ?z4 ?z5 ?z6 ?z7 ?z8 ?aC ?aQ ?aN ?xC ?xm ?sa ?eC ?tC ?kC ?rQ ?gQ ?vQ ?nC ?iC ?tI ?lI ?cI ?kI ?ga ?gg ?hC ?lC ?fc ?sc ?tk ?mr ?eQ ?hQ ?tQ ?sQ ?neN ?lN ?tN ?sN ?sV ?zV
    (case a1 => k_is); (case l1 => k_is); (case c1 => k_is); (case k1 => k_is); (case a2 => k_is); (case l2 => k_is); (case c2 => k_is); (case k2 => k_is); (case a3 => k_is); (case l3 => k_is); (case c3 => k_is); (case k3 => k_is); (case a4 => k_is); (case l4 => k_is); (case c4 => k_is); (case k4 => k_is); (case a5 => k_is); (case l5 => k_is); (case c5 => k_is); (case k5 => k_is); (case a6 => k_is); (case l6 => k_is); (case c6 => k_is); (case k6 => k_is)
    (case z1 => k_is); (case z2 => k_is); (case z3 => k_is); (case z4 => k_is); (case z5 => k_is); (case z6 => k_is); (case z7 => k_is); (case z8 => k_is)
    (case aC => k_is); (case aQ => k_is); (case aN => k_is); (case xC => k_is); (case xm => decide +kernel); (case sa => k_is); (case eC => k_is); (case tC => k_is); (case kC => k_is); (case rQ => k_is); (case gQ => k_is); (case vQ => k_is); (case nC => k_is); (case iC => k_is); (case tI => k_is); (case lI => k_is); (case cI => k_is); (case kI => k_is); (case ga => k_is); (case gg => k_is); (case hC => k_is); (case lC => k_is); (case fc => k_is); (case sc => k_is); (case tk => k_is); (case mr => k_is); (case eQ => k_is); (case hQ => k_is); (case tQ => k_is); (case sQ => k_is); (case neN => decide); (case lN => k_is); (case tN => k_is); (case sN => k_is); (case sV => k_is); (case zV => k_is)
