import PyProof.Rows.All
import Wide.All
import OpenK.AllK
import Wide.FinOn
import HandS.ForMost
import HandS.Exc
import HandS.TryOnly
import HandS.ExcOwn
import HandS.WordsExc
import HandS.Wide
import HandS.Flow
import HandS.Rev
import HandS.RevTup
import PyProof.ListStr
import HandS.Style
import HandS.Text
import HandS.IsInst
import HandS.TupAny
import HandS.Deep
import PyProof.StrOps2
import HandS.Codes
import HandS.Defaults
import PySem.Challenge.RW_redquill_k72_steps_told
set_option Elab.async false
set_option linter.all false
set_option maxRecDepth 100000
set_option maxHeartbeats 4000000
/-! Ev0: data (D), cells (C), values with ownership (W), how they lie in the abstract heap. -/
namespace Ev
open PySem PySem.Spec PyProof.Rows L2

/-- data that never changes -/
inductive D where
  | non | bl (b : Bool) | int (i : Int) | str (x : Str) | tup (xs : List D) | fl (xs : List D) | ref (n : Nat)
/-- what a slot or a field holds -/
inductive C where
  | d (x : D) | lst (xs : List D) | dK (kvs : List (Key × D)) | dT (kvs : List (List Key × D))
inductive W where
  | c (x : C) | obj (c : Nat) (fs : List (Str × C))
abbrev W.d (x : D) : W := .c (.d x)
abbrev W.lst (xs : List D) : W := .c (.lst xs)
abbrev W.int (i : Int) : W := .c (.d (.int i))
abbrev W.str (x : Str) : W := .c (.d (.str x))
abbrev W.bl (b : Bool) : W := .c (.d (.bl b))
abbrev W.non : W := .c (.d .non)
abbrev W.tup (xs : List D) : W := .c (.d (.tup xs))

/-- where the classes and the shared objects stand -/
structure Am where
  c : Nat → Addr
  i : List Addr
/-- more shared objects -/
def Am.le (a b : Am) : Prop := a.c = b.c ∧ ∀ (n : Nat) (x : Addr), a.i[n]? = some x → b.i[n]? = some x
theorem Am.le.refl {a : Am} : a.le a := ⟨rfl, fun _ _ h => h⟩
theorem Am.le.trans {a b c : Am} (x : a.le b) (y : b.le c) : a.le c := ⟨x.1.trans y.1, fun n z h => y.2 n z (x.2 n z h)⟩
mutual
def RepD (K : PySem.W.Frag) (ca : Am) (H : Hp) : D → V → Prop
  | .non, v => v = .non
  | .bl b, v => v = .bl b
  | .int i, v => v = .int i
  | .str x, v => v = .str x
  | .tup xs, v => ∃ a vs, v = .ref a ∧ SqT K H a vs ∧ RepDs K ca H xs vs
  | .fl xs, v => ∃ a o vs, v = .ref a ∧ H a = some (.frz o (.lst vs)) ∧ RepDs K ca H xs vs
  | .ref n, v => ∃ a, ca.i[n]? = some a ∧ v = .ref a
def RepDs (K : PySem.W.Frag) (ca : Am) (H : Hp) : List D → List V → Prop
  | [], vs => vs = []
  | x :: xs, vs => ∃ v r, vs = v :: r ∧ RepD K ca H x v ∧ RepDs K ca H xs r
end
/-- tuples stand, what is frozen too -/
structure TK (K : PySem.W.Frag) (H H' : Hp) : Prop where
  t : ∀ a xs, SqT K H a xs → SqT K H' a xs
  f : ∀ a o u, H a = some (.frz o u) → H' a = some (.frz o u)
section
variable {K : PySem.W.Frag} {ca ca' : Am} {H H' : Hp}
mutual
theorem RepD.mono (t : TK K H H') : ∀ {x : D} {v : V}, RepD K ca H x v → RepD K ca H' x v
  | .non, _, h => h
  | .bl _, _, h => h
  | .int _, _, h => h
  | .str _, _, h => h
  | .tup xs, v, h => by
    unfold RepD at h ⊢
    obtain ⟨a, vs, e, q, r⟩ := h
    exact ⟨a, vs, e, t.t a vs q, RepDs.mono t r⟩
  | .fl xs, v, h => by
    unfold RepD at h ⊢
    obtain ⟨a, o, vs, e, q, r⟩ := h
    exact ⟨a, o, vs, e, t.f a o _ q, RepDs.mono t r⟩
  | .ref n, v, h => by
    unfold RepD at h ⊢
    exact h
theorem RepDs.mono (t : TK K H H') : ∀ {xs : List D} {vs : List V}, RepDs K ca H xs vs → RepDs K ca H' xs vs
  | [], _, h => h
  | x :: xs, vs, h => by
    unfold RepDs at h ⊢
    obtain ⟨v, r, e, h1, h2⟩ := h
    exact ⟨v, r, e, RepD.mono t h1, RepDs.mono t h2⟩
end
theorem RepDs.length : ∀ {xs : List D} {vs : List V}, RepDs K ca H xs vs → vs.length = xs.length
  | [], _, h => by unfold RepDs at h; subst h; rfl
  | x :: xs, vs, h => by
    unfold RepDs at h
    obtain ⟨v, r, e, h1, h2⟩ := h
    subst e
    simp [RepDs.length h2]
theorem RepDs.nil : RepDs K ca H [] [] := by unfold RepDs; rfl
theorem RepDs.cons {x v xs vs} (h : RepD K ca H x v) (r : RepDs K ca H xs vs) : RepDs K ca H (x :: xs) (v :: vs) := by
  unfold RepDs; exact ⟨v, vs, rfl, h, r⟩
theorem RepDs.app : ∀ {xs ys : List D} {vs ws : List V}, RepDs K ca H xs vs → RepDs K ca H ys ws → RepDs K ca H (xs ++ ys) (vs ++ ws)
  | [], _, _, _, h, q => by unfold RepDs at h; subst h; exact q
  | x :: xs, _, _, _, h, q => by
    unfold RepDs at h
    obtain ⟨v, r, e, h1, h2⟩ := h
    subst e
    exact .cons h1 (RepDs.app h2 q)
theorem RepDs.get : ∀ {xs : List D} {vs : List V} {i : Nat} {x : D}, RepDs K ca H xs vs → xs[i]? = some x → ∃ v, vs[i]? = some v ∧ RepD K ca H x v
  | [], _, _, _, _, e => by simp at e
  | y :: xs, _, 0, x, h, e => by
    unfold RepDs at h
    obtain ⟨v, r, e1, h1, h2⟩ := h
    subst e1
    simp at e; subst e
    exact ⟨v, rfl, h1⟩
  | y :: xs, _, i + 1, x, h, e => by
    unfold RepDs at h
    obtain ⟨v, r, e1, h1, h2⟩ := h
    subst e1
    obtain ⟨w, q1, q2⟩ := RepDs.get (i := i) h2 (by simpa using e)
    exact ⟨w, by simpa using q1, q2⟩
theorem RepDs.take : ∀ {xs : List D} {vs : List V} (n : Nat), RepDs K ca H xs vs → RepDs K ca H (xs.take n) (vs.take n)
  | _, _, 0, _ => by simp only [List.take_zero]; exact .nil
  | [], _, n + 1, h => by unfold RepDs at h; subst h; exact .nil
  | x :: xs, _, n + 1, h => by
    unfold RepDs at h
    obtain ⟨v, r, e1, h1, h2⟩ := h
    subst e1
    exact .cons h1 (RepDs.take n h2)
theorem RepDs.drop : ∀ {xs : List D} {vs : List V} (n : Nat), RepDs K ca H xs vs → RepDs K ca H (xs.drop n) (vs.drop n)
  | _, _, 0, h => h
  | [], _, n + 1, h => by unfold RepDs at h; subst h; exact .nil
  | x :: xs, _, n + 1, h => by
    unfold RepDs at h
    obtain ⟨v, r, e1, h1, h2⟩ := h
    subst e1
    exact RepDs.drop n h2
theorem RepDs.set {x : D} {v : V} : ∀ {xs : List D} {vs : List V} (n : Nat), RepDs K ca H xs vs → RepD K ca H x v → RepDs K ca H (xs.set n x) (vs.set n v)
  | [], _, _, h, _ => by unfold RepDs at h; subst h; exact .nil
  | y :: xs, _, 0, h, r => by
    unfold RepDs at h
    obtain ⟨v, q, e, h1, h2⟩ := h
    subst e
    exact .cons r h2
  | y :: xs, _, n + 1, h, r => by
    unfold RepDs at h
    obtain ⟨v, q, e, h1, h2⟩ := h
    subst e
    exact .cons h1 (RepDs.set n h2 r)
theorem TK.refl : TK K H H := ⟨fun _ _ h => h, fun _ _ _ h => h⟩
theorem TK.trans {H'' : Hp} (a : TK K H H') (b : TK K H' H'') : TK K H H'' := ⟨fun c xs h => b.t c xs (a.t c xs h), fun c o u h => b.f c o u (a.f c o u h)⟩
theorem TK.of_same (s : Same H H') : TK K H H' := ⟨fun a xs h => by
  rcases h with (h | ⟨o, h⟩) | h
  · exact .inl (.inl (s _ _ h))
  · exact .inl (.inr ⟨o, s _ _ h⟩)
  · exact .inr h, fun a o u h => s _ _ h⟩
mutual
theorem RepD.grow (g : ca.le ca') : ∀ {x : D} {v : V}, RepD K ca H x v → RepD K ca' H x v
  | .non, _, h => h
  | .bl _, _, h => h
  | .int _, _, h => h
  | .str _, _, h => h
  | .tup xs, v, h => by
    unfold RepD at h ⊢
    obtain ⟨a, vs, e, q, r⟩ := h
    exact ⟨a, vs, e, q, RepDs.grow g r⟩
  | .fl xs, v, h => by
    unfold RepD at h ⊢
    obtain ⟨a, o, vs, e, q, r⟩ := h
    exact ⟨a, o, vs, e, q, RepDs.grow g r⟩
  | .ref n, v, h => by
    unfold RepD at h ⊢
    obtain ⟨a, e, q⟩ := h
    exact ⟨a, g.2 n a e, q⟩
theorem RepDs.grow (g : ca.le ca') : ∀ {xs : List D} {vs : List V}, RepDs K ca H xs vs → RepDs K ca' H xs vs
  | [], _, h => h
  | x :: xs, vs, h => by
    unfold RepDs at h ⊢
    obtain ⟨v, r, e, h1, h2⟩ := h
    exact ⟨v, r, e, RepD.grow g h1, RepDs.grow g h2⟩
end
theorem Same.upd {a : Addr} {o : HO} (h : H a = none) : Same H (upd H a o) := fun b x e => by
  rw [upd_ne (ne_of_none e h)]
  exact e
end

/-! ### the data as PyData, for == -/
mutual
def toPy : D → PyData
  | .non => .none
  | .bl b => .bool b
  | .int i => .int i
  | .str x => .str x
  | .tup xs => .tuple (toPys xs)
  | .fl xs => .list (toPys xs)
  | .ref _ => .none
def toPys : List D → List PyData
  | [] => []
  | x :: xs => toPy x :: toPys xs
end
mutual
/-- without shared objects -/
def pyOk : D → Bool
  | .tup xs => pyOks xs
  | .fl xs => pyOks xs
  | .ref _ => false
  | _ => true
def pyOks : List D → Bool
  | [] => true
  | x :: xs => pyOk x && pyOks xs
end
mutual
theorem RepD.dp {K : PySem.W.Frag} {ca : Am} {H : Hp} : ∀ {x : D} {v : V}, pyOk x = true → RepD K ca H x v → Dp K H v (toPy x)
  | .non, _, _, h => by unfold RepD at h; subst h; exact .non
  | .bl _, _, _, h => by unfold RepD at h; subst h; exact .bl _
  | .int _, _, _, h => by unfold RepD at h; subst h; exact .int _
  | .str _, _, _, h => by unfold RepD at h; subst h; exact .str _
  | .tup xs, v, k, h => by
    unfold RepD at h
    obtain ⟨a, vs, e, q, r⟩ := h
    subst e
    exact .tup q (RepDs.dp (by simpa [pyOk] using k) r)
  | .fl xs, v, k, h => by
    unfold RepD at h
    obtain ⟨a, o, vs, e, q, r⟩ := h
    subst e
    exact .lst (.inl (.inr ⟨o, q⟩)) (RepDs.dp (by simpa [pyOk] using k) r)
  | .ref n, v, k, h => by simp [pyOk] at k
theorem RepDs.dp {K : PySem.W.Frag} {ca : Am} {H : Hp} : ∀ {xs : List D} {vs : List V}, pyOks xs = true → RepDs K ca H xs vs → DpAll K H vs (toPys xs)
  | [], _, _, h => by unfold RepDs at h; subst h; exact .nil
  | x :: xs, vs, k, h => by
    unfold RepDs at h
    obtain ⟨v, r, e, h1, h2⟩ := h
    subst e
    have k' : pyOk x = true ∧ pyOks xs = true := by simpa [pyOks] using k
    exact .cons (RepD.dp k'.1 h1) (RepDs.dp k'.2 h2)
end

/-! ### readable values -/
/-- a list that may be read at a: tracked at a place where P holds (or locked there), or of the written part -/
def RdL (P : Addr → Prop) (K : PySem.W.Frag) (H : Hp) (a : Addr) (vs : List V) : Prop := (P a ∧ Rd H a (.lst vs)) ∨ SqL K (fun _ => none) a vs
def RepC (P : Addr → Prop) (K : PySem.W.Frag) (ca : Am) (H : Hp) : C → V → Prop
  | .d x, v => RepD K ca H x v
  | .lst xs, v => ∃ a vs, v = .ref a ∧ RdL P K H a vs ∧ RepDs K ca H xs vs
  | .dK kvs, v => ∃ a vs, v = .ref a ∧ P a ∧ H a = some (.dK vs) ∧ kvs.map (·.1) = vs.map (·.1) ∧ RepDs K ca H (kvs.map (·.2)) (vs.map (·.2))
  | .dT kvs, v => ∃ a vs, v = .ref a ∧ P a ∧ H a = some (.dT vs) ∧ kvs.map (·.1) = vs.map (·.1) ∧ RepDs K ca H (kvs.map (·.2)) (vs.map (·.2))
def RepF (P : Addr → Prop) (K : PySem.W.Frag) (ca : Am) (H : Hp) (fs' : List (Str × V)) (o : Option C) (f : Str) : Prop :=
  match o with
  | some x => ∃ v, fs'.lookup f = some v ∧ RepC P K ca H x v
  | none => fs'.lookup f = none
def RepW (P : Addr → Prop) (K : PySem.W.Frag) (ca : Am) (H : Hp) : W → V → Prop
  | .c x, v => RepC P K ca H x v
  | .obj c fs, v => ∃ a dx fs', v = .ref a ∧ P a ∧ H a = some (.ins (ca.c c) dx fs') ∧ ∀ f, RepF P K ca H fs' (fs.lookup f) f
section
variable {P : Addr → Prop} {K : PySem.W.Frag} {ca ca' : Am} {H H' : Hp}
/-- what stands where P holds stands still; tuples stand -/
structure Fut (P : Addr → Prop) (K : PySem.W.Frag) (H H' : Hp) : Prop where
  tk : TK K H H'
  at_ : ∀ a o, P a → H a = some o → H' a = some o
theorem Fut.refl : Fut P K H H := ⟨.refl, fun _ _ _ h => h⟩
theorem Fut.trans {H'' : Hp} (a : Fut P K H H') (b : Fut P K H' H'') : Fut P K H H'' := ⟨a.tk.trans b.tk, fun c o p h => b.at_ c o p (a.at_ c o p h)⟩
theorem Fut.of_same (s : Same H H') : Fut P K H H' := ⟨.of_same s, fun a o _ h => s a o h⟩
theorem SqL.free {a : Addr} {vs : List V} (h : SqL K (fun _ => none) a vs) : SqL K H a vs := by
  rcases h with (h | ⟨o, h⟩) | h
  · cases h
  · cases h
  · exact .inr h
theorem RdL.seq {a : Addr} {vs : List V} (h : RdL P K H a vs) : SqL K H a vs := by
  rcases h with ⟨_, h⟩ | h
  · exact .inl h
  · exact SqL.free h
theorem RdL.mono {P' : Addr → Prop} {a : Addr} {vs : List V} (h : RdL P K H a vs) (f : Fut P K H H') (q : ∀ b, P b → P' b) : RdL P' K H' a vs := by
  rcases h with ⟨p, h | ⟨o, h⟩⟩ | h
  · exact .inl ⟨q a p, .inl (f.at_ a _ p h)⟩
  · exact .inl ⟨q a p, .inr ⟨o, f.at_ a _ p h⟩⟩
  · exact .inr h
theorem RdL.of_seq {a : Addr} {vs : List V} (h : SqL K H a vs) : RdL (fun _ => True) K H a vs := by
  rcases h with h | h
  · exact .inl ⟨trivial, h⟩
  · exact .inr (.inr h)
theorem RepC.mono {P' : Addr → Prop} (f : Fut P K H H') (q : ∀ b, P b → P' b) : ∀ {x : C} {v : V}, RepC P K ca H x v → RepC P' K ca H' x v
  | .d x, v, h => RepD.mono f.tk h
  | .lst xs, v, ⟨a, vs, e, h, r⟩ => ⟨a, vs, e, h.mono f q, r.mono f.tk⟩
  | .dK kvs, v, ⟨a, vs, e, p, h, k, r⟩ => ⟨a, vs, e, q a p, f.at_ a _ p h, k, r.mono f.tk⟩
  | .dT kvs, v, ⟨a, vs, e, p, h, k, r⟩ => ⟨a, vs, e, q a p, f.at_ a _ p h, k, r.mono f.tk⟩
theorem RepF.mono {P' : Addr → Prop} (f : Fut P K H H') (q : ∀ b, P b → P' b) {fs' : List (Str × V)} {o : Option C} {n : Str} (h : RepF P K ca H fs' o n) : RepF P' K ca H' fs' o n := by
  cases o with
  | none => exact h
  | some x => obtain ⟨v, e, r⟩ := h; exact ⟨v, e, r.mono f q⟩
theorem RepW.mono {P' : Addr → Prop} (f : Fut P K H H') (q : ∀ b, P b → P' b) : ∀ {x : W} {v : V}, RepW P K ca H x v → RepW P' K ca H' x v
  | .c x, v, h => RepC.mono f q h
  | .obj c fs, v, ⟨a, dx, fs', e, p, h, r⟩ => ⟨a, dx, fs', e, q a p, f.at_ a _ p h, fun n => (r n).mono f q⟩

theorem RepC.grow (g : ca.le ca') : ∀ {x : C} {v : V}, RepC P K ca H x v → RepC P K ca' H x v
  | .d x, v, h => RepD.grow g h
  | .lst xs, v, ⟨a, vs, e, h, r⟩ => ⟨a, vs, e, h, r.grow g⟩
  | .dK kvs, v, ⟨a, vs, e, p, h, k, r⟩ => ⟨a, vs, e, p, h, k, r.grow g⟩
  | .dT kvs, v, ⟨a, vs, e, p, h, k, r⟩ => ⟨a, vs, e, p, h, k, r.grow g⟩
theorem RepF.grow (g : ca.le ca') {fs' : List (Str × V)} {o : Option C} {n : Str} (h : RepF P K ca H fs' o n) : RepF P K ca' H fs' o n := by
  cases o with
  | none => exact h
  | some x => obtain ⟨v, e, r⟩ := h; exact ⟨v, e, r.grow g⟩
theorem RepW.grow (g : ca.le ca') : ∀ {x : W} {v : V}, RepW P K ca H x v → RepW P K ca' H x v
  | .c x, v, h => RepC.grow g h
  | .obj c fs, v, ⟨a, dx, fs', e, p, h, r⟩ => ⟨a, dx, fs', e, p, by rw [← g.1]; exact h, fun n => (r n).grow g⟩
/-- a frozen list read as a list -/
def W.un : W → W
  | .c (.d (.fl xs)) => .c (.lst xs)
  | w => w
theorem RepW.un {w : W} {v : V} (h : RepW (fun _ => True) K ca H w v) : RepW (fun _ => True) K ca H w.un v := by
  unfold W.un
  split
  · obtain ⟨a, o, vs, e, q, r⟩ : ∃ a o vs, v = .ref a ∧ H a = some (.frz o (.lst vs)) ∧ RepDs K ca H _ vs := h
    exact ⟨a, vs, e, .inl ⟨trivial, .inr ⟨o, q⟩⟩, r⟩
  · exact h

/-! ### owned values, with the places they own -/
def OwnC (K : PySem.W.Frag) (ca : Am) (H : Hp) : C → V → List Addr → Prop
  | .d x, v, fp => RepD K ca H x v ∧ fp = []
  | .lst xs, v, fp => ∃ a vs, v = .ref a ∧ H a = some (.lst vs) ∧ RepDs K ca H xs vs ∧ fp = [a]
  | .dK kvs, v, fp => ∃ a vs, v = .ref a ∧ H a = some (.dK vs) ∧ kvs.map (·.1) = vs.map (·.1) ∧ RepDs K ca H (kvs.map (·.2)) (vs.map (·.2)) ∧ fp = [a]
  | .dT kvs, v, fp => ∃ a vs, v = .ref a ∧ H a = some (.dT vs) ∧ kvs.map (·.1) = vs.map (·.1) ∧ RepDs K ca H (kvs.map (·.2)) (vs.map (·.2)) ∧ fp = [a]
/-- an object's fields: each field's value and places -/
def OwnFs (K : PySem.W.Frag) (ca : Am) (H : Hp) (fs' : List (Str × V)) : List (Str × C) → List Addr → Prop
  | [], fp => fp = []
  | (f, x) :: r, fp => ∃ v fp1 fp2, fs'.lookup f = some v ∧ OwnC K ca H x v fp1 ∧ OwnFs K ca H fs' r fp2 ∧ fp = fp1 ++ fp2
def OwnW (K : PySem.W.Frag) (ca : Am) (H : Hp) : W → V → List Addr → Prop
  | .c x, v, fp => OwnC K ca H x v fp
  | .obj c fs, v, fp => ∃ a dx fs' fp', v = .ref a ∧ H a = some (.ins (ca.c c) dx fs') ∧ OwnFs K ca H fs' fs fp' ∧ (fs.map (·.1)).Nodup ∧ ((∀ f, fs.lookup f = none → fs'.lookup f = none) ∧ fs'.length = fs.length) ∧ fp = a :: fp'
theorem OwnC.stay (t : TK K H H') : ∀ {x : C} {v : V} {fp : List Addr}, OwnC K ca H x v fp → (∀ a ∈ fp, ∀ o, H a = some o → H' a = some o) → OwnC K ca H' x v fp
  | .d x, v, fp, ⟨h, e⟩, _ => ⟨h.mono t, e⟩
  | .lst xs, v, fp, ⟨a, vs, e, h, r, ef⟩, s => ⟨a, vs, e, s a (by subst ef; simp) _ h, r.mono t, ef⟩
  | .dK kvs, v, fp, ⟨a, vs, e, h, k, r, ef⟩, s => ⟨a, vs, e, s a (by subst ef; simp) _ h, k, r.mono t, ef⟩
  | .dT kvs, v, fp, ⟨a, vs, e, h, k, r, ef⟩, s => ⟨a, vs, e, s a (by subst ef; simp) _ h, k, r.mono t, ef⟩
theorem OwnFs.stay (t : TK K H H') {fs' : List (Str × V)} : ∀ {fs : List (Str × C)} {fp : List Addr}, OwnFs K ca H fs' fs fp → (∀ a ∈ fp, ∀ o, H a = some o → H' a = some o) → OwnFs K ca H' fs' fs fp
  | [], _, h, _ => h
  | (f, x) :: r, fp, ⟨v, fp1, fp2, l, h1, h2, e⟩, s => ⟨v, fp1, fp2, l, h1.stay t fun a ha => s a (by subst e; simp [ha]), OwnFs.stay t h2 fun a ha => s a (by subst e; simp [ha]), e⟩
theorem OwnW.stay (t : TK K H H') : ∀ {x : W} {v : V} {fp : List Addr}, OwnW K ca H x v fp → (∀ a ∈ fp, ∀ o, H a = some o → H' a = some o) → OwnW K ca H' x v fp
  | .c x, _, _, h, s => OwnC.stay t h s
  | .obj c fs, v, fp, ⟨a, dx, fs', fp', e, h, q, nd, l, ef⟩, s => ⟨a, dx, fs', fp', e, s a (by subst ef; simp) _ h, q.stay t fun b hb => s b (by subst ef; simp [hb]), nd, l, ef⟩
theorem OwnC.rep : ∀ {x : C} {v : V} {fp : List Addr}, (∀ a ∈ fp, P a) → OwnC K ca H x v fp → RepC P K ca H x v
  | .d x, v, fp, _, ⟨h, e⟩ => h
  | .lst xs, v, fp, q, ⟨a, vs, e, h, r, ef⟩ => ⟨a, vs, e, .inl ⟨q a (by subst ef; simp), .inl h⟩, r⟩
  | .dK kvs, v, fp, q, ⟨a, vs, e, h, k, r, ef⟩ => ⟨a, vs, e, q a (by subst ef; simp), h, k, r⟩
  | .dT kvs, v, fp, q, ⟨a, vs, e, h, k, r, ef⟩ => ⟨a, vs, e, q a (by subst ef; simp), h, k, r⟩
theorem OwnFs.rep {fs' : List (Str × V)} : ∀ {fs : List (Str × C)} {fp : List Addr}, (∀ a ∈ fp, P a) → OwnFs K ca H fs' fs fp → ∀ f x, fs.lookup f = some x → ∃ v, fs'.lookup f = some v ∧ RepC P K ca H x v
  | [], _, _, _, f, x, h => by simp at h
  | (g, y) :: r, fp, q, ⟨v, fp1, fp2, l, h1, h2, e⟩, f, x, h => by
    rw [List.lookup_cons] at h
    split at h
    · rename_i eq
      have eq' : f = g := by simpa using eq
      cases h
      subst eq'
      exact ⟨v, l, h1.rep fun a ha => q a (by subst e; simp [ha])⟩
    · exact OwnFs.rep (fun a ha => q a (by subst e; simp [ha])) h2 f x h
theorem OwnW.rep : ∀ {x : W} {v : V} {fp : List Addr}, (∀ a ∈ fp, P a) → OwnW K ca H x v fp → RepW P K ca H x v
  | .c x, _, _, q, h => OwnC.rep q h
  | .obj c fs, v, fp, q, ⟨a, dx, fs', fp', e, h, r, nd, l, ef⟩ => ⟨a, dx, fs', e, q a (by subst ef; simp), h, fun f => by
      unfold RepF
      cases e' : fs.lookup f with
      | none => exact l.1 f e'
      | some x => exact OwnFs.rep (fun b hb => q b (by subst ef; simp [hb])) r f x e'⟩
end
section
variable {K : PySem.W.Frag} {ca ca' : Am} {H : Hp}
theorem OwnC.grow (g : ca.le ca') : ∀ {x : C} {v : V} {fp : List Addr}, OwnC K ca H x v fp → OwnC K ca' H x v fp
  | .d x, v, fp, ⟨h, e⟩ => ⟨h.grow g, e⟩
  | .lst xs, v, fp, ⟨a, vs, e, h, r, ef⟩ => ⟨a, vs, e, h, r.grow g, ef⟩
  | .dK kvs, v, fp, ⟨a, vs, e, h, k, r, ef⟩ => ⟨a, vs, e, h, k, r.grow g, ef⟩
  | .dT kvs, v, fp, ⟨a, vs, e, h, k, r, ef⟩ => ⟨a, vs, e, h, k, r.grow g, ef⟩
theorem OwnFs.grow (g : ca.le ca') {fs' : List (Str × V)} : ∀ {fs : List (Str × C)} {fp : List Addr}, OwnFs K ca H fs' fs fp → OwnFs K ca' H fs' fs fp
  | [], _, h => h
  | (f, x) :: r, fp, ⟨v, fp1, fp2, l, h1, h2, e⟩ => ⟨v, fp1, fp2, l, h1.grow g, OwnFs.grow g h2, e⟩
theorem OwnW.grow (g : ca.le ca') : ∀ {x : W} {v : V} {fp : List Addr}, OwnW K ca H x v fp → OwnW K ca' H x v fp
  | .c x, _, _, h => OwnC.grow g h
  | .obj c fs, v, fp, ⟨a, dx, fs', fp', e, h, q, nd, l, ef⟩ => ⟨a, dx, fs', fp', e, by rw [← g.1]; exact h, q.grow g, nd, l, ef⟩
end
/-! ### a field is set -/
def setF (f : Str) (x : C) : List (Str × C) → List (Str × C)
  | [] => [(f, x)]
  | (g, y) :: r => if g = f then (g, x) :: r else (g, y) :: setF f x r
section
variable {K : PySem.W.Frag} {ca : Am} {H : Hp} {f : Str} {v : V}
theorem OwnFs.other {fs' : List (Str × V)} : ∀ {fs : List (Str × C)} {fp : List Addr}, f ∉ fs.map (·.1) → OwnFs K ca H fs' fs fp → OwnFs K ca H (putF f v fs') fs fp
  | [], _, _, h => h
  | (g, x) :: r, fp, n, ⟨u, fp1, fp2, l, h1, h2, e⟩ => by
    have hg : g ≠ f := fun z => n (by simp [z])
    refine ⟨u, fp1, fp2, ?_, h1, OwnFs.other (fun z => n (by simp at z ⊢; exact .inr z)) h2, e⟩
    rw [lookup_putF, if_neg hg]
    exact l
theorem OwnFs.set {fs' : List (Str × V)} {x : C} {fpv : List Addr} (ox : OwnC K ca H x v fpv) (nv : fpv.Nodup) : ∀ {fs : List (Str × C)} {fp : List Addr}, (fs.map (·.1)).Nodup → OwnFs K ca H fs' fs fp → fp.Nodup → (∀ a ∈ fpv, a ∉ fp) →
    ∃ fp2, OwnFs K ca H (putF f v fs') (setF f x fs) fp2 ∧ (∀ a ∈ fp2, a ∈ fp ∨ a ∈ fpv) ∧ fp2.Nodup
  | [], fp, _, h, _, _ => by
    have : (putF f v fs').lookup f = some v := by rw [lookup_putF, if_pos rfl]
    exact ⟨fpv ++ [], ⟨v, fpv, [], this, ox, rfl, rfl⟩, fun a ha => .inr (by simpa using ha), by simpa using nv⟩
  | (g, y) :: r, fp, n, ⟨u, fp1, fp2, l, h1, h2, e⟩, nd, dj => by
    subst e
    have n' : g ∉ r.map (·.1) ∧ (r.map (·.1)).Nodup := by simpa using n
    have nd' := List.nodup_append.mp nd
    by_cases hg : g = f
    · subst hg
      have lk : (putF g v fs').lookup g = some v := by rw [lookup_putF, if_pos rfl]
      have es : setF g x ((g, y) :: r) = (g, x) :: r := if_pos rfl
      rw [es]
      refine ⟨fpv ++ fp2, ⟨v, fpv, fp2, lk, ox, h2.other n'.1, rfl⟩, fun a ha => ?_, List.nodup_append.mpr ⟨nv, nd'.2.1, fun a ha b hb z => ?_⟩⟩
      · rcases List.mem_append.mp ha with z | z
        · exact .inr z
        · exact .inl (List.mem_append_right _ z)
      · subst z
        exact dj a ha (List.mem_append_right _ hb)
    · have es : setF f x ((g, y) :: r) = (g, y) :: setF f x r := if_neg hg
      rw [es]
      obtain ⟨fp3, o3, s3, n3⟩ := OwnFs.set ox nv n'.2 h2 nd'.2.1 fun a ha q => dj a ha (List.mem_append_right _ q)
      refine ⟨fp1 ++ fp3, ⟨u, fp1, fp3, by rw [lookup_putF, if_neg hg]; exact l, h1, o3, rfl⟩, fun a ha => ?_, List.nodup_append.mpr ⟨nd'.1, n3, fun a ha b hb z => ?_⟩⟩
      · rcases List.mem_append.mp ha with z | z
        · exact .inl (List.mem_append_left _ z)
        · rcases s3 a z with z | z
          · exact .inl (List.mem_append_right _ z)
          · exact .inr z
      · subst z
        rcases s3 a hb with z | z
        · exact nd'.2.2 a ha a z rfl
        · exact dj a z (List.mem_append_left _ ha)
end
end Ev
/-! XRev: list(reversed(x)), x a list. -/
namespace RT
open PySem PySem.Spec PyProof.Rows
section
variable {prog : Program} {w : World} {A : Around} {E : Value → Shared → Prop} {s : Shared}
theorem extend_rev {R : Result → Shared → Prop} {it l : Addr} {items : Array Value} (hh : A.handled = none) (S : Addr) (res : Value) (c₀ : Nat) (hS : s.heap.get? S = some { cls := .type "list", data := .seq #[] c₀ })
    (hit : s.heap.IsRevIter it l ((items.size : Int) - 1)) (hl : s.heap.IsList l items) (hne : l ≠ it) (hSi : S ≠ it) (hSl : S ≠ l) (hn : items.size ≤ sizeLine)
    (hR : ∀ h' tk acc' c', (∀ b o, b ≠ S → b ≠ it → s.heap.get? b = some o → h'.get? b = some o) → h'.get? S = some { cls := .type "list", dict := none, data := .seq acc' c', slots := #[] } →
      ItemsOf (fun i v => items[items.size - 1 - i]? = some v) acc' items.size → R (.ok (.ret res)) { s with heap := h', toks := tk }) :
    wpAny (model prog w) A.in1 (Builtin.List.listExtendWith (.ref S) (.ref it) res)
      (fun fin s' => match fin with | .done f => R (.ok f) s' | .again c' => c'.quiet = true ∧ codeAny (model prog w) A c' R s') (fun e s' => R (.error e) s') s := by
  have W := (Walks.listRev (prog := prog) (w := w) (A := A.in1) hh it l hne items).toS
  have hSf : S ∉ [it, l] := by simp only [List.mem_cons, List.not_mem_nil, or_false, not_or]; exact ⟨hSi, hSl⟩
  have hT : s.TypeIs (.ref it) "list_reverseiterator" := hit.typeIs
  have h1 : Builtin.List.listSameRef (.ref S) (.ref it) = false := by simp [Builtin.List.listSameRef, hSi]
  unfold Builtin.List.listExtendWith
  refine wpAny_bind (wpAny_typeOf hT ?_)
  rw [if_neg (by rw [h1]; decide)]
  refine wpAny_bind (wpAny_pyIter_revIter hit ?_)
  refine wpAny_bind (wpAny_holding ?_)
  unfold Builtin.List.listLengthHint
  refine wpAny_bind (wpAny_specialOf hT nolen_lri ?_)
  show wpAny _ A.in1 (specialOf (Value.ref it) (Str.ofString "__length_hint__") >>= _) _ _ _
  refine wpAny_bind (wpAny_specialOf hT hint_lri ?_)
  generalize hid : ("list_reverseiterator.__length_hint__" : String) = id0
  wp_delta
  rw [show splitId id0 = some ("list_reverseiterator", "__length_hint__") from by subst hid; decide +kernel]
  subst hid
  refine wpAny_bind (wpAny_isInstance (b := true) hT (by rw [isSubtype_type]; kernel_rfl) ?_)
  refine wpAny_pure ?_
  rw [if_neg (by decide)]
  have e0 : ((items.size : Nat) : Int) - 1 - ((0 : Nat) : Int) = (items.size : Int) - 1 := by omega
  refine wpAny_pure ⟨plainId_quiet F.plain_extend_loop _, codeAny_extend_loopS W hn _ hSf _ items.size 0 _ _ _ rfl (Nat.zero_le _) ⟨Nat.zero_le _, by rw [e0]; exact hit, hl⟩ hS (ItemsOf.nil _) fun s' acc' c' hm hS' hacc => ?_⟩
  rw [Moved.eq_with hm]
  refine hR s'.heap s'.toks acc' c' (fun b o hb hb2 e => hm.heap b o (fun hmem => ?_) e) hS' hacc
  rcases List.mem_cons.mp hmem with e' | hmem
  · exact hb e'
  · exact hb2 (List.mem_singleton.mp hmem)
theorem init_rev {R : Result → Shared → Prop} {it l : Addr} {items : Array Value} (hh : A.handled = none) (S : Addr) (hS : s.heap.get? S = some { cls := .type "list", data := .seq #[] })
    (hit : s.heap.IsRevIter it l ((items.size : Int) - 1)) (hl : s.heap.IsList l items) (hne : l ≠ it) (hSi : S ≠ it) (hSl : S ≠ l) (hn : items.size ≤ sizeLine)
    (hR : ∀ h' tk acc' c', (∀ b o, b ≠ S → b ≠ it → s.heap.get? b = some o → h'.get? b = some o) → h'.get? S = some { cls := .type "list", dict := none, data := .seq acc' c', slots := #[] } →
      ItemsOf (fun i v => items[items.size - 1 - i]? = some v) acc' items.size → R (.ok (.ret .none)) { s with heap := h', toks := tk }) :
    wpAny (model prog w) A.in1 (Builtin.«list.__init__» ⟨[.ref S, .ref it], []⟩)
      (fun fin s' => match fin with | .done f => R (.ok f) s' | .again c' => c'.quiet = true ∧ codeAny (model prog w) A c' R s') (fun e s' => R (.error e) s') s := by
  show wpAny _ _ (do let old ← Builtin.List.listItems (.ref S); Builtin.List.listUpdate (.ref S) (fun _ => #[]); letGo old.toList.reverse; Builtin.List.listExtendWith (.ref S) (.ref it) .none) _ _ s
  refine wpAny_bind ?_
  unfold Builtin.List.listItems
  refine wpAny_bind (wpAny_seqItems hS rfl (wpAny_pure ?_))
  show wpAny _ _ (updateSeq S (fun _ => #[]) >>= fun _ => letGo (#[] : Array Value).toList.reverse >>= fun _ => Builtin.List.listExtendWith (.ref S) (.ref it) .none) _ _ s
  refine wpAny_bind (wpAny_updateSeq hS rfl ?_)
  have hS₂ := Heap.get?_update_self (Obj.mapSeq (fun _ => (#[] : Array Value))) hS rfl
  have oth : ∀ b o, b ≠ S → s.heap.get? b = some o → (s.heap.update S (Obj.mapSeq (fun _ => (#[] : Array Value)))).get? b = some o :=
    fun b o hb e => (Heap.get?_update_other _ _ (Ne.symm hb)).trans e
  refine wpAny_bind (wpAny_letGo ?_)
  obtain ⟨ol, hol, r1, n1, r2⟩ := id hl
  refine extend_rev (s := { s with heap := s.heap.update S (Obj.mapSeq (fun _ => (#[] : Array Value))) }) hh S .none _ hS₂ (hit.at fun o e => oth it o (Ne.symm hSi) e) ⟨ol, oth l ol (Ne.symm hSl) hol, r1, n1, r2⟩ hne hSi hSl hn fun h' tk acc' c' hk hS' hacc => ?_
  exact hR h' tk acc' c' (fun b o hb hb2 e => hk b o hb hb2 (oth b o hb e)) hS' hacc
theorem call_list_rev {it l : Addr} {items : Array Value} {Q : Value → Shared → Prop} (hh : A.handled = none) (hit : s.heap.IsRevIter it l ((items.size : Int) - 1)) (hl : s.heap.IsList l items) (hne : l ≠ it) (hn : items.size ≤ sizeLine)
    (hQ : ∀ h' tk acc' c', (∀ b o, b ≠ it → s.heap.get? b = some o → h'.get? b = some o) →
      h'.get? s.heap.objs.size = some { cls := .type "list", dict := none, data := .seq acc' c', slots := #[] } → ItemsOf (fun i v => items[items.size - 1 - i]? = some v) acc' items.size → Q (.ref s.heap.objs.size) { s with heap := h', toks := tk }) :
    wpAny (model prog w) A (call (.type "list") [.ref it]) Q E s := by
  refine callType_codes (Q₁ := fun obj s₁ => obj = .ref s.heap.objs.size ∧ s₁ = { s with heap := s.heap.push { cls := .type "list", data := .seq #[] } }) F.called_list (F.typeCall_list_1 _) F.entry_list_init
    (code_list_new _ ⟨rfl, rfl⟩) fun obj s₁ h₁ => ?_
  obtain ⟨rfl, rfl⟩ := h₁
  have hS : (s.heap.push { cls := .type "list", data := .seq #[] }).get? s.heap.objs.size = some { cls := .type "list", data := .seq #[] } := Heap.get?_push_size _ rfl
  obtain ⟨oi, hoi, _⟩ := id hit
  obtain ⟨ol, hol, _⟩ := id hl
  refine ⟨⟨_, hS, rfl⟩, F.args_list_init_2 _ _, init_rev (A := A.in1) (s := { s with heap := s.heap.push { cls := .type "list", data := .seq #[] } }) hh _ hS (hit.at fun o e => Heap.get?_push_of_some _ e) (hl.push _) hne (Nat.ne_of_gt (Heap.lt_size hoi)) (Nat.ne_of_gt (Heap.lt_size hol)) hn fun h' tk acc' c' hk hS' hacc => ?_⟩
  exact ⟨rfl, hQ h' tk acc' c' (fun b o hb e => hk b o (Nat.ne_of_lt (Heap.lt_size e)) hb (Heap.get?_push_of_some _ e)) hS' hacc⟩
end
end RT
namespace L2
open PySem PySem.Spec PyProof.Rows
section
variable {X : Cx}
theorem pe_listRev {e : Expr} {te : TE} {p p2 pos pos2 : Pos} (hc : X.calm = true) (hg : Gl X "list") (hm : X.mg "list" = none) (hg2 : Gl X "reversed") (hm2 : X.mg "reversed" = none) (he : PE X e te)
    (hs : starEach [e] X.env = (false, eval e X.env) :: starEach [] X.env := by rfl)
    (hs2 : starEach [.Call (.Name "reversed" p2) [e] [] pos2] X.env = (false, eval (.Call (.Name "reversed" p2) [e] [] pos2) X.env) :: starEach [] X.env := by rfl) :
    PE X (.Call (.Name "list" p) [.Call (.Name "reversed" p2) [e] [] pos2] [] pos) (tRevL X.K te) := by
  refine ⟨fun pins s σ H Q I h => ?_⟩
  refine Call_ (ld_blt I hg hm boot_list (PyProof.Rows.callWith_type1 (args_cons (Call_ (ld_blt I hg2 hm2 PyProof.Rows.boot_reversed (PyProof.Rows.callWith_type1 (args_cons (thn (he.run pins s σ H _ I h) fun u s1 ⟨v, H1, I1, r1, q1⟩ => args_nil ?_) hs) hs rfl))) hs2) hs2 rfl))
  obtain ⟨a, xs, ev, hq, q⟩ := q1
  subst ev
  obtain rfl : u = Value.ref a := r1
  obtain ⟨its, rv, p', hz⟩ := I1.list hq
  refine call_reversed_list p'.isList (args_nil ?_)
  have k0 : ∀ b o, s1.heap.get? b = some o → (s1.heap.push (revObj a ((its.toArray.size : Int) - 1))).get? b = some o := fun b o e => Heap.get?_push_of_some _ e
  have I2 : Inv X pins σ H1 { s1 with heap := s1.heap.push (revObj a ((its.toArray.size : Int) - 1)) } := I1.kept (t' := s1.toks) k0
  have hf := I1.fpOk (H' := H1) (b := s1.heap.objs.size) (Nat.le_refl _) (I1.hok.fresh (Nat.le_refl _))
  have hl := p'.isList
  obtain ⟨ol, hol, _⟩ := id hl
  have hne : a ≠ s1.heap.objs.size := Nat.ne_of_lt (Heap.lt_size hol)
  have hn : its.toArray.size ≤ sizeLine := by rw [List.size_toArray, ← rv.length]; exact hz
  refine RT.call_list_rev (s := { s1 with heap := s1.heap.push (revObj a ((its.toArray.size : Int) - 1)) }) (I1.ok.hd hc) ⟨_, Heap.get?_push_size _ rfl, rfl, rfl⟩ (hl.push _) hne hn fun h' tk acc c' hk hS hi => ?_
  refine ⟨.ref _, _, I2.turnedNew (t' := tk) (ch := [s1.heap.objs.size]) (ob := .lst xs.reverse) (fun b o hb e => hk b o (fun z => hb (by rw [z]; exact List.mem_singleton_self _)) e) (fun b hb => ?_) (Nat.le_refl _) ?_, rfl, q _ (I2.hok.fresh (Nat.le_refl _))⟩
  · rw [List.mem_singleton.mp hb]
    exact hf
  · refine ⟨by rw [List.length_reverse]; exact hz, acc.toList, c', RT.vals_rev rv hi, ?_⟩
    rw [Array.toArray_toList]
    exact hS
end
end L2
/-! XStep: x[::k], x a text or a list. -/
namespace L2
open PySem PySem.Spec PyProof.Rows
def stepT (z : Str) (k : Int) : Str := if (k == 1 && (Builtin.Str.strSliceIndices none none k z.length).length == z.length) = true then z else ⟨((Builtin.Str.strSliceIndices none none k z.length).filterMap (z.cps[·]?)).toArray⟩
def stepIx (n : Nat) (k : Int) : List Nat := Builtin.Str.strSliceIndices none none k n
def stepQ (K : PySem.W.Frag) (Q : VK) (x : V) (o : Option Int) (H : Hp) : Prop := ∃ k : Int, o = some k ∧ k ≠ 0 ∧ ((∃ z, x = .str z ∧ (stepT z k).length ≤ sizeLine ∧ Q (.str (stepT z k)) H) ∨
  ∃ a xs, x = .ref a ∧ SqL K H a xs ∧ ∀ p, H p = none → Q (.ref p) (upd H p (.lst ((stepIx xs.length k).filterMap (xs[·]?)))))
def tStep (K : PySem.W.Frag) (te tk : TE) : TE := fun σ H Q => te σ H fun x H1 => tPart tk σ H1 fun o H2 => stepQ K Q x o H2
theorem vals_pick {xs : List V} {its : List Value} (r : Vals xs its) : ∀ is : List Nat, Vals (is.filterMap (xs[·]?)) (is.filterMap (its[·]?))
  | [] => .nil
  | i :: is => by
    have ih := vals_pick r is
    rw [List.filterMap_cons, List.filterMap_cons]
    by_cases h : i < xs.length
    · have e : xs[i]? = some xs[i] := List.getElem?_eq_getElem h
      obtain ⟨u, hu, ru⟩ := r.get e
      rw [e, hu]
      exact .cons ru ih
    · have h2 : ¬ i < its.length := by rw [← r.length]; exact h
      rw [List.getElem?_eq_none (by omega), List.getElem?_eq_none (by omega)]
      exact ih
section
variable {X : Cx}
theorem pe_step {e ek : Expr} {te tk : TE} {p3 pos : Pos} (he : PE X e te) (hk : PE X ek tk) : PE X (.Subscript e (.Slice none none (some ek) p3) pos) (tStep X.K te tk) := by
  refine ⟨fun pins s σ H Q I h => ?_⟩
  refine Subscript_ (thn (he.run pins s σ H _ I h) fun v s1 ⟨x, H1, I1, r1, q1⟩ => ?_)
  have hst : PO X (some ek) (tPart tk) := po_some hk
  refine wpAny_Slice (thn (po_none.run pins s1 σ H1 (fun o H2 => o = none ∧ H2 = H1) I1 ⟨rfl, rfl⟩) fun vl s2 ⟨l, H2, I2, pl, el, e2⟩ => ?_)
  subst el e2
  refine thn (po_none.run pins s2 σ H2 (fun o H3 => o = none ∧ H3 = H2) I2 ⟨rfl, rfl⟩) fun vu s3 ⟨u, H3, I3, pu, eu, e3⟩ => ?_
  subst eu e3
  refine thn (hst.run pins s3 σ H3 _ I3 q1) fun vs s4 ⟨o, H4, I4, ps, k, eo, h0, q⟩ => ?_
  subst eo
  have I5 : Inv X pins σ H4 { s4 with heap := s4.heap.push { cls := .type "slice", data := .fields #[vl, vu, vs] } } := I4.kept (t' := s4.toks) fun b ob q => Heap.get?_push_of_some _ q
  rcases q with ⟨z, ex, hz, q⟩ | ⟨a, xs, ex, hx, q⟩
  · subst ex
    obtain ⟨t, rfl⟩ := r1
    obtain ⟨l, rfl, hl⟩ := IsPart.raw pl
    obtain ⟨u, rfl, hu⟩ := IsPart.raw pu
    obtain ⟨st, rfl, hs⟩ := IsPart.raw ps
    show wpAny (model X.prog X.w) X.A (subscriptTail e (.Slice none none (some ek) p3) (.str z t) (.ref s4.heap.objs.size)) (EP X pins σ Q) X.xe _
    refine tail_any (ops := [.ref s4.heap.objs.size]) (PySem.typeIs_str _ z t) F.slot_str_getitem.lookup ?_ (by with_unfolding_all rfl)
    refine wpAny_getItem_str_slice (l := l) (u := u) (st := st) ⟨_, Heap.get?_push_size _ rfl, rfl, rfl⟩ (by rw [hs]; simpa using h0) ?_
    unfold sliceMade slicePicked
    rw [hl, hu, hs]
    show Made.post (if (k == 1 && (Builtin.Str.strSliceIndices none none k z.length).length == z.length) = true then Made.val (.str z t) else Made.str ⟨((Builtin.Str.strSliceIndices none none k z.length).filterMap (z.cps[·]?)).toArray⟩) (EP X pins σ Q) _
    unfold stepT at hz q
    by_cases c : (k == 1 && (Builtin.Str.strSliceIndices none none k z.length).length == z.length) = true
    · rw [if_pos c] at q ⊢
      exact ⟨.str z, H4, I5, ⟨t, rfl⟩, q⟩
    · rw [if_neg c] at q hz ⊢
      exact ⟨hz, .str _, H4, I5.tok _, ⟨_, rfl⟩, q⟩
  · subst ex
    obtain rfl : v = Value.ref a := r1
    obtain ⟨its, r, ht, hz⟩ := I5.list hx
    have hlen := r.length
    show wpAny (model X.prog X.w) X.A (subscriptTail e (.Slice none none (some ek) p3) (.ref a) (.ref s4.heap.objs.size)) (EP X pins σ Q) X.xe _
    refine tail_any (ops := [.ref a, .ref s4.heap.objs.size]) ht.isList.typeIs (PySem.slot_list_getitem.lookup) ?_ (by with_unfolding_all rfl)
    refine wpAny_getItem_list_slice ht.isList (Heap.IsSliceOf.new _ vl vu vs) pl pu ps (by simpa using h0) ?_ (by rw [List.size_toArray]; omega)
    have hix : (sliceRange (sliceBounds none none (some k) its.toArray.size).1 (sliceBounds none none (some k) its.toArray.size).2.1 (sliceBounds none none (some k) its.toArray.size).2.2) = stepIx xs.length k := by
      rw [List.size_toArray, ← hlen]
      rfl
    have hle := slicePick_size_le its.toArray none none (some k)
    have e : slicePick its.toArray none none (some k) = ((stepIx xs.length k).filterMap (its[·]?)).toArray := by
      unfold slicePick
      rw [hix]
      simp
    rw [e, List.size_toArray, List.size_toArray] at hle
    rw [e]
    have rv := vals_pick r (stepIx xs.length k)
    refine ⟨.ref _, _, I5.laid (t' := s4.toks) (o := .lst ((stepIx xs.length k).filterMap (xs[·]?))) (fun b ob q => Heap.get?_push_of_some _ q) (Nat.le_refl _) ?_, rfl, q _ (I5.hok.fresh (Nat.le_refl _))⟩
    exact ⟨by rw [rv.length]; omega, _, 0, rv, Heap.get?_push_size _ rfl⟩
end
end L2
/-! Ev1: the small language, how it is tied to the text, what it means over data. -/
namespace Ev
open PySem PySem.Spec PyProof.Rows L2

/-! ### the language -/
/-- a target: a name's slot, or a flat row of names -/
inductive G where
  | nm (i : Nat) | tup (is : List Nat)
/-- built-in functions and classes that are called -/
inductive B where
  | len | list | sum | int | min | max | all | any
  deriving DecidableEq
/-- built-in forms of a few operands -/
inductive Spx where
  | listRev | step
  deriving DecidableEq
/-- methods of built-in types, asked -/
inductive Mt where
  | get
  deriving DecidableEq
/-- methods of built-in types that change what they are called on -/
inductive Mo where
  | append | clear
  deriving DecidableEq
/-- built-in types named in isinstance -/
inductive Ty where
  | int | bool | str | list | tuple | dict
  deriving DecidableEq
mutual
inductive E where
  | var (i : Nat) | non | bl (b : Bool) | int (i : Int) | str (x : Str)
  | tup (es : Es) | lst (es : Es)
  | bin (o : Operator) (a b : E) | neg (a : E)
  | cmp (o : CmpOp) (a b : E) | cmp2 (o o' : CmpOp) (a b c : E) | cmp3 (o o' o2 : CmpOp) (a b c d : E)
  | and (a b : E) | or (a b : E) | not (a : E) | ife (c a b : E)
  | ix (a b : E) | sl (a : E) (lo hi : Eo)
  | call (f : Str) (es : Es)
  | blt (f : B) (es : Es)
  | isi (e : E) (T : Ty)
  | join (s : E) (e : E)
  | fld (e : E) (f : Str) | mcall (e : E) (m : Str) (es : Es)
  | frz (e : E) | glob (x : Str)
  | sp (k : Spx) (es : Es) | mt (m : Mt) (o : E) (es : Es) | dnew (t : Bool)
  | lc (own : List (Str × Nat)) (g : G) (it : It) (cs : Eo) (e : E)
inductive Es where
  | nil | cons (e : E) (es : Es)
inductive Eo where
  | none | some (e : E)
inductive It where
  | e (e : E) | rng1 (a : E) | rng2 (a b : E) | enum (a : E) | str (a : E) | tup (a : E) | rev (a : E)
end
mutual
/-- expressions that may change shared objects -/
inductive I where
  | p (e : E) | share (a : I)
  | call (f : Str) (as : Is) | mcall (o : E) (m : Str) (as : Is)
  | tup (as : Is) | cmp (o : CmpOp) (a b : I) | not (a : I) | and (a b : I) | or (a b : I)
inductive Is where
  | nil | cons (a : I) (as : Is)
end
mutual
inductive T where
  | asg (g : G) (a : I)
  | aug (i : Nat) (o : Operator) (e : E)
  | setI (b k : E) (a : I)
  | mut (m : Mo) (b : E) (as : Is)
  | fset (b : E) (f : Str) (a : I)
  | faug (b : E) (f : Str) (o : Operator) (e : E)
  | expr (a : I)
  | ret (a : I) | retN
  | ite (c : I) (a b : Ts)
  | for_ (g : G) (it : It) (b : Ts)
  | whil (n : Nat) (c : E) (b : Ts)
  | brk | cnt | pass
  | nev
  | frz (i : Nat) | fgt (is : List Nat)
inductive Ts where
  | nil | cons (t : T) (ts : Ts)
end

def B.name : B → Str
  | .len => "len" | .list => "list" | .sum => "sum" | .int => "int" | .min => "min" | .max => "max" | .all => "all" | .any => "any"
def Mt.name : Mt → Str
  | .get => "get"
def Mo.name : Mo → Str
  | .append => "append" | .clear => "clear"
def Mo.n : Mo → Nat
  | .append => 1 | .clear => 0
def Ty.name : Ty → Str
  | .int => "int" | .bool => "bool" | .str => "str" | .list => "list" | .tuple => "tuple" | .dict => "dict"

/-- the names under which a class's fields and methods are kept -/
def fkey (c : Nat) (f : Str) : Str := ⟨#[1114112 + 3 * c] ++ f.cps⟩
def mkey (c : Nat) (m : Str) : Str := ⟨#[1114113 + 3 * c] ++ m.cps⟩
def ikey (c : Nat) (m : Str) : Str := ⟨#[1114114 + 3 * c] ++ m.cps⟩
def isPl (x : Str) : Bool := match x.cps[0]? with
  | some c => decide (c < 1114112)
  | none => true
theorem arr_head (x : Nat) (a : Array Nat) : (#[x] ++ a)[0]? = some x := by
  rw [Array.getElem?_append_left (by simp)]
  rfl
theorem isPl_fkey (c : Nat) (f : Str) : isPl (fkey c f) = false := by
  have e : (fkey c f).cps[0]? = some (1114112 + 3 * c) := arr_head _ _
  unfold isPl
  rw [e]
  simp
theorem isPl_mkey (c : Nat) (f : Str) : isPl (mkey c f) = false := by
  have e : (mkey c f).cps[0]? = some (1114113 + 3 * c) := arr_head _ _
  unfold isPl
  rw [e]
  simp
  omega
theorem isPl_ikey (c : Nat) (f : Str) : isPl (ikey c f) = false := by
  have e : (ikey c f).cps[0]? = some (1114114 + 3 * c) := arr_head _ _
  unfold isPl
  rw [e]
  simp
  omega
theorem mkey_fkey (c c' : Nat) (m f : Str) : mkey c m ≠ fkey c' f := fun h => by
  have e : (mkey c m).cps[0]? = some (1114113 + 3 * c) := arr_head _ _
  have e2 : (fkey c' f).cps[0]? = some (1114112 + 3 * c') := arr_head _ _
  rw [h, e2] at e
  simp at e
  omega
/-! ### the tie to the text -/
def visB (sc : Scope) (x : Str) : Bool := match sc.names.lookup x with
  | some .local => true | some .cell => true | some .free => true | _ => false
def locB (sc : Scope) (x : Str) : Bool := match sc.names.lookup x with
  | some .local => true | some .cell => true | _ => false
def glB (sc : Scope) (x : Str) : Bool := match sc.names.lookup x with
  | some .globalImplicit => true | _ => false
def plainName (x : Str) : Bool := !(x == ("__debug__" : Str)) && !(x == ("__classdict__" : Str)) && !(x == ("__name__" : Str))
def tgOk : It → G → Bool
  | .enum _, .nm _ => false
  | _, _ => true
/-- the head of an attribute is no super() -/
def baseOk : Expr → Bool
  | .Call (.Name y _) _ _ _ => !(y == ("super" : Str))
  | _ => true
/-- what may stand as a test -/
def tstOk : E → Bool
  | .ife _ _ _ => false
  | .and a b => tstOk a && tstOk b
  | .or a b => tstOk a && tstOk b
  | .not a => tstOk a
  | .non => false
  | .bl _ => false
  | .int _ => false
  | .str _ => false
  | .tup _ => false
  | .lst _ => false
  | .neg _ => false
  | .join _ _ => false
  | .fld _ _ => false
  | .frz _ => false
  | .glob _ => false
  | .dnew _ => false
  | .mt _ _ _ => false
  | .sp _ _ => false
  | _ => true
/-- the operands of such a form -/
def spM (bl : List Str) (sc : Scope) : Spx → Expr → Option (List Expr)
  | .listRev, .Call (.Name f _) [.Call (.Name g _) [y] [] _] [] _ => if decide (f = "list") && decide (g = "reversed") && glB sc f && glB sc g && bl.contains f && bl.contains g then some [y] else none
  | .step, .Subscript x (.Slice none none (some k) _) _ => some [x, k]
  | _, _ => none
def isLc : E → Bool
  | .lc .. => true
  | .frz e => isLc e
  | _ => false
def litLc : E → Bool
  | .lc .. => true
  | _ => false
def nmOk (str : Bool) (N : List Str) (sc : Scope) (i : Nat) : Expr → Bool
  | .Name x _ => decide (N[i]? = some x) && (if str then decide (sc.names.lookup x = some .local) else locB sc x)
  | _ => false
def nmsOk (str : Bool) (N : List Str) (sc : Scope) : List Nat → List Expr → Bool
  | [], [] => true
  | i :: is, e :: es => nmOk str N sc i e && nmsOk str N sc is es
  | _, _ => false
def chkG (str : Bool) (N : List Str) (sc : Scope) : G → Expr → Bool
  | .nm i, e => nmOk str N sc i e
  | .tup is, .Tuple es _ _ => nmsOk str N sc is es
  | _, _ => false
def gSlots : G → List Nat
  | .nm i => [i]
  | .tup is => is
/-- a comprehension's only clause -/
def oneGen : List Comprehension → Option (Expr × Expr × List Expr)
  | [⟨tg, iter, ifs, asy⟩] => if asy = 0 then some (tg, iter, ifs) else none
  | _ => none
mutual
def chk (bl : List Str) (N : List Str) (sc : Scope) : E → Expr → Bool
  | .var i, .Name x _ => decide (N[i]? = some x) && visB sc x && plainName x
  | .non, .Constant .none _ _ => true
  | .bl b, .Constant (.bool c) _ _ => b == c
  | .int i, .Constant (.int j) _ _ => decide (i = j)
  | .str x, .Constant (.str y) _ _ => decide (x = y)
  | .tup es, .Tuple l _ _ => chks bl N sc es l
  | .lst es, .List l _ => chks bl N sc es l
  | .bin o a b, .BinOp x p y _ => decide (o = p) && chk bl N sc a x && chk bl N sc b y
  | .neg a, .UnaryOp .USub x _ => chk bl N sc a x
  | .cmp o a b, .Compare x [p] [y] _ => decide (o = p) && chk bl N sc a x && chk bl N sc b y
  | .cmp2 o o' a b c, .Compare x [p, p'] [y, z] _ => decide (o = p) && decide (o' = p') && chk bl N sc a x && chk bl N sc b y && chk bl N sc c z
  | .cmp3 o o' o2 a b c d, .Compare x [p, p', p2] [y, z, t] _ => decide (o = p) && decide (o' = p') && decide (o2 = p2) && chk bl N sc a x && chk bl N sc b y && chk bl N sc c z && chk bl N sc d t
  | .and a b, .BoolOp .And (x :: y :: r) p => chk bl N sc a x && (match r with
      | [] => chk bl N sc b y
      | z :: r => chk bl N sc b (.BoolOp .And (y :: z :: r) p))
  | .or a b, .BoolOp .Or (x :: y :: r) p => chk bl N sc a x && (match r with
      | [] => chk bl N sc b y
      | z :: r => chk bl N sc b (.BoolOp .Or (y :: z :: r) p))
  | .not a, .UnaryOp .Not x _ => chk bl N sc a x
  | .ife c a b, .IfExp x y z _ => tstOk c && chk bl N sc c x && chk bl N sc a y && chk bl N sc b z
  | .ix a b, .Subscript x y _ => chk bl N sc a x && chk bl N sc b y
  | .sl a lo hi, .Subscript x (.Slice l h none _) _ => chk bl N sc a x && chko bl N sc lo l && chko bl N sc hi h
  | .call f es, .Call (.Name x _) l [] _ => decide (f = x) && glB sc x && plainName x && chks bl N sc es l && isPl f
  | .blt f es, .Call (.Name x _) l [] _ => decide (f.name = x) && glB sc x && bl.contains x && chks bl N sc es l
  | .isi e t, .Call (.Name x _) [y, .Name z _] [] _ => decide (x = "isinstance") && glB sc x && bl.contains x && bl.contains z && chk bl N sc e y && decide (z = t.name) && glB sc z
  | .join s e, .Call (.Attribute x a p) [y] [] q => decide (a = "join") && baseOk x && (p.endLine == q.line) && chk bl N sc s x && chk bl N sc e y
  | .fld e f, .Attribute x a _ => decide (f = a) && baseOk x && chk bl N sc e x
  | .mcall e m es, .Call (.Attribute x a p) l [] q => decide (m = a) && baseOk x && (p.endLine == q.line) && decide (l.length < 28) && chk bl N sc e x && chks bl N sc es l
  | .frz e, x => chk bl N sc e x
  | .glob x, .Name y _ => decide (x = y) && glB sc x && plainName x && isPl x
  | .sp k es, x => match spM bl sc k x with
      | some ys => chks bl N sc es ys
      | none => false
  | .mt m o es, .Call (.Attribute x a p) l [] q => decide (a = m.name) && baseOk x && (p.endLine == q.line) && decide (0 < l.length) && decide (l.length < 28) && chk bl N sc o x && chks bl N sc es l
  | .dnew _, .Dict [] [] _ => true
  | .lc own g it cs e, .ListComp elt gens scope _ => match oneGen gens with
      | some (tg, iter, ifs) => chki bl N sc it iter && tgOk it g && blkC N sc scope own && chkG true N (relS scope sc) g tg && (gSlots g).all (fun i => (own.map (·.2)).contains i) &&
          (own.map (·.2)).all (fun i => decide (i < N.length)) && chk bl N (relS scope sc) e elt && chkc bl N (relS scope sc) cs ifs
      | none => false
  | _, _ => false
def chks (bl : List Str) (N : List Str) (sc : Scope) : Es → List Expr → Bool
  | .nil, [] => true
  | .cons e es, x :: l => chk bl N sc e x && chks bl N sc es l
  | _, _ => false
def chko (bl : List Str) (N : List Str) (sc : Scope) : Eo → Option Expr → Bool
  | .none, none => true
  | .some e, some x => chk bl N sc e x
  | _, _ => false
def chkc (bl : List Str) (N : List Str) (sc : Scope) : Eo → List Expr → Bool
  | .none, [] => true
  | .some e, [x] => tstOk e && chk bl N sc e x
  | _, _ => false
def chki (bl : List Str) (N : List Str) (sc : Scope) : It → Expr → Bool
  | .e e, x => chk bl N sc e x
  | .tup e, x => chk bl N sc e x
  | .str e, x => chk bl N sc e x
  | .rng1 a, .Call (.Name x _) [y] [] _ => decide (x = "range") && glB sc x && bl.contains x && chk bl N sc a y
  | .rng2 a b, .Call (.Name x _) [y, z] [] _ => decide (x = "range") && glB sc x && bl.contains x && chk bl N sc a y && chk bl N sc b z
  | .enum a, .Call (.Name x _) [y] [] _ => decide (x = "enumerate") && glB sc x && bl.contains x && chk bl N sc a y
  | .rev a, .Call (.Name x _) [y] [] _ => decide (x = "reversed") && glB sc x && bl.contains x && chk bl N sc a y
  | _, _ => false
end
/-- what may stand as a test -/
def tstI : I → Bool
  | .p e => tstOk e
  | .and a b => tstI a && tstI b
  | .or a b => tstI a && tstI b
  | .not a => tstI a
  | .call _ _ => true
  | .mcall _ _ _ => true
  | .cmp _ _ _ => true
  | _ => false
def isLcI : I → Bool
  | .p e => isLc e
  | .share a => isLcI a
  | _ => false
def litLcI : I → Bool
  | .p e => litLc e
  | _ => false
mutual
def chkI (bl : List Str) (N : List Str) (sc : Scope) : I → Expr → Bool
  | .p e, x => chk bl N sc e x
  | .share a, x => chkI bl N sc a x
  | .call f as, .Call (.Name x _) l [] _ => decide (f = x) && glB sc x && plainName x && chkIs bl N sc as l && isPl f
  | .mcall o m as, .Call (.Attribute x a p) l [] q => decide (m = a) && baseOk x && (p.endLine == q.line) && decide (l.length < 28) && chk bl N sc o x && chkIs bl N sc as l
  | .tup as, .Tuple l _ _ => chkIs bl N sc as l
  | .cmp o a b, .Compare x [p] [y] _ => decide (o = p) && chkI bl N sc a x && chkI bl N sc b y
  | .not a, .UnaryOp .Not x _ => chkI bl N sc a x
  | .and a b, .BoolOp .And (x :: y :: r) p => chkI bl N sc a x && (match r with
      | [] => chkI bl N sc b y
      | z :: r => chkI bl N sc b (.BoolOp .And (y :: z :: r) p))
  | .or a b, .BoolOp .Or (x :: y :: r) p => chkI bl N sc a x && (match r with
      | [] => chkI bl N sc b y
      | z :: r => chkI bl N sc b (.BoolOp .Or (y :: z :: r) p))
  | _, _ => false
def chkIs (bl : List Str) (N : List Str) (sc : Scope) : Is → List Expr → Bool
  | .nil, [] => true
  | .cons a as, x :: l => chkI bl N sc a x && chkIs bl N sc as l
  | _, _ => false
end

/-- a row of names is given no row that is written out (their stores would be swapped) -/
def noSwap : Expr → Expr → Bool
  | .Tuple .., .Tuple .. => false
  | _, _ => true
/-- a comprehension given to a name stands on one line, the name a local one that the comprehension has not -/
def lcLine (sc : Scope) : Expr → Expr → Bool
  | .Name y py, .ListComp _ _ scope q => (py.line == q.line) && decide (sc.names.lookup y = some .local) && !(scope.names.any fun (n, k) => n == y && (k == .local || k == .cell))
  | _, _ => false
mutual
def chkT (bl : List Str) (N : List Str) (sc : Scope) : T → Stmt → Bool
  | .asg g a, .Assign [t] x p => chkG false N sc g t && chkI bl N sc a x && noSwap t x && (!isLcI a || (litLcI a && lcLine sc t x))
  | .aug i o e, .AugAssign (.Name x _) p y _ => decide (N[i]? = some x) && locB sc x && decide (o = p) && chk bl N sc e y
  | .setI b k a, .Assign [.Subscript x y _] z _ => chk bl N sc b x && chk bl N sc k y && chkI bl N sc a z
  | .mut m b as, .Expr (.Call (.Attribute x a p) l [] q) _ => decide (a = m.name) && baseOk x && (p.endLine == q.line) && decide (l.length = m.n) && chk bl N sc b x && chkIs bl N sc as l
  | .fset b f a, .Assign [.Attribute x y _] z _ => decide (f = y) && baseOk x && chk bl N sc b x && chkI bl N sc a z
  | .faug b f o e, .AugAssign (.Attribute x y _) p z _ => decide (f = y) && baseOk x && decide (o = p) && chk bl N sc b x && chk bl N sc e z
  | .expr a, .Expr x _ => chkI bl N sc a x && !isLcI a
  | .ret a, .Return (some x) _ => chkI bl N sc a x
  | .retN, .Return none _ => true
  | .ite c a b, .If x l r _ => tstI c && chkI bl N sc c x && chkTs bl N sc a l && chkTs bl N sc b r
  | .for_ g it b,   .For t x l [] _ => tgOk it g && chkG false N sc g t && chki bl N sc it x && chkTs bl N sc b l
  | .whil _ c b, .While x l [] _ => tstOk c && chk bl N sc c x && chkTs bl N sc b l
  | .brk, .Break _ => true
  | .cnt, .Continue _ => true
  | .pass, .Pass _ => true
  | .nev, _ => true
  | _, _ => false
def chkTs (bl : List Str) (N : List Str) (sc : Scope) : Ts → List Stmt → Bool
  | .nil, [] => true
  | .cons t ts, l => match t with
      | .frz _ => chkTs bl N sc ts l
      | .fgt _ => chkTs bl N sc ts l
      | t => match l with
          | s :: ss => chkT bl N sc t s && chkTs bl N sc ts ss
          | [] => false
  | _, _ => false
end

/-! ### what it means -/
noncomputable section
/-- how a value is held: fresh, standing still, in a slot, in a field of a slot's object, in a field of a shared object -/
inductive Kd where
  | fr | ro | at (i : Nat) | af (i : Nat) (f : Str) | sf (n : Nat) (f : Str)
  deriving DecidableEq
inductive Sl where
  | own (w : W) | ro (w : W) | out
/-- the shared objects; those below fz stand still -/
structure Sto where
  cs : List W
  fz : Nat
/-- an exception: its class's name, its fields -/
structure Xc where
  c : Str
  fs : List (Str × D)
inductive RE (α : Type) where
  | ok (a : α) | exc (e : Xc)
abbrev M (α : Type) := Option (RE α)
def M.ok {α : Type} (a : α) : M α := some (.ok a)
def M.bind {α β : Type} (x : M α) (f : α → M β) : M β := match x with
  | some (.ok a) => f a
  | some (.exc e) => some (.exc e)
  | none => none
inductive RS (α : Type) where
  | ok (a : α) (S : Sto) | exc (e : Xc) (S : Sto)
abbrev MS (α : Type) := Option (RS α)
def MS.ok {α : Type} (a : α) (S : Sto) : MS α := some (.ok a S)
def MS.bind {α β : Type} (x : MS α) (f : α → Sto → MS β) : MS β := match x with
  | some (.ok a S) => f a S
  | some (.exc e S) => some (.exc e S)
  | none => none
def M.up {α : Type} (x : M α) (S : Sto) : MS α := match x with
  | some (.ok a) => some (.ok a S)
  | some (.exc e) => some (.exc e S)
  | none => none
/-- a value, and how it is held -/
abbrev VW := W × Kd
open Classical in
def guardP {α : Type} (p : Prop) (k : M α) : M α := if p then k else none
def guardN {α : Type} (n : Nat) (k : M α) : M α := guardP (n ≤ sizeLine) k
def vD (x : D) : M VW := .ok (.d x, .ro)
def vF (w : W) : M VW := .ok (w, .fr)
def vI (i : Int) : M VW := vD (.int i)
def vB (b : Bool) : M VW := vD (.bl b)

def wPy : W → Option PyData
  | .c (.d x) => if pyOk x then some (toPy x) else none
  | .c (.lst xs) => if pyOks xs then some (.list (toPys xs)) else none
  | _ => none
/-- what is meant: a frozen list's items, a shared object -/
def W.at (S : Sto) : W → W
  | .c (.d (.fl xs)) => .c (.lst xs)
  | .c (.d (.ref n)) => match S.cs[n]? with
      | some w => w
      | none => .c (.d (.ref n))
  | w => w
def truth : W → M Bool
  | .c (.d .non) => .ok false
  | .c (.d (.bl b)) => .ok b
  | .c (.d (.int i)) => .ok (i != 0)
  | .c (.d (.str x)) => guardN x.length (.ok ((x.length : Int) != 0))
  | .c (.d (.tup xs)) => .ok (!xs.isEmpty)
  | .c (.d (.fl xs)) => .ok (!xs.isEmpty)
  | .c (.lst xs) => .ok (!xs.isEmpty)
  | .c (.dK kvs) => .ok (!kvs.isEmpty)
  | _ => none
def binI (o : Operator) (i j : Int) : M VW := match o with
  | .Add => vI (i + j)
  | .Sub => vI (i - j)
  | .Mult => guardP ((-18446744073709551616 < i ∧ i < 18446744073709551616) ∨ (-18446744073709551616 < j ∧ j < 18446744073709551616)) (vI (i * j))
  | .FloorDiv => guardP (0 < j ∧ j < 1073741824) (vI (i / j))
  | .Mod => guardP (0 < j) (vI (i % j))
  | .Pow => guardP (0 ≤ j ∧ j ≤ 1000000 ∧ i.natAbs < 18446744073709551616) (vI (i ^ j.toNat))
  | .LShift => guardP (0 ≤ j ∧ j ≤ 1000000 ∧ i.natAbs < 18446744073709551616) (vI (i * 2 ^ j.toNat))
  | .BitAnd => vI (Builtin.bitAnd i j)
  | .BitOr => vI (Builtin.bitOr i j)
  | _ => none
def strRep (x : Str) : Nat → Str
  | 0 => ""
  | n + 1 => x ++ strRep x n
def bin (o : Operator) : W → W → M VW
  | .c (.d (.int i)), .c (.d (.int j)) => binI o i j
  | .c (.d (.str x)), .c (.d (.str y)) => if o = .Add then guardN (x.length + y.length) (vD (.str (x ++ y))) else none
  | .c (.d (.str x)), .c (.d (.int k)) => if o = .Mult then guardP (-4611686018427387904 ≤ k ∧ k < 4611686018427387904 ∧ x.length * k.toNat ≤ sizeLine) (vD (.str (strRep x k.toNat))) else none
  | .c (.lst xs), .c (.lst ys) => if o = .Add then guardN (xs.length + ys.length) (vF (.lst (xs ++ ys))) else none
  | _, _ => none
def eqW (a b : W) : M Bool := match wPy a, wPy b with
  | some x, some y => guardP (SeqAt.shaped x = true ∧ SeqAt.shaped y = true) (.ok (PyData.eqv x y))
  | _, _ => none
def isNonW : W → Bool
  | .c (.d .non) => true
  | _ => false
def cmpI (o : CmpOp) (i j : Int) : Option Bool := match o with
  | .Lt => some (decide (i < j))
  | .LtE => some (decide (i ≤ j))
  | .Gt => some (decide (j < i))
  | .GtE => some (decide (j ≤ i))
  | .Eq => some (decide (i = j))
  | .NotEq => some (!decide (i = j))
  | _ => none
def cmpS (o : CmpOp) (x y : Str) : Option Bool := match o with
  | .Eq => some (decide (x = y))
  | .NotEq => some (!decide (x = y))
  | _ => none
def cmp (o : CmpOp) (a b : W) : M Bool := match o, a, b with
  | o, .c (.d (.int i)), .c (.d (.int j)) => (cmpI o i j).map .ok
  | o, .c (.d (.str x)), .c (.d (.str y)) => (cmpS o x y).map .ok
  | .Is, a, .c (.d .non) => .ok (isNonW a)
  | .IsNot, a, .c (.d .non) => .ok (!isNonW a)
  | .Eq, a, b => eqW a b
  | .NotEq, a, b => (eqW a b).bind fun k => .ok (!k)
  | _, _, _ => none
def ix : W → W → M VW
  | .c (.lst xs), .c (.d (.int i)) => match atI xs i with
      | some x => vD x
      | none => none
  | .c (.d (.tup xs)), .c (.d (.int i)) => match atI xs i with
      | some x => vD x
      | none => none
  | .c (.d (.str z)), .c (.d (.int i)) => guardN z.length (match atI z.cps.toList i with
      | some c => vD (.str ⟨#[c]⟩)
      | none => none)
  | _, _ => none
def cutD (xs : List D) (lo hi : Option Int) : List D := (xs.drop (HT.sIx xs.length 0 lo)).take (HT.sIx xs.length xs.length hi - HT.sIx xs.length 0 lo)
def sl : W → Option Int → Option Int → M VW
  | .c (.lst xs), lo, hi => vF (.lst (cutD xs lo hi))
  | .c (.d (.str z)), lo, hi => guardN z.length (vD (.str (cutS z lo hi)))
  | .c (.d (.tup xs)), lo, hi => vD (.tup (cutD xs lo hi))
  | _, _, _ => none
def asInt : W → Option Int
  | .c (.d (.int i)) => some i
  | _ => none
def intsD : List D → Option (List Int)
  | [] => some []
  | .int i :: r => (intsD r).map (i :: ·)
  | _ => none
def strsD : List D → Option (List Str)
  | [] => some []
  | .str i :: r => (strsD r).map (i :: ·)
  | _ => none
def boolsD : List D → Option (List Bool)
  | [] => some []
  | .bl i :: r => (boolsD r).map (i :: ·)
  | _ => none
def blt (f : B) : List W → M VW := fun ws => match f, ws with
  | .len, [.c (.lst xs)] => vI xs.length
  | .len, [.c (.d (.tup xs))] => vI xs.length
  | .len, [.c (.d (.str z))] => guardN z.length (vI z.length)
  | .list, [.c (.lst xs)] => vF (.lst xs)
  | .list, [.c (.d (.tup xs))] => vF (.lst xs)
  | .sum, [.c (.lst xs)] => match intsD xs with
      | some ns => vI ns.sum
      | none => none
  | .all, [.c (.lst xs)] => match boolsD xs with
      | some bs => vB (bs.all id)
      | none => none
  | .any, [.c (.lst xs)] => match boolsD xs with
      | some bs => vB (bs.any id)
      | none => none
  | .int, [.c (.d (.int i))] => vI i
  | .int, [.c (.d (.bl b))] => vI (b2i b)
  | .min, [.c (.d (.int i)), .c (.d (.int j))] => vI (if j < i then j else i)
  | .max, [.c (.d (.int i)), .c (.d (.int j))] => vI (if i < j then j else i)
  | _, _ => none
def isiW (t : Ty) : W → Option Bool
  | .c (.d .non) => some false
  | .c (.d (.bl _)) => some (t == .int || t == .bool)
  | .c (.d (.int _)) => some (t == .int)
  | .c (.d (.str _)) => some (t == .str)
  | .c (.d (.tup _)) => some (t == .tuple)
  | .c (.d (.fl _)) => some (t == .list)
  | .c (.lst _) => some (t == .list)
  | _ => none
/-- a slot is stored -/
def putS (σ : List Sl) (i : Nat) (s : Sl) : Option (List Sl) := if i < σ.length then some (σ.set i s) else none
def setGs : List Nat → List D → List Sl → Option (List Sl)
  | [], [], σ => some σ
  | i :: is, x :: xs, σ => (putS σ i (.ro (.d x))).bind fun σ' => setGs is xs σ'
  | _, _, _ => none
def setG (g : G) (x : D) (σ : List Sl) : Option (List Sl) := match g with
  | .nm i => putS σ i (.ro (.d x))
  | .tup is => match x with
      | .tup xs => setGs is xs σ
      | _ => none
def wipeS (σ : List Sl) : List Nat → List Sl
  | [] => σ
  | v :: vs => (wipeS σ vs).set v .out
def rngD (lo : Int) (n : Nat) : List D := (List.range n).map fun (k : Nat) => .int (lo + (k : Int))
def enumD (n : Nat) : List D → List D
  | [] => []
  | x :: xs => .tup [.int n, x] :: enumD (n + 1) xs
/-- the comprehension's turns -/
def lcRun (bind : D → Option (List Sl)) (test : List Sl → M Bool) (elt : List Sl → M VW) : List D → M (List D)
  | [] => .ok []
  | x :: xs => match bind x with
      | none => none
      | some σ => (test σ).bind fun b => if b then (elt σ).bind fun r => match r.1 with
            | .c (.d y) => (lcRun bind test elt xs).bind fun ys => .ok (y :: ys)
            | _ => none
          else lcRun bind test elt xs
/-- what the names of the text are worth -/
abbrev Gam := Str → Option (Sto → List W → MS W)
mutual
/-- no shared object from n on is named -/
def below (n : Nat) : D → Bool
  | .tup xs => belows n xs
  | .fl xs => belows n xs
  | .ref m => decide (m < n)
  | _ => true
def belows (n : Nat) : List D → Bool
  | [] => true
  | x :: xs => below n x && belows n xs
end
def belowC (n : Nat) : C → Bool
  | .d x => below n x
  | .lst xs => belows n xs
  | .dK kvs => belows n (kvs.map (·.2))
  | .dT kvs => belows n (kvs.map (·.2))
def belowW (n : Nat) : W → Bool
  | .c x => belowC n x
  | .obj _ fs => fs.all fun p => belowC n p.2
/-- the shared objects, all standing still -/
def Sto.hold (S : Sto) : Sto := ⟨S.cs, S.cs.length⟩
/-- a call that changes nothing -/
def pureOf (S : Sto) (x : MS W) : M W := match x with
  | some (.ok w _) => if belowW S.cs.length w then .ok w else none
  | _ => none
def kdOf : W → Kd
  | .c (.d _) => .ro
  | _ => .fr
def wD : W → Option D
  | .c (.d x) => some x
  | _ => none
/-- how a field is held -/
def fldK (S : Sto) (f : Str) (x : VW) : Option Kd := match x with
  | (.c (.d (.ref n)), _) => if n < S.fz then some .ro else some (.sf n f)
  | (_, .at i) => some (.af i f)
  | (_, .ro) => some .ro
  | (_, _) => none
def spW : Spx → List W → M VW
  | .listRev, [.c (.lst xs)] => vF (.lst xs.reverse)
  | .step, [.c (.d (.str z)), .c (.d (.int k))] => guardP (k ≠ 0 ∧ (L2.stepT z k).length ≤ sizeLine) (vD (.str (L2.stepT z k)))
  | .step, [.c (.lst xs), .c (.d (.int k))] => guardP (k ≠ 0) (vF (.lst ((L2.stepIx xs.length k).filterMap (xs[·]?))))
  | _, _ => none
def keyD : D → Option Key
  | .int i => some (.inl i)
  | .str x => some (.inr x)
  | _ => none
def keyT : D → Option (List Key)
  | .tup xs => xs.mapM keyD
  | _ => none
def lookK {κ : Type} [DecidableEq κ] (kvs : List (κ × D)) (k : κ) : Option D := (kvs.find? fun p => decide (p.1 = k)).map (·.2)
def mtW (m : Mt) (w : W) (ws : List W) : M VW := none
mutual
def ev (Γ : Gam) (S : Sto) : E → List Sl → M VW
  | .var i, σ => match σ[i]? with
      | some (.ro w) => .ok (w, .ro)
      | some (.own w) => .ok (w, .at i)
      | _ => none
  | .non, _ => vD .non
  | .bl b, _ => vB b
  | .int i, _ => vI i
  | .str x, _ => vD (.str x)
  | .tup es, σ => (evs Γ S es σ).bind fun ws => match ws.mapM wD with
      | some xs => guardN xs.length (vD (.tup xs))
      | none => none
  | .lst es, σ => (evs Γ S es σ).bind fun ws => match ws.mapM wD with
      | some xs => guardN xs.length (vF (.lst xs))
      | none => none
  | .bin o a b, σ => (ev Γ S a σ).bind fun x => (ev Γ S b σ).bind fun y => bin o (x.1.at S) (y.1.at S)
  | .neg a, σ => (ev Γ S a σ).bind fun x => match x.1 with
      | .c (.d (.int i)) => vI (-i)
      | _ => none
  | .cmp o a b, σ => (ev Γ S a σ).bind fun x => (ev Γ S b σ).bind fun y => (cmp o x.1 y.1).bind vB
  | .cmp2 o o' a b c, σ => (ev Γ S a σ).bind fun x => (ev Γ S b σ).bind fun y => (cmp o x.1 y.1).bind fun k => if k then (ev Γ S c σ).bind fun z => (cmp o' y.1 z.1).bind vB else vB false
  | .cmp3 o o' o2 a b c d, σ => (ev Γ S a σ).bind fun x => (ev Γ S b σ).bind fun y => (cmp o x.1 y.1).bind fun k => if k then (ev Γ S c σ).bind fun z => (cmp o' y.1 z.1).bind fun k' => if k' then (ev Γ S d σ).bind fun t => (cmp o2 z.1 t.1).bind vB else vB false else vB false
  | .and a b, σ => (ev Γ S a σ).bind fun x => (truth x.1).bind fun k => if k then ev Γ S b σ else .ok x
  | .or a b, σ => (ev Γ S a σ).bind fun x => (truth x.1).bind fun k => if k then .ok x else ev Γ S b σ
  | .not a, σ => (ev Γ S a σ).bind fun x => (truth x.1).bind fun k => vB (!k)
  | .ife c a b, σ => (ev Γ S c σ).bind fun x => (truth x.1).bind fun k => if k then ev Γ S a σ else ev Γ S b σ
  | .ix a b, σ => (ev Γ S a σ).bind fun x => (ev Γ S b σ).bind fun y => ix (x.1.at S) y.1
  | .sl a lo hi, σ => (ev Γ S a σ).bind fun x => (evo Γ S lo σ).bind fun l => (evo Γ S hi σ).bind fun h => sl (x.1.at S) l h
  | .call f es, σ => match Γ f with
      | some g => (evs Γ S es σ).bind fun ws => (pureOf S (g S.hold ws)).bind fun w => .ok (w, kdOf w)
      | none => none
  | .blt f es, σ => (evs Γ S es σ).bind fun ws => blt f (ws.map (W.at S))
  | .isi e t, σ => (ev Γ S e σ).bind fun x => match isiW t x.1 with
      | some b => vB b
      | none => none
  | .join s e, σ => (ev Γ S s σ).bind fun x => (ev Γ S e σ).bind fun y => match x.1, y.1.at S with
      | .c (.d (.str z)), .c (.lst xs) => (match strsD xs with
          | some ys => guardN (z.length * ys.length + (ys.map (·.length)).sum) (vD (.str (Txt.join z ys)))
          | none => none)
      | _, _ => none
  | .fld e f, σ => (ev Γ S e σ).bind fun x => match x.1.at S with
      | .obj c fs => (match Γ (fkey c f), fs.lookup f with
          | some _, some (.d d) => vD d
          | some _, some w => (match fldK S f x with
              | some k => .ok (.c w, k)
              | none => none)
          | _, _ => none)
      | _ => none
  | .mcall e m es, σ => (ev Γ S e σ).bind fun x => match x.1.at S with
      | .obj c fs => (match Γ (mkey c m), fs.lookup m with
          | some g, none => (evs Γ S es σ).bind fun ws => (pureOf S (g S.hold (x.1 :: ws))).bind fun w => .ok (w, kdOf w)
          | _, _ => none)
      | _ => none
  | .frz e, σ => (ev Γ S e σ).bind fun x => match x with
      | (.c (.lst xs), .fr) => vD (.fl xs)
      | _ => none
  | .glob x, _ => match Γ (ikey 0 x) with
      | some g => (match g S.hold [] with
          | some (.ok (.c (.d d)) _) => vD d
          | _ => none)
      | none => none
  | .sp k es, σ => (evs Γ S es σ).bind fun ws => spW k (ws.map (W.at S))
  | .mt m o es, σ => (ev Γ S o σ).bind fun x => (evs Γ S es σ).bind fun ws => mtW m (x.1.at S) ws
  | .dnew t, _ => if t then vF (.c (.dT [])) else vF (.c (.dK []))
  | .lc own g it cs e, σ => (evi Γ S it σ).bind fun xs => guardN xs.1.length ((lcRun (fun x => setG g x (wipeS σ (own.map (·.2)))) (evc Γ S cs) (ev Γ S e) xs.1).bind fun ys => vF (.lst ys))
def evs (Γ : Gam) (S : Sto) : Es → List Sl → M (List W)
  | .nil, _ => .ok []
  | .cons e es, σ => (ev Γ S e σ).bind fun x => (evs Γ S es σ).bind fun ws => .ok (x.1 :: ws)
def evo (Γ : Gam) (S : Sto) : Eo → List Sl → M (Option Int)
  | .none, _ => .ok none
  | .some e, σ => (ev Γ S e σ).bind fun x => match asInt x.1 with
      | some i => .ok (some i)
      | none => none
def evc (Γ : Gam) (S : Sto) : Eo → List Sl → M Bool
  | .none, _ => .ok true
  | .some e, σ => (ev Γ S e σ).bind fun x => truth x.1
def evi (Γ : Gam) (S : Sto) : It → List Sl → M (List D × List VW)
  | .e e, σ => (ev Γ S e σ).bind fun x => match x.1.at S with
      | .c (.lst xs) => .ok (xs, [x])
      | _ => none
  | .rev e, σ => (ev Γ S e σ).bind fun x => match x.1.at S with
      | .c (.lst xs) => .ok (xs.reverse, [x])
      | _ => none
  | .tup e, σ => (ev Γ S e σ).bind fun x => match x.1 with
      | .c (.d (.tup xs)) => .ok (xs, [x])
      | _ => none
  | .str e, σ => (ev Γ S e σ).bind fun x => match x.1 with
      | .c (.d (.str z)) => .ok (z.cps.toList.map fun c => .str ⟨#[c]⟩, [])
      | _ => none
  | .rng1 a, σ => (ev Γ S a σ).bind fun x => match x.1 with
      | .c (.d (.int j)) => guardP (-4611686018427387904 ≤ j ∧ j < 4611686018427387904) (.ok (rngD 0 j.toNat, []))
      | _ => none
  | .rng2 a b, σ => (ev Γ S a σ).bind fun x => (ev Γ S b σ).bind fun y => match x.1, y.1 with
      | .c (.d (.int i)), .c (.d (.int j)) => guardP (-4611686018427387904 ≤ i ∧ i < 4611686018427387904 ∧ -4611686018427387904 ≤ j ∧ j < 4611686018427387904) (.ok (rngD i (j - i).toNat, []))
      | _, _ => none
  | .enum a, σ => (ev Γ S a σ).bind fun x => match x.1.at S with
      | .c (.lst xs) => .ok (enumD 0 xs, [x])
      | _ => none
end
/-! ### what may change shared objects -/
/-- may be handed to a call that may change shared objects -/
def handed (x : VW) : Bool := match x with
  | (_, .sf _ _) => false
  | _ => true
def tupW (ws : List W) : M VW := match ws.mapM wD with
  | some xs => guardN xs.length (vD (.tup xs))
  | none => none
def pureI : I → Bool
  | .p _ => true
  | _ => false
def pureIs : Is → Bool
  | .nil => true
  | .cons a as => pureI a && pureIs as
mutual
def evI (Γ : Gam) : I → List Sl → Sto → MS VW
  | .p e, σ, S => (ev Γ S e σ).up S
  | .share a, σ, S => (evI Γ a σ S).bind fun x S1 => if x.2 = .fr ∧ kdOf x.1 = .fr then .ok (.c (.d (.ref S1.cs.length)), .ro) ⟨S1.cs ++ [x.1], S1.fz⟩ else none
  | .call f as, σ, S => match Γ f with
      | some g => (evIs Γ as σ S).bind fun xs S1 => (g S1 (xs.map (·.1))).bind fun w S2 => .ok (w, kdOf w) S2
      | none => none
  | .mcall o m as, σ, S => (ev Γ S o σ).up S |>.bind fun x S1 => match x.1.at S1 with
      | .obj c fs => (match Γ (mkey c m), fs.lookup m, handed x with
          | some g, none, true => (evIs Γ as σ S1).bind fun xs S2 => (g S2 (x.1 :: xs.map (·.1))).bind fun w S3 => .ok (w, kdOf w) S3
          | _, _, _ => none)
      | _ => none
  | .tup as, σ, S => (evIs Γ as σ S).bind fun xs S1 => (tupW (xs.map (·.1))).up S1
  | .cmp o a b, σ, S => (evI Γ a σ S).bind fun x S1 => (evI Γ b σ S1).bind fun y S2 => if handed x then ((cmp o x.1 y.1).bind vB).up S2 else none
  | .not a, σ, S => (evI Γ a σ S).bind fun x S1 => ((truth x.1).bind fun k => vB (!k)).up S1
  | .and a b, σ, S => (evI Γ a σ S).bind fun x S1 => (truth x.1).up S1 |>.bind fun k S2 => if k then evI Γ b σ S2 else .ok x S2
  | .or a b, σ, S => (evI Γ a σ S).bind fun x S1 => (truth x.1).up S1 |>.bind fun k S2 => if k then .ok x S2 else evI Γ b σ S2
def evIs (Γ : Gam) : Is → List Sl → Sto → MS (List VW)
  | .nil, _, S => .ok [] S
  | .cons a as, σ, S => (evI Γ a σ S).bind fun x S1 => if handed x then (evIs Γ as σ S1).bind fun xs S2 => .ok (x :: xs) S2 else none
end
/-! ### statements -/
inductive Out where
  | nx (σ : List Sl) | ret (w : W) (σ : List Sl) | brk (σ : List Sl) | cnt (σ : List Sl)
def setN (i : Nat) (x : VW) (σ : List Sl) : Option (List Sl) := match x with
  | (.c (.d d), _) => putS σ i (.ro (.c (.d d)))
  | (w, .fr) => putS σ i (.own w)
  | (w, .ro) => putS σ i (.ro w)
  | (w, .at j) => match σ[j]? with
      | some (.own _) => putS (σ.set j .out) i (.own w)
      | _ => none
  | _ => none
def nxO (o : Option (List Sl)) (S : Sto) : MS Out := match o with
  | some σ => .ok (.nx σ) S
  | none => none
/-- what is stored in a cell of one's own: data, or a fresh thing, or a slot's own (that is then out) -/
def given (x : VW) (σ : List Sl) : Option (C × List Sl) := match x with
  | (_, .sf _ _) => none
  | (.c (.d d), _) => some (.d d, σ)
  | (.c w, .fr) => some (w, σ)
  | (.c w, .at j) => match σ[j]? with
      | some (.own _) => some (w, σ.set j .out)
      | _ => none
  | _ => none
/-- the thing that a value is, is changed where it stands -/
def change (x : VW) (c : C) (σ : List Sl) (S : Sto) : MS Out := match x with
  | (.c (.d (.ref n)), _) => if S.fz ≤ n ∧ n < S.cs.length then .ok (.nx σ) ⟨S.cs.set n (.c c), S.fz⟩ else none
  | (.c (.d _), _) => none
  | (_, .at i) => (match σ[i]? with
      | some (.own _) => .ok (.nx (σ.set i (.own (.c c)))) S
      | _ => none)
  | (_, .af i f) => (match σ[i]? with
      | some (.own (.obj k fs)) => .ok (.nx (σ.set i (.own (.obj k (setF f c fs))))) S
      | _ => none)
  | (_, .sf n f) => (match S.cs[n]? with
      | some (.obj k fs) => if S.fz ≤ n then .ok (.nx σ) ⟨S.cs.set n (.obj k (setF f c fs)), S.fz⟩ else none
      | _ => none)
  | _ => none
/-- a field of an object is set -/
def setFld (x : VW) (f : Str) (c : C) (σ : List Sl) (S : Sto) : MS Out := match x with
  | (.c (.d (.ref n)), _) => (match S.cs[n]? with
      | some (.obj k fs) => if S.fz ≤ n ∧ fs.length < 1000 then .ok (.nx σ) ⟨S.cs.set n (.obj k (setF f c fs)), S.fz⟩ else none
      | _ => none)
  | (_, .at i) => (match σ[i]? with
      | some (.own (.obj k fs)) => if fs.length < 1000 then .ok (.nx (σ.set i (.own (.obj k (setF f c fs))))) S else none
      | _ => none)
  | _ => none
def putL {κ : Type} [DecidableEq κ] (kvs : List (κ × D)) (k : κ) (v : D) : List (κ × D) := if kvs.any (fun p => decide (p.1 = k)) then kvs.map (fun p => if p.1 = k then (p.1, v) else p) else kvs ++ [(k, v)]
/-- x[k] = d -/
def setIt (c : C) (k : D) (d : D) : M C := match c with
  | .lst xs => (match k with
      | .int j => (match ixN xs.length j with
          | some n => .ok (.lst (xs.set n d))
          | none => none)
      | _ => none)
  | _ => none
/-- the kind of thing that a method is of -/
def moTy (m : Mo) (w : W) : Bool := match m, w with
  | .append, .c (.lst _) => true
  | .clear, .c (.lst _) => true
  | _, _ => false
/-- x.m(..) -/
def moC (m : Mo) (c : C) (ds : List D) : M C := match m, c, ds with
  | .append, .lst xs, [d] => guardN (xs.length + 1) (.ok (.lst (xs ++ [d])))
  | .clear, .lst _, [] => .ok (.lst [])
  | _, _, _ => none
def cellOf : W → Option C
  | .c x => some x
  | _ => none
def addD (o : Operator) (x : D) (y : W) : M VW := match o with
  | .Add => bin .Add (.d x) y
  | .Sub => bin .Sub (.d x) y
  | _ => none
def forRun (bind : D → List Sl → Option (List Sl)) (body : List Sl → Sto → MS Out) : List D → List Sl → Sto → MS Out
  | [], σ, S => .ok (.nx σ) S
  | x :: xs, σ, S => match bind x σ with
      | none => none
      | some σ1 => (body σ1 S).bind fun o S2 => match o with
          | .nx σ2 => forRun bind body xs σ2 S2
          | .cnt σ2 => forRun bind body xs σ2 S2
          | .brk σ2 => .ok (.nx σ2) S2
          | .ret w σ2 => .ok (.ret w σ2) S2
def whilRun (test : List Sl → Sto → M Bool) (body : List Sl → Sto → MS Out) : Nat → List Sl → Sto → MS Out
  | 0, _, _ => none
  | n + 1, σ, S => ((test σ S).up S).bind fun b S => if b then (body σ S).bind fun o S2 => (match o with
          | .nx σ2 => whilRun test body n σ2 S2
          | .cnt σ2 => whilRun test body n σ2 S2
          | .brk σ2 => .ok (.nx σ2) S2
          | .ret w σ2 => .ok (.ret w σ2) S2) else .ok (.nx σ) S
def tstV (x : M VW) : M Bool := x.bind fun v => truth v.1
def tstI' (x : MS VW) : MS Bool := x.bind fun v S => (truth v.1).up S
def fgtS (σ : List Sl) : List Nat → List Sl
  | [] => σ
  | v :: vs => (fgtS σ vs).set v .out
/-- what is walked stands still, or is fresh and is frozen -/
def srcOk (ls : List VW) : Bool := match ls with
  | [] => true
  | [(.c (.d _), _)] => true
  | [(_, .ro)] => true
  | [(.c (.lst _), .fr)] => true
  | _ => false
/-- a shared list that is walked stands still -/
def srcSt (S : Sto) (ls : List VW) : Bool := match ls with
  | [(.c (.d (.ref n)), _)] => decide (n < S.fz)
  | _ => true
mutual
def run (Γ : Gam) : T → List Sl → Sto → MS Out
  | .asg g a, σ, S => (evI Γ a σ S).bind fun x S1 => match g with
      | .nm i => nxO (setN i x σ) S1
      | .tup is => match x.1 with
          | .c (.d d) => nxO (setG (.tup is) d σ) S1
          | _ => none
  | .aug i o e, σ, S => ((ev Γ S e σ).up S).bind fun y S => match σ[i]? with
      | some (.ro (.c (.d x))) => ((addD o x y.1).up S).bind fun z S => match z.1 with
              | .c (.d d) => nxO (putS σ i (.ro (.c (.d d)))) S
              | _ => none
      | _ => none
  | .setI b k a, σ, S => (evI Γ a σ S).bind fun y S1 => ((ev Γ S1 b σ).up S1).bind fun x S1 => ((ev Γ S1 k σ).up S1).bind fun j S1 => match cellOf (x.1.at S1), j.1, y.1 with
      | some c, .c (.d j), .c (.d d) => ((setIt c j d).up S1).bind fun c' S1 => change x c' σ S1
      | _, _, _ => none
  | .mut m b as, σ, S => ((ev Γ S b σ).up S).bind fun x S => if (handed x || pureIs as) && moTy m (x.1.at S) then (evIs Γ as σ S).bind fun ys S1 => (match cellOf (x.1.at S1), (ys.map (·.1)).mapM wD with
          | some c, some ds => ((moC m c ds).up S1).bind fun c' S1 => change x c' σ S1
          | _, _ => none) else none
  | .fset b f a, σ, S => (evI Γ a σ S).bind fun y S1 => ((ev Γ S1 b σ).up S1).bind fun x S1 => match given y σ, x.1.at S1 with
      | some (c, σ'), .obj k _ => (match Γ (fkey k f) with
          | some _ => setFld x f c σ' S1
          | none => none)
      | _, _ => none
  | .faug b f o e, σ, S => ((ev Γ S b σ).up S).bind fun x S => ((ev Γ S e σ).up S).bind fun y S => match x.1.at S with
      | .obj k fs => (match Γ (fkey k f), fs.lookup f with
          | some _, some (.d d) => ((addD o d y.1).up S).bind fun z S => (match z.1 with
              | .c (.d d') => setFld x f (.d d') σ S
              | _ => none)
          | _, _ => none)
      | _ => none
  | .expr a, σ, S => (evI Γ a σ S).bind fun _ S1 => .ok (.nx σ) S1
  | .ret a, σ, S => (evI Γ a σ S).bind fun x S1 => match x with
      | (.c (.d d), _) => .ok (.ret (.c (.d d)) σ) S1
      | (w, .fr) => .ok (.ret w σ) S1
      | (w, .at i) => (match σ[i]? with
          | some (.own _) => .ok (.ret w (σ.set i .out)) S1
          | _ => none)
      | _ => none
  | .retN, σ, S => .ok (.ret .non σ) S
  | .ite c a b, σ, S => (tstI' (evI Γ c σ S)).bind fun k S1 => if k then runs Γ a σ S1 else runs Γ b σ S1
  | .for_ g it b, σ, S => ((evi Γ S it σ).up S).bind fun p S => if srcOk p.2 && srcSt S p.2 then forRun (fun x σ => setG g x σ) (runs Γ b) p.1 σ S else none
  | .whil n c b, σ, S => whilRun (fun σ S => tstV (ev Γ S c σ)) (runs Γ b) n σ S
  | .brk, σ, S => .ok (.brk σ) S
  | .cnt, σ, S => .ok (.cnt σ) S
  | .pass, σ, S => .ok (.nx σ) S
  | .nev, _, _ => none
  | .frz i, σ, S => match σ[i]? with
      | some (.own (.c (.lst xs))) => .ok (.nx (σ.set i (.ro (.c (.d (.fl xs)))))) S
      | _ => none
  | .fgt is, σ, S => .ok (.nx (fgtS σ is)) S
def runs (Γ : Gam) : Ts → List Sl → Sto → MS Out
  | .nil, σ, S => .ok (.nx σ) S
  | .cons t ts, σ, S => (run Γ t σ S).bind fun o S1 => match o with
      | .nx σ' => runs Γ ts σ' S1
      | .ret w σ' => .ok (.ret w σ') S1
      | .brk σ' => .ok (.brk σ') S1
      | .cnt σ' => .ok (.cnt σ') S1
end
/-- a def's value at its arguments: what it reads comes as it is -/
def fnRun (Γ : Gam) (n : Nat) (b : Ts) (S : Sto) (ws : List W) : MS W := (runs Γ b (ws.map Sl.ro ++ List.replicate (n - ws.length) Sl.out) S).bind fun o S1 => match o with
  | .ret w _ => .ok w S1
  | .nx _ => .ok .non S1
  | _ => none
open Classical in
/-- a class's value: a new object, made by __init__ -/
def mkOf (c : Nat) (gi : Sto → List W → MS W) (S : Sto) (ws : List W) : MS W := match gi ⟨S.cs ++ [.obj c []], S.fz⟩ (.c (.d (.ref S.cs.length)) :: ws) with
  | some (.ok (.c (.d .non)) S') => (match S'.cs[S.cs.length]? with
      | some w => if S'.cs = S.cs ++ [w] ∧ kdOf w = .fr ∧ belowW S.cs.length w = true then .ok w S else none
      | none => none)
  | _ => none
end
end Ev
/-! Ev2: what the evaluator tells of an expression holds of its run. -/
namespace Ev
open PySem PySem.Spec
open PyProof.Rows hiding St
open L2

/-! ### monad facts -/
theorem bind_ok {α β : Type} {x : M α} {f : α → M β} {b : β} (h : M.bind x f = some (.ok b)) : ∃ a, x = some (.ok a) ∧ f a = some (.ok b) := by
  unfold M.bind at h
  split at h
  · exact ⟨_, rfl, h⟩
  · cases h
  · cases h
theorem ok_inj {α : Type} {a b : α} (h : M.ok a = some (.ok b)) : a = b := by
  unfold M.ok at h
  cases h; rfl
theorem guardN_ok {α : Type} {n : Nat} {k : M α} {b : α} (h : guardN n k = some (.ok b)) : n ≤ sizeLine ∧ k = some (.ok b) := by
  unfold guardN guardP at h
  split at h
  · exact ⟨by assumption, h⟩
  · cases h
theorem guardP_ok {α : Type} {p : Prop} {k : M α} {b : α} (h : guardP p k = some (.ok b)) : p ∧ k = some (.ok b) := by
  unfold guardP at h
  split at h
  · exact ⟨by assumption, h⟩
  · cases h

/-! ### the greatest readings -/
def wpE (X : Cx) (e : Expr) : TE := fun σ H Q => ∀ (pins : List (Addr × Obj)) (s : Shared), Inv X pins σ H s → wpAny (model X.prog X.w) X.A (eval e X.env) (EP X pins σ Q) X.xe s
theorem pe_wp {X : Cx} {e : Expr} : PE X e (wpE X e) := ⟨fun pins s _ _ _ I h => h pins s I⟩
theorem wp_of {X : Cx} {e : Expr} {t : TE} {σ : St} {H : Hp} {Q : VK} (p : PE X e t) (h : t σ H Q) : wpE X e σ H Q := fun pins s I => p.run pins s σ H Q I h
def wpA (X : Cx) (es : List Expr) : TA := fun σ H Q => ∀ (pos : Pos) (pins : List (Addr × Obj)) (s : Shared), Inv X pins σ H s → wpAny (model X.prog X.w) X.A (spliced (backTo pos (starEach es X.env))) (AP X pins σ Q) X.xe s
theorem pa_wp {X : Cx} {es : List Expr} : PA X es (wpA X es) := ⟨fun pos pins s _ _ _ I h => h pos pins s I⟩
theorem wpa_of {X : Cx} {es : List Expr} {t : TA} {σ : St} {H : Hp} {Q : List V → Hp → Prop} (p : PA X es t) (h : t σ H Q) : wpA X es σ H Q := fun pos pins s I => p.run pos pins s σ H Q I h
def wpT (X : Cx) (e : Expr) : TT := fun σ H Q => ∀ (pins : List (Addr × Obj)) (s : Shared), Inv X pins σ H s → wpAny (model X.prog X.w) X.A (isTrue e X.env (eval e X.env)) (TP X pins σ Q) X.xe s
theorem pt_wp {X : Cx} {e : Expr} : PT X e (wpT X e) := ⟨fun pins s _ _ _ I h => h pins s I⟩
theorem wpt_of {X : Cx} {e : Expr} {t : TT} {σ : St} {H : Hp} {Q : Bool → Hp → Prop} (p : PT X e t) (h : t σ H Q) : wpT X e σ H Q := fun pins s I => p.run pins s σ H Q I h
def wpS (X : Cx) (st : Stmt) : TS := fun D σ H => ∀ (pins : List (Addr × Obj)) (s : Shared), Inv X pins σ H s → wpAny (model X.prog X.w) X.A (exec st X.env) (SP X pins D) X.xe s
theorem ps_wp {X : Cx} {st : Stmt} : PS X st (wpS X st) := ⟨fun pins s _ _ _ I h => h pins s I⟩
theorem wps_of {X : Cx} {st : Stmt} {t : TS} {D : Ends} {σ : St} {H : Hp} (p : PS X st t) (h : t D σ H) : wpS X st D σ H := fun pins s I => p.run pins s σ H D I h
def wpSs (X : Cx) (st : List Stmt) : TS := fun D σ H => ∀ (pins : List (Addr × Obj)) (s : Shared), Inv X pins σ H s → wpAny (model X.prog X.w) X.A (execs st X.env) (SP X pins D) X.xe s
theorem pss_wp {X : Cx} {st : List Stmt} : PSs X st (wpSs X st) := ⟨fun pins s _ _ _ I h => h pins s I⟩
theorem wpss_of {X : Cx} {st : List Stmt} {t : TS} {D : Ends} {σ : St} {H : Hp} (p : PSs X st t) (h : t D σ H) : wpSs X st D σ H := fun pins s I => p.run pins s σ H D I h

/-! ### the slots, the shared objects -/
section
variable (P : Addr → Prop) (K : PySem.W.Frag) (ca : Am)
def SlRep (H : Hp) (s : Sl) (o : Option (Option V)) (fp : List Addr) : Prop := match s with
  | .own w => ∃ v, o = some (some v) ∧ OwnW K ca H w v fp
  | .ro w => ∃ v, o = some (some v) ∧ RepW P K ca H w v ∧ fp = []
  | .out => fp = []
/-- a shared object: it stands still, or is owned -/
def ClRep (fz : Nat) (H : Hp) (n : Nat) (w : W) (a : Addr) (fp : List Addr) : Prop := if n < fz then RepW P K ca H w (.ref a) ∧ fp = [] else OwnW K ca H w (.ref a) fp
structure SRep (σ : List Sl) (S : Sto) (ρ : St) (H : Hp) (fp : Nat → List Addr) : Prop where
  len : σ.length = ρ.length
  sl : ∀ i s, σ[i]? = some s → SlRep P K ca H s ρ[i]? (fp (2 * i))
  sln : S.cs.length = ca.i.length
  fzl : S.fz ≤ S.cs.length
  cel : ∀ n w a, S.cs[n]? = some w → ca.i[n]? = some a → ClRep P K ca S.fz H n w a (fp (2 * n + 1))
  dj : ∀ i j, i ≠ j → ∀ a ∈ fp i, a ∉ fp j
  nd : ∀ i, (fp i).Nodup
  np : ∀ i, ∀ a ∈ fp i, ¬ P a
  far : ∀ i, σ.length ≤ i → fp (2 * i) = []
  far2 : ∀ n, S.cs.length ≤ n → fp (2 * n + 1) = []
  pa : ∀ a, P a → ∃ o, H a = some o
/-- where a field's value stands -/
def FldAt (o : Option (Option V)) (H : Hp) (f : Str) (v : V) : Prop := ∃ a C dx fs', o = some (some (.ref a)) ∧ H a = some (.ins C dx fs') ∧ fs'.lookup f = some v
/-- a value come of an expression -/
structure RepV (ρ : St) (H H' : Hp) (w : W) (k : Kd) (v : V) : Prop where
  rep : RepW (fun _ => True) K ca H' w v
  kd : match k with
    | .ro => RepW P K ca H' w v
    | .fr => ∃ fp, OwnW K ca H' w v fp ∧ (∀ a ∈ fp, H a = none) ∧ fp.Nodup
    | .at i => ρ[i]? = some (some v)
    | .af i f => FldAt ρ[i]? H' f v
    | .sf n f => FldAt ((ca.i[n]?).map fun a => some (.ref a)) H' f v
end
section
variable {P : Addr → Prop} {K : PySem.W.Frag} {ca : Am} {σ : List Sl} {S : Sto} {ρ : St} {H H' H'' : Hp} {fp : Nat → List Addr}
theorem SlRep.mono {s : Sl} {o : Option (Option V)} {f : List Addr} (h : SlRep P K ca H s o f) (t : Same H H') : SlRep P K ca H' s o f := by
  cases s with
  | own w =>
    obtain ⟨v, e, q⟩ := h
    exact ⟨v, e, q.stay (.of_same t) fun a _ o e => t a o e⟩
  | ro w =>
    obtain ⟨v, e, q, z⟩ := h
    exact ⟨v, e, q.mono (.of_same t) fun _ p => p, z⟩
  | out => exact h
theorem ClRep.mono {fz n : Nat} {w : W} {a : Addr} {f : List Addr} (h : ClRep P K ca fz H n w a f) (t : Same H H') : ClRep P K ca fz H' n w a f := by
  unfold ClRep at h ⊢
  split
  · rename_i e
    rw [if_pos e] at h
    exact ⟨h.1.mono (.of_same t) fun _ p => p, h.2⟩
  · rename_i e
    rw [if_neg e] at h
    exact h.stay (.of_same t) fun a _ o e => t a o e
theorem SRep.mono (S' : SRep P K ca σ S ρ H fp) (t : Same H H') : SRep P K ca σ S ρ H' fp :=
  ⟨S'.len, fun i s e => (S'.sl i s e).mono t, S'.sln, S'.fzl, fun n w a e1 e2 => (S'.cel n w a e1 e2).mono t, S'.dj, S'.nd, S'.np, S'.far, S'.far2, fun a p => let ⟨o, e⟩ := S'.pa a p; ⟨o, t a o e⟩⟩
theorem ClRep.read {fz n : Nat} {w : W} {a : Addr} {f : List Addr} (h : ClRep P K ca fz H n w a f) : RepW (fun _ => True) K ca H w (.ref a) := by
  unfold ClRep at h
  split at h
  · exact h.1.mono .refl fun _ _ => trivial
  · exact h.rep fun _ _ => trivial
/-- a shared object may be read -/
theorem SRep.read (R : SRep P K ca σ S ρ H fp) {n : Nat} {w : W} (e : S.cs[n]? = some w) : ∃ a, ca.i[n]? = some a ∧ RepW (fun _ => True) K ca H w (.ref a) := by
  have hn : n < ca.i.length := by rw [← R.sln]; exact (List.getElem?_eq_some_iff.mp e).1
  have e2 : ca.i[n]? = some ca.i[n] := List.getElem?_eq_getElem hn
  exact ⟨_, e2, (R.cel n w _ e e2).read⟩
/-- what is meant by a value may be read -/
theorem SRep.at_rep (R : SRep P K ca σ S ρ H fp) {w : W} {v : V} (h : RepW (fun _ => True) K ca H w v) : RepW (fun _ => True) K ca H (w.at S) v := by
  unfold W.at
  split
  · exact RepW.un (w := .c (.d (.fl _))) h
  · rename_i n
    split
    · rename_i w' e
      obtain ⟨a, e1, e2⟩ : ∃ a, ca.i[n]? = some a ∧ v = .ref a := h
      obtain ⟨b, e3, r⟩ := R.read e
      rw [e1] at e3
      cases e3
      subst e2
      exact r
    · exact h
  · exact h
theorem FldAt.mono {o : Option (Option V)} {f : Str} {v : V} (h : FldAt o H f v) (t : Same H H') : FldAt o H' f v := by
  obtain ⟨a, C, dx, fs', e, q, l⟩ := h
  exact ⟨a, C, dx, fs', e, t _ _ q, l⟩
theorem RepV.later {w : W} {k : Kd} {v : V} (r : RepV P K ca ρ H H' w k v) (t : Same H' H'') : RepV P K ca ρ H H'' w k v := by
  refine ⟨r.rep.mono (.of_same t) fun _ p => p, ?_⟩
  have q := r.kd
  cases k with
  | ro => exact RepW.mono (.of_same t) (fun _ p => p) q
  | fr =>
    obtain ⟨f, h1, h2, h3⟩ := q
    exact ⟨f, h1.stay (.of_same t) fun a _ o e => t a o e, h2, h3⟩
  | «at» i => exact q
  | af i f => exact FldAt.mono q t
  | sf n f => exact FldAt.mono q t
theorem RepV.from {H0 : Hp} {w : W} {k : Kd} {v : V} (r : RepV P K ca ρ H H' w k v) (t : Same H0 H) : RepV P K ca ρ H0 H' w k v := by
  refine ⟨r.rep, ?_⟩
  have q := r.kd
  cases k with
  | ro => exact q
  | fr =>
    obtain ⟨f, h1, h2, h3⟩ := q
    exact ⟨f, h1, fun a ha => t.free (h2 a ha), h3⟩
  | «at» i => exact q
  | af i f => exact q
  | sf n f => exact q
theorem RepV.ofD {x : D} {v : V} (r : RepD K ca H' x v) : RepV P K ca ρ H H' (.d x) .ro v := ⟨r, r⟩
theorem RepV.ofL {xs : List D} {vs : List V} {p : Addr} (t : TK K H (upd H' p (.lst vs))) (n : H' p = none) (s : Same H H') (r : RepDs K ca H' xs vs) : RepV P K ca ρ H (upd H' p (.lst vs)) (.lst xs) .fr (.ref p) := by
  have r' : RepDs K ca (upd H' p (.lst vs)) xs vs := r.mono (.of_same (Same.upd n))
  exact ⟨⟨p, vs, rfl, .inl ⟨trivial, .inl upd_same⟩, r'⟩, [p], ⟨p, vs, rfl, upd_same, r', rfl⟩, fun a ha => by
    have e : a = p := by simpa using ha
    subst e
    exact s.free n, by simp⟩
end
/-- what an expression's context must bear -/
structure Cok (bl : List Str) (sc : Scope) (X : Cx) : Prop where
  scope : X.env.scope = sc
  nd : X.N.Nodup
  calm : X.calm = true
  un : X.A.units + 130 < cLine
  bln : ∀ x ∈ bl, X.mg x = none
  kd : X.env.scope.kind = .function
end Ev
/-! Ev3: expressions. -/
namespace Ev
open PySem PySem.Spec
open PyProof.Rows hiding St
open L2

def RepWp (P : Addr → Prop) (K : PySem.W.Frag) (ca : Am) (H : Hp) : List W → List V → Prop
  | [], vs => vs = []
  | w :: ws, vs => ∃ v r, vs = v :: r ∧ RepW P K ca H w v ∧ RepWp P K ca H ws r
abbrev RepWs (K : PySem.W.Frag) (ca : Am) (H : Hp) (ws : List W) (vs : List V) : Prop := RepWp (fun _ => True) K ca H ws vs
theorem RepWp.mono {P P' : Addr → Prop} {K : PySem.W.Frag} {ca : Am} {H H' : Hp} (t : Fut P K H H') (q : ∀ b, P b → P' b) : ∀ {ws : List W} {vs : List V}, RepWp P K ca H ws vs → RepWp P' K ca H' ws vs
  | [], _, h => h
  | w :: ws, vs, ⟨v, r, e, h1, h2⟩ => ⟨v, r, e, h1.mono t q, RepWp.mono t q h2⟩
theorem RepWs.mono {K : PySem.W.Frag} {ca : Am} {H H' : Hp} (t : Same H H') {ws : List W} {vs : List V} (h : RepWs K ca H ws vs) : RepWs K ca H' ws vs := RepWp.mono (.of_same t) (fun _ p => p) h
theorem RepWp.length {P : Addr → Prop} {K : PySem.W.Frag} {ca : Am} {H : Hp} : ∀ {ws : List W} {vs : List V}, RepWp P K ca H ws vs → vs.length = ws.length
  | [], _, h => by unfold RepWp at h; subst h; rfl
  | w :: ws, vs, ⟨v, r, e, h1, h2⟩ => by subst e; simp [RepWp.length h2]
/-- what lives, but for the shared objects that may change -/
def Lv (H : Hp) (fq : Nat → List Addr) : Addr → Prop := fun a => (∃ o, H a = some o) ∧ ∀ n, a ∉ fq n
/-- the shared objects -/
structure StRep (K : PySem.W.Frag) (ca : Am) (S : Sto) (H0 : Hp) (fq0 : Nat → List Addr) (H : Hp) (fq : Nat → List Addr) : Prop where
  sln : S.cs.length = ca.i.length
  fzl : S.fz ≤ S.cs.length
  cel : ∀ n w a, S.cs[n]? = some w → ca.i[n]? = some a → ClRep (Lv H0 fq0) K ca S.fz H n w a (fq n)
  dj : ∀ i j, i ≠ j → ∀ a ∈ fq i, a ∉ fq j
  nd : ∀ i, (fq i).Nodup
  far : ∀ n, S.cs.length ≤ n → fq n = []
/-- what comes back of a call -/
def BackI (K : PySem.W.Frag) (ca : Am) (H : Hp) (fq0 : Nat → List Addr) (H' : Hp) (fq : Nat → List Addr) (w : W) (v : V) : Prop := match kdOf w with
    | .ro => RepW (fun _ => True) K ca H' w v
    | _ => ∃ f, OwnW K ca H' w v f ∧ (∀ a ∈ f, H a = none ∨ ∃ n, a ∈ fq0 n) ∧ (∀ n, ∀ a ∈ f, a ∉ fq n) ∧ f.Nodup
/-- what stands behind a call -/
structure After (K : PySem.W.Frag) (ca : Am) (S : Sto) (H : Hp) (fq : Nat → List Addr) (ca' : Am) (S' : Sto) (H' : Hp) (fq' : Nat → List Addr) : Prop where
  le : ca.le ca'
  fz : S'.fz = S.fz
  pre : ∀ n, n < S.fz → S'.cs[n]? = S.cs[n]?
  tk : TK K H H'
  st : ∀ a u, H a = some u → (∀ n, a ∉ fq n) → H' a = some u
  al : ∀ a, H' a = none → H a = none
  sub : ∀ n, ∀ a ∈ fq' n, (∃ m, a ∈ fq m) ∨ H a = none
  rep : StRep K ca' S' H fq H' fq'
/-- a def's promise -/
def spI (K : PySem.W.Frag) (cc : Nat → Addr) (g : Sto → List W → MS W) : Sp := fun vs H Q _ => ∃ ca S fq ws w S', ca.c = cc ∧ StRep K ca S H fq H fq ∧ (∀ n, ∀ a ∈ fq n, ∃ o, H a = some o) ∧ RepWp (Lv H fq) K ca H ws vs ∧ g S ws = some (.ok w S') ∧
  ∀ v ca' H' fq', After K ca S H fq ca' S' H' fq' → BackI K ca' H fq H' fq' w v → Q v H'
/-- a call by a name: how it is read -/
def CallOk (X : Cx) (f : Str) (sp : Sp) : Prop := Gl X f → (f == ("__debug__" : Str)) = false →
  (∀ p pos, PE X (.Call (.Name f p) [] [] pos) (tCall sp [] E0 tNil)) ∧
    ∀ (e : Expr) (es : List Expr) (p pos : Pos) (t : TA), PA X (e :: es) t → starEach (e :: es) X.env = (false, eval e X.env) :: starEach es X.env → (backTo pos (starEach es X.env)).any (·.1) = false →
      PE X (.Call (.Name f p) (e :: es) [] pos) (tCall sp [] E0 t)
theorem CallOk.of_fn {X : Cx} {f : Str} {sp : Sp} {fa : Addr} {fd : FuncData} {ps : List Str} {k : Nat} (F : FnOk X.prog X.w X.K X.mg X.base (L2.CX X.prog X.w) k fa fd ps sp) (hr : Room k X.A) (hm : X.mg f = some (.ref fa))
    (hk : PySem.W.keepIn X.K (.ref fa) = true) (hb : Binds X.K fd ps []) : CallOk X f sp := fun hg h3 =>
  ⟨fun p pos => pe_call0 (ds := []) (dvs := []) F hr hg hm hk hb .nil passL h3, fun e es p pos t ha h1 h2 => pe_call (ds := []) (dvs := []) F hr hg hm hk hb .nil passL ha h3 h1 h2⟩
/-- a method's call -/
def MethOk (X : Cx) (C : Addr) (m : Str) (sp : Sp) : Prop :=
  (∀ (o : Expr) (ap pos : Pos) (ta : TE), PE X o ta → baseOk o = true → (ap.endLine == pos.line) = true → PE X (.Call (.Attribute o m ap) [] [] pos) (tMeth C m sp [] E0 ta tNil)) ∧
    ∀ (o e : Expr) (es : List Expr) (ap pos : Pos) (ta : TE) (t : TA), PE X o ta → PA X (e :: es) t → baseOk o = true → (ap.endLine == pos.line) = true → (e :: es).length < 28 → starEach (e :: es) X.env = (false, eval e X.env) :: starEach es X.env →
      (backTo pos (starEach (e :: es) X.env)).any (·.1) = false → (backTo pos (starEach es X.env)).any (·.1) = false → PE X (.Call (.Attribute o m ap) (e :: es) [] pos) (tMeth C m sp [] E0 ta t)
/-- what a name is worth -/
structure EntOk (X : Cx) (cc : Nat → Addr) (f : Str) (g : Sto → List W → MS W) : Prop where
  fn : isPl f = true → CallOk X f (spI X.K cc g)
  fl : ∀ c x, f = fkey c x → Cls X.K (cc c) ∧ NoAttr X.K (cc c) x
  me : ∀ c m, f = mkey c m → MethOk X (cc c) m (spI X.K cc g)
  gl : ∀ x, f = ikey 0 x → ∃ d v, (∀ S, ∃ S', g S [] = some (.ok (.c (.d d)) S')) ∧ (∀ ca H, RepD X.K ca H d v) ∧ ∀ p, Gl X x → (x == ("__debug__" : Str)) = false → PE X (.Name x p) (tC v)
def FnsOk (X : Cx) (cc : Nat → Addr) (Γ : Gam) : Prop := ∀ Y : Cx, Y.prog = X.prog → Y.w = X.w → Y.K = X.K → Y.mg = X.mg → Y.base = X.base → Y.A = X.A → ∀ f g, Γ f = some g → EntOk Y cc f g

/-! ### from the tie -/
/-- an expression of a plain kind -/
def okX : Expr → Bool
  | .Starred .. => false
  | .Slice .. => false
  | .Set .. => false
  | .SetComp .. => false
  | .DictComp .. => false
  | _ => true
theorem spM_ok {bl sc k x y} (h : spM bl sc k x = some y) : okX x = true := by
  unfold spM at h
  split at h <;> first | rfl | cases h
theorem chk_okX {bl N sc} : ∀ {e : E} {x : Expr}, chk bl N sc e x = true → okX x = true
  | .frz e, x, h => chk_okX (e := e) (by unfold chk at h; exact h)
  | .sp k e, x, h => by
    unfold chk at h
    split at h
    · rename_i y hy; exact spM_ok hy
    · cases h
  | e, x, h => by
    cases x <;> first | rfl | (cases e <;> first | (simp [chk] at h; done) | (unfold chk at h; exact chk_okX h) | (unfold chk at h; split at h; (rename_i y hy; exact spM_ok hy); cases h))
theorem star_of {bl N sc} {e : E} {x : Expr} (h : chk bl N sc e x = true) (es : List Expr) (env : Env) : starEach (x :: es) env = (false, eval x env) :: starEach es env := by
  have h := chk_okX h
  cases x <;> first | rfl | cases h
theorem plainIx_of {bl N sc} {e : E} {x : Expr} (h : chk bl N sc e x = true) : PlainIx x := by
  have h := chk_okX h
  intro o i
  cases x <;> first | rfl | cases h
theorem chki_okX {bl N sc} {e : It} {x : Expr} (h : chki bl N sc e x = true) : okX x = true := by
  cases e <;> first | exact chk_okX (by unfold chki at h; exact h) | (cases x <;> first | rfl | (simp [chki] at h))
theorem fold_of {bl N sc} {e : It} {x : Expr} (h : chki bl N sc e x = true) (env : Env) (v : Value) : foldedSetIterable x env v = pure v := by
  have h := chki_okX h
  cases x <;> first | rfl | cases h
theorem noback {bl N sc} : ∀ {es : Es} {l : List Expr} (_ : chks bl N sc es l = true) (pos : Pos) (env : Env), (backTo pos (starEach l env)).any (·.1) = false
  | .nil, [], _, _, _ => rfl
  | .nil, _ :: _, h, _, _ => by simp [chks] at h
  | .cons _ _, [], h, _, _ => by simp [chks] at h
  | .cons e es, x :: l, h, pos, env => by
    have h' : chk bl N sc e x = true ∧ chks bl N sc es l = true := by simpa [chks] using h
    rw [star_of h'.1]
    show (false || (backTo pos (starEach l env)).any (·.1)) = false
    rw [noback h'.2]
    rfl
theorem attr_base {x : Expr} {a : Str} (env : Env) (h : baseOk x = true) : attributeBase x a env (eval x env) = eval x env := by
  unfold attributeBase
  split
  · rename_i id p pos
    have e1 : (id != ("super" : Str)) = true := by
      have : (!(id == ("super" : Str))) = true := h
      simpa [bne] using this
    simp [e1]
  · rfl
theorem meth_eval {o : Expr} {m : Str} {apos pos : Pos} {es : List Expr} {env : Env} (h : baseOk o = true) (hl : (apos.endLine == pos.line) = true) (hb : (backTo pos (starEach es env)).any (·.1) = false) (hn : es.length < 28) :
    eval (.Call (.Attribute o m apos) es [] pos) env = (do let ov ← eval o env; standAt apos.atName; let (f, first) ← holding [ov] (getMethod ov m (do return (← importBound o env).getD true)); callWith pos f first (backTo pos (starEach es env)) (backToKw pos (keywordEach [] env))) := by
  have hall : (backTo pos (starEach es env)).all (fun x => !x.1) = true := by
    rw [List.all_eq_true]
    intro x hx
    have := List.any_eq_false.mp hb x hx
    simpa using this
  have hk : backToKw pos (keywordEach [] env) = [] := rfl
  have hf : methodCallForm (es.length + ([] : List Keyword).length) (backTo pos (starEach es env)) (backToKw pos (keywordEach [] env)) = true := by
    unfold methodCallForm
    rw [hall, hk]
    simp
    omega
  rw [arm_eval_Call, attr_base _ h]
  unfold methodCall calleeOf methodCallPos
  rw [hf, hl]
  rfl
theorem isTrue_of {x : Expr} (env : Env) (h1 : ∀ y p, x ≠ .UnaryOp .Not y p) (h2 : ∀ o l p, x ≠ .BoolOp o l p) (h3 : ∀ a b c p, x ≠ .IfExp a b c p) (h4 : ∀ a b c p, x ≠ .Compare a b c p) (whole : Sem Value) :
    isTrue x env whole = (do let v ← whole; standAt x.pos; holding [v] (truthy v)) := by
  cases x with
  | UnaryOp o y p => cases o <;> first | rfl | exact absurd rfl (h1 _ _)
  | BoolOp o l p => exact absurd rfl (h2 _ _ _)
  | IfExp a b c p => exact absurd rfl (h3 _ _ _ _)
  | Compare a b c p => exact absurd rfl (h4 _ _ _ _)
  | _ => rfl

/-! ### truth -/
theorem isEmpty_rep {K : PySem.W.Frag} {H : Hp} {xs : List D} {vs : List V} (r : RepDs K ca H xs vs) : (!vs.isEmpty) = !xs.isEmpty := by
  have := r.length
  cases xs <;> cases vs <;> simp_all
theorem tru_of {P K ca H} {w : W} {v : V} {k : Bool} (r : RepW P K ca H w v) (h : truth w = some (.ok k)) : TruV K v H k := by
  cases w with
  | obj => cases h
  | c x =>
    cases x with
    | d x =>
      cases x with
      | non => have r : v = V.non := r; subst r; exact (ok_inj h).symm
      | bl b => have r : v = V.bl b := r; subst r; exact (ok_inj h).symm
      | int i => have r : v = V.int i := r; subst r; exact (ok_inj h).symm
      | str z =>
        have r : v = V.str z := r
        subst r
        obtain ⟨h1, h2⟩ := guardN_ok h
        exact ⟨h1, (ok_inj h2).symm⟩
      | tup xs =>
        obtain ⟨a, vs, e, q, r⟩ : ∃ a vs, v = .ref a ∧ SqT K H a vs ∧ RepDs K ca H xs vs := r
        subst e
        exact .inr (.inl ⟨vs, q, by rw [isEmpty_rep r]; exact (ok_inj h).symm⟩)
      | fl xs =>
        obtain ⟨a, o, vs, e, q, r⟩ : ∃ a o vs, v = .ref a ∧ H a = some (.frz o (.lst vs)) ∧ RepDs K ca H xs vs := r
        subst e
        exact .inl ⟨vs, .inl (.inr ⟨o, q⟩), by rw [isEmpty_rep r]; exact (ok_inj h).symm⟩
      | ref n => cases h
    | lst xs =>
      obtain ⟨a, vs, e, q, r⟩ := r
      subst e
      exact .inl ⟨vs, q.seq, by rw [isEmpty_rep r]; exact (ok_inj h).symm⟩
    | dK kvs =>
      obtain ⟨a, vs, e, p, q, k1, r⟩ := r
      subst e
      refine .inr (.inr ⟨vs, q, ?_⟩)
      have hl : kvs.length = vs.length := by have := congrArg List.length k1; simpa using this
      rw [← ok_inj h]
      cases kvs <;> cases vs <;> simp_all
    | dT kvs => cases h

/-! ### operators over values -/
section
variable {X : Cx} {P : Addr → Prop} {ca : Am}
theorem repI {H : Hp} {i : Int} {v : V} (r : RepW P X.K ca H (.c (.d (.int i))) v) : v = .int i := r
theorem repS {H : Hp} {z : Str} {v : V} (r : RepW P X.K ca H (.c (.d (.str z))) v) : v = .str z := r
theorem repL {H : Hp} {xs : List D} {v : V} (r : RepW P X.K ca H (.c (.lst xs)) v) : ∃ a vs, v = .ref a ∧ RdL P X.K H a vs ∧ RepDs X.K ca H xs vs := r
/-- a cat of lists that may be read -/
def rCatS (K : PySem.W.Frag) : R2 := fun x y H Q => ∃ l b xs zs, x = .ref l ∧ y = .ref b ∧ SqL K H l xs ∧ SqL K H b zs ∧ xs.length + zs.length ≤ sizeLine ∧ ∀ p, H p = none → Q (.ref p) (upd H p (.lst (xs ++ zs)))
theorem op_catS : OpR X (binaryOp .Add) (rCatS X.K) := by
  intro pins s σ H x y v u Q I rx ry h
  obtain ⟨l, b, xs, zs, rfl, rfl, h1, h2, hz, q⟩ := h
  cases rx
  cases ry
  obtain ⟨its, r, p1, _⟩ := I.list h1
  obtain ⟨its2, r2, p2, _⟩ := I.list h2
  obtain ⟨⟨cls, dd, data, sl⟩, ho, hc, n, hd⟩ := p1.isList
  obtain ⟨⟨cls2, dd2, data2, sl2⟩, ho2, hc2, n2, hd2⟩ := p2.isList
  simp only at hc hd hc2 hd2
  subst hc hd hc2 hd2
  have hl := r.length
  have hl2 := r2.length
  have e : its.toArray ++ its2.toArray = (its ++ its2).toArray := by simp
  refine concat_meets ⟨_, ho, rfl⟩ ⟨_, ho2, rfl⟩ noFill_list_add seq_list_add PySem.F.slot_list_add PySem.F.entry_list_add (PySem.F.args_list_add_2 _ _) (list_addW l b its.toArray its2.toArray n n2 dd dd2 sl sl2 (by simp; omega)) ⟨ho, ho2, ?_⟩
  rw [e]
  exact ⟨.ref _, _, I.lnew (t' := s.toks) (r.append r2) (by rw [List.length_append]; omega), rfl, q _ I.fresh⟩
theorem notLong {n : Nat} (h : n ≤ sizeLine) : Builtin.Str.tooLong n = false := by
  have : ¬ n > 2 ^ 24 := by rw [sizeLine_eq] at h; omega
  simpa [Builtin.Str.tooLong, sizeLine] using this
/-- a text so many times -/
theorem strRep_eq (z : Str) (n : Nat) : (⟨(List.replicate n z.cps).foldl (· ++ ·) #[]⟩ : Str) = strRep z n := by
  have key : ∀ (n : Nat) (a : Array Nat), (List.replicate n z.cps).foldl (· ++ ·) a = a ++ (strRep z n).cps := by
    intro n
    induction n with
    | zero => intro a; show a = a ++ (#[] : Array Nat); simp
    | succ n ih =>
      intro a
      rw [List.replicate_succ, List.foldl_cons, ih]
      show a ++ z.cps ++ (strRep z n).cps = a ++ (z.cps ++ (strRep z n).cps)
      rw [Array.append_assoc]
  have := key n #[]
  rw [Array.empty_append] at this
  rw [this]
def rMulS : R2 := fun x y H Q => ∃ z k, x = .str z ∧ y = .int k ∧ (-4611686018427387904 ≤ k ∧ k < 4611686018427387904) ∧ z.length * k.toNat ≤ sizeLine ∧ Q (.str (strRep z k.toNat)) H
theorem op_mul_str : OpR X (binaryOp .Mult) rMulS := by
  intro pins s σ H x y v u Q I rx ry h
  obtain ⟨z, k, rfl, rfl, ⟨k1, k2⟩, hz, q⟩ := h
  obtain ⟨t, rfl⟩ := rx
  obtain ⟨t', rfl⟩ := ry
  have hl : (sizeLine : Nat) = 16777216 := sizeLine_eq
  have fin : ∀ (z' : Str) (tk tk' : Nat), z' = strRep z k.toNat → EP X pins σ Q (.str z' tk) { s with toks := tk' } := fun z' tk tk' e => by
    subst e
    exact ⟨.str (strRep z k.toNat), H, I.tok _, ⟨_, rfl⟩, q⟩
  refine PySem.P.mul_str (by rw [decide_eq_false (by omega), decide_eq_false (by omega)]; rfl) (fun h1 h2 => ?_) (fun h1 h2 => ?_) ?_
  · have hk : 0 < k := by omega
    have h3 : ((z.length : Int)) * k ≤ 16777216 := by
      have : (z.length * k.toNat : Nat) ≤ 16777216 := by omega
      have e : ((z.length * k.toNat : Nat) : Int) = (z.length : Int) * k := by
        rw [Int.natCast_mul, Int.toNat_of_nonneg (by omega)]
      omega
    have h4 : (z.length : Int) ≤ (2 ^ 63 - 1) / k := by
      rw [Int.le_ediv_iff_mul_le hk]
      omega
    omega
  · exact notLong hz
  · by_cases h1 : k < 1
    · rw [if_pos h1]
      have e : k.toNat = 0 := by omega
      exact ⟨by decide, fin _ _ _ (by rw [e]; rfl)⟩
    · rw [if_neg h1]
      by_cases h2 : (k == 1 || z.length == 0) = true
      · rw [if_pos h2]
        rw [Bool.or_eq_true] at h2
        refine fin _ _ _ ?_
        have hcs : ∀ a b : Str, a.cps = b.cps → a = b := fun a b h => by cases a; cases b; simpa using h
        rcases h2 with h2 | h2
        · have : k = 1 := by simpa using h2
          subst this
          refine hcs _ _ ?_
          show z.cps = z.cps ++ #[]
          simp
        · have hz0 : z.cps = #[] := by
            have h3 : z.length = 0 := by simpa using h2
            have : z.cps.size = 0 := h3
            simpa using this
          have key : ∀ n, (strRep z n).cps = #[] := by
            intro n
            induction n with
            | zero => rfl
            | succ n ih => show z.cps ++ (strRep z n).cps = #[]; rw [ih, hz0]; rfl
          exact hcs _ _ (by rw [key, hz0])
      · rw [if_neg h2]
        exact ⟨PySem.fits_reps (notLong hz), fin _ _ _ (strRep_eq z _)⟩
/-- two values are joined: what the wish must bear -/
def rBin (o : Operator) (K : PySem.W.Frag) : R2 := match o with
  | .Add => fun x y H Q => rI0 (fun i j => .int (i + j)) x y H Q ∨ ((∃ i j, x = .str i ∧ y = .str j ∧ i.length + j.length ≤ sizeLine ∧ Q (.str (i ++ j)) H) ∨ rCatS K x y H Q)
  | .Sub => rI0 fun i j => .int (i - j)
  | .Mult => fun x y H Q => rI CMul (fun i j => .int (i * j)) x y H Q ∨ rMulS x y H Q
  | .FloorDiv => rI CDiv fun i j => .int (i / j)
  | .Mod => rI (fun _ j => 0 < j) fun i j => .int (i % j)
  | .Pow => rI CPow fun i j => .int (i ^ j.toNat)
  | .LShift => rI CPow fun i j => .int (i * 2 ^ j.toNat)
  | .BitAnd => rI0 fun i j => .int (Builtin.bitAnd i j)
  | .BitOr => rI0 fun i j => .int (Builtin.bitOr i j)
  | _ => fun _ _ _ _ => False
theorem op_bin (o : Operator) : OpR X (binaryOp o) (rBin o X.K) := by
  cases o with
  | Add => exact OpR.or op_add (OpR.or op_add_str op_catS)
  | Sub => exact op_sub
  | Mult => exact OpR.or op_mul op_mul_str
  | FloorDiv => exact op_fdiv
  | Mod => exact op_mod
  | Pow => exact op_pow
  | LShift => exact op_shl
  | BitAnd => exact op_and
  | BitOr => exact op_or
  | _ => intro pins s σ H x y v u Q I rx ry h; exact False.elim h
theorem pow62 : (2 : Int) ^ 62 = 4611686018427387904 := by decide
theorem pow64 : (2 : Int) ^ 64 = 18446744073709551616 := by decide
theorem bin_ok {o : Operator} {a b : W} {w : W} {k : Kd} {H0 H : Hp} {x y : V} {ρ : L2.St} {Q : VK} (s0 : Same H0 H) (ra : RepW (fun _ => True) X.K ca H a x) (rb : RepW (fun _ => True) X.K ca H b y) (h : bin o a b = some (.ok (w, k)))
    (q : ∀ v H', Same H H' → RepV P X.K ca ρ H0 H' w k v → Q v H') : rBin o X.K x y H Q := by
  unfold bin at h
  split at h
  · rename_i i j
    have ex := repI ra
    have ey := repI rb
    subst ex ey
    have fin : ∀ n : Int, (W.int n, Kd.ro) = (w, k) → Q (.int n) H := fun n e => by
      cases e
      exact q _ H (fun _ _ z => z) (.ofD rfl)
    unfold binI at h
    split at h
    · exact .inl ⟨i, j, rfl, rfl, fin _ (ok_inj h)⟩
    · exact ⟨i, j, rfl, rfl, fin _ (ok_inj h)⟩
    · obtain ⟨c, h⟩ := guardP_ok h
      exact .inl ⟨i, j, rfl, rfl, by unfold CMul; rw [pow64]; exact c, fin _ (ok_inj h)⟩
    · obtain ⟨c, h⟩ := guardP_ok h
      exact ⟨i, j, rfl, rfl, c, fin _ (ok_inj h)⟩
    · obtain ⟨c, h⟩ := guardP_ok h
      exact ⟨i, j, rfl, rfl, c, fin _ (ok_inj h)⟩
    · obtain ⟨c, h⟩ := guardP_ok h
      exact ⟨i, j, rfl, rfl, ⟨c.1, c.2.1, c.2.2⟩, fin _ (ok_inj h)⟩
    · obtain ⟨c, h⟩ := guardP_ok h
      exact ⟨i, j, rfl, rfl, ⟨c.1, c.2.1, c.2.2⟩, fin _ (ok_inj h)⟩
    · exact ⟨i, j, rfl, rfl, fin _ (ok_inj h)⟩
    · exact ⟨i, j, rfl, rfl, fin _ (ok_inj h)⟩
    · cases h
  · rename_i i j
    have ex := repS ra
    have ey := repS rb
    subst ex ey
    split at h
    · rename_i eo
      subst eo
      obtain ⟨c, h⟩ := guardN_ok h
      have e := ok_inj h
      cases e
      exact .inr (.inl ⟨i, j, rfl, rfl, c, q _ H (fun _ _ z => z) (.ofD rfl)⟩)
    · cases h
  · rename_i z k0
    have ex := repS ra
    have ey := repI rb
    subst ex ey
    split at h
    · rename_i eo
      subst eo
      obtain ⟨⟨c1, c2, c3⟩, h⟩ := guardP_ok h
      have e := ok_inj h
      cases e
      exact .inr ⟨z, k0, rfl, rfl, ⟨c1, c2⟩, c3, q _ H (fun _ _ z => z) (.ofD rfl)⟩
    · cases h
  · rename_i xs ys
    obtain ⟨l, vs, e1, h1, r1⟩ := repL ra
    obtain ⟨m, us, e2, h2, r2⟩ := repL rb
    subst e1 e2
    split at h
    · rename_i eo
      subst eo
      obtain ⟨c, h⟩ := guardN_ok h
      have e := ok_inj h
      cases e
      refine .inr (.inr ⟨l, m, vs, us, rfl, rfl, h1.seq, h2.seq, by rw [r1.length, r2.length]; exact c, fun p np => ?_⟩)
      exact q _ _ (Same.upd np) (.ofL (.of_same (s0.trans (Same.upd np))) np s0 (r1.app r2))
    · cases h
  · cases h
/-- comparisons -/
def rCmp (o : CmpOp) (K : PySem.W.Frag) : R2 := match o with
  | .Eq => fun x y H Q => rEq x y H Q ∨ rEqD K x y H Q
  | .NotEq => fun x y H Q => rNe x y H Q ∨ rNeD K x y H Q
  | .Lt => rI0 fun i j => .bl (decide (i < j))
  | .LtE => rI0 fun i j => .bl (decide (i ≤ j))
  | .Gt => rI0 fun i j => .bl (decide (j < i))
  | .GtE => rI0 fun i j => .bl (decide (j ≤ i))
  | .Is => fun x y H Q => y = .non ∧ Q (.bl (decide (x = .non))) H
  | .IsNot => fun x y H Q => y = .non ∧ Q (.bl (!decide (x = .non))) H
  | _ => fun _ _ _ _ => False
theorem op_cmp (hu : X.A.units + 64 < cLine) (o : CmpOp) : OpR X (compareOp o) (rCmp o X.K) := by
  cases o with
  | Eq => exact OpR.or op_eq (op_eqD hu)
  | NotEq => exact OpR.or op_ne (op_neD hu)
  | Lt => exact op_lt
  | LtE => exact op_le
  | Gt => exact op_gt
  | GtE => exact op_ge
  | Is => exact op_isN
  | IsNot => exact op_notN
  | _ => intro pins s σ H x y v u Q I rx ry h; exact False.elim h
theorem dp_of {H : Hp} {a : W} {v : V} {x : PyData} (r : RepW P X.K ca H a v) (h : wPy a = some x) : Dp X.K H v x := by
  unfold wPy at h
  split at h
  · split at h
    · rename_i k; cases h; exact RepD.dp k r
    · cases h
  · split at h
    · rename_i k
      cases h
      obtain ⟨a, vs, e, q, r2⟩ := repL r
      subst e
      exact .lst q.seq (r2.dp k)
    · cases h
  · cases h
theorem eqW_ok {H : Hp} {a b : W} {u v : V} {k : Bool} (ra : RepW P X.K ca H a u) (rb : RepW P X.K ca H b v) (h : eqW a b = some (.ok k)) : ∃ d e, Dp X.K H u d ∧ Dp X.K H v e ∧ SeqAt.shaped d = true ∧ SeqAt.shaped e = true ∧ PyData.eqv d e = k := by
  unfold eqW at h
  split at h
  · rename_i x y ex ey
    obtain ⟨⟨c1, c2⟩, h⟩ := guardP_ok h
    exact ⟨x, y, dp_of ra ex, dp_of rb ey, c1, c2, ok_inj h⟩
  · cases h
theorem isNon_rep {H : Hp} {a : W} {v : V} (r : RepW P X.K ca H a v) : decide (v = .non) = isNonW a := by
  unfold isNonW
  split
  · have e : v = V.non := r
    subst e; rfl
  · rename_i hn
    refine decide_eq_false fun e => ?_
    subst e
    cases a with
    | obj c fs => obtain ⟨_, _, _, e, _⟩ := r; cases e
    | c x => cases x with
      | lst xs => obtain ⟨_, _, e, _⟩ := r; cases e
      | dK xs => obtain ⟨_, _, e, _⟩ := r; cases e
      | dT xs => obtain ⟨_, _, e, _⟩ := r; cases e
      | d x => cases x with
        | non => exact hn rfl
        | bl b => cases (show V.non = V.bl b from r)
        | int b => cases (show V.non = V.int b from r)
        | str b => cases (show V.non = V.str b from r)
        | tup xs =>
          obtain ⟨a, vs, e, _⟩ : ∃ a vs, V.non = .ref a ∧ SqT X.K H a vs ∧ RepDs X.K ca H xs vs := r
          cases e
        | fl xs =>
          obtain ⟨a, o, vs, e, _⟩ : ∃ a o vs, V.non = .ref a ∧ H a = some (.frz o (.lst vs)) ∧ RepDs X.K ca H xs vs := r
          cases e
        | ref n =>
          obtain ⟨a, _, e⟩ : ∃ a, ca.i[n]? = some a ∧ V.non = .ref a := r
          cases e
theorem cmp_ok {o : CmpOp} {H : Hp} {a b : W} {u v : V} {k : Bool} {Q : VK} (ra : RepW (fun _ => True) X.K ca H a u) (rb : RepW (fun _ => True) X.K ca H b v) (h : cmp o a b = some (.ok k)) (q : Q (.bl k) H) : rCmp o X.K u v H Q := by
  unfold cmp at h
  split at h
  · rename_i i j
    have ex := repI ra
    have ey := repI rb
    subst ex ey
    unfold cmpI at h
    cases o with
    | Lt => simp only [Option.map_some, Option.some.injEq, RE.ok.injEq] at h; subst h; exact ⟨i, j, rfl, rfl, q⟩
    | LtE => simp only [Option.map_some, Option.some.injEq, RE.ok.injEq] at h; subst h; exact ⟨i, j, rfl, rfl, q⟩
    | Gt => simp only [Option.map_some, Option.some.injEq, RE.ok.injEq] at h; subst h; exact ⟨i, j, rfl, rfl, q⟩
    | GtE => simp only [Option.map_some, Option.some.injEq, RE.ok.injEq] at h; subst h; exact ⟨i, j, rfl, rfl, q⟩
    | Eq => 
      simp only [Option.map_some, Option.some.injEq, RE.ok.injEq] at h; subst h
      refine .inl ⟨rfl, ?_⟩
      have e : decide (V.int i = V.int j) = decide (i = j) := by by_cases z : i = j <;> simp [z]
      rw [e]; exact q
    | NotEq => 
      simp only [Option.map_some, Option.some.injEq, RE.ok.injEq] at h; subst h
      refine .inl ⟨rfl, ?_⟩
      have e : decide (V.int i = V.int j) = decide (i = j) := by by_cases z : i = j <;> simp [z]
      rw [e]; exact q
    | _ => simp at h
  · rename_i i j
    have ex := repS ra
    have ey := repS rb
    subst ex ey
    unfold cmpS at h
    cases o with
    | Eq => 
      simp only [Option.map_some, Option.some.injEq, RE.ok.injEq] at h; subst h
      refine .inl ⟨rfl, ?_⟩
      have e : decide (V.str i = V.str j) = decide (i = j) := by by_cases z : i = j <;> simp [z]
      rw [e]; exact q
    | NotEq => 
      simp only [Option.map_some, Option.some.injEq, RE.ok.injEq] at h; subst h
      refine .inl ⟨rfl, ?_⟩
      have e : decide (V.str i = V.str j) = decide (i = j) := by by_cases z : i = j <;> simp [z]
      rw [e]; exact q
    | _ => simp at h
  · have e : v = V.non := rb
    subst e
    refine ⟨rfl, ?_⟩
    rw [isNon_rep ra, ok_inj h]; exact q
  · have e : v = V.non := rb
    subst e
    refine ⟨rfl, ?_⟩
    rw [isNon_rep ra, ok_inj h]; exact q
  · obtain ⟨d, e, h1, h2, h3, h4, h5⟩ := eqW_ok ra rb h
    exact .inr ⟨d, e, h1, h2, h3, h4, by rw [h5]; exact q⟩
  · obtain ⟨c, h0, h⟩ := bind_ok h
    obtain ⟨d, e, h1, h2, h3, h4, h5⟩ := eqW_ok ra rb h0
    refine .inr ⟨d, e, h1, h2, h3, h4, ?_⟩
    rw [h5, ok_inj h]; exact q
  · cases h
/-! ### subscripts -/
theorem atI_get' {α β : Type} {R : β → Prop} {xs : List α} {ys : List β} {i : Int} {x : α} (hl : ys.length = xs.length) (h : atI xs i = some x) (g : ∀ j : Nat, xs[j]? = some x → ∃ y, ys[j]? = some y ∧ R y) : ∃ y, atI ys i = some y ∧ R y := by
  unfold atI at h ⊢
  rw [hl]
  cases e : ixN xs.length i with
  | none => rw [e] at h; simp at h
  | some j =>
    rw [e] at h
    exact g j (by simpa using h)
theorem ix_ok {a b : W} {w : W} {k : Kd} {H0 H : Hp} {x y : V} {ρ : L2.St} {Q : VK} (ra : RepW (fun _ => True) X.K ca H a x) (rb : RepW (fun _ => True) X.K ca H b y) (h : ix a b = some (.ok (w, k)))
    (q : ∀ v, RepV P X.K ca ρ H0 H w k v → Q v H) : rIx X.K x y H Q := by
  unfold ix at h
  split at h
  · rename_i xs i
    obtain ⟨l, vs, e1, h1, r1⟩ := repL ra
    have ey := repI rb
    subst e1 ey
    split at h
    · rename_i x e
      have e' := ok_inj h
      cases e'
      obtain ⟨y, q1, q2⟩ := atI_get' (R := fun y => RepD X.K ca H x y) r1.length e fun j hj => r1.get hj
      exact .inl ⟨l, vs, i, y, rfl, rfl, h1.seq, q1, q y (.ofD q2)⟩
    · cases h
  · rename_i xs i
    obtain ⟨l, vs, e1, h1, r1⟩ : ∃ a vs, x = .ref a ∧ SqT X.K H a vs ∧ RepDs X.K ca H xs vs := ra
    have ey := repI rb
    subst e1 ey
    split at h
    · rename_i x e
      have e' := ok_inj h
      cases e'
      obtain ⟨y, q1, q2⟩ := atI_get' (R := fun y => RepD X.K ca H x y) r1.length e fun j hj => r1.get hj
      exact .inr (.inl ⟨l, vs, i, y, rfl, rfl, h1, q1, q y (.ofD q2)⟩)
    · cases h
  · rename_i z i
    have ex := repS ra
    have ey := repI rb
    subst ex ey
    obtain ⟨c, h⟩ := guardN_ok h
    split at h
    · rename_i x e
      have e' := ok_inj h
      cases e'
      exact .inr (.inr ⟨z, i, x, rfl, rfl, c, e, q _ (.ofD rfl)⟩)
    · cases h
  · cases h
def rSlE (K : PySem.W.Frag) : V → Option Int → Option Int → Hp → VK → Prop := fun x lo hi H Q => rSlL K x lo hi H Q ∨ rSlS x lo hi H Q ∨ L2.rSlA K x lo hi H Q
theorem sl_any : SlR X (rSlE X.K) := SlR.or sl_list (SlR.or sl_str sl_tupA)
theorem RepDs.cut {K : PySem.W.Frag} {H : Hp} {xs : List D} {vs : List V} (r : RepDs K ca H xs vs) (lo hi : Option Int) : RepDs K ca H (cutD xs lo hi) (cutV vs lo hi) := by
  unfold cutD cutV
  rw [r.length]
  exact (r.drop _).take _
theorem sl_ok {a : W} {lo hi : Option Int} {w : W} {k : Kd} {H0 H : Hp} {x : V} {ρ : L2.St} {Q : VK} (s0 : Same H0 H) (ra : RepW (fun _ => True) X.K ca H a x) (h : sl a lo hi = some (.ok (w, k)))
    (q : ∀ v H', Same H H' → RepV P X.K ca ρ H0 H' w k v → Q v H') : rSlE X.K x lo hi H Q := by
  unfold sl at h
  split at h
  · rename_i xs
    obtain ⟨l, vs, e1, h1, r1⟩ := repL ra
    subst e1
    have e := ok_inj h
    cases e
    exact .inl ⟨l, vs, rfl, h1.seq, fun p np => q _ _ (Same.upd np) (.ofL (.of_same (s0.trans (Same.upd np))) np s0 (r1.cut _ _))⟩
  · rename_i z
    have ex := repS ra
    subst ex
    obtain ⟨c, h⟩ := guardN_ok h
    have e := ok_inj h
    cases e
    exact .inr (.inl ⟨z, rfl, c, q _ _ (fun _ _ z => z) (.ofD rfl)⟩)
  · rename_i xs
    obtain ⟨l, vs, e1, h1, r1⟩ : ∃ l vs, x = .ref l ∧ SqT X.K H l vs ∧ RepDs X.K ca H xs vs := ra
    subst e1
    have e := ok_inj h
    cases e
    refine .inr (.inr ⟨l, vs, rfl, h1, fun hw => ?_, fun _ p np => q _ _ (Same.upd np) (.ofD ⟨p, _, rfl, .inl (.inl upd_same), (r1.cut _ _).mono (.of_same (Same.upd np))⟩)⟩)
    have hc : cutV vs lo hi = vs := by
      unfold cutV
      rw [hw.1, hw.2]
      simp
    have r2 := r1.cut lo hi
    rw [hc] at r2
    exact q _ _ (fun _ _ z => z) (.ofD ⟨l, vs, rfl, h1, r2⟩)
  · cases h
end
end Ev
/-! Ev4: built-ins, what is walked, comprehensions, calls. -/
namespace Ev
open PySem PySem.Spec
open PyProof.Rows hiding St
open L2

section
variable {X : Cx} {P : Addr → Prop} {ca : Am}
/-! ### built-in functions -/
theorem len_S : CallR X (.builtin "len") (fun xs H Q => ((∃ p ys, xs = [.ref p] ∧ (SqL X.K H p ys ∨ SqT X.K H p ys) ∧ Q (.int ys.length) H) ∨ ∃ z, xs = [.str z] ∧ z.length ≤ sizeLine ∧ Q (.int z.length) H)) := CallR.or call_len_seq call_len_str
def rBlt (f : B) (K : PySem.W.Frag) : List V → Hp → VK → Prop := match f with
  | .len => fun xs H Q => ((∃ p ys, xs = [.ref p] ∧ (SqL K H p ys ∨ SqT K H p ys) ∧ Q (.int ys.length) H) ∨ ∃ z, xs = [.str z] ∧ z.length ≤ sizeLine ∧ Q (.int z.length) H)
  | .list => fun xs H Q => ∃ p ys, xs = [.ref p] ∧ (SqL K H p ys ∨ SqT K H p ys) ∧ ∀ l, H l = none → Q (.ref l) (upd H l (.lst ys))
  | .sum => rSum K
  | .int => fun xs H Q => (∃ i, xs = [.int i] ∧ Q (.int i) H) ∨ ∃ k, xs = [.bl k] ∧ Q (.int (if k then 1 else 0)) H
  | .all => rAll K
  | .any => rAny K
  | .min => fun xs H Q => ∃ i j, xs = [.int i, .int j] ∧ Q (.int (if j < i then j else i)) H
  | .max => fun xs H Q => ∃ i j, xs = [.int i, .int j] ∧ Q (.int (if j > i then j else i)) H
theorem gl_of {sc : Scope} {x : Str} (hs : X.env.scope = sc) (h : glB sc x = true) : Gl X x := by
  unfold glB at h
  unfold Gl Env.kindOf
  rw [hs]
  split at h <;> first | assumption | cases h
theorem vis_of {sc : Scope} {x : Str} (hs : X.env.scope = sc) (h : visB sc x = true) : Vis X.env.scope x := by
  unfold visB at h
  rw [hs]
  unfold Vis
  split at h <;> first | exact .inl (by assumption) | exact .inr (.inl (by assumption)) | exact .inr (.inr (by assumption)) | cases h
theorem loc_of {sc : Scope} {x : Str} (hs : X.env.scope = sc) (h : locB sc x = true) : L2.Loc X.env.scope x := by
  unfold locB at h
  rw [hs]
  unfold L2.Loc
  split at h <;> first | exact .inl (by assumption) | exact .inr (by assumption) | cases h
theorem bln_of {bl : List Str} {x : Str} (hb : ∀ y ∈ bl, X.mg y = none) (h : bl.contains x = true) : X.mg x = none := hb x (by simpa using h)
theorem pe_blt {bl N sc} {f : B} {x : Str} {p pos : Pos} {e : E} {es : Es} {y : Expr} {l : List Expr} (C : Cok bl sc X) (hx : f.name = x) (hg : glB sc x = true) (hb : bl.contains x = true) (h : chks bl N sc (.cons e es) (y :: l) = true) :
    PE X (.Call (.Name x p) (y :: l) [] pos) (tCB (rBlt f X.K) (wpA X (y :: l))) := by
  have h' : chk bl N sc e y = true ∧ chks bl N sc es l = true := by simpa [chks] using h
  have g := gl_of C.scope hg
  have m := bln_of C.bln hb
  subst hx
  cases f with
  | len => exact pe_callB len_S g m PySem.boot_len pa_wp (by decide +kernel) (by decide +kernel) (star_of h'.1 _ _) (noback h'.2 _ _)
  | list => exact pe_callTy call_list_of g m (by decide +kernel) pa_wp (by decide +kernel) (by decide +kernel) (star_of h'.1 _ _) (noback h'.2 _ _)
  | sum => exact pe_callB (cr_sum C.calm) g m (by decide +kernel) pa_wp (by decide +kernel) (by decide +kernel) (star_of h'.1 _ _) (noback h'.2 _ _)
  | int => exact pe_callTy call_int1 g m (by decide +kernel) pa_wp (by decide +kernel) (by decide +kernel) (star_of h'.1 _ _) (noback h'.2 _ _)
  | all => exact pe_callB (cr_all C.calm) g m (by decide +kernel) pa_wp (by decide +kernel) (by decide +kernel) (star_of h'.1 _ _) (noback h'.2 _ _)
  | any => exact pe_callB (cr_any C.calm) g m (by decide +kernel) pa_wp (by decide +kernel) (by decide +kernel) (star_of h'.1 _ _) (noback h'.2 _ _)
  | min => exact pe_callB (call_min2 C.calm) g m (by decide +kernel) pa_wp (by decide +kernel) (by decide +kernel) (star_of h'.1 _ _) (noback h'.2 _ _)
  | max => exact pe_callB (call_max2 C.calm) g m (by decide +kernel) pa_wp (by decide +kernel) (by decide +kernel) (star_of h'.1 _ _) (noback h'.2 _ _)
theorem repWs1 {H : Hp} {w : W} {vs : List V} (r : RepWs X.K ca H [w] vs) : ∃ v, vs = [v] ∧ RepW (fun _ => True) X.K ca H w v := by
  obtain ⟨v, q, e, h, h2⟩ := r
  have : q = [] := h2
  subst this
  exact ⟨v, e, h⟩
theorem repWs2 {H : Hp} {w w' : W} {vs : List V} (r : RepWs X.K ca H [w, w'] vs) : ∃ v v', vs = [v, v'] ∧ RepW (fun _ => True) X.K ca H w v ∧ RepW (fun _ => True) X.K ca H w' v' := by
  obtain ⟨v, q, e, h, h2⟩ := r
  obtain ⟨v', e', h'⟩ := repWs1 (X := X) h2
  subst e'
  exact ⟨v, v', e, h, h'⟩
theorem intsD_rep {K : PySem.W.Frag} {H : Hp} : ∀ {xs : List D} {ns : List Int} {vs : List V}, intsD xs = some ns → RepDs K ca H xs vs → vs = ns.map V.int
  | [], ns, vs, h, r => by
    unfold RepDs at r
    subst r
    have : ns = [] := by simpa [intsD] using h.symm
    subst this; rfl
  | x :: xs, ns, vs, h, r => by
    unfold RepDs at r
    obtain ⟨v, q, e, h1, h2⟩ := r
    subst e
    cases x with
    | int i =>
      have e1 : v = V.int i := h1
      subst e1
      cases e2 : intsD xs with
      | none => simp [intsD, e2] at h
      | some ms =>
        have : ns = i :: ms := by simpa [intsD, e2] using h.symm
        subst this
        rw [intsD_rep e2 h2]
        rfl
    | _ => simp [intsD] at h
theorem strsD_rep {K : PySem.W.Frag} {H : Hp} : ∀ {xs : List D} {ns : List Str} {vs : List V}, strsD xs = some ns → RepDs K ca H xs vs → vs = ns.map V.str
  | [], ns, vs, h, r => by
    unfold RepDs at r
    subst r
    have : ns = [] := by simpa [strsD] using h.symm
    subst this; rfl
  | x :: xs, ns, vs, h, r => by
    unfold RepDs at r
    obtain ⟨v, q, e, h1, h2⟩ := r
    subst e
    cases x with
    | str i =>
      have e1 : v = V.str i := h1
      subst e1
      cases e2 : strsD xs with
      | none => simp [strsD, e2] at h
      | some ms =>
        have : ns = i :: ms := by simpa [strsD, e2] using h.symm
        subst this
        rw [strsD_rep e2 h2]
        rfl
    | _ => simp [strsD] at h
theorem boolsD_rep {K : PySem.W.Frag} {H : Hp} : ∀ {xs : List D} {ns : List Bool} {vs : List V}, boolsD xs = some ns → RepDs K ca H xs vs → vs = ns.map V.bl
  | [], ns, vs, h, r => by
    unfold RepDs at r
    subst r
    have : ns = [] := by simpa [boolsD] using h.symm
    subst this; rfl
  | x :: xs, ns, vs, h, r => by
    unfold RepDs at r
    obtain ⟨v, q, e, h1, h2⟩ := r
    subst e
    cases x with
    | bl i =>
      have e1 : v = V.bl i := h1
      subst e1
      cases e2 : boolsD xs with
      | none => simp [boolsD, e2] at h
      | some ms =>
        have : ns = i :: ms := by simpa [boolsD, e2] using h.symm
        subst this
        rw [boolsD_rep e2 h2]
        rfl
    | _ => simp [boolsD] at h
theorem blt_ok {f : B} {ws : List W} {vs : List V} {w : W} {k : Kd} {H0 H : Hp} {ρ : L2.St} {Q : VK} (s0 : Same H0 H) (r : RepWs X.K ca H ws vs) (h : blt f ws = some (.ok (w, k)))
    (q : ∀ v H', Same H H' → RepV P X.K ca ρ H0 H' w k v → Q v H') : rBlt f X.K vs H Q := by
  have fin : ∀ n : Int, vI n = some (.ok (w, k)) → Q (.int n) H := fun n e => by
    have e' := ok_inj e
    cases e'
    exact q _ H (fun _ _ z => z) (.ofD rfl)
  have finB : ∀ b : Bool, vB b = some (.ok (w, k)) → Q (.bl b) H := fun n e => by
    have e' := ok_inj e
    cases e'
    exact q _ H (fun _ _ z => z) (.ofD rfl)
  unfold blt at h
  split at h
  · obtain ⟨v, e, r1⟩ := repWs1 (X := X) r
    obtain ⟨a, us, e1, h1, r2⟩ := repL r1
    subst e e1
    exact .inl ⟨a, us, rfl, .inl h1.seq, fin _ (by rw [r2.length]; exact h)⟩
  · obtain ⟨v, e, r1⟩ := repWs1 (X := X) r
    obtain ⟨a, us, e1, h1, r2⟩ : ∃ a vs, v = .ref a ∧ SqT X.K H a vs ∧ RepDs X.K ca H _ vs := r1
    subst e e1
    exact .inl ⟨a, us, rfl, .inr h1, fin _ (by rw [r2.length]; exact h)⟩
  · obtain ⟨v, e, r1⟩ := repWs1 (X := X) r
    have e1 := repS r1
    subst e e1
    obtain ⟨c, h⟩ := guardN_ok h
    exact .inr ⟨_, rfl, c, fin _ h⟩
  · obtain ⟨v, e, r1⟩ := repWs1 (X := X) r
    obtain ⟨a, us, e1, h1, r2⟩ := repL r1
    subst e e1
    have e' := ok_inj h
    cases e'
    exact ⟨a, us, rfl, .inl h1.seq, fun p np => q _ _ (Same.upd np) (.ofL (.of_same (s0.trans (Same.upd np))) np s0 r2)⟩
  · obtain ⟨v, e, r1⟩ := repWs1 (X := X) r
    obtain ⟨a, us, e1, h1, r2⟩ : ∃ a vs, v = .ref a ∧ SqT X.K H a vs ∧ RepDs X.K ca H _ vs := r1
    subst e e1
    have e' := ok_inj h
    cases e'
    exact ⟨a, us, rfl, .inr h1, fun p np => q _ _ (Same.upd np) (.ofL (.of_same (s0.trans (Same.upd np))) np s0 r2)⟩
  · obtain ⟨v, e, r1⟩ := repWs1 (X := X) r
    obtain ⟨a, us, e1, h1, r2⟩ := repL r1
    subst e e1
    split at h
    · rename_i ns en
      have e2 := intsD_rep en r2
      subst e2
      exact ⟨a, ns, rfl, h1.seq, fin _ h⟩
    · cases h
  · obtain ⟨v, e, r1⟩ := repWs1 (X := X) r
    obtain ⟨a, us, e1, h1, r2⟩ := repL r1
    subst e e1
    split at h
    · rename_i ns en
      have e2 := boolsD_rep en r2
      subst e2
      exact ⟨a, ns, rfl, h1.seq, finB _ h⟩
    · cases h
  · obtain ⟨v, e, r1⟩ := repWs1 (X := X) r
    obtain ⟨a, us, e1, h1, r2⟩ := repL r1
    subst e e1
    split at h
    · rename_i ns en
      have e2 := boolsD_rep en r2
      subst e2
      exact ⟨a, ns, rfl, h1.seq, finB _ h⟩
    · cases h
  · obtain ⟨v, e, r1⟩ := repWs1 (X := X) r
    have e1 := repI r1
    subst e e1
    exact .inl ⟨_, rfl, fin _ h⟩
  · obtain ⟨v, e, r1⟩ := repWs1 (X := X) r
    have e1 : v = V.bl _ := r1
    subst e e1
    exact .inr ⟨_, rfl, fin _ h⟩
  · obtain ⟨v, v', e, r1, r2⟩ := repWs2 (X := X) r
    have e1 := repI r1
    have e2 := repI r2
    subst e e1 e2
    exact ⟨_, _, rfl, fin _ h⟩
  · obtain ⟨v, v', e, r1, r2⟩ := repWs2 (X := X) r
    have e1 := repI r1
    have e2 := repI r2
    subst e e1 e2
    exact ⟨_, _, rfl, fin _ h⟩
  · cases h
/-! ### isinstance -/
theorem kitT (a : String) (t : Ty) (b : Bool) (h : (match t with | .int => kitB a "int" | .bool => kitB a "bool" | .str => kitB a "str" | .list => kitB a "list" | .tuple => kitB a "tuple" | .dict => kitB a "dict") = some b) (K : PySem.W.Frag) :
    ∃ u, RelV (.ty (match t with | .int => "int" | .bool => "bool" | .str => "str" | .list => "list" | .tuple => "tuple" | .dict => "dict")) u ∧ ClsV (.ty (match t with | .int => "int" | .bool => "bool" | .str => "str" | .list => "list" | .tuple => "tuple" | .dict => "dict")) u ∧ PySem.W.kitOne K (.type a) u = some b := by
  cases t <;> exact ⟨_, rfl, .ty _, kit_ty h⟩
def Ty.s : Ty → String
  | .int => "int" | .bool => "bool" | .str => "str" | .list => "list" | .tuple => "tuple" | .dict => "dict"
theorem ty_name (t : Ty) : t.name = (t.s : Str) := by cases t <;> rfl
theorem boot_ty (t : Ty) : bootBuiltins t.name = some (.type t.s) := by cases t <;> decide +kernel
theorem ty_ne (t : Ty) : t.name ≠ "__name__" := by cases t <;> decide +kernel
theorem ty_nd (t : Ty) : (t.name == ("__debug__" : Str)) = false := by cases t <;> decide +kernel
theorem isi_ok {t : Ty} {w : W} {v : V} {H : Hp} {b : Bool} (r : RepW (fun _ => True) X.K ca H w v) (h : isiW t w = some b) : ∃ a, TyX X.K H v (.type a) ∧ kitB a t.s = some b := by
  have k1 : kitB "NoneType" t.s = some false := by cases t <;> decide +kernel
  have k2 : kitB "bool" t.s = some (t == .int || t == .bool) := by cases t <;> decide +kernel
  have k3 : kitB "int" t.s = some (t == .int) := by cases t <;> decide +kernel
  have k4 : kitB "str" t.s = some (t == .str) := by cases t <;> decide +kernel
  have k5 : kitB "tuple" t.s = some (t == .tuple) := by cases t <;> decide +kernel
  have k6 : kitB "list" t.s = some (t == .list) := by cases t <;> decide +kernel
  unfold isiW at h
  split at h
  · cases h
    have e : v = V.non := r
    subst e
    exact ⟨_, .base .non, k1⟩
  · cases h
    have e : v = V.bl _ := r
    subst e
    exact ⟨_, .base (.bl _), k2⟩
  · cases h
    have e : v = V.int _ := r
    subst e
    exact ⟨_, .base (.int _), k3⟩
  · cases h
    have e : v = V.str _ := r
    subst e
    exact ⟨_, .base (.str _), k4⟩
  · cases h
    obtain ⟨a, us, e1, h1, r2⟩ : ∃ a vs, v = .ref a ∧ SqT X.K H a vs ∧ RepDs X.K ca H _ vs := r
    subst e1
    refine ⟨_, ?_, k5⟩
    rcases h1 with (h1 | ⟨o, h1⟩) | ⟨o, its, n, h1, h2, _⟩
    · exact .base (.tup h1)
    · exact .fTuple h1
    · exact .kTuple h1 h2
  · cases h
    obtain ⟨a, us, e1, h1, r2⟩ := repL (RepW.un r)
    subst e1
    refine ⟨_, ?_, k6⟩
    rcases h1.seq with (h1 | ⟨o, h1⟩) | ⟨o, its, n, h1, h2, _⟩
    · exact .base (.lst h1)
    · exact .base (.frz h1)
    · exact .kList h1 h2
  · cases h
    obtain ⟨a, us, e1, h1, r2⟩ := repL r
    subst e1
    refine ⟨_, ?_, k6⟩
    rcases h1.seq with (h1 | ⟨o, h1⟩) | ⟨o, its, n, h1, h2, _⟩
    · exact .base (.lst h1)
    · exact .base (.frz h1)
    · exact .kList h1 h2
  · cases h
/-! ### tuples and lists written out -/
theorem mapD_rep {H : Hp} : ∀ {ws : List W} {xs : List D} {vs : List V}, (ws.mapM wD) = some xs → RepWs X.K ca H ws vs → RepDs X.K ca H xs vs
  | [], xs, vs, h, r => by
    have : xs = [] := by simpa using h.symm
    subst this
    exact r
  | w :: ws, xs, vs, h, r => by
    obtain ⟨v, q, e, h1, h2⟩ := r
    subst e
    rw [List.mapM_cons] at h
    cases w with
    | obj => simp [wD] at h
    | c x =>
      cases x with
      | d x =>
        cases e2 : (ws.mapM wD) with
        | none => simp [wD, e2] at h
        | some ys =>
          have : xs = x :: ys := by simpa [wD, e2] using h.symm
          subst this
          exact .cons h1 (mapD_rep e2 h2)
      | _ => simp [wD] at h
end
/-! ### what is walked -/
/-- the iterator J walks xs wherever its sources stand -/
def ItOk (K : PySem.W.Frag) (J : L2.It) (xs : List D) (ws : List W) (vs : List V) : Prop :=
  ∀ (ca : Am) (H1 : Hp), RepWs K ca H1 ws vs → (∀ i x, xs[i]? = some x → J.go i H1 ∧ ∀ v H2, J.yld i H1 v H2 → Same H1 H2 ∧ RepD K ca H2 x v) ∧ J.stop xs.length H1
section
variable {K : PySem.W.Frag} {ca : Am}
theorem itl_ok {H : Hp} {xs : List D} {a : Addr} : ItOk K (Itl K a) xs [.c (.lst xs)] [.ref a] := fun ca H1 r => by
  obtain ⟨v, q, e, ⟨b, vs, e1, h1, r1⟩, h2⟩ := r
  cases e
  cases e1
  refine ⟨fun i x hx => ?_, vs, h1.seq, by rw [r1.length]; exact Nat.le_refl _⟩
  obtain ⟨y, hy, ry⟩ := r1.get hx
  refine ⟨⟨vs, y, h1.seq, hy⟩, fun v H2 z => ?_⟩
  obtain ⟨rfl, z⟩ := z
  have : vs[i]? = some v := z vs h1.seq
  rw [hy] at this
  cases this
  exact ⟨fun _ _ z => z, ry⟩
theorem itv_ok {xs : List D} {a : Addr} {n : Nat} (hn : n = xs.length) : ItOk K (Itv K a n) xs.reverse [.c (.lst xs)] [.ref a] := fun ca H1 r => by
  obtain ⟨v, q, e, ⟨b, vs, e1, h1, r1⟩, h2⟩ := r
  cases e
  cases e1
  subst hn
  refine ⟨fun i x hx => ?_, by simp [Itv]⟩
  have hi : i < xs.length := by
    have := (List.getElem?_eq_some_iff.mp hx).1
    simpa using this
  have hx' : xs[xs.length - 1 - i]? = some x := by rw [List.getElem?_reverse hi] at hx; exact hx
  obtain ⟨y, hy, ry⟩ := r1.get hx'
  refine ⟨⟨hi, vs, y, h1.seq, hy⟩, fun v H2 z => ?_⟩
  obtain ⟨rfl, z⟩ := z
  have : vs[xs.length - 1 - i]? = some v := z vs h1.seq
  rw [hy] at this
  cases this
  exact ⟨fun _ _ z => z, ry⟩
theorem itt_ok {xs : List D} {a : Addr} : ItOk K (Itt K a) xs [.c (.d (.tup xs))] [.ref a] := fun ca H1 r => by
  obtain ⟨v, q, e, h0, h2⟩ := r
  obtain ⟨b, vs, e1, h1, r1⟩ : ∃ a vs, v = .ref a ∧ SqT K H1 a vs ∧ RepDs K ca H1 xs vs := h0
  cases e
  cases e1
  refine ⟨fun i x hx => ?_, vs, h1, by rw [r1.length]; exact Nat.le_refl _⟩
  obtain ⟨y, hy, ry⟩ := r1.get hx
  refine ⟨⟨vs, y, h1, hy⟩, fun v H2 z => ?_⟩
  obtain ⟨rfl, z⟩ := z
  have : vs[i]? = some v := z vs h1
  rw [hy] at this
  cases this
  exact ⟨fun _ _ z => z, ry⟩
theorem its_ok {z : Str} : ItOk K (Its z) (z.cps.toList.map fun c => .str ⟨#[c]⟩) [] [] := fun ca H1 _ => by
  refine ⟨fun i x hx => ?_, ?_⟩
  · rw [List.getElem?_map] at hx
    cases e : z.cps.toList[i]? with
    | none => rw [e] at hx; cases hx
    | some c =>
      rw [e] at hx
      cases hx
      have hi : i < z.cps.size := by
        have := (List.getElem?_eq_some_iff.mp e).1
        simpa using this
      refine ⟨hi, fun v H2 q => ?_⟩
      obtain ⟨rfl, d, hd, rfl⟩ := q
      have : d = c := by
        have e2 : z.cps.toList[i]? = some d := by simpa using hd
        rw [e] at e2
        exact (Option.some.inj e2).symm
      subst this
      exact ⟨fun _ _ z => z, rfl⟩
  · show z.cps.size ≤ _
    simp
theorem itr_ok {lo : Int} {n : Nat} : ItOk K (Itr lo n) (rngD lo n) [] [] := fun ca H1 _ => by
  refine ⟨fun i x hx => ?_, ?_⟩
  · unfold rngD at hx
    rw [List.getElem?_map] at hx
    cases e : (List.range n)[i]? with
    | none => rw [e] at hx; cases hx
    | some c =>
      rw [e] at hx
      cases hx
      obtain ⟨hi, e2⟩ := List.getElem?_eq_some_iff.mp e
      simp at hi e2
      subst e2
      refine ⟨hi, fun v H2 q => ?_⟩
      obtain ⟨rfl, rfl⟩ := q
      exact ⟨fun _ _ z => z, rfl⟩
  · show n ≤ _
    simp [rngD]
theorem enumD_get : ∀ (xs : List D) (n i : Nat) (y : D), (enumD n xs)[i]? = some y → ∃ x, xs[i]? = some x ∧ y = .tup [.int ((n + i : Nat) : Int), x]
  | [], n, i, y, h => by simp [enumD] at h
  | x :: xs, n, 0, y, h => by simp [enumD] at h; exact ⟨x, rfl, by rw [← h]; rfl⟩
  | x :: xs, n, i + 1, y, h => by
    obtain ⟨z, h1, h2⟩ := enumD_get xs (n + 1) i y (by simpa [enumD] using h)
    exact ⟨z, by simpa using h1, by rw [h2, show n + 1 + i = n + (i + 1) by omega]⟩
theorem enumD_length : ∀ (xs : List D) (n : Nat), (enumD n xs).length = xs.length
  | [], _ => rfl
  | _ :: xs, n => by simp [enumD, enumD_length xs]
theorem ite_ok {xs : List D} {a : Addr} : ItOk K (Ite K a) (enumD 0 xs) [.c (.lst xs)] [.ref a] := fun ca H1 r => by
  obtain ⟨v, q, e, ⟨b, vs, e1, h1, r1⟩, h2⟩ := r
  cases e
  cases e1
  refine ⟨fun i y hy => ?_, vs, h1.seq, by rw [r1.length, enumD_length]; exact Nat.le_refl _⟩
  obtain ⟨x, hx, e⟩ := enumD_get xs 0 i y hy
  obtain ⟨u, hu, ru⟩ := r1.get hx
  refine ⟨⟨vs, u, h1.seq, hu⟩, fun v H2 z => ?_⟩
  obtain ⟨T, x', rfl, hT, rfl, z⟩ := z
  have : vs[i]? = some x' := z vs h1.seq
  rw [hu] at this
  cases this
  refine ⟨Same.upd hT, ?_⟩
  subst e
  have e0 : ((0 + i : Nat) : Int) = (i : Int) := by rw [Nat.zero_add]
  rw [e0]
  exact ⟨T, [.int i, u], rfl, .inl (.inl upd_same), .cons rfl (.cons (ru.mono (.of_same (Same.upd hT))) .nil)⟩
end
/-! ### calls that change nothing -/
section
variable {K : PySem.W.Frag} {ca ca' : Am} {H H' : Hp} {n : Nat}
theorem RdL.lv {a : Addr} {vs : List V} (h : RdL (fun _ => True) K H a vs) : RdL (Lv H fun _ => []) K H a vs := by
  rcases h with ⟨_, h⟩ | h
  · refine .inl ⟨⟨?_, fun _ z => (by cases z)⟩, h⟩
    rcases h with h | ⟨o, h⟩ <;> exact ⟨_, h⟩
  · exact .inr h
theorem RepC.lv : ∀ {x : C} {v : V}, RepC (fun _ => True) K ca H x v → RepC (Lv H fun _ => []) K ca H x v
  | .d x, v, h => h
  | .lst xs, v, ⟨a, vs, e, h, r⟩ => ⟨a, vs, e, h.lv, r⟩
  | .dK kvs, v, ⟨a, vs, e, p, h, k, r⟩ => ⟨a, vs, e, ⟨⟨_, h⟩, fun _ z => (by cases z)⟩, h, k, r⟩
  | .dT kvs, v, ⟨a, vs, e, p, h, k, r⟩ => ⟨a, vs, e, ⟨⟨_, h⟩, fun _ z => (by cases z)⟩, h, k, r⟩
theorem RepW.lv : ∀ {x : W} {v : V}, RepW (fun _ => True) K ca H x v → RepW (Lv H fun _ => []) K ca H x v
  | .c x, v, h => RepC.lv h
  | .obj c fs, v, ⟨a, dx, fs', e, p, h, r⟩ => ⟨a, dx, fs', e, ⟨⟨_, h⟩, fun _ z => (by cases z)⟩, h, fun f => by
      have q := r f
      unfold RepF at q ⊢
      split
      · rename_i x ex
        rw [ex] at q
        obtain ⟨v, l, q⟩ := q
        exact ⟨v, l, q.lv⟩
      · rename_i ex
        rw [ex] at q
        exact q⟩
theorem RepWs.lv : ∀ {ws : List W} {vs : List V}, RepWs K ca H ws vs → RepWp (Lv H fun _ => []) K ca H ws vs
  | [], _, h => h
  | w :: ws, _, ⟨v, r, e, h1, h2⟩ => ⟨v, r, e, h1.lv, RepWs.lv h2⟩
theorem SRep.hold {P : Addr → Prop} {σ : List Sl} {S : Sto} {ρ : L2.St} {fp : Nat → List Addr} (R : SRep P K ca σ S ρ H fp) : StRep K ca S.hold H (fun _ => []) H (fun _ => []) :=
  ⟨R.sln, Nat.le_refl _, fun n w a e1 e2 => by
    unfold ClRep
    have hn : n < S.hold.fz := (List.getElem?_eq_some_iff.mp e1).1
    rw [if_pos hn]
    refine ⟨(R.cel n w a e1 e2).read.lv, rfl⟩, fun _ _ _ _ z => (by cases z), fun _ => List.nodup_nil, fun _ _ => rfl⟩
mutual
theorem RepD.shrink (g : ca.le ca') (hn : n ≤ ca.i.length) : ∀ {x : D} {v : V}, below n x = true → RepD K ca' H x v → RepD K ca H x v
  | .non, _, _, h => h
  | .bl _, _, _, h => h
  | .int _, _, _, h => h
  | .str _, _, _, h => h
  | .tup xs, v, b, h => by
    unfold RepD at h ⊢
    obtain ⟨a, vs, e, q, r⟩ := h
    exact ⟨a, vs, e, q, RepDs.shrink g hn (by simpa [below] using b) r⟩
  | .fl xs, v, b, h => by
    unfold RepD at h ⊢
    obtain ⟨a, o, vs, e, q, r⟩ := h
    exact ⟨a, o, vs, e, q, RepDs.shrink g hn (by simpa [below] using b) r⟩
  | .ref m, v, b, h => by
    unfold RepD at h ⊢
    obtain ⟨a, e, q⟩ := h
    have hm : m < n := by simpa [below] using b
    have e2 : ca.i[m]? = some ca.i[m] := List.getElem?_eq_getElem (by omega)
    have e3 := g.2 m _ e2
    rw [e] at e3
    cases e3
    exact ⟨_, e2, q⟩
theorem RepDs.shrink (g : ca.le ca') (hn : n ≤ ca.i.length) : ∀ {xs : List D} {vs : List V}, belows n xs = true → RepDs K ca' H xs vs → RepDs K ca H xs vs
  | [], _, _, h => h
  | x :: xs, vs, b, h => by
    unfold RepDs at h ⊢
    have b' : below n x = true ∧ belows n xs = true := by simpa [belows] using b
    obtain ⟨v, r, e, h1, h2⟩ := h
    exact ⟨v, r, e, RepD.shrink g hn b'.1 h1, RepDs.shrink g hn b'.2 h2⟩
end
theorem OwnC.shrink (g : ca.le ca') (hn : n ≤ ca.i.length) : ∀ {x : C} {v : V} {fp : List Addr}, belowC n x = true → OwnC K ca' H x v fp → OwnC K ca H x v fp
  | .d x, v, fp, b, ⟨h, e⟩ => ⟨h.shrink g hn b, e⟩
  | .lst xs, v, fp, b, ⟨a, vs, e, h, r, ef⟩ => ⟨a, vs, e, h, r.shrink g hn b, ef⟩
  | .dK kvs, v, fp, b, ⟨a, vs, e, h, k, r, ef⟩ => ⟨a, vs, e, h, k, r.shrink g hn b, ef⟩
  | .dT kvs, v, fp, b, ⟨a, vs, e, h, k, r, ef⟩ => ⟨a, vs, e, h, k, r.shrink g hn b, ef⟩
theorem OwnFs.shrink (g : ca.le ca') (hn : n ≤ ca.i.length) {fs' : List (Str × V)} : ∀ {fs : List (Str × C)} {fp : List Addr}, fs.all (fun p => belowC n p.2) = true → OwnFs K ca' H fs' fs fp → OwnFs K ca H fs' fs fp
  | [], _, _, h => h
  | (f, x) :: r, fp, b, ⟨v, fp1, fp2, l, h1, h2, e⟩ => by
    have b' : belowC n x = true ∧ r.all (fun p => belowC n p.2) = true := by simpa using b
    exact ⟨v, fp1, fp2, l, h1.shrink g hn b'.1, OwnFs.shrink g hn b'.2 h2, e⟩
theorem OwnW.shrink (g : ca.le ca') (hn : n ≤ ca.i.length) : ∀ {x : W} {v : V} {fp : List Addr}, belowW n x = true → OwnW K ca' H x v fp → OwnW K ca H x v fp
  | .c x, _, _, b, h => OwnC.shrink g hn b h
  | .obj c fs, v, fp, b, ⟨a, dx, fs', fp', e, h, q, nd, l, ef⟩ => ⟨a, dx, fs', fp', e, by rw [g.1]; exact h, q.shrink g hn b, nd, l, ef⟩
/-- a call that changes nothing -/
theorem pure_fin {P : Addr → Prop} {σ : List Sl} {S : Sto} {ρ : L2.St} {fp : Nat → List Addr} {H1 : Hp} (R : SRep P K ca σ S ρ H1 fp) (s1 : Same H H1) {g : Sto → List W → MS W} {ws : List W} {vs : List V} (r : RepWs K ca H1 ws vs) {w : W} (h : pureOf S (g S.hold ws) = some (.ok w)) {Q : VK}
    (q : ∀ v H', Same H1 H' → RepV P K ca ρ H H' w (kdOf w) v → Q v H') : spI K ca.c g vs H1 Q E0 := by
  unfold pureOf at h
  split at h
  · rename_i w' S' e
    split at h
    · rename_i b
      cases ok_inj h
      refine ⟨ca, S.hold, fun _ => [], ws, w, S', rfl, R.hold, fun _ _ z => (by cases z), r.lv, e, fun v ca' H' fq' af bk => ?_⟩
      have sm : Same H1 H' := fun a u z => af.st a u z fun _ y => by cases y
      have hn : S.cs.length ≤ ca.i.length := Nat.le_of_eq R.sln
      refine q v H' sm ?_
      have own : kdOf w = .fr → RepV P K ca ρ H H' w (kdOf w) v := fun hk => by
        unfold BackI at bk
        rw [hk] at bk ⊢
        obtain ⟨f, o, n1, n2, n3⟩ := bk
        have o' := o.shrink af.le hn b
        exact ⟨o'.rep fun _ _ => trivial, f, o', fun a ha => s1.free ((n1 a ha).elim id fun ⟨_, z⟩ => by cases z), n3⟩
      cases w with
      | obj c fs => exact own rfl
      | c x => cases x with
        | d x =>
          have bk : RepD K ca' H' x v := bk
          exact .ofD (bk.shrink af.le hn b)
        | lst _ => exact own rfl
        | dK _ => exact own rfl
        | dT _ => exact own rfl
    · cases h
  · cases h
end
end Ev
/-! Ev5: the theorem for expressions. -/
namespace Ev
open PySem PySem.Spec
open PyProof.Rows hiding St
open L2

/-- the state of an expression: evaluator's slots σ, the run's slots σc -/
structure Ctx (bl : List Str) (sc : Scope) (X : Cx) (Γ : Gam) (P : Addr → Prop) (ca : Am) (Z : Sto) (σ : List Sl) (σc : L2.St) (H : Hp) (fp : Nat → List Addr) : Prop where
  ok : Cok bl sc X
  fns : FnsOk X ca.c Γ
  sr : SRep P X.K ca σ Z σc H fp
  ln : σc.length = X.N.length
section
variable {bl : List Str} {sc : Scope} {X : Cx} {Γ : Gam} {P : Addr → Prop} {ca : Am} {Z : Sto} {σ : List Sl} {σc : L2.St} {H H' : Hp} {fp : Nat → List Addr}
theorem Ctx.mono (c : Ctx bl sc X Γ P ca Z σ σc H fp) (t : Same H H') : Ctx bl sc X Γ P ca Z σ σc H' fp := ⟨c.ok, c.fns, c.sr.mono t, c.ln⟩
theorem un64 {X : Cx} (c : Cok bl sc X) : X.A.units + 64 < cLine := by have := c.un; omega
theorem Ctx.at_reps (c : Ctx bl sc X Γ P ca Z σ σc H fp) : ∀ {ws : List W} {vs : List V}, RepWs X.K ca H ws vs → RepWs X.K ca H (ws.map (W.at Z)) vs
  | [], _, h => h
  | w :: ws, _, ⟨v, r, e, h1, h2⟩ => ⟨v, r, e, c.sr.at_rep h1, c.at_reps h2⟩
/-- an expression's claim -/
def SndE (bl : List Str) (Γ : Gam) (e : E) : Prop := ∀ (x : Expr) (sc : Scope) (X : Cx) (P : Addr → Prop) (ca : Am) (Z : Sto) (σ : List Sl) (σc : L2.St) (H : Hp) (fp : Nat → List Addr), chk bl X.N sc e x = true → Ctx bl sc X Γ P ca Z σ σc H fp →
  ∀ w k, ev Γ Z e σ = some (.ok (w, k)) → ∀ Q, (∀ v H', Same H H' → RepV P X.K ca σc H H' w k v → Q v H') → wpE X x σc H Q
def SndEs (bl : List Str) (Γ : Gam) (es : Es) : Prop := ∀ (x : List Expr) (sc : Scope) (X : Cx) (P : Addr → Prop) (ca : Am) (Z : Sto) (σ : List Sl) (σc : L2.St) (H : Hp) (fp : Nat → List Addr), chks bl X.N sc es x = true → Ctx bl sc X Γ P ca Z σ σc H fp →
  ∀ ws, evs Γ Z es σ = some (.ok ws) → ∀ Q, (∀ vs H', Same H H' → RepWs X.K ca H' ws vs → Q vs H') → wpA X x σc H Q
def SndEo (bl : List Str) (Γ : Gam) : Eo → Prop
  | .none => True
  | .some e => SndE bl Γ e
def SndIt (bl : List Str) (Γ : Gam) : It → Prop
  | .e e => SndE bl Γ e
  | .tup e => SndE bl Γ e
  | .str e => SndE bl Γ e
  | .enum e => SndE bl Γ e
  | .rev e => SndE bl Γ e
  | .rng1 a => SndE bl Γ a
  | .rng2 a b => SndE bl Γ a ∧ SndE bl Γ b
/-- a test's claim, of an expression that is claimed -/
theorem test_of {e : E} (S : SndE bl Γ e) {x : Expr} (hc : chk bl X.N sc e x = true) (C : Ctx bl sc X Γ P ca Z σ σc H fp) {w : W} {k : Kd} {b : Bool} (he : ev Γ Z e σ = some (.ok (w, k))) (ht : truth w = some (.ok b)) {Q : Bool → Hp → Prop}
    (q : ∀ H', Same H H' → Q b H') (h1 : ∀ y p, x ≠ .UnaryOp .Not y p) (h2 : ∀ o l p, x ≠ .BoolOp o l p) (h3 : ∀ a b c p, x ≠ .IfExp a b c p) (h4 : ∀ a b c p, x ≠ .Compare a b c p) : wpT X x σc H Q :=
  wpt_of (pt_truth pe_wp (isTrue_of _ h1 h2 h3 h4)) (S x sc X P ca Z σ σc H fp hc C w k he _ fun v H' s r => ⟨b, tru_of r.rep ht, q H' s⟩)
theorem var_ok (i : Nat) : SndE bl Γ (.var i) := by
  intro x sc X P ca Z σ σc H fp hc C w k he Q q
  cases x with
  | Name x pos =>
    have hc' : (decide (X.N[i]? = some x) && visB sc x && plainName x) = true := hc
    simp only [Bool.and_eq_true, decide_eq_true_eq, plainName, Bool.not_eq_true'] at hc'
    obtain ⟨⟨h1, h2⟩, ⟨h3, h4⟩, _⟩ := hc'
    refine wp_of (pe_var h1 (vis_of C.ok.scope h2) h3 h4) ?_
    unfold ev at he
    split at he
    · rename_i w' e
      obtain ⟨v, ev, r, _⟩ := C.sr.sl i _ e
      cases ok_inj he
      exact ⟨v, ev, q v H (fun _ _ z => z) ⟨r.mono .refl fun _ _ => trivial, r⟩⟩
    · rename_i w' e
      obtain ⟨v, ev, r⟩ := C.sr.sl i _ e
      cases ok_inj he
      exact ⟨v, ev, q v H (fun _ _ z => z) ⟨r.rep fun _ _ => trivial, ev⟩⟩
    · cases he
  | _ => simp [chk] at hc
theorem const_ok {d : D} {v : V} {x : Expr} {Q : VK} (pe : PE X x (tC v)) (hd : ∀ H, RepD X.K ca H d v) {w : W} {k : Kd} (h : vD d = some (.ok (w, k))) (q : ∀ v H', Same H H' → RepV P X.K ca σc H H' w k v → Q v H') : wpE X x σc H Q := by
  cases ok_inj h
  exact wp_of pe (q v H (fun _ _ z => z) (.ofD (hd H)))
theorem bin_snd {o : Operator} {a b : E} (Sa : SndE bl Γ a) (Sb : SndE bl Γ b) : SndE bl Γ (.bin o a b) := by
  intro x sc X P ca Z σ σc H fp hc C w k he Q q
  cases x with
  | BinOp x p y pos =>
    have hc' : (decide (o = p) && chk bl X.N sc a x && chk bl X.N sc b y) = true := hc
    simp only [Bool.and_eq_true, decide_eq_true_eq] at hc'
    obtain ⟨⟨h1, h2⟩, h3⟩ := hc'
    subst h1
    unfold ev at he
    obtain ⟨⟨wa, ka⟩, ea, he⟩ := bind_ok he
    obtain ⟨⟨wb, kb⟩, eb, he⟩ := bind_ok he
    refine wp_of (pe_op (op_bin o) pe_wp pe_wp) ?_
    refine Sa x sc X P ca Z σ σc H fp h2 C wa ka ea _ fun va H1 s1 r1 => ?_
    refine Sb y sc X P ca Z σ σc H1 fp h3 (C.mono s1) wb kb eb _ fun vb H2 s2 r2 => ?_
    have C2 := C.mono (s1.trans s2)
    exact bin_ok (s1.trans s2) (C2.sr.at_rep (r1.later s2).rep) (C2.sr.at_rep r2.rep) he fun v H' s r => q v H' ((s1.trans s2).trans s) r
  | _ => simp [chk] at hc
theorem neg_snd {a : E} (Sa : SndE bl Γ a) : SndE bl Γ (.neg a) := by
  intro x sc X P ca Z σ σc H fp hc C w k he Q q
  cases x with
  | UnaryOp o x pos =>
    cases o with
    | USub =>
      have h2 : chk bl X.N sc a x = true := hc
      unfold ev at he
      obtain ⟨⟨wa, ka⟩, ea, he⟩ := bind_ok he
      refine wp_of (pe_un un_neg pe_wp) ?_
      refine Sa x sc X P ca Z σ σc H fp h2 C wa ka ea _ fun va H1 s1 r1 => ?_
      simp only at he
      split at he
      · have e1 := repI r1.rep
        subst e1
        cases ok_inj he
        exact ⟨_, rfl, q _ H1 s1 (.ofD rfl)⟩
      · cases he
    | _ => simp [chk] at hc
  | _ => simp [chk] at hc
theorem cmpt_snd {o : CmpOp} {a b : E} (Sa : SndE bl Γ a) (Sb : SndE bl Γ b) {x y : Expr} (h2 : chk bl X.N sc a x = true) (h3 : chk bl X.N sc b y = true) (C : Ctx bl sc X Γ P ca Z σ σc H fp) {wa wb : W} {ka kb : Kd} {c : Bool}
    (ea : ev Γ Z a σ = some (.ok (wa, ka))) (eb : ev Γ Z b σ = some (.ok (wb, kb))) (ec : cmp o wa wb = some (.ok c)) {Q : VK} (q : ∀ H', Same H H' → Q (.bl c) H') : tOp (rCmp o X.K) (wpE X x) (wpE X y) σc H Q := by
  refine Sa x sc X P ca Z σ σc H fp h2 C wa ka ea _ fun va H1 s1 r1 => ?_
  refine Sb y sc X P ca Z σ σc H1 fp h3 (C.mono s1) wb kb eb _ fun vb H2 s2 r2 => ?_
  exact cmp_ok (r1.later s2).rep r2.rep ec (q H2 (s1.trans s2))
theorem mark_of {N : List Str} {e : E} {y : Expr} (h : chk bl N sc e y = true) (o : CmpOp) : behindInMarks o y = false := by
  have h := chk_okX h
  cases y <;> first | rfl | cases h
theorem cmp_snd {o : CmpOp} {a b : E} (Sa : SndE bl Γ a) (Sb : SndE bl Γ b) : SndE bl Γ (.cmp o a b) := by
  intro x sc X P ca Z σ σc H fp hc C w k he Q q
  cases x with
  | Compare x ops l pos =>
    match ops, l with
    | [p], [y] =>
      have hc' : (decide (o = p) && chk bl X.N sc a x && chk bl X.N sc b y) = true := hc
      simp only [Bool.and_eq_true, decide_eq_true_eq] at hc'
      obtain ⟨⟨h1, h2⟩, h3⟩ := hc'
      subst h1
      unfold ev at he
      obtain ⟨⟨wa, ka⟩, ea, he⟩ := bind_ok he
      obtain ⟨⟨wb, kb⟩, eb, he⟩ := bind_ok he
      obtain ⟨c, ec, he⟩ := bind_ok he
      refine wp_of (pe_cmpR (op_cmp (un64 C.ok) o) pe_wp pe_wp (mark_of h3 o)) ?_
      refine cmpt_snd Sa Sb h2 h3 C ea eb ec fun H' s => ?_
      cases ok_inj he
      exact q _ H' s (.ofD rfl)
    | [], _ => simp [chk] at hc
    | _ :: _ :: _, _ => cases l <;> simp [chk] at hc
    | [_], [] => simp [chk] at hc
    | [_], _ :: _ :: _ => simp [chk] at hc
  | _ => simp [chk] at hc
theorem cmp2_snd {o o' : CmpOp} {a b c : E} (Sa : SndE bl Γ a) (Sb : SndE bl Γ b) (Sc : SndE bl Γ c) : SndE bl Γ (.cmp2 o o' a b c) := by
  intro x sc X P ca Z σ σc H fp hc C w k he Q q
  cases x with
  | Compare x ops l pos =>
    match ops, l with
    | [p, p'], [y, z] =>
      have hc' : (decide (o = p) && decide (o' = p') && chk bl X.N sc a x && chk bl X.N sc b y && chk bl X.N sc c z) = true := hc
      simp only [Bool.and_eq_true, decide_eq_true_eq] at hc'
      obtain ⟨⟨⟨⟨h1, h1'⟩, h2⟩, h3⟩, h4⟩ := hc'
      subst h1 h1'
      unfold ev at he
      obtain ⟨⟨wa, ka⟩, ea, he⟩ := bind_ok he
      obtain ⟨⟨wb, kb⟩, eb, he⟩ := bind_ok he
      obtain ⟨c1, ec, he⟩ := bind_ok he
      refine wp_of (pe_chain (op_cmp (un64 C.ok) o) (op_cmp (un64 C.ok) o') pe_wp pe_wp pe_wp (show lastMarks [o'] [z] = false from mark_of h4 o')) ?_
      refine Sa x sc X P ca Z σ σc H fp h2 C wa ka ea _ fun va H1 s1 r1 => ?_
      refine Sb y sc X P ca Z σ σc H1 fp h3 (C.mono s1) wb kb eb _ fun vb H2 s2 r2 => ?_
      refine cmp_ok (r1.later s2).rep r2.rep ec ⟨c1, rfl, ?_⟩
      cases c1 with
      | false =>
        rw [if_neg Bool.false_ne_true]
        simp only [Bool.false_eq_true, if_false] at he
        cases ok_inj he
        exact q _ H2 (s1.trans s2) (.ofD rfl)
      | true =>
        rw [if_pos rfl]
        simp only [if_true] at he
        obtain ⟨⟨wc, kc⟩, ez, he⟩ := bind_ok he
        obtain ⟨c2, ec2, he⟩ := bind_ok he
        refine Sc z sc X P ca Z σ σc H2 fp h4 (C.mono (s1.trans s2)) wc kc ez _ fun vc H3 s3 r3 => ?_
        refine cmp_ok (r2.later s3).rep r3.rep ec2 ?_
        cases ok_inj he
        exact q _ H3 ((s1.trans s2).trans s3) (.ofD rfl)
    | [], _ => simp [chk] at hc
    | [_], [] => simp [chk] at hc
    | [_], [_] => simp [chk] at hc
    | [_], _ :: _ :: _ => simp [chk] at hc
    | [_, _], [] => simp [chk] at hc
    | [_, _], [_] => simp [chk] at hc
    | [_, _], _ :: _ :: _ :: _ => simp [chk] at hc
    | _ :: _ :: _ :: _, _ => cases l <;> simp [chk] at hc
  | _ => simp [chk] at hc
/-- a op1 b op2 c op3 d -/
def tChain3 (r r' r2 : R2) (ta tb tc td : TE) : TE := fun σ H Q => ta σ H fun x H1 => tb σ H1 fun y H2 => r x y H2 fun z H3 => ∃ k, z = .bl k ∧
  (if k = true then tc σ H3 fun w' H4 => r' y w' H4 fun z' H5 => ∃ k', z' = .bl k' ∧ (if k' = true then td σ H5 fun u' H6 => r2 w' u' H6 Q else Q (.bl false) H5) else Q (.bl false) H3)
theorem pe_chain3 {X : Cx} {op op' op2 : CmpOp} {r r' r2 : R2} {a b c d : Expr} {ta tb tc td : TE} {pos : Pos} (ho : OpR X (compareOp op) r) (ho' : OpR X (compareOp op') r') (ho2 : OpR X (compareOp op2) r2) (ha : PE X a ta) (hb : PE X b tb) (hc : PE X c tc) (hd : PE X d td)
    (hm : lastMarks [op, op', op2] [b, c, d] = false) : PE X (.Compare a [op, op', op2] [b, c, d] pos) (tChain3 r r' r2 ta tb tc td) := by
  refine ⟨fun pins s σ H Q I h => ?_⟩
  refine Compare_chain (thn (ha.run pins s σ H _ I h) fun v s1 ⟨x, H1, I1, r1, q1⟩ => chain_link (thn (hb.run pins s1 σ H1 _ I1 q1) fun u s2 ⟨y, H2, I2, r2', q2⟩ =>
    thn (ho pins s2 σ H2 x y v u _ I2 r1 r2' q2) fun dd s3 ⟨z, H3, I3, r3, k, e, q3⟩ => ?_)) hm
  subst e
  cases r3
  refine wpAny_truthy_bool ?_
  cases k with
  | false => exact ite_ff ⟨.bl false, H3, I3, rfl, q3⟩
  | true =>
    refine ite_tt (chain_link (thn (hc.run pins s3 σ H3 _ I3 q3) fun w' s4 ⟨z', H4, I4, r4, q4⟩ => thn (ho' pins s4 σ H4 y z' u w' _ I4 r2' r4 q4) fun d2 s5 ⟨zz, H5, I5, r5, k', e', q5⟩ => ?_))
    subst e'
    cases r5
    refine wpAny_truthy_bool ?_
    cases k' with
    | false => exact ite_ff ⟨.bl false, H5, I5, rfl, q5⟩
    | true => exact ite_tt (chain_last (thn (hd.run pins s5 σ H5 _ I5 q5) fun w2 s6 ⟨z6, H6, I6, r6, q6⟩ => ho2 pins s6 σ H6 z' z6 w' w2 Q I6 r4 r6 q6))
theorem pt_chain3 {X : Cx} {op op' op2 : CmpOp} {r r' r2 : R2} {a b c d : Expr} {ta tb tc td : TE} {pos : Pos} (ho : OpR X (compareOp op) r) (ho' : OpR X (compareOp op') r') (ho2 : OpR X (compareOp op2) r2) (ha : PE X a ta) (hb : PE X b tb) (hc : PE X c tc) (hd : PE X d td)
    (hm : lastMarks [op, op', op2] [b, c, d] = false) : PT X (.Compare a [op, op', op2] [b, c, d] pos) (tTest (tChain3 r r' r2 ta tb tc td)) := by
  refine ⟨fun pins s σ H Q I h => ?_⟩
  refine isTrue_chain (thn (ha.run pins s σ H _ I h) fun v s1 ⟨x, H1, I1, r1, q1⟩ => test_link (thn (hb.run pins s1 σ H1 _ I1 q1) fun u s2 ⟨y, H2, I2, r2', q2⟩ =>
    thn (ho pins s2 σ H2 x y v u _ I2 r1 r2' q2) fun dd s3 ⟨z, H3, I3, r3, k, e, q3⟩ => ?_)) hm
  subst e
  cases r3
  refine wpAny_truthy_bool ?_
  cases k with
  | false =>
    obtain ⟨k', e', q'⟩ := q3
    cases e'
    exact ite_ff ⟨H3, I3, q'⟩
  | true =>
    refine ite_tt (test_link (thn (hc.run pins s3 σ H3 _ I3 q3) fun w' s4 ⟨z', H4, I4, r4, q4⟩ => thn (ho' pins s4 σ H4 y z' u w' _ I4 r2' r4 q4) fun d2 s5 ⟨zz, H5, I5, r5, k', e', q5⟩ => ?_))
    subst e'
    cases r5
    refine wpAny_truthy_bool ?_
    cases k' with
    | false =>
      obtain ⟨k2, e2, q'⟩ := q5
      cases e2
      exact ite_ff ⟨H5, I5, q'⟩
    | true =>
      refine ite_tt (test_last (thn (hd.run pins s5 σ H5 _ I5 q5) fun w2 s6 ⟨z6, H6, I6, r6, q6⟩ => thn (ho2 pins s6 σ H6 z' z6 w' w2 _ I6 r4 r6 q6) fun d' s7 ⟨z7, H7, I7, r7, k2, e2, q7⟩ => ?_))
      subst e2
      cases r7
      exact wpAny_truthy_bool ⟨H7, I7, q7⟩
theorem cmp3_snd {o o' o2 : CmpOp} {a b c d : E} (Sa : SndE bl Γ a) (Sb : SndE bl Γ b) (Sc : SndE bl Γ c) (Sd : SndE bl Γ d) : SndE bl Γ (.cmp3 o o' o2 a b c d) := by
  intro x sc X P ca Z σ σc H fp hc C w k he Q q
  cases x with
  | Compare x ops l pos =>
    match ops, l with
    | [p, p', p2], [y, z, t] =>
      have hc' : (decide (o = p) && decide (o' = p') && decide (o2 = p2) && chk bl X.N sc a x && chk bl X.N sc b y && chk bl X.N sc c z && chk bl X.N sc d t) = true := hc
      simp only [Bool.and_eq_true, decide_eq_true_eq] at hc'
      obtain ⟨⟨⟨⟨⟨⟨h1, h1'⟩, h12⟩, h2⟩, h3⟩, h4⟩, h5⟩ := hc'
      subst h1 h1' h12
      unfold ev at he
      obtain ⟨⟨wa, ka⟩, ea, he⟩ := bind_ok he
      obtain ⟨⟨wb, kb⟩, eb, he⟩ := bind_ok he
      obtain ⟨c1, ec, he⟩ := bind_ok he
      refine wp_of (pe_chain3 (op_cmp (un64 C.ok) o) (op_cmp (un64 C.ok) o') (op_cmp (un64 C.ok) o2) pe_wp pe_wp pe_wp pe_wp (show lastMarks [o2] [t] = false from mark_of h5 o2)) ?_
      refine Sa x sc X P ca Z σ σc H fp h2 C wa ka ea _ fun va H1 s1 r1 => ?_
      refine Sb y sc X P ca Z σ σc H1 fp h3 (C.mono s1) wb kb eb _ fun vb H2 s2 r2 => ?_
      refine cmp_ok (r1.later s2).rep r2.rep ec ⟨c1, rfl, ?_⟩
      cases c1 with
      | false =>
        rw [if_neg Bool.false_ne_true]
        simp only [Bool.false_eq_true, if_false] at he
        cases ok_inj he
        exact q _ H2 (s1.trans s2) (.ofD rfl)
      | true =>
        rw [if_pos rfl]
        simp only [if_true] at he
        obtain ⟨⟨wc, kc⟩, ez, he⟩ := bind_ok he
        obtain ⟨c2, ec2, he⟩ := bind_ok he
        refine Sc z sc X P ca Z σ σc H2 fp h4 (C.mono (s1.trans s2)) wc kc ez _ fun vc H3 s3 r3 => ?_
        refine cmp_ok (r2.later s3).rep r3.rep ec2 ⟨c2, rfl, ?_⟩
        cases c2 with
        | false =>
          rw [if_neg Bool.false_ne_true]
          simp only [Bool.false_eq_true, if_false] at he
          cases ok_inj he
          exact q _ H3 ((s1.trans s2).trans s3) (.ofD rfl)
        | true =>
          rw [if_pos rfl]
          simp only [if_true] at he
          obtain ⟨⟨wd, kd⟩, ez2, he⟩ := bind_ok he
          obtain ⟨c3, ec3, he⟩ := bind_ok he
          refine Sd t sc X P ca Z σ σc H3 fp h5 (C.mono ((s1.trans s2).trans s3)) wd kd ez2 _ fun vd H4 s4 r4 => ?_
          refine cmp_ok (r3.later s4).rep r4.rep ec3 ?_
          cases ok_inj he
          exact q _ H4 (((s1.trans s2).trans s3).trans s4) (.ofD rfl)
    | [], _ => simp [chk] at hc
    | [_], l => cases l <;> simp [chk] at hc
    | [_, _], l => cases l <;> simp [chk] at hc
    | [_, _, _], [] => simp [chk] at hc
    | [_, _, _], [_] => simp [chk] at hc
    | [_, _, _], [_, _] => simp [chk] at hc
    | [_, _, _], _ :: _ :: _ :: _ :: _ => simp [chk] at hc
    | _ :: _ :: _ :: _ :: _, _ => cases l <;> simp [chk] at hc
  | _ => simp [chk] at hc
theorem ix_snd {a b : E} (Sa : SndE bl Γ a) (Sb : SndE bl Γ b) : SndE bl Γ (.ix a b) := by
  intro x sc X P ca Z σ σc H fp hc C w k he Q q
  cases x with
  | Subscript x y pos =>
    have hc' : (chk bl X.N sc a x && chk bl X.N sc b y) = true := by
      cases y <;> exact hc
    simp only [Bool.and_eq_true] at hc'
    obtain ⟨h2, h3⟩ := hc'
    unfold ev at he
    obtain ⟨⟨wa, ka⟩, ea, he⟩ := bind_ok he
    obtain ⟨⟨wb, kb⟩, eb, he⟩ := bind_ok he
    refine wp_of (pe_ix ix_seq pe_wp pe_wp (plainIx_of h3)) ?_
    refine Sa x sc X P ca Z σ σc H fp h2 C wa ka ea _ fun va H1 s1 r1 => ?_
    refine Sb y sc X P ca Z σ σc H1 fp h3 (C.mono s1) wb kb eb _ fun vb H2 s2 r2 => ?_
    exact ix_ok ((C.mono (s1.trans s2)).sr.at_rep (r1.later s2).rep) r2.rep he fun v r => q v H2 (s1.trans s2) r
  | _ => simp [chk] at hc
def wpO (X : Cx) (l : Option Expr) : TO := fun σ H Q => ∀ (pins : List (Addr × Obj)) (s : Shared), Inv X pins σ H s → wpAny (model X.prog X.w) X.A (evalPart l X.env) (fun u s' => ∃ o H', Inv X pins σ H' s' ∧ IsPart u o ∧ Q o H') X.xe s
theorem po_wp {l : Option Expr} : PO X l (wpO X l) := ⟨fun pins s _ _ _ I h => h pins s I⟩
theorem wpo_of {l : Option Expr} {t : TO} {σ : L2.St} {H : Hp} {Q : Option Int → Hp → Prop} (p : PO X l t) (h : t σ H Q) : wpO X l σ H Q := fun pins s I => p.run pins s σ H Q I h
/-- a slice's bound -/
theorem part_snd {lo : Eo} (S : SndEo bl Γ lo) {l : Option Expr} (h : chko bl X.N sc lo l = true) (C : Ctx bl sc X Γ P ca Z σ σc H fp) {i : Option Int} (he : evo Γ Z lo σ = some (.ok i)) {Q : Option Int → Hp → Prop} (q : ∀ H', Same H H' → Q i H') : wpO X l σc H Q := by
  cases lo with
  | none =>
    cases l with
    | none =>
      unfold evo at he
      cases ok_inj he
      exact wpo_of po_none (q H fun _ _ z => z)
    | some x => simp [chko] at h
  | some e =>
    cases l with
    | none => simp [chko] at h
    | some x =>
      have h' : chk bl X.N sc e x = true := by simpa [chko] using h
      unfold evo at he
      obtain ⟨⟨w, k⟩, e1, he⟩ := bind_ok he
      refine wpo_of (po_some pe_wp) ?_
      refine S x sc X P ca Z σ σc H fp h' C w k e1 _ fun v H1 s1 r1 => ?_
      simp only [asInt] at he
      split at he
      · rename_i j ej
        cases ok_inj he
        split at ej
        · cases ej
          have e2 := repI r1.rep
          exact ⟨_, e2, q H1 s1⟩
        · cases ej
      · cases he
theorem sl_snd {a : E} {lo hi : Eo} (Sa : SndE bl Γ a) (Sl : SndEo bl Γ lo) (Sh : SndEo bl Γ hi) : SndE bl Γ (.sl a lo hi) := by
  intro x sc X P ca Z σ σc H fp hc C w k he Q q
  cases x with
  | Subscript x y pos =>
    cases y with
    | Slice l h st p2 =>
      cases st with
      | some _ => simp [chk] at hc
      | none =>
        have hc' : (chk bl X.N sc a x && chko bl X.N sc lo l && chko bl X.N sc hi h) = true := hc
        simp only [Bool.and_eq_true] at hc'
        obtain ⟨⟨h1, h2⟩, h3⟩ := hc'
        unfold ev at he
        obtain ⟨⟨wa, ka⟩, ea, he⟩ := bind_ok he
        obtain ⟨il, el, he⟩ := bind_ok he
        obtain ⟨ih, eh, he⟩ := bind_ok he
        refine wp_of (pe_slice sl_any pe_wp po_wp po_wp) ?_
        refine Sa x sc X P ca Z σ σc H fp h1 C wa ka ea _ fun va H1 s1 r1 => ?_
        refine part_snd Sl h2 (C.mono s1) el fun H2 s2 => ?_
        refine part_snd Sh h3 (C.mono (s1.trans s2)) eh fun H3 s3 => ?_
        exact sl_ok ((s1.trans s2).trans s3) ((C.mono ((s1.trans s2).trans s3)).sr.at_rep (r1.later (s2.trans s3)).rep) he fun v H' s r => q v H' (((s1.trans s2).trans s3).trans s) r
    | _ => simp [chk] at hc
  | _ => simp [chk] at hc
/-- argument lists -/
theorem nil_snd : SndEs bl Γ .nil := by
  intro x sc X P ca Z σ σc H fp hc C ws he Q q
  cases x with
  | nil =>
    unfold evs at he
    cases ok_inj he
    exact wpa_of pa_nil (q [] H (fun _ _ z => z) rfl)
  | cons _ _ => simp [chks] at hc
theorem cons_snd {e : E} {es : Es} (S : SndE bl Γ e) (Ss : SndEs bl Γ es) : SndEs bl Γ (.cons e es) := by
  intro x sc X P ca Z σ σc H fp hc C ws he Q q
  cases x with
  | nil => simp [chks] at hc
  | cons x l =>
    have hc' : chk bl X.N sc e x = true ∧ chks bl X.N sc es l = true := by simpa [chks] using hc
    unfold evs at he
    obtain ⟨⟨w, k⟩, e1, he⟩ := bind_ok he
    obtain ⟨us, e2, he⟩ := bind_ok he
    cases ok_inj he
    refine wpa_of (pa_cons pe_wp pa_wp (star_of hc'.1 _ _)) ?_
    refine S x sc X P ca Z σ σc H fp hc'.1 C w k e1 _ fun v H1 s1 r1 => ?_
    refine Ss l sc X P ca Z σ σc H1 fp hc'.2 (C.mono s1) us e2 _ fun vs H2 s2 r2 => ?_
    exact q _ H2 (s1.trans s2) ⟨v, vs, rfl, (r1.later s2).rep, r2⟩
theorem tup_snd {es : Es} (S : SndEs bl Γ es) : SndE bl Γ (.tup es) := by
  intro x sc X P ca Z σ σc H fp hc C w k he Q q
  cases x with
  | Tuple l x1 pos =>
    have hc' : chks bl X.N sc es l = true := hc
    unfold ev at he
    obtain ⟨ws, e1, he⟩ := bind_ok he
    split at he
    · rename_i xs ex
      obtain ⟨c, he⟩ := guardN_ok he
      cases ok_inj he
      refine wp_of (pe_tup pa_wp) ?_
      refine S l sc X P ca Z σ σc H fp hc' C ws e1 _ fun vs H1 s1 r1 => ?_
      have r2 := mapD_rep ex r1
      refine ⟨by rw [r2.length]; exact c, fun p np => q _ _ (s1.trans (Same.upd np)) (.ofD ?_)⟩
      exact ⟨p, vs, rfl, .inl (.inl upd_same), r2.mono (.of_same (Same.upd np))⟩
    · cases he
  | _ => simp [chk] at hc
theorem lst_snd {es : Es} (S : SndEs bl Γ es) : SndE bl Γ (.lst es) := by
  intro x sc X P ca Z σ σc H fp hc C w k he Q q
  cases x with
  | List l pos =>
    have hc' : chks bl X.N sc es l = true := hc
    unfold ev at he
    obtain ⟨ws, e1, he⟩ := bind_ok he
    split at he
    · rename_i xs ex
      obtain ⟨c, he⟩ := guardN_ok he
      cases ok_inj he
      refine wp_of (pe_lst pa_wp) ?_
      refine S l sc X P ca Z σ σc H fp hc' C ws e1 _ fun vs H1 s1 r1 => ?_
      have r2 := mapD_rep ex r1
      exact ⟨by rw [r2.length]; exact c, fun p np => q _ _ (s1.trans (Same.upd np)) (.ofL (.of_same (s1.trans (Same.upd np))) np s1 r2)⟩
    · cases he
  | _ => simp [chk] at hc
theorem blt_snd {f : B} {es : Es} (S : SndEs bl Γ es) : SndE bl Γ (.blt f es) := by
  intro x sc X P ca Z σ σc H fp hc C w k he Q q
  cases x with
  | Call g l kws pos =>
    cases g with
    | Name x p =>
      cases kws with
      | cons _ _ => simp [chk] at hc
      | nil =>
        have hc' : (decide (f.name = x) && glB sc x && bl.contains x && chks bl X.N sc es l) = true := hc
        simp only [Bool.and_eq_true, decide_eq_true_eq] at hc'
        obtain ⟨⟨⟨h1, h2⟩, h3⟩, h4⟩ := hc'
        unfold ev at he
        obtain ⟨ws, e1, he2⟩ := bind_ok he
        cases es with
        | nil =>
          unfold evs at e1
          cases ok_inj e1
          cases f <;> cases he2
        | cons e es =>
          cases l with
          | nil => simp [chks] at h4
          | cons y l =>
            refine wp_of (pe_blt C.ok h1 h2 h3 h4) ?_
            refine S (y :: l) sc X P ca Z σ σc H fp h4 C ws e1 _ fun vs H1 s1 r1 => ?_
            exact blt_ok s1 ((C.mono s1).at_reps r1) he2 fun v H' s r => q v H' (s1.trans s) r
    | _ => simp [chk] at hc
  | _ => simp [chk] at hc
theorem call_snd {f : Str} {es : Es} (S : SndEs bl Γ es) : SndE bl Γ (.call f es) := by
  intro x sc X P ca Z σ σc H fp hc C w k he Q q
  cases x with
  | Call g l kws pos =>
    cases g with
    | Name x p =>
      cases kws with
      | cons _ _ => simp [chk] at hc
      | nil =>
        have hc' : (decide (f = x) && glB sc x && plainName x && chks bl X.N sc es l && isPl f) = true := hc
        simp only [Bool.and_eq_true, decide_eq_true_eq, plainName, Bool.not_eq_true'] at hc'
        obtain ⟨⟨⟨⟨h1, h2⟩, ⟨h3, _⟩, _⟩, h4⟩, hpl⟩ := hc'
        subst h1
        unfold ev at he
        split at he
        · rename_i g eg
          obtain ⟨ws, e1, he⟩ := bind_ok he
          obtain ⟨w', e2, he⟩ := bind_ok he
          cases ok_inj he
          obtain ⟨rule0, rule1⟩ := (C.fns X rfl rfl rfl rfl rfl rfl f g eg).fn hpl (gl_of C.ok.scope h2) h3
          have fin : ∀ vs H1, Same H H1 → RepWs X.K ca H1 ws vs → spI X.K ca.c g vs H1 Q E0 := fun vs H1 s1 r1 =>
            pure_fin (C.mono s1).sr s1 r1 e2 fun v H' s r => q v H' (s1.trans s) r
          cases es with
          | nil =>
            cases l with
            | cons _ _ => simp [chks] at h4
            | nil =>
              unfold evs at e1
              cases ok_inj e1
              refine wp_of (rule0 _ _) ?_
              exact fin [] H (fun _ _ z => z) rfl
          | cons e es =>
            cases l with
            | nil => simp [chks] at h4
            | cons y l =>
              have h4' : chk bl X.N sc e y = true ∧ chks bl X.N sc es l = true := by simpa [chks] using h4
              refine wp_of (rule1 _ _ _ _ _ pa_wp (star_of h4'.1 _ _) (noback h4'.2 _ _)) ?_
              refine S (y :: l) sc X P ca Z σ σc H fp h4 C ws e1 _ fun vs H1 s1 r1 => ?_
              show spI X.K ca.c g (vs ++ []) H1 Q E0
              rw [List.append_nil]
              exact fin vs H1 s1 r1
        · cases he
    | _ => simp [chk] at hc
  | _ => simp [chk] at hc
theorem not_snd {a : E} (Sa : SndE bl Γ a) : SndE bl Γ (.not a) := by
  intro x sc X P ca Z σ σc H fp hc C w k he Q q
  cases x with
  | UnaryOp o x pos =>
    cases o with
    | Not =>
      have h2 : chk bl X.N sc a x = true := hc
      unfold ev at he
      obtain ⟨⟨wa, ka⟩, ea, he⟩ := bind_ok he
      obtain ⟨b, eb, he⟩ := bind_ok he
      refine wp_of (pe_notT pe_wp) ?_
      refine Sa x sc X P ca Z σ σc H fp h2 C wa ka ea _ fun va H1 s1 r1 => ?_
      cases ok_inj he
      exact ⟨b, tru_of r1.rep eb, q _ H1 s1 (.ofD rfl)⟩
    | _ => simp [chk] at hc
  | _ => simp [chk] at hc
theorem RepV.k_any {w : W} {k : Kd} {v : V} {H0 : Hp} (r : RepV P X.K ca σc H0 H w k v) : RepV P X.K ca σc H0 H w k v := r
def tailB (f : Expr → Bool) (o : BoolOp) (y : Expr) (r : List Expr) (pos : Pos) : Bool := match r with
  | [] => f y
  | z :: r => f (.BoolOp o (y :: z :: r) pos)
theorem and_snd {a b : E} (Sa : SndE bl Γ a) (Sb : SndE bl Γ b) : SndE bl Γ (.and a b) := by
  intro x sc X P ca Z σ σc H fp hc C w k he Q q
  cases x with
  | BoolOp o l pos =>
    cases o with
    | Or => cases l <;> simp [chk] at hc
    | And =>
      match l with
      | [] => simp [chk] at hc
      | [_] => simp [chk] at hc
      | x :: y :: r =>
        have hc' : chk bl X.N sc a x = true ∧ tailB (chk bl X.N sc b) .And y r pos = true := by
          have hh := hc
          cases r <;> (simp only [chk, Bool.and_eq_true] at hh; exact hh)
        unfold ev at he
        obtain ⟨⟨wa, ka⟩, ea, he⟩ := bind_ok he
        obtain ⟨k1, ek, he⟩ := bind_ok he
        have go : ∀ t, PE X (.BoolOp .And (y :: r) pos) t → (k1 = true → ∀ H1, Same H H1 → t σc H1 Q) → wpE X (.BoolOp .And (x :: y :: r) pos) σc H Q := fun t pt ht => by
          refine wp_of (pe_andT pe_wp pt) ?_
          refine Sa x sc X P ca Z σ σc H fp hc'.1 C wa ka ea _ fun va H1 s1 r1 => ⟨k1, tru_of r1.rep ek, ?_⟩
          cases k1 with
          | true => rw [if_pos rfl]; exact ht rfl H1 s1
          | false =>
            rw [if_neg Bool.false_ne_true]
            simp only [Bool.false_eq_true, if_false] at he
            cases ok_inj he
            exact q _ H1 s1 r1
        cases r with
        | nil =>
          refine go _ (pe_one pe_wp) fun hk H1 s1 => ?_
          subst hk
          simp only [if_true] at he
          exact Sb y sc X P ca Z σ σc H1 fp hc'.2 (C.mono s1) w k he _ fun v H' s r => q v H' (s1.trans s) (r.from s1)
        | cons z r =>
          refine go _ pe_wp fun hk H1 s1 => ?_
          subst hk
          simp only [if_true] at he
          exact Sb _ sc X P ca Z σ σc H1 fp hc'.2 (C.mono s1) w k he _ fun v H' s r => q v H' (s1.trans s) (r.from s1)
  | _ => simp [chk] at hc
theorem or_snd {a b : E} (Sa : SndE bl Γ a) (Sb : SndE bl Γ b) : SndE bl Γ (.or a b) := by
  intro x sc X P ca Z σ σc H fp hc C w k he Q q
  cases x with
  | BoolOp o l pos =>
    cases o with
    | And => cases l <;> simp [chk] at hc
    | Or =>
      match l with
      | [] => simp [chk] at hc
      | [_] => simp [chk] at hc
      | x :: y :: r =>
        have hc' : chk bl X.N sc a x = true ∧ tailB (chk bl X.N sc b) .Or y r pos = true := by
          have hh := hc
          cases r <;> (simp only [chk, Bool.and_eq_true] at hh; exact hh)
        unfold ev at he
        obtain ⟨⟨wa, ka⟩, ea, he⟩ := bind_ok he
        obtain ⟨k1, ek, he⟩ := bind_ok he
        have go : ∀ t, PE X (.BoolOp .Or (y :: r) pos) t → (k1 = false → ∀ H1, Same H H1 → t σc H1 Q) → wpE X (.BoolOp .Or (x :: y :: r) pos) σc H Q := fun t pt ht => by
          refine wp_of (pe_orT pe_wp pt) ?_
          refine Sa x sc X P ca Z σ σc H fp hc'.1 C wa ka ea _ fun va H1 s1 r1 => ⟨k1, tru_of r1.rep ek, ?_⟩
          cases k1 with
          | false => rw [if_neg Bool.false_ne_true]; exact ht rfl H1 s1
          | true =>
            rw [if_pos rfl]
            simp only [if_true] at he
            cases ok_inj he
            exact q _ H1 s1 r1
        cases r with
        | nil =>
          refine go _ (pe_one pe_wp) fun hk H1 s1 => ?_
          subst hk
          simp only [Bool.false_eq_true, if_false] at he
          exact Sb y sc X P ca Z σ σc H1 fp hc'.2 (C.mono s1) w k he _ fun v H' s r => q v H' (s1.trans s) (r.from s1)
        | cons z r =>
          refine go _ pe_wp fun hk H1 s1 => ?_
          subst hk
          simp only [Bool.false_eq_true, if_false] at he
          exact Sb _ sc X P ca Z σ σc H1 fp hc'.2 (C.mono s1) w k he _ fun v H' s r => q v H' (s1.trans s) (r.from s1)
  | _ => simp [chk] at hc
theorem isi_snd {e : E} {t : Ty} (S : SndE bl Γ e) : SndE bl Γ (.isi e t) := by
  intro x sc X P ca Z σ σc H fp hc C w k he Q q
  cases x with
  | Call g l kws pos =>
    cases g with
    | Name x p =>
      cases l with
      | nil => simp [chk] at hc
      | cons y l =>
        cases l with
        | nil => simp [chk] at hc
        | cons z0 l =>
          cases l with
          | cons _ _ => simp [chk] at hc
          | nil =>
            cases z0 with
            | Name z pz =>
              cases kws with
              | cons _ _ => simp [chk] at hc
              | nil =>
                have hc' : (decide (x = "isinstance") && glB sc x && bl.contains x && bl.contains z && chk bl X.N sc e y && decide (z = t.name) && glB sc z) = true := hc
                simp only [Bool.and_eq_true, decide_eq_true_eq] at hc'
                obtain ⟨⟨⟨⟨⟨⟨h1, h2⟩, h3⟩, h4⟩, h5⟩, h6⟩, h7⟩ := hc'
                subst h1 h6
                unfold ev at he
                obtain ⟨⟨wa, ka⟩, ea, he⟩ := bind_ok he
                simp only at he
                split at he
                · rename_i b eb
                  refine wp_of (pe_callB call_isi (gl_of C.ok.scope h2) (bln_of C.ok.bln h3) boot_isinstance (pa_cons pe_wp (pa_cons (pe_bltn (v := .ty t.s) (gl_of C.ok.scope h7) (bln_of C.ok.bln h4) (boot_ty t) rfl (ty_ne t) (ty_nd t)) pa_nil) (star_of h5 _ _)) (by decide +kernel) (by decide +kernel) (star_of h5 _ _) rfl) ?_
                  refine S y sc X P ca Z σ σc H fp h5 C wa ka ea _ fun va H1 s1 r1 => ?_
                  obtain ⟨a, ty, hk⟩ := isi_ok r1.rep eb
                  cases ok_inj he
                  exact ⟨va, .ty t.s, .type a, .type t.s, b, rfl, .ty _, ty, kit_ty hk, q _ H1 s1 (.ofD rfl)⟩
                · cases he

            | _ => simp [chk] at hc
    | _ => simp [chk] at hc
  | _ => simp [chk] at hc
/-! ### tests -/
def SndT (bl : List Str) (Γ : Gam) (e : E) : Prop := ∀ (x : Expr) (sc : Scope) (X : Cx) (P : Addr → Prop) (ca : Am) (Z : Sto) (σ : List Sl) (σc : L2.St) (H : Hp) (fp : Nat → List Addr), chk bl X.N sc e x = true → Ctx bl sc X Γ P ca Z σ σc H fp →
  ∀ w k b, ev Γ Z e σ = some (.ok (w, k)) → truth w = some (.ok b) → ∀ Q, (∀ H', Same H H' → Q b H') → wpT X x σc H Q
/-- an expression of no kind of its own as a test -/
def noT : Expr → Bool
  | .UnaryOp .Not _ _ => false
  | .BoolOp .. => false
  | .IfExp .. => false
  | .Compare .. => false
  | _ => true
theorem plain_t {e : E} (S : SndE bl Γ e) (hn : ∀ N sc x, chk bl N sc e x = true → noT x = true) : SndT bl Γ e := by
  intro x sc X P ca Z σ σc H fp hc C w k b he ht Q q
  have h := hn _ _ _ hc
  refine test_of S hc C he ht q ?_ ?_ ?_ ?_
  · rintro y p rfl; cases h
  · rintro o l p rfl; cases h
  · rintro a b c p rfl; cases h
  · rintro a b c p rfl; cases h
theorem not_t {a : E} (Sa : SndT bl Γ a) : SndT bl Γ (.not a) := by
  intro x sc X P ca Z σ σc H fp hc C w k b he ht Q q
  cases x with
  | UnaryOp o x pos =>
    cases o with
    | Not =>
      have h2 : chk bl X.N sc a x = true := hc
      unfold ev at he
      obtain ⟨⟨wa, ka⟩, ea, he⟩ := bind_ok he
      obtain ⟨b', eb, he⟩ := bind_ok he
      refine wpt_of (pt_not pt_wp) ?_
      refine Sa x sc X P ca Z σ σc H fp h2 C wa ka b' ea eb _ fun H1 s1 => ?_
      cases ok_inj he
      cases ok_inj ht
      exact q H1 s1
    | _ => simp [chk] at hc
  | _ => simp [chk] at hc
theorem pw_bool {o : BoolOp} {l : List Expr} {p : Pos} {t : TT} (h : PT X (.BoolOp o l p) t) : PW X (.BoolOp o l p) t := ⟨fun wh pins s σ H Q I q => h.run pins s σ H Q I q⟩
theorem truth_same {w : W} {b b' : Bool} (h : truth w = some (.ok b)) (h' : truth w = some (.ok b')) : b = b' := by
  rw [h] at h'
  cases h'
  rfl
theorem and_t {a b : E} (Sa : SndT bl Γ a) (Sb : SndT bl Γ b) : SndT bl Γ (.and a b) := by
  intro x sc X P ca Z σ σc H fp hc C w k c he ht Q q
  cases x with
  | BoolOp o l pos =>
    cases o with
    | Or => cases l <;> simp [chk] at hc
    | And =>
      match l with
      | [] => simp [chk] at hc
      | [_] => simp [chk] at hc
      | x :: y :: r =>
        have hc' : chk bl X.N sc a x = true ∧ tailB (chk bl X.N sc b) .And y r pos = true := by
          have hh := hc
          cases r <;> (simp only [chk, Bool.and_eq_true] at hh; exact hh)
        unfold ev at he
        obtain ⟨⟨wa, ka⟩, ea, he⟩ := bind_ok he
        obtain ⟨k1, ek, he⟩ := bind_ok he
        have go : ∀ t, PW X (.BoolOp .And (y :: r) pos) t → (k1 = true → ∀ H1, Same H H1 → t σc H1 Q) → wpT X (.BoolOp .And (x :: y :: r) pos) σc H Q := fun t pt ht' => by
          refine wpt_of (PW.pt (pw_and pt_wp pt)) ?_
          refine Sa x sc X P ca Z σ σc H fp hc'.1 C wa ka k1 ea ek _ fun H1 s1 => ?_
          cases k1 with
          | true => rw [if_pos rfl]; exact ht' rfl H1 s1
          | false =>
            rw [if_neg Bool.false_ne_true]
            simp only [Bool.false_eq_true, if_false] at he
            cases ok_inj he
            cases truth_same ek ht
            exact q H1 s1
        cases r with
        | nil =>
          refine go _ (pw_and1 pt_wp) fun hk H1 s1 => ?_
          subst hk
          simp only [if_true] at he
          exact Sb y sc X P ca Z σ σc H1 fp hc'.2 (C.mono s1) w k c he ht _ fun H' s => q H' (s1.trans s)
        | cons z r =>
          refine go _ (pw_bool pt_wp) fun hk H1 s1 => ?_
          subst hk
          simp only [if_true] at he
          exact Sb _ sc X P ca Z σ σc H1 fp hc'.2 (C.mono s1) w k c he ht _ fun H' s => q H' (s1.trans s)
  | _ => simp [chk] at hc
theorem or_t {a b : E} (Sa : SndT bl Γ a) (Sb : SndT bl Γ b) : SndT bl Γ (.or a b) := by
  intro x sc X P ca Z σ σc H fp hc C w k c he ht Q q
  cases x with
  | BoolOp o l pos =>
    cases o with
    | And => cases l <;> simp [chk] at hc
    | Or =>
      match l with
      | [] => simp [chk] at hc
      | [_] => simp [chk] at hc
      | x :: y :: r =>
        have hc' : chk bl X.N sc a x = true ∧ tailB (chk bl X.N sc b) .Or y r pos = true := by
          have hh := hc
          cases r <;> (simp only [chk, Bool.and_eq_true] at hh; exact hh)
        unfold ev at he
        obtain ⟨⟨wa, ka⟩, ea, he⟩ := bind_ok he
        obtain ⟨k1, ek, he⟩ := bind_ok he
        have go : ∀ t, PW X (.BoolOp .Or (y :: r) pos) t → (k1 = false → ∀ H1, Same H H1 → t σc H1 Q) → wpT X (.BoolOp .Or (x :: y :: r) pos) σc H Q := fun t pt ht' => by
          refine wpt_of (PW.pt (pw_or pt_wp pt)) ?_
          refine Sa x sc X P ca Z σ σc H fp hc'.1 C wa ka k1 ea ek _ fun H1 s1 => ?_
          cases k1 with
          | false => rw [if_neg Bool.false_ne_true]; exact ht' rfl H1 s1
          | true =>
            rw [if_pos rfl]
            simp only [if_true] at he
            cases ok_inj he
            cases truth_same ek ht
            exact q H1 s1
        cases r with
        | nil =>
          refine go _ (pw_or1 pt_wp) fun hk H1 s1 => ?_
          subst hk
          simp only [Bool.false_eq_true, if_false] at he
          exact Sb y sc X P ca Z σ σc H1 fp hc'.2 (C.mono s1) w k c he ht _ fun H' s => q H' (s1.trans s)
        | cons z r =>
          refine go _ (pw_bool pt_wp) fun hk H1 s1 => ?_
          subst hk
          simp only [Bool.false_eq_true, if_false] at he
          exact Sb _ sc X P ca Z σ σc H1 fp hc'.2 (C.mono s1) w k c he ht _ fun H' s => q H' (s1.trans s)
  | _ => simp [chk] at hc
theorem cmp_t {o : CmpOp} {a b : E} (Sa : SndE bl Γ a) (Sb : SndE bl Γ b) : SndT bl Γ (.cmp o a b) := by
  intro x sc X P ca Z σ σc H fp hc C w k c he ht Q q
  cases x with
  | Compare x ops l pos =>
    match ops, l with
    | [p], [y] =>
      have hc' : (decide (o = p) && chk bl X.N sc a x && chk bl X.N sc b y) = true := hc
      simp only [Bool.and_eq_true, decide_eq_true_eq] at hc'
      obtain ⟨⟨h1, h2⟩, h3⟩ := hc'
      subst h1
      unfold ev at he
      obtain ⟨⟨wa, ka⟩, ea, he⟩ := bind_ok he
      obtain ⟨⟨wb, kb⟩, eb, he⟩ := bind_ok he
      obtain ⟨c, ec, he⟩ := bind_ok he
      refine wpt_of (pt_cmpR (op_cmp (un64 C.ok) o) pe_wp pe_wp (mark_of h3 o)) ?_
      cases ok_inj he
      cases ok_inj ht
      exact cmpt_snd Sa Sb h2 h3 C ea eb ec fun H' s => ⟨_, rfl, q H' s⟩
    | [], _ => simp [chk] at hc
    | _ :: _ :: _, _ => cases l <;> simp [chk] at hc
    | [_], [] => simp [chk] at hc
    | [_], _ :: _ :: _ => simp [chk] at hc
  | _ => simp [chk] at hc
theorem cmp2_t {o o' : CmpOp} {a b c : E} (Sa : SndE bl Γ a) (Sb : SndE bl Γ b) (Sc : SndE bl Γ c) : SndT bl Γ (.cmp2 o o' a b c) := by
  intro x sc X P ca Z σ σc H fp hc C w k bb he ht Q q
  cases x with
  | Compare x ops l pos =>
    match ops, l with
    | [p, p'], [y, z] =>
      have hc' : (decide (o = p) && decide (o' = p') && chk bl X.N sc a x && chk bl X.N sc b y && chk bl X.N sc c z) = true := hc
      simp only [Bool.and_eq_true, decide_eq_true_eq] at hc'
      obtain ⟨⟨⟨⟨h1, h1'⟩, h2⟩, h3⟩, h4⟩ := hc'
      subst h1 h1'
      unfold ev at he
      obtain ⟨⟨wa, ka⟩, ea, he⟩ := bind_ok he
      obtain ⟨⟨wb, kb⟩, eb, he⟩ := bind_ok he
      obtain ⟨c1, ec, he⟩ := bind_ok he
      refine wpt_of (pt_chain (op_cmp (un64 C.ok) o) (op_cmp (un64 C.ok) o') pe_wp pe_wp pe_wp (show lastMarks [o'] [z] = false from mark_of h4 o')) ?_
      refine Sa x sc X P ca Z σ σc H fp h2 C wa ka ea _ fun va H1 s1 r1 => ?_
      refine Sb y sc X P ca Z σ σc H1 fp h3 (C.mono s1) wb kb eb _ fun vb H2 s2 r2 => ?_
      refine cmp_ok (r1.later s2).rep r2.rep ec ⟨c1, rfl, ?_⟩
      cases c1 with
      | false =>
        rw [if_neg Bool.false_ne_true]
        simp only [Bool.false_eq_true, if_false] at he
        cases ok_inj he
        cases ok_inj ht
        exact ⟨_, rfl, q H2 (s1.trans s2)⟩
      | true =>
        rw [if_pos rfl]
        simp only [if_true] at he
        obtain ⟨⟨wc, kc⟩, ez, he⟩ := bind_ok he
        obtain ⟨c2, ec2, he⟩ := bind_ok he
        refine Sc z sc X P ca Z σ σc H2 fp h4 (C.mono (s1.trans s2)) wc kc ez _ fun vc H3 s3 r3 => ?_
        refine cmp_ok (r2.later s3).rep r3.rep ec2 ?_
        cases ok_inj he
        cases ok_inj ht
        exact ⟨_, rfl, q H3 ((s1.trans s2).trans s3)⟩
    | [], _ => simp [chk] at hc
    | [_], [] => simp [chk] at hc
    | [_], [_] => simp [chk] at hc
    | [_], _ :: _ :: _ => simp [chk] at hc
    | [_, _], [] => simp [chk] at hc
    | [_, _], [_] => simp [chk] at hc
    | [_, _], _ :: _ :: _ :: _ => simp [chk] at hc
    | _ :: _ :: _ :: _, _ => cases l <;> simp [chk] at hc
  | _ => simp [chk] at hc
theorem cmp3_t {o o' o2 : CmpOp} {a b c d : E} (Sa : SndE bl Γ a) (Sb : SndE bl Γ b) (Sc : SndE bl Γ c) (Sd : SndE bl Γ d) : SndT bl Γ (.cmp3 o o' o2 a b c d) := by
  intro x sc X P ca Z σ σc H fp hc C w k bb he ht Q q
  cases x with
  | Compare x ops l pos =>
    match ops, l with
    | [p, p', p2], [y, z, t] =>
      have hc' : (decide (o = p) && decide (o' = p') && decide (o2 = p2) && chk bl X.N sc a x && chk bl X.N sc b y && chk bl X.N sc c z && chk bl X.N sc d t) = true := hc
      simp only [Bool.and_eq_true, decide_eq_true_eq] at hc'
      obtain ⟨⟨⟨⟨⟨⟨h1, h1'⟩, h12⟩, h2⟩, h3⟩, h4⟩, h5⟩ := hc'
      subst h1 h1' h12
      unfold ev at he
      obtain ⟨⟨wa, ka⟩, ea, he⟩ := bind_ok he
      obtain ⟨⟨wb, kb⟩, eb, he⟩ := bind_ok he
      obtain ⟨c1, ec, he⟩ := bind_ok he
      refine wpt_of (pt_chain3 (op_cmp (un64 C.ok) o) (op_cmp (un64 C.ok) o') (op_cmp (un64 C.ok) o2) pe_wp pe_wp pe_wp pe_wp (show lastMarks [o2] [t] = false from mark_of h5 o2)) ?_
      refine Sa x sc X P ca Z σ σc H fp h2 C wa ka ea _ fun va H1 s1 r1 => ?_
      refine Sb y sc X P ca Z σ σc H1 fp h3 (C.mono s1) wb kb eb _ fun vb H2 s2 r2 => ?_
      refine cmp_ok (r1.later s2).rep r2.rep ec ⟨c1, rfl, ?_⟩
      cases c1 with
      | false =>
        rw [if_neg Bool.false_ne_true]
        simp only [Bool.false_eq_true, if_false] at he
        cases ok_inj he
        cases ok_inj ht
        exact ⟨_, rfl, q H2 (s1.trans s2)⟩
      | true =>
        rw [if_pos rfl]
        simp only [if_true] at he
        obtain ⟨⟨wc, kc⟩, ez, he⟩ := bind_ok he
        obtain ⟨c2, ec2, he⟩ := bind_ok he
        refine Sc z sc X P ca Z σ σc H2 fp h4 (C.mono (s1.trans s2)) wc kc ez _ fun vc H3 s3 r3 => ?_
        refine cmp_ok (r2.later s3).rep r3.rep ec2 ⟨c2, rfl, ?_⟩
        cases c2 with
        | false =>
          rw [if_neg Bool.false_ne_true]
          simp only [Bool.false_eq_true, if_false] at he
          cases ok_inj he
          cases ok_inj ht
          exact ⟨_, rfl, q H3 ((s1.trans s2).trans s3)⟩
        | true =>
          rw [if_pos rfl]
          simp only [if_true] at he
          obtain ⟨⟨wd, kd⟩, ez2, he⟩ := bind_ok he
          obtain ⟨c3, ec3, he⟩ := bind_ok he
          refine Sd t sc X P ca Z σ σc H3 fp h5 (C.mono ((s1.trans s2).trans s3)) wd kd ez2 _ fun vd H4 s4 r4 => ?_
          refine cmp_ok (r3.later s4).rep r4.rep ec3 ?_
          cases ok_inj he
          cases ok_inj ht
          exact ⟨_, rfl, q H4 (((s1.trans s2).trans s3).trans s4)⟩
    | [], _ => simp [chk] at hc
    | [_], l => cases l <;> simp [chk] at hc
    | [_, _], l => cases l <;> simp [chk] at hc
    | [_, _, _], [] => simp [chk] at hc
    | [_, _, _], [_] => simp [chk] at hc
    | [_, _, _], [_, _] => simp [chk] at hc
    | [_, _, _], _ :: _ :: _ :: _ :: _ => simp [chk] at hc
    | _ :: _ :: _ :: _ :: _, _ => cases l <;> simp [chk] at hc
  | _ => simp [chk] at hc
theorem ife_snd {c a b : E} (Sc0 : tstOk c = true → SndT bl Γ c) (Sa : SndE bl Γ a) (Sb : SndE bl Γ b) : SndE bl Γ (.ife c a b) := by
  intro x sc X P ca Z σ σc H fp hc C w k he Q q
  cases x with
  | IfExp x y z pos =>
    have hc' : (tstOk c && chk bl X.N sc c x && chk bl X.N sc a y && chk bl X.N sc b z) = true := hc
    simp only [Bool.and_eq_true] at hc'
    obtain ⟨⟨⟨h0, h1⟩, h2⟩, h3⟩ := hc'
    unfold ev at he
    obtain ⟨⟨wc, kc⟩, ec, he⟩ := bind_ok he
    obtain ⟨k1, ek, he⟩ := bind_ok he
    have Sc := Sc0 h0
    refine wp_of (pe_ifExp pt_wp pe_wp pe_wp) ?_
    refine Sc x sc X P ca Z σ σc H fp h1 C wc kc k1 ec ek _ fun H1 s1 => ?_
    cases k1 with
    | true =>
      rw [if_pos rfl]
      simp only [if_true] at he
      exact Sa y sc X P ca Z σ σc H1 fp h2 (C.mono s1) w k he _ fun v H' s r => q v H' (s1.trans s) (r.from s1)
    | false =>
      rw [if_neg Bool.false_ne_true]
      simp only [Bool.false_eq_true, if_false] at he
      exact Sb z sc X P ca Z σ σc H1 fp h3 (C.mono s1) w k he _ fun v H' s r => q v H' (s1.trans s) (r.from s1)
  | _ => simp [chk] at hc
/-- an object that may be read -/
theorem obj_rd {c : Nat} {fs : List (Str × Ev.C)} {v : V} (h : RepW (fun _ => True) X.K ca H (.obj c fs) v) : ∃ a dx fs', v = .ref a ∧ H a = some (.ins (ca.c c) dx fs') ∧ ∀ f, RepF (fun _ => True) X.K ca H fs' (fs.lookup f) f := by
  obtain ⟨a, dx, fs', e, _, h, r⟩ := h
  exact ⟨a, dx, fs', e, h, r⟩
/-- how a field is held -/
theorem fld_kd {f : Str} {xa : VW} {c : Nat} {fs : List (Str × Ev.C)} {y : Ev.C} {va v : V} {a dx : Addr} {fs' : List (Str × V)} (R : SRep P X.K ca σ Z σc H' fp) (r : RepV P X.K ca σc H H' xa.1 xa.2 va) (hx : xa.1.at Z = .obj c fs) (ea : va = .ref a) (hb : H' a = some (.ins (ca.c c) dx fs')) (l : fs'.lookup f = some v)
    (el : fs.lookup f = some y) (ry : RepC (fun _ => True) X.K ca H' y v) {k : Kd} (hk : fldK Z f xa = some k) : RepV P X.K ca σc H H' (.c y) k v := by
  obtain ⟨w, k0⟩ := xa
  refine ⟨ry, ?_⟩
  have roP : ∀ v', RepW P X.K ca H' (.obj c fs) v' → v' = .ref a → RepW P X.K ca H' (.c y) v := fun v' h e => by
    obtain ⟨b, dx2, fs2, e2, _, hb2, r2⟩ := h
    rw [e] at e2
    cases e2
    rw [hb] at hb2
    cases hb2
    have q := r2 f
    rw [el] at q
    obtain ⟨u, lu, q⟩ := q
    rw [l] at lu
    cases lu
    exact q
  unfold fldK at hk
  cases w with
  | obj c' fs2 =>
    have e : (Ev.W.obj c' fs2) = .obj c fs := hx
    cases e
    cases k0 with
    | ro => cases hk; exact roP va r.kd ea
    | «at» i =>
      cases hk
      exact ⟨a, _, dx, fs', by have := r.kd; rw [ea] at this; exact this, hb, l⟩
    | fr => cases hk
    | af _ _ => cases hk
    | sf _ _ => cases hk
  | c x =>
    cases x with
    | d x =>
      cases x with
      | ref n =>
        simp only at hk
        have hz : (match Z.cs[n]? with | some w => w | none => Ev.W.c (.d (.ref n))) = .obj c fs := hx
        split at hz
        · rename_i w0 e0
          subst hz
          obtain ⟨b, e1, e2⟩ : ∃ b, ca.i[n]? = some b ∧ va = .ref b := r.rep
          rw [ea] at e2
          cases e2
          by_cases hn : n < Z.fz
          · simp only [hn, if_true] at hk
            cases hk
            have q := R.cel n _ _ e0 e1
            unfold ClRep at q
            rw [if_pos hn] at q
            exact roP _ q.1 rfl
          · simp only [hn, if_false] at hk
            cases hk
            exact ⟨a, _, dx, fs', by rw [e1]; rfl, hb, l⟩
        · cases hz
      | fl xs => cases hx
      | _ => cases hx
    | _ => cases hx
theorem fld_snd {e : E} {f : Str} (S : SndE bl Γ e) : SndE bl Γ (.fld e f) := by
  intro x sc X P ca Z σ σc H fp hc C w k he Q q
  cases x with
  | Attribute x a pos =>
    have hc' : (decide (f = a) && baseOk x && chk bl X.N sc e x) = true := hc
    simp only [Bool.and_eq_true, decide_eq_true_eq] at hc'
    obtain ⟨⟨h1, h0⟩, h2⟩ := hc'
    subst h1
    unfold ev at he
    obtain ⟨xa, ea, he⟩ := bind_ok he
    split at he
    · rename_i c fs hx
      refine wp_of (pe_fld pe_wp (attr_base _ h0)) ?_
      refine S x sc X P ca Z σ σc H fp h2 C _ _ ea _ fun va H1 s1 r1 => ?_
      have C1 := C.mono s1
      have rr := C1.sr.at_rep r1.rep
      rw [hx] at rr
      obtain ⟨b, dx, fs', ev', hb, hf⟩ := obj_rd rr
      have q1 := hf f
      split at he
      · rename_i g d eg el
        rw [el] at q1
        obtain ⟨v, l, rv⟩ := q1
        obtain ⟨k1, k2⟩ := (C.fns X rfl rfl rfl rfl rfl rfl _ g eg).fl c f rfl
        cases ok_inj he
        exact ⟨b, ca.c c, dx, fs', v, ev', hb, k1, k2, l, q v H1 s1 (.ofD rv)⟩
      · rename_i g w1 _ eg el
        rw [el] at q1
        obtain ⟨v, l, rv⟩ := q1
        obtain ⟨k1, k2⟩ := (C.fns X rfl rfl rfl rfl rfl rfl _ g eg).fl c f rfl
        split at he
        · rename_i k9 hk9
          cases ok_inj he
          exact ⟨b, ca.c c, dx, fs', v, ev', hb, k1, k2, l, q v H1 s1 (fld_kd C1.sr r1 hx ev' hb l el rv hk9)⟩
        · cases he
      · cases he
    · cases he
  | _ => simp [chk] at hc
theorem mcall_snd {e : E} {m : Str} {es : Es} (S : SndE bl Γ e) (Ss : SndEs bl Γ es) : SndE bl Γ (.mcall e m es) := by
  intro x sc X P ca Z σ σc H fp hc C w k he Q q
  cases x with
  | Call g l kws pos =>
    cases g with
    | Attribute x a p =>
      cases kws with
      | cons _ _ => cases l <;> simp [chk] at hc
      | nil =>
        have hc' : (decide (m = a) && baseOk x && (p.endLine == pos.line) && decide (l.length < 28) && chk bl X.N sc e x && chks bl X.N sc es l) = true := by
          cases l with
          | nil => exact hc
          | cons y l => cases l <;> exact hc
        simp only [Bool.and_eq_true, decide_eq_true_eq] at hc'
        obtain ⟨⟨⟨⟨⟨h1, h0⟩, h2⟩, h3⟩, h4⟩, h5⟩ := hc'
        subst h1
        unfold ev at he
        obtain ⟨xa, ea, he⟩ := bind_ok he
        split at he
        · rename_i c fs hx
          split at he
          · rename_i g eg el
            obtain ⟨ws, e1, he⟩ := bind_ok he
            obtain ⟨w', e2, he⟩ := bind_ok he
            cases ok_inj he
            obtain ⟨rule0, rule1⟩ := (C.fns X rfl rfl rfl rfl rfl rfl _ g eg).me c m rfl
            have hd : ∀ va H1, Same H H1 → RepW (fun _ => True) X.K ca H1 xa.1 va → ∃ a dx fs', va = .ref a ∧ H1 a = some (.ins (ca.c c) dx fs') ∧ fs'.lookup m = none := fun va H1 s1 r => by
              have rr := (C.mono s1).sr.at_rep r
              rw [hx] at rr
              obtain ⟨b, dx, fs', ev', hb, hf⟩ := obj_rd rr
              have q1 := hf m
              rw [el] at q1
              exact ⟨b, dx, fs', ev', hb, q1⟩
            cases es with
            | nil =>
              cases l with
              | cons _ _ => simp [chks] at h5
              | nil =>
                unfold evs at e1
                cases ok_inj e1
                refine wp_of (rule0 _ _ _ _ pe_wp h0 h2) ?_
                refine S x sc X P ca Z σ σc H fp h4 C _ _ ea _ fun va H1 s1 r1 => ?_
                obtain ⟨b, dx, fs', ev', hb, hl⟩ := hd va H1 s1 r1.rep
                refine ⟨b, dx, fs', ev', hb, hl, ?_⟩
                exact pure_fin (C.mono s1).sr s1 (ws := [xa.1]) ⟨va, [], rfl, r1.rep, rfl⟩ e2 fun v H' s r => q v H' (s1.trans s) r
            | cons e' es =>
              cases l with
              | nil => simp [chks] at h5
              | cons y l =>
                have h5' : chk bl X.N sc e' y = true ∧ chks bl X.N sc es l = true := by simpa [chks] using h5
                refine wp_of (rule1 _ _ _ _ _ _ _ pe_wp pa_wp h0 h2 h3 (star_of h5'.1 _ _) (noback h5 _ _) (noback h5'.2 _ _)) ?_
                refine S x sc X P ca Z σ σc H fp h4 C _ _ ea _ fun va H1 s1 r1 => ?_
                obtain ⟨b, dx, fs', ev', hb, hl⟩ := hd va H1 s1 r1.rep
                refine ⟨b, dx, fs', ev', hb, hl, ?_⟩
                refine Ss (y :: l) sc X P ca Z σ σc H1 fp h5 (C.mono s1) ws e1 _ fun vs H2 s2 r2 => ?_
                show spI X.K ca.c g (va :: (vs ++ [])) H2 Q E0
                rw [List.append_nil]
                exact pure_fin (C.mono (s1.trans s2)).sr (s1.trans s2) (ws := xa.1 :: ws) ⟨va, vs, rfl, r1.rep.mono (.of_same s2) (fun _ p => p), r2⟩ e2 fun v H' s r => q v H' ((s1.trans s2).trans s) r
          · cases he
        · cases he
    | _ => simp [chk] at hc
  | _ => simp [chk] at hc
theorem join_snd {z e : E} (Sz : SndE bl Γ z) (S : SndE bl Γ e) : SndE bl Γ (.join z e) := by
  intro x sc X P ca Z σ σc H fp hc C w k he Q q
  cases x with
  | Call g l kws pos =>
    cases g with
    | Attribute x a p =>
      cases l with
      | nil => simp [chk] at hc
      | cons y l =>
        cases l with
        | cons _ _ => simp [chk] at hc
        | nil =>
          cases kws with
          | cons _ _ => simp [chk] at hc
          | nil =>
            have hc' : (decide (a = "join") && baseOk x && (p.endLine == pos.line) && chk bl X.N sc z x && chk bl X.N sc e y) = true := hc
            simp only [Bool.and_eq_true, decide_eq_true_eq] at hc'
            obtain ⟨⟨⟨⟨h1, h0⟩, h2⟩, h3⟩, h4⟩ := hc'
            subst h1
            unfold ev at he
            obtain ⟨⟨wz, kz⟩, ez, he⟩ := bind_ok he
            obtain ⟨⟨we, ke⟩, ee, he⟩ := bind_ok he
            simp only at he
            split at he
            · rename_i x9 y9 zz xs eat e9
              split at he
              · rename_i ys ey
                obtain ⟨c, he⟩ := guardN_ok he
                cases ok_inj he
                refine wp_of (pe_join pe_wp pe_wp (star_of h4 _ _) (attr_base _ h0) h2) ?_
                refine Sz x sc X P ca Z σ σc H fp h3 C _ _ ez _ fun vz H1 s1 r1 => ?_
                have e1 := repS r1.rep
                subst e1
                refine ⟨⟨_, rfl⟩, ?_⟩
                refine S y sc X P ca Z σ σc H1 fp h4 (C.mono s1) _ _ ee _ fun ve H2 s2 r2 => ?_
                obtain ⟨a, vs, e2, h5, r3⟩ := repL (by have z := (C.mono (s1.trans s2)).sr.at_rep r2.rep; rw [eat] at z; exact z)
                subst e2
                have e3 := strsD_rep ey r3
                subst e3
                refine ⟨_, a, ys, rfl, rfl, .inl h5.seq, ?_, q _ H2 (s1.trans s2) (.ofD rfl)⟩
                have hs : sizeLine = 16777216 := sizeLine_eq
                rw [Nat.mul_comm ys.length]
                omega
              · cases he
            · cases he
    | _ => simp [chk] at hc
  | _ => simp [chk] at hc
/-! ### what is walked -/
def wpI (X : Cx) (tg it : Expr) : TI := fun σ H R => ∀ (pins : List (Addr × Obj)) (s : Shared), Inv X pins σ H s →
    wpAny (model X.prog X.w) X.A (eval it X.env) (fun v s1 => wpAny (model X.prog X.w) X.A (pyIter v) (PIE X pins σ tg R) X.xe s1) X.xe s
theorem pi_wp {tg it : Expr} : PI X tg it (wpI X tg it) := ⟨fun pins s _ _ _ I h => h pins s I⟩
theorem wpi_of {tg it : Expr} {t : TI} {R : L2.It → Hp → Prop} (p : PI X tg it t) (h : t σc H R) : wpI X tg it σc H R := fun pins s I => p.run pins s σc H R I h
/-- the sources: each value as it was told -/
def RepVs (P : Addr → Prop) (K : PySem.W.Frag) (ca : Am) (ρ : L2.St) (H H' : Hp) : List VW → List V → Prop
  | [], vs => vs = []
  | x :: xs, vs => ∃ v r, vs = v :: r ∧ RepV P K ca ρ H H' x.1 x.2 v ∧ RepVs P K ca ρ H H' xs r
theorem repVs1 {ρ : L2.St} {H0 : Hp} {x : VW} {v : V} (r : RepV P X.K ca ρ H0 H x.1 x.2 v) : RepVs P X.K ca ρ H0 H [x] [v] := ⟨v, [], rfl, r, rfl⟩
theorem it_snd {it : Ev.It} (S : SndIt bl Γ it) {g : G} {tg x : Expr} (ht : tgOk it g = true) (hg : ∀ i p, tg = .Name i p → ∃ j, g = .nm j) (htt : (∃ j, g = .nm j) ∨ ∃ es k p, tg = .Tuple es k p) (hc : chki bl X.N sc it x = true) (C : Ctx bl sc X Γ P ca Z σ σc H fp)
    {xs : List D} {ls : List VW} (he : evi Γ Z it σ = some (.ok (xs, ls))) {R : L2.It → Hp → Prop} (q : ∀ J H' vs, Same H H' → RepVs P X.K ca σc H H' ls vs → ItOk X.K J xs (ls.map fun x => x.1.at Z) vs → R J H') : wpI X tg x σc H R := by
  cases it with
  | e e =>
    unfold evi at he
    obtain ⟨⟨w, k⟩, e1, he⟩ := bind_ok he
    simp only at he
    split at he
    · rename_i ys eat
      cases ok_inj he
      refine wpi_of (pi_list pe_wp) ?_
      refine S x sc X P ca Z σ σc H fp hc C _ _ e1 _ fun v H1 s1 r1 => ?_
      have rr := (C.mono s1).sr.at_rep r1.rep
      rw [eat] at rr
      obtain ⟨a, vs, e2, h5, r3⟩ := repL rr
      subst e2
      refine ⟨a, rfl, ⟨vs, h5.seq⟩, q _ H1 [.ref a] s1 (repVs1 r1) ?_⟩
      show ItOk X.K _ _ [Ev.W.at Z w] _
      rw [eat]
      exact itl_ok (H := H1)
    · cases he
  | rev e =>
    cases x with
    | Call f l kws pos =>
      cases f with
      | Name f p =>
        match l, kws with
        | [y], [] =>
          have hc' : (decide (f = "reversed") && glB sc f && bl.contains f && chk bl X.N sc e y) = true := hc
          simp only [Bool.and_eq_true, decide_eq_true_eq] at hc'
          obtain ⟨⟨⟨h1, h2⟩, h3⟩, h4⟩ := hc'
          subst h1
          unfold evi at he
          obtain ⟨⟨w, k⟩, e1, he⟩ := bind_ok he
          simp only at he
          split at he
          · rename_i ys eat
            cases ok_inj he
            refine wpi_of (pi_reversed (gl_of C.ok.scope h2) (bln_of C.ok.bln h3) (pa_cons pe_wp pa_nil (star_of h4 _ _)) (star_of h4 _ _)) ?_
            refine S y sc X P ca Z σ σc H fp h4 C _ _ e1 _ fun v H1 s1 r1 => ?_
            have rr := (C.mono s1).sr.at_rep r1.rep
            rw [eat] at rr
            obtain ⟨a, vs, e2, h5, r3⟩ := repL rr
            subst e2
            refine ⟨a, vs, rfl, h5.seq, q _ H1 [.ref a] s1 (repVs1 r1) ?_⟩
            show ItOk X.K _ _ [Ev.W.at Z w] _
            rw [eat]
            exact itv_ok r3.length
          · cases he
        | [], _ => simp [chki] at hc
        | _ :: _ :: _, _ => simp [chki] at hc
        | [_], _ :: _ => simp [chki] at hc
      | _ => simp [chki] at hc
    | _ => simp [chki] at hc
  | tup e =>
    unfold evi at he
    obtain ⟨⟨w, k⟩, e1, he⟩ := bind_ok he
    simp only at he
    split at he
    · rename_i ys
      cases ok_inj he
      refine wpi_of (pi_tup pe_wp) ?_
      refine S x sc X P ca Z σ σc H fp hc C _ _ e1 _ fun v H1 s1 r1 => ?_
      obtain ⟨a, vs, e2, h5, r3⟩ : ∃ a vs, v = .ref a ∧ SqT X.K H1 a vs ∧ RepDs X.K ca H1 _ vs := r1.rep
      subst e2
      exact ⟨a, rfl, ⟨vs, h5⟩, q _ H1 [.ref a] s1 (repVs1 r1) itt_ok⟩
    · cases he
  | str e =>
    unfold evi at he
    obtain ⟨⟨w, k⟩, e1, he⟩ := bind_ok he
    simp only at he
    split at he
    · rename_i z
      cases ok_inj he
      refine wpi_of (pi_str pe_wp) ?_
      refine S x sc X P ca Z σ σc H fp hc C _ _ e1 _ fun v H1 s1 r1 => ?_
      have e2 := repS r1.rep
      subst e2
      exact ⟨z, rfl, q _ H1 [] s1 rfl its_ok⟩
    · cases he
  | rng1 a =>
    cases x with
    | Call f l kws pos =>
      cases f with
      | Name f p =>
        match l, kws with
        | [y], [] =>
          have hc' : (decide (f = "range") && glB sc f && bl.contains f && chk bl X.N sc a y) = true := hc
          simp only [Bool.and_eq_true, decide_eq_true_eq] at hc'
          obtain ⟨⟨⟨h1, h2⟩, h3⟩, h4⟩ := hc'
          subst h1
          unfold evi at he
          obtain ⟨⟨w, k⟩, e1, he⟩ := bind_ok he
          simp only at he
          split at he
          · rename_i j
            obtain ⟨⟨c1, c2⟩, he⟩ := guardP_ok he
            cases ok_inj he
            refine wpi_of (pi_range1 (gl_of C.ok.scope h2) (bln_of C.ok.bln h3) (pa_cons pe_wp pa_nil (star_of h4 _ _)) (star_of h4 _ _)) ?_
            refine S y sc X P ca Z σ σc H fp h4 C _ _ e1 _ fun v H1 s1 r1 => ?_
            have e2 := repI r1.rep
            subst e2
            exact ⟨j, rfl, by rw [pow62]; exact c1, by rw [pow62]; exact c2, q _ H1 [] s1 rfl itr_ok⟩
          · cases he
        | [], _ => simp [chki] at hc
        | _ :: _ :: _, _ => simp [chki] at hc
        | [_], _ :: _ => simp [chki] at hc
      | _ => simp [chki] at hc
    | _ => simp [chki] at hc
  | rng2 a b =>
    cases x with
    | Call f l kws pos =>
      cases f with
      | Name f p =>
        match l, kws with
        | [y, z], [] =>
          have hc' : (decide (f = "range") && glB sc f && bl.contains f && chk bl X.N sc a y && chk bl X.N sc b z) = true := hc
          simp only [Bool.and_eq_true, decide_eq_true_eq] at hc'
          obtain ⟨⟨⟨⟨h1, h2⟩, h3⟩, h4⟩, h5⟩ := hc'
          subst h1
          unfold evi at he
          obtain ⟨⟨w, k⟩, e1, he⟩ := bind_ok he
          obtain ⟨⟨w2, k2⟩, e2, he⟩ := bind_ok he
          simp only at he
          split at he
          · rename_i i j
            obtain ⟨⟨c1, c2, c3, c4⟩, he⟩ := guardP_ok he
            cases ok_inj he
            refine wpi_of (pi_range2 (gl_of C.ok.scope h2) (bln_of C.ok.bln h3) (pa_cons pe_wp (pa_cons pe_wp pa_nil (star_of h5 _ _)) (star_of h4 _ _)) (by rw [star_of h4, star_of h5]; rfl) (star_of h5 _ _)) ?_
            refine S.1 y sc X P ca Z σ σc H fp h4 C _ _ e1 _ fun v H1 s1 r1 => ?_
            refine S.2 z sc X P ca Z σ σc H1 fp h5 (C.mono s1) _ _ e2 _ fun v2 H2 s2 r2 => ?_
            have e3 := repI r1.rep
            have e4 := repI r2.rep
            subst e3 e4
            exact ⟨_, _, rfl, by rw [pow62]; exact ⟨c1, c2, c3, c4⟩, q _ H2 [] (s1.trans s2) rfl itr_ok⟩
          · cases he
        | [], _ => simp [chki] at hc
        | [_], _ => simp [chki] at hc
        | _ :: _ :: _ :: _, _ => simp [chki] at hc
        | [_, _], _ :: _ => simp [chki] at hc
      | _ => simp [chki] at hc
    | _ => simp [chki] at hc
  | enum a =>
    cases x with
    | Call f l kws pos =>
      cases f with
      | Name f p =>
        match l, kws with
        | [y], [] =>
          have hc' : (decide (f = "enumerate") && glB sc f && bl.contains f && chk bl X.N sc a y) = true := hc
          simp only [Bool.and_eq_true, decide_eq_true_eq] at hc'
          obtain ⟨⟨⟨h1, h2⟩, h3⟩, h4⟩ := hc'
          subst h1
          unfold evi at he
          obtain ⟨⟨w, k⟩, e1, he⟩ := bind_ok he
          simp only at he
          split at he
          · rename_i ys eat
            cases ok_inj he
            rcases htt with ⟨j, rfl⟩ | ⟨es, kk, tp, rfl⟩
            · cases ht
            refine wpi_of (pi_enum (gl_of C.ok.scope h2) (bln_of C.ok.bln h3) (pa_cons pe_wp pa_nil (star_of h4 _ _)) (star_of h4 _ _)) ?_
            refine S y sc X P ca Z σ σc H fp h4 C _ _ e1 _ fun v H1 s1 r1 => ?_
            have rr := (C.mono s1).sr.at_rep r1.rep
            rw [eat] at rr
            obtain ⟨a, vs, e2, h5, r3⟩ := repL rr
            subst e2
            refine ⟨a, vs, rfl, h5.seq, q _ H1 [.ref a] s1 (repVs1 r1) ?_⟩
            show ItOk X.K _ _ [Ev.W.at Z w] _
            rw [eat]
            exact ite_ok
          · cases he
        | [], _ => simp [chki] at hc
        | _ :: _ :: _, _ => simp [chki] at hc
        | [_], _ :: _ => simp [chki] at hc
      | _ => simp [chki] at hc
    | _ => simp [chki] at hc
end
end Ev
/-! Ev6: targets, comprehensions, the theorem for expressions. -/
namespace Ev
open PySem PySem.Spec
open PyProof.Rows hiding St
open L2

/-! ### slots stored -/
section
variable {P : Addr → Prop} {K : PySem.W.Frag} {ca : Am} {σ σ' : List Sl} {S : Sto} {ρ : L2.St} {H H' : Hp} {fp : Nat → List Addr}
/-- one place's share is exchanged -/
theorem dj_put {k : Nat} {f : List Addr} (R : ∀ i j, i ≠ j → ∀ a ∈ fp i, a ∉ fp j) (dj : ∀ j, j ≠ k → ∀ a ∈ f, a ∉ fp j) : ∀ i j, i ≠ j → ∀ a ∈ (if i = k then f else fp i), a ∉ (if j = k then f else fp j) := fun i j hij a ha => by
  by_cases hi : i = k
  · have hj : j ≠ k := fun z => hij (hi.trans z.symm)
    simp only [hi, if_true] at ha
    simp only [hj, if_false]
    exact dj j hj a ha
  · simp only [hi, if_false] at ha
    by_cases hj : j = k
    · simp only [hj, if_true]
      exact fun z => dj i hi a z ha
    · simp only [hj, if_false]
      exact R i j hij a ha
theorem SRep.put (R : SRep P K ca σ S ρ H fp) (i : Nat) (s : Sl) (o : Option V) (f : List Addr) (hi : i < σ.length) (h : SlRep P K ca H s (some o) f) (dj : ∀ j, j ≠ 2 * i → ∀ a ∈ f, a ∉ fp j) (nd : f.Nodup) (np : ∀ a ∈ f, ¬ P a) :
    SRep P K ca (σ.set i s) S (ρ.set i o) H (fun j => if j = 2 * i then f else fp j) := by
  have hr : i < ρ.length := by rw [← R.len]; exact hi
  refine ⟨by simp [R.len], fun j t e => ?_, R.sln, R.fzl, fun n w a e1 e2 => ?_, dj_put R.dj dj, fun j => ?_, fun j a ha => ?_, fun j hj => ?_, fun n hn => ?_, R.pa⟩
  · by_cases hj : j = i
    · subst hj
      rw [List.getElem?_set_self hi] at e
      cases e
      rw [List.getElem?_set_self hr]
      simpa using h
    · rw [List.getElem?_set_ne (Ne.symm hj)] at e
      rw [List.getElem?_set_ne (Ne.symm hj)]
      have hj2 : 2 * j ≠ 2 * i := by omega
      simpa [hj2] using R.sl j t e
  · have : 2 * n + 1 ≠ 2 * i := by omega
    simp only [this, if_false]
    exact R.cel n w a e1 e2
  · by_cases hj : j = 2 * i
    · simp only [hj, if_true]; exact nd
    · simp only [hj, if_false]; exact R.nd j
  · by_cases hj : j = 2 * i
    · simp only [hj, if_true] at ha; exact np a ha
    · simp only [hj, if_false] at ha; exact R.np j a ha
  · have hj' : σ.length ≤ j := by simpa using hj
    have : 2 * j ≠ 2 * i := by omega
    simp only [this, if_false]
    exact R.far j hj'
  · have : 2 * n + 1 ≠ 2 * i := by omega
    simp only [this, if_false]
    exact R.far2 n hn
theorem putS_lt {i : Nat} {s : Sl} (h : putS σ i s = some σ') : i < σ.length ∧ σ' = σ.set i s := by
  unfold putS at h
  split at h
  · rename_i e; cases h; exact ⟨e, rfl⟩
  · cases h
theorem SRep.putRo (R : SRep P K ca σ S ρ H fp) {i : Nat} {w : W} {v : V} (h : putS σ i (.ro w) = some σ') (r : RepW P K ca H w v) : SRep P K ca σ' S (ρ.set i (some v)) H (fun j => if j = 2 * i then [] else fp j) := by
  obtain ⟨h1, rfl⟩ := putS_lt h
  exact R.put i (.ro w) (some v) [] h1 ⟨v, rfl, r, rfl⟩ (fun _ _ a ha => by cases ha) List.nodup_nil (fun a ha => by cases ha)
theorem SRep.putOut (R : SRep P K ca σ S ρ H fp) (i : Nat) (o : Option V) (hi : i < σ.length) : SRep P K ca (σ.set i .out) S (ρ.set i o) H (fun j => if j = 2 * i then [] else fp j) :=
  R.put i .out o [] hi rfl (fun _ _ a ha => by cases ha) List.nodup_nil (fun a ha => by cases ha)
theorem SRep.putOut' (R : SRep P K ca σ S ρ H fp) (i : Nat) (o : Option V) : ∃ fp', SRep P K ca (σ.set i .out) S (ρ.set i o) H fp' := by
  by_cases hi : i < σ.length
  · exact ⟨_, R.putOut i o hi⟩
  · rw [List.set_eq_of_length_le (by omega), List.set_eq_of_length_le (by rw [← R.len]; omega)]
    exact ⟨fp, R⟩
theorem wipe_len (σ : L2.St) : ∀ vs, (L2.wipe σ vs).length = σ.length := L2.wipe_length σ
theorem SRep.wipe (R : SRep P K ca σ S ρ H fp) : ∀ (vs : List Nat), (∀ v ∈ vs, v < ρ.length) → ∃ fp', SRep P K ca (wipeS σ vs) S (L2.wipe ρ vs) H fp'
  | [], _ => ⟨fp, R⟩
  | v :: vs, hv => by
    obtain ⟨fp', S'⟩ := SRep.wipe R vs fun u hu => hv u (List.mem_cons_of_mem _ hu)
    exact S'.putOut' v none
theorem wipe_get (σ : L2.St) (i : Nat) : ∀ vs : List Nat, (L2.wipe σ vs)[i]? = if i ∈ vs then (σ[i]?).map (fun _ => none) else σ[i]?
  | [] => by simp [L2.wipe]
  | v :: vs => by
    unfold L2.wipe
    rw [List.getElem?_set]
    have ih := wipe_get σ i vs
    by_cases h : v = i
    · subst h
      simp only [if_true, List.mem_cons, true_or]
      rw [wipe_len]
      by_cases hl : v < σ.length
      · simp [hl]
      · simp [hl]
    · simp only [h, if_false, List.mem_cons]
      rw [ih]
      have : (i = v ∨ i ∈ vs) ↔ i ∈ vs := ⟨fun z => z.elim (fun z => absurd z.symm h) id, .inr⟩
      simp only [this]
theorem wipe_set {σ : L2.St} {i : Nat} {x : Option V} {vs : List Nat} (h : i ∈ vs) : L2.wipe (σ.set i x) vs = L2.wipe σ vs := by
  apply List.ext_getElem?
  intro j
  rw [wipe_get, wipe_get, List.getElem?_set]
  by_cases hj : j ∈ vs
  · simp only [hj, if_true]
    by_cases e : i = j
    · subst e
      by_cases hl : i < σ.length <;> simp [hl]
    · simp [e]
  · have : i ≠ j := fun z => hj (z ▸ h)
    simp [hj, this]
theorem wipe_idem {σ : L2.St} {vs : List Nat} : L2.wipe (L2.wipe σ vs) vs = L2.wipe σ vs := by
  apply List.ext_getElem?
  intro j
  rw [wipe_get, wipe_get]
  by_cases hj : j ∈ vs
  · simp only [hj, if_true, Option.map_map]
    rfl
  · simp [hj]
end

/-! ### targets -/
def gsr : List Nat → TGs
  | [] => gNil
  | i :: is => gCons (gName i) (gsr is)
def gr (K : PySem.W.Frag) : G → TG
  | .nm i => gName i
  | .tup is => gTup K is.length (gsr is)
section
variable {bl : List Str} {sc : Scope} {X : Cx} {str : Bool}
theorem nm_name {N : List Str} {i : Nat} {e : Expr} (h : nmOk str N sc i e = true) : ∃ x p, e = .Name x p ∧ N[i]? = some x ∧ (if str then decide (sc.names.lookup x = some .local) else locB sc x) = true := by
  cases e with
  | Name x p =>
    have h' : (decide (N[i]? = some x) && (if str then decide (sc.names.lookup x = some .local) else locB sc x)) = true := h
    rw [Bool.and_eq_true] at h'
    exact ⟨x, p, rfl, of_decide_eq_true h'.1, h'.2⟩
  | _ => simp [nmOk] at h
theorem pg_nm {i : Nat} {e : Expr} (C : Cok bl sc X) (hf : str = false → ∀ x, X.fn x = true) (h : nmOk str X.N sc i e = true) : PG X e (gName i) := by
  obtain ⟨x, p, rfl, h1, h2⟩ := nm_name h
  cases str with
  | true =>
    have h3 : sc.names.lookup x = some .local := by simpa using h2
    rw [← C.scope] at h3
    exact pg_name C.nd h1 (.inl h3) (.inr h3)
  | false => exact pg_name C.nd h1 (loc_of C.scope (by simpa using h2)) (.inl (hf rfl x))
theorem pgs_nms (C : Cok bl sc X) (hf : str = false → ∀ x, X.fn x = true) : ∀ {is : List Nat} {es : List Expr}, nmsOk str X.N sc is es = true → PGs X es (gsr is) ∧ es.length = is.length ∧ assignEach es X.env = es.map fun e => (false, assign e X.env)
  | [], [], _ => ⟨pgs_nil, rfl, rfl⟩
  | [], _ :: _, h => by simp [nmsOk] at h
  | _ :: _, [], h => by simp [nmsOk] at h
  | i :: is, e :: es, h => by
    have h' : nmOk str X.N sc i e = true ∧ nmsOk str X.N sc is es = true := by simpa [nmsOk] using h
    obtain ⟨r1, r2, r3⟩ := pgs_nms C hf h'.2
    have g := pg_nm C hf h'.1
    obtain ⟨x, p, rfl, _⟩ := nm_name h'.1
    exact ⟨pgs_cons g r1 rfl, by simp [r2], by show (false, _) :: assignEach es X.env = _; rw [r3]; rfl⟩
theorem pg_of {g : G} {t : Expr} (C : Cok bl sc X) (hf : str = false → ∀ x, X.fn x = true) (h : chkG str X.N sc g t = true) : PG X t (gr X.K g) := by
  cases g with
  | nm i => exact pg_nm C hf h
  | tup is =>
    cases t with
    | Tuple es k p =>
      obtain ⟨r1, r2, r3⟩ := pgs_nms C hf (show nmsOk str X.N sc is es = true from h)
      refine pg_tup C.calm r1 (by rw [r3, List.length_map, r2]) ?_
      rw [r3]
      rw [List.findIdx?_eq_none_iff]
      simp
    | _ => simp [chkG] at h
theorem gslots_lt {g : G} {t : Expr} {N : List Str} (h : chkG str N sc g t = true) : ∀ i ∈ gSlots g, i < N.length := by
  have key : ∀ {is : List Nat} {es : List Expr}, nmsOk str N sc is es = true → ∀ i ∈ is, i < N.length := by
    intro is
    induction is with
    | nil => intro es _ i hi; cases hi
    | cons j is ih =>
      intro es h i hi
      cases es with
      | nil => simp [nmsOk] at h
      | cons e es =>
        have h' : nmOk str N sc j e = true ∧ nmsOk str N sc is es = true := by simpa [nmsOk] using h
        rcases List.mem_cons.mp hi with rfl | hi
        · obtain ⟨x, p, rfl, h1, _⟩ := nm_name h'.1
          exact (List.getElem?_eq_some_iff.mp h1).1
        · exact ih h'.2 i hi
  cases g with
  | nm j =>
    intro i hi
    have e : i = j := by simpa [gSlots] using hi
    subst e
    obtain ⟨x, p, rfl, h1, _⟩ := nm_name (show nmOk str N sc i t = true from h)
    exact (List.getElem?_eq_some_iff.mp h1).1
  | tup is =>
    cases t with
    | Tuple es k p => exact key (show nmsOk str N sc is es = true from h)
    | _ => simp [chkG] at h
theorem gr_ok {P : Addr → Prop} {ca : Am} {K : PySem.W.Frag} {σ σ' : List Sl} {S : Sto} {σc : L2.St} {H : Hp} {fp : Nat → List Addr} {g : G} {x : D} {v : V} (R : SRep P K ca σ S σc H fp) (hl : ∀ i ∈ gSlots g, i < σc.length) (h : setG g x σ = some σ') (r : RepD K ca H x v)
    {Q : L2.St → Hp → Prop} (q : ∀ σc' fp', σc'.length = σc.length → (∀ vs, (∀ i ∈ gSlots g, i ∈ vs) → L2.wipe σc' vs = L2.wipe σc vs) → SRep P K ca σ' S σc' H fp' → (∀ n, fp' (2 * n + 1) = fp (2 * n + 1)) → Q σc' H) : gr K g v σc H Q := by
  have odd : ∀ (fp : Nat → List Addr) (i n : Nat), (fun j => if j = 2 * i then [] else fp j) (2 * n + 1) = fp (2 * n + 1) := fun fp i n => if_neg (by omega)
  have key : ∀ (is : List Nat) (xs : List D) (vs : List V) (σ : List Sl) (σc : L2.St) (fp : Nat → List Addr), SRep P K ca σ S σc H fp → (∀ i ∈ is, i < σc.length) → setGs is xs σ = some σ' → RepDs K ca H xs vs → ∀ Q : L2.St → Hp → Prop,
      (∀ σc' fp', σc'.length = σc.length → (∀ vs, (∀ i ∈ is, i ∈ vs) → L2.wipe σc' vs = L2.wipe σc vs) → SRep P K ca σ' S σc' H fp' → (∀ n, fp' (2 * n + 1) = fp (2 * n + 1)) → Q σc' H) → gsr is vs σc H Q := by
    intro is
    induction is with
    | nil =>
      intro xs vs σ σc fp R hl h r Q q
      cases xs with
      | nil =>
        unfold RepDs at r
        subst r
        have e : σ = σ' := by simpa [setGs] using h
        subst e
        exact ⟨rfl, q σc fp rfl (fun _ _ => rfl) R fun _ => rfl⟩
      | cons _ _ => simp [setGs] at h
    | cons i is ih =>
      intro xs vs σ σc fp R hl h r Q q
      cases xs with
      | nil => simp [setGs] at h
      | cons x xs =>
        unfold RepDs at r
        obtain ⟨v, vr, e1, r1, r2⟩ := r
        subst e1
        unfold setGs at h
        cases e2 : putS σ i (.ro (.d x)) with
        | none => rw [e2] at h; cases h
        | some σ2 =>
          rw [e2] at h
          have hi : i < σc.length := hl i List.mem_cons_self
          have S2 := R.putRo (v := v) e2 r1
          refine ⟨v, vr, rfl, ?_⟩
          refine ih xs vr σ2 (σc.set i (some v)) _ S2 (fun j hj => by rw [List.length_set]; exact hl j (List.mem_cons_of_mem _ hj)) h r2 Q fun σc' fp' l' w' S' k' => ?_
          exact q σc' fp' (by rw [l', List.length_set]) (fun us hu => by rw [w' us fun j hj => hu j (List.mem_cons_of_mem _ hj), wipe_set (hu i List.mem_cons_self)]) S' fun n => (k' n).trans (odd fp i n)
  cases g with
  | nm i =>
    have hi : i < σc.length := hl i (by simp [gSlots])
    have S2 := R.putRo (v := v) (show putS σ i (.ro (.d x)) = some σ' from h) r
    exact q _ _ (by rw [List.length_set]) (fun vs hv => wipe_set (hv i (by simp [gSlots]))) S2 fun n => odd fp i n
  | tup is =>
    cases x with
    | tup xs =>
      obtain ⟨a, vs, e, hq, r2⟩ : ∃ a vs, v = .ref a ∧ SqT K H a vs ∧ RepDs K ca H xs vs := r
      subst e
      have hlen : xs.length = is.length := by
        have key2 : ∀ (is : List Nat) (xs : List D) (σ : List Sl), setGs is xs σ = some σ' → xs.length = is.length := by
          intro is
          induction is with
          | nil => intro xs σ h; cases xs with
            | nil => rfl
            | cons _ _ => simp [setGs] at h
          | cons i is ih => intro xs σ h; cases xs with
            | nil => simp [setGs] at h
            | cons x xs =>
              unfold setGs at h
              cases e2 : putS σ i (.ro (.d x)) with
              | none => rw [e2] at h; cases h
              | some σ2 => rw [e2] at h; simp [ih xs σ2 h]
        exact key2 is xs σ h
      exact ⟨a, vs, rfl, hq, by rw [r2.length, hlen], key is xs vs σ σc fp R hl h r2 Q q⟩
    | _ => cases h
/-! ### comprehensions -/
section
variable {Γ : Gam} {P : Addr → Prop} {ca : Am} {Z : Sto} {σ : List Sl} {σc : L2.St} {H : Hp} {fp : Nat → List Addr}
theorem Cok.blk (C : Cok bl sc X) (s0 : Shared) (H0 : Hp) (scope : Scope) (cl : List (Str × Addr)) (A : Addr) (fps : List Addr) (hk : scope.kind = .function) : Cok bl (relS scope sc) (X.blk s0 H0 scope (compEnvC scope cl A X.env) fps) := by
  refine ⟨?_, C.nd, C.calm, C.un, C.bln, ?_⟩
  · show relS scope X.env.scope = relS scope sc
    rw [C.scope]
  · show (relS scope X.env.scope).kind = .function
    exact hk
/-- an expression in a comprehension's block -/
def wpB (X : Cx) (scope : Scope) (e : Expr) : TE := fun σ H Q => ∀ (s0 : Shared) (H0 : Hp) (A : Addr) (cl : List (Str × Addr)) (fps : List Addr), wpE (X.blk s0 H0 scope (compEnvC scope cl A X.env) fps) e σ H Q
def wpBt (X : Cx) (scope : Scope) : List Expr → TT
  | [] => tYes
  | e :: _ => fun σ H Q => ∀ (s0 : Shared) (H0 : Hp) (A : Addr) (cl : List (Str × Addr)) (fps : List Addr), wpT (X.blk s0 H0 scope (compEnvC scope cl A X.env) fps) e σ H Q
theorem lc_core {own : List (Str × Nat)} {g : G} {it : Ev.It} {cs : Eo} {e : E} (Si : SndIt bl Γ it) (Sc : ∀ c, cs = .some c → tstOk c = true → SndT bl Γ c) (S : SndE bl Γ e)
    {elt : Expr} {gens : List Comprehension} {scope : Scope} {pos : Pos} (hc : chk bl X.N sc (.lc own g it cs e) (.ListComp elt gens scope pos) = true) (C : Ctx bl sc X Γ P ca Z σ σc H fp) {w : W} {k : Kd} (he : ev Γ Z (.lc own g it cs e) σ = some (.ok (w, k))) :
    ∃ tg iter ifs, gens = [⟨tg, iter, ifs, 0⟩] ∧ BlkOk X.N X.env.scope scope own ∧
      (∀ (s : Shared) (H : Hp) (C : Addr) (cl : List (Str × Addr)) (fp : List Addr), PG (X.blk s H scope (compEnvC scope cl C X.env) fp) tg (gr X.K g)) ∧
      (∀ (s : Shared) (H : Hp) (C : Addr) (cl : List (Str × Addr)) (fp : List Addr), PTs (X.blk s H scope (compEnvC scope cl C X.env) fp) ifs (wpBt X scope ifs)) ∧
      (∀ (s : Shared) (H : Hp) (C : Addr) (cl : List (Str × Addr)) (fp : List Addr), PE (X.blk s H scope (compEnvC scope cl C X.env) fp) elt (wpB X scope elt)) ∧
      (∀ x, foldedSetIterable iter X.env x = pure x) ∧
      ∀ Q : VK, (∀ v H', Same H H' → RepV P X.K ca σc H H' w k v → Q v H') → tLc (wpI X tg iter) (gr X.K g) (wpBt X scope ifs) (wpB X scope elt) (own.map (·.2)) σc H Q := by
  have hc0 : (match oneGen gens with
    | some (tg, iter, ifs) => chki bl X.N sc it iter && tgOk it g && blkC X.N sc scope own && chkG true X.N (relS scope sc) g tg && (gSlots g).all (fun i => (own.map (·.2)).contains i) &&
        (own.map (·.2)).all (fun i => decide (i < X.N.length)) && chk bl X.N (relS scope sc) e elt && chkc bl X.N (relS scope sc) cs ifs
    | none => false) = true := hc
  cases eg : oneGen gens with
  | none => rw [eg] at hc0; cases hc0
  | some p =>
    obtain ⟨tg, iter, ifs⟩ := p
    rw [eg] at hc0
    simp only [Bool.and_eq_true] at hc0
    obtain ⟨⟨⟨⟨⟨⟨⟨h1, h2⟩, h3⟩, h4⟩, h5⟩, h6⟩, h7⟩, h8⟩ := hc0
    have hgens : gens = [⟨tg, iter, ifs, 0⟩] := by
      unfold oneGen at eg
      split at eg
      · split at eg
        · rename_i ea
          cases eg
          rw [ea]
        · cases eg
      · cases eg
    subst hgens
    have ok := blkOk_by h3
    unfold ev at he
    obtain ⟨⟨xs, ls⟩, e1, he⟩ := bind_ok he
    obtain ⟨hz, he⟩ := guardN_ok he
    simp only at hz
    obtain ⟨ys, e2, he⟩ := bind_ok he
    cases ok_inj he
    have okB : BlkOk X.N X.env.scope scope own := by rw [C.ok.scope]; exact ok
    -- the parts' readings
    have hl : ∀ i ∈ gSlots g, i < σc.length := fun i hi => by rw [C.ln]; exact gslots_lt h4 i hi
    have hown : ∀ v ∈ own.map (·.2), v < σc.length := fun v hv => by
      rw [C.ln]
      have := List.all_eq_true.mp h6 v hv
      exact of_decide_eq_true this
    have hin : ∀ i ∈ gSlots g, i ∈ own.map (·.2) := fun i hi => by
      have := List.all_eq_true.mp h5 i hi
      simpa using this
    refine ⟨tg, iter, ifs, rfl, okB, fun s0 H0 A cl fps => pg_of (C.ok.blk s0 H0 scope cl A fps ok.kind) (fun z => by cases z) h4, fun s0 H0 A cl fps => ?_, fun s0 H0 A cl fps => ⟨fun pins s σ H Q I h => h s0 H0 A cl fps pins s I⟩, fun x => fold_of h1 _ x, fun Q q => ?_⟩
    · cases ifs with
      | nil => exact pts_nil
      | cons c r =>
        cases r with
        | nil => exact pts_one ⟨fun pins s σ H Q I h => h s0 H0 A cl fps pins s I⟩
        | cons _ _ => cases cs <;> simp [chkc] at h8
    have htt : (∃ j, g = .nm j) ∨ ∃ es k p, tg = .Tuple es k p := by
      cases g with
      | nm j => exact .inl ⟨j, rfl⟩
      | tup is => cases tg with
        | Tuple es k p => exact .inr ⟨es, k, p, rfl⟩
        | _ => simp [chkG] at h4
    refine it_snd Si (tg := tg) h2 (fun i p z => by subst z; cases g with | nm j => exact ⟨j, rfl⟩ | tup is => simp [chkG] at h4) htt h1 C e1 fun J H1 vs s1 rv hJ => fun D hD => ?_
    -- the sources stand
    have src : ∀ H2, Same H1 H2 → RepWs X.K ca H2 (ls.map fun x => x.1.at Z) vs := fun H2 s2 => by
      have key : ∀ (ls : List VW) (vs : List V), RepVs P X.K ca σc H H1 ls vs → RepWs X.K ca H2 (ls.map (·.1)) vs := by
        intro ls
        induction ls with
        | nil => intro vs h; exact h
        | cons l ls ih =>
          intro vs h
          obtain ⟨v, r, e, h1, h2⟩ := h
          exact ⟨v, r, e, h1.rep.mono (.of_same s2) (fun _ p => p), ih r h2⟩
      have r := (C.mono (s1.trans s2)).at_reps (key ls vs rv)
      rw [List.map_map] at r
      exact r
    obtain ⟨fpw, Sw⟩ := C.sr.wipe (own.map (·.2)) hown
    refine ⟨fun i m H2 => ∃ acc accv rest, m = xs.length - i ∧ i ≤ xs.length ∧ Same H1 H2 ∧ H2 D = some (.lst accv) ∧ RepDs X.K ca H2 acc accv ∧ acc.length ≤ i ∧
        lcRun (fun x => setG g x (wipeS σ (own.map (·.2)))) (evc Γ Z cs) (ev Γ Z e) (xs.drop i) = some (.ok rest) ∧ ys = acc ++ rest,
      ⟨xs.length, [], [], ys, by simp, Nat.zero_le _, Same.upd hD, upd_same, .nil, Nat.zero_le _, e2, rfl⟩, ?_⟩
    rintro i m H2 ⟨acc, accv, rest, rfl, hi, s2, hD2, racc, hacc, hrun, hys⟩
    obtain ⟨hgo, hstop⟩ := hJ ca H2 (src H2 s2)
    by_cases hlt : i < xs.length
    · have hx : xs[i]? = some xs[i] := List.getElem?_eq_getElem hlt
      obtain ⟨go, yld⟩ := hgo i _ hx
      refine .inr ⟨go, fun H3 => ∃ acc accv rest, Same H1 H3 ∧ H3 D = some (.lst accv) ∧ RepDs X.K ca H3 acc accv ∧ acc.length ≤ i + 1 ∧
        lcRun (fun x => setG g x (wipeS σ (own.map (·.2)))) (evc Γ Z cs) (ev Γ Z e) (xs.drop (i + 1)) = some (.ok rest) ∧ ys = acc ++ rest, ?_, ?_⟩
      · rintro H3 ⟨acc', accv', rest', a1, a2, a3, a4, a5, a6⟩
        exact ⟨xs.length - (i + 1), by omega, acc', accv', rest', rfl, hlt, a1, a2, a3, a4, a5, a6⟩
      · intro v H3 hy
        obtain ⟨s3, rx⟩ := yld v H3 hy
        rw [List.drop_eq_getElem_cons hlt] at hrun
        unfold lcRun at hrun
        cases eb : setG g xs[i] (wipeS σ (own.map (·.2))) with
        | none => rw [eb] at hrun; cases hrun
        | some σ2 =>
          rw [eb] at hrun
          simp only at hrun
          obtain ⟨bt, et, hrun⟩ := bind_ok hrun
          have s03 : Same H H3 := (s1.trans s2).trans s3
          refine gr_ok (Sw.mono s03) (fun i hi => by rw [wipe_len]; exact hl i hi) eb rx fun σc2 fp2 l2 w2 S2 _ => ?_
          have l2' : σc2.length = X.N.length := by rw [l2, wipe_len, C.ln]
          refine ⟨by rw [w2 _ hin, wipe_idem], ?_⟩
          have hD3 : H3 D = some (.lst accv) := s3 _ _ hD2
          -- the element, the list grown
          have elt_go : ∀ H4, Same H3 H4 → bt = true → wpB X scope elt σc2 H4 fun y H5 => ∃ acc', H5 D = some (.lst acc') ∧ acc'.length < sizeLine ∧
              (∃ acc accv rest, Same H1 (upd H5 D (.lst (acc' ++ [y]))) ∧ (upd H5 D (.lst (acc' ++ [y]))) D = some (.lst accv) ∧ RepDs X.K ca (upd H5 D (.lst (acc' ++ [y]))) acc accv ∧ acc.length ≤ i + 1 ∧
                lcRun (fun x => setG g x (wipeS σ (own.map (·.2)))) (evc Γ Z cs) (ev Γ Z e) (xs.drop (i + 1)) = some (.ok rest) ∧ ys = acc ++ rest) := fun H4 s4 hb => by
            subst hb
            simp only [if_true] at hrun
            obtain ⟨⟨wy, ky⟩, ey, hrun⟩ := bind_ok hrun
            simp only at hrun
            split at hrun
            · rename_i y
              obtain ⟨zs, ez, hrun⟩ := bind_ok hrun
              cases ok_inj hrun
              intro s0 H0 A cl fps
              refine S elt (relS scope sc) (X.blk s0 H0 scope (compEnvC scope cl A X.env) fps) P ca Z σ2 σc2 H4 fp2 h7 ⟨C.ok.blk s0 H0 scope cl A fps ok.kind, C.fns, S2.mono s4, l2'⟩ _ _ ey _ fun vy H5 s5 ry => ?_
              have s35 := s4.trans s5
              have hD5 : H5 D = some (.lst accv) := s35 _ _ hD3
              have nt : Same H1 (upd H5 D (.lst (accv ++ [vy]))) := fun b o z => by
                rw [upd_ne (ne_of_none z hD)]
                exact s35 _ _ (s3 _ _ (s2 _ _ z))
              have tk5 : TK X.K H5 (upd H5 D (.lst (accv ++ [vy]))) := ⟨fun b us z => by
                rcases z with (z | ⟨o, z⟩) | z
                · refine .inl (.inl ?_)
                  rw [upd_ne (ne_of z hD5 (by simp))]
                  exact z
                · refine .inl (.inr ⟨o, ?_⟩)
                  rw [upd_ne (ne_of z hD5 (by simp))]
                  exact z
                · exact .inr z, fun b o u z => by rw [upd_ne (ne_of z hD5 (by simp))]; exact z⟩
              have ryD : RepD X.K ca H5 y vy := ry.rep
              refine ⟨accv, hD5, ?_, acc ++ [y], accv ++ [vy], zs, nt, upd_same, ?_, by simp; omega, ez, by rw [hys]; simp⟩
              · rw [racc.length]; omega
              · exact ((racc.mono (.of_same (s3.trans s35))).app (.cons ryD .nil)).mono tk5
            · cases hrun
          have skip : ∀ H4, Same H3 H4 → bt = false → ∃ acc accv rest, Same H1 H4 ∧ H4 D = some (.lst accv) ∧ RepDs X.K ca H4 acc accv ∧ acc.length ≤ i + 1 ∧
              lcRun (fun x => setG g x (wipeS σ (own.map (·.2)))) (evc Γ Z cs) (ev Γ Z e) (xs.drop (i + 1)) = some (.ok rest) ∧ ys = acc ++ rest := fun H4 s4 hb => by
            subst hb
            simp only [Bool.false_eq_true, if_false] at hrun
            exact ⟨acc, accv, rest, (s2.trans s3).trans s4, s4 _ _ hD3, racc.mono (.of_same (s3.trans s4)), by omega, hrun, hys⟩
          cases ifs with
          | nil =>
            have hcs : cs = .none := by cases cs <;> simp_all [chkc]
            subst hcs
            unfold evc at et
            cases ok_inj et
            simp only [wpBt, tYes, if_true]
            exact elt_go H3 (fun _ _ z => z) rfl
          | cons c r =>
            cases r with
            | cons _ _ => cases cs <;> simp [chkc] at h8
            | nil =>
              cases cs with
              | none => simp [chkc] at h8
              | some ce =>
                have h8' : tstOk ce = true ∧ chk bl X.N (relS scope sc) ce c = true := by simpa [chkc] using h8
                unfold evc at et
                obtain ⟨⟨wc, kc⟩, ec, et⟩ := bind_ok et
                intro s0 H0 A cl fps
                refine Sc ce rfl h8'.1 c (relS scope sc) (X.blk s0 H0 scope (compEnvC scope cl A X.env) fps) P ca Z σ2 σc2 H3 fp2 h8'.2 ⟨C.ok.blk s0 H0 scope cl A fps ok.kind, C.fns, S2, l2'⟩ wc kc bt ec et _ fun H4 s4 => ?_
                cases bt with
                | true => rw [if_pos rfl]; exact elt_go H4 s4 rfl
                | false => rw [if_neg Bool.false_ne_true]; exact skip H4 s4 rfl
    · have e : i = xs.length := by omega
      subst e
      refine .inl ⟨hstop, ?_⟩
      rw [List.drop_length] at hrun
      unfold lcRun at hrun
      cases ok_inj hrun
      rw [List.append_nil] at hys
      subst hys
      have hs := s1.trans s2
      have hDH : H D = none := s1.free hD
      exact q (.ref D) H2 hs ⟨⟨D, accv, rfl, .inl ⟨trivial, .inl hD2⟩, racc⟩, [D], ⟨D, accv, rfl, hD2, racc, rfl⟩, fun a ha => by
        have e : a = D := by simpa using ha
        subst e
        exact hDH, by simp⟩

theorem lc_snd {own : List (Str × Nat)} {g : G} {it : Ev.It} {cs : Eo} {e : E} (Si : SndIt bl Γ it) (Sc : ∀ c, cs = .some c → tstOk c = true → SndT bl Γ c) (S : SndE bl Γ e) : SndE bl Γ (.lc own g it cs e) := by
  intro x sc X P ca Z σ σc H fp hc C w k he Q q
  cases x with
  | ListComp elt gens scope pos =>
    obtain ⟨tg, iter, ifs, rfl, okB, hg, ht, hel, hs, hq⟩ := lc_core Si Sc S hc C he
    exact wp_of (pe_lc C.ok.calm C.ok.nd pi_wp okB hg ht hel hs) (hq Q q)
  | _ => simp [chk] at hc
end
end
/-! ### the theorem -/
section
variable {bl : List Str} {Γ : Gam}
/-- a fresh list is frozen -/
theorem wpE_frz {X : Cx} {x : Expr} {σ : L2.St} {H : Hp} {Q : VK} (h : wpE X x σ H fun v H1 => ∃ a vs, v = .ref a ∧ H1 a = some (.lst vs) ∧ ∀ o, Q v (upd H1 a (.frz o (.lst vs)))) : wpE X x σ H Q := fun pins s I =>
  wpAny_mono (h pins s I) (fun v s' ⟨u, H1, I1, r, a, vs, e, ha, q⟩ => by
    obtain ⟨o, I2⟩ := I1.lock ha trivial
    exact ⟨u, _, I2, r, q o⟩) fun _ _ z => z
theorem frz_snd {e : E} (S : SndE bl Γ e) : SndE bl Γ (.frz e) := by
  intro x sc X P ca Z σ σc H fp hc C w k he Q q
  have hc' : chk bl X.N sc e x = true := by unfold chk at hc; exact hc
  unfold ev at he
  obtain ⟨⟨w0, k0⟩, e1, he⟩ := bind_ok he
  split at he
  · rename_i xs ex
    cases ex
    cases ok_inj he
    refine wpE_frz ?_
    refine S x sc X P ca Z σ σc H fp hc' C _ _ e1 _ fun v H1 s1 r1 => ?_
    obtain ⟨f, ⟨a, vs, e2, h2, r2, ef⟩, n2, _⟩ : ∃ fp, OwnW X.K ca H1 (.c (.lst xs)) v fp ∧ (∀ a ∈ fp, H a = none) ∧ fp.Nodup := r1.kd
    refine ⟨a, vs, e2, h2, fun o => ?_⟩
    have na : H a = none := n2 a (by rw [ef]; simp)
    have sm : Same H (upd H1 a (.frz o (.lst vs))) := fun b u z => by
      rw [upd_ne (ne_of_none z na)]
      exact s1 b u z
    have tk : TK X.K H1 (upd H1 a (.frz o (.lst vs))) := ⟨fun b us z => by
      rcases z with (z | ⟨o', z⟩) | z
      · exact .inl (.inl (by rw [upd_ne (ne_of z h2 (by simp))]; exact z))
      · exact .inl (.inr ⟨o', by rw [upd_ne (ne_of z h2 (by simp))]; exact z⟩)
      · exact .inr z, fun b o' u z => by rw [upd_ne (ne_of z h2 (by simp))]; exact z⟩
    exact q v _ sm (.ofD ⟨a, o, vs, e2, upd_same, r2.mono tk⟩)
  · cases he
theorem glob_snd {y : Str} : SndE bl Γ (.glob y) := by
  intro x sc X P ca Z σ σc H fp hc C w k he Q q
  cases x with
  | Name x pos =>
    have hc' : (decide (y = x) && glB sc y && plainName y && isPl y) = true := hc
    simp only [Bool.and_eq_true, decide_eq_true_eq, plainName, Bool.not_eq_true'] at hc'
    obtain ⟨⟨⟨h1, h2⟩, ⟨h3, h4⟩, _⟩, _⟩ := hc'
    subst h1
    unfold ev at he
    split at he
    · rename_i g eg
      split at he
      · rename_i d S' e2
        obtain ⟨d', v, hg, rv, hp⟩ := (C.fns X rfl rfl rfl rfl rfl rfl _ g eg).gl y rfl
        obtain ⟨S2, e3⟩ := hg Z.hold
        rw [e3] at e2
        cases e2
        cases ok_inj he
        exact wp_of (hp pos (gl_of C.ok.scope h2) h3) (q v H (fun _ _ z => z) (.ofD (rv ca H)))
      · cases he
    · cases he
  | _ => simp [chk] at hc
theorem dnew_snd {t : Bool} : SndE bl Γ (.dnew t) := by
  intro x sc X P ca Z σ σc H fp hc C w k he Q q
  cases x with
  | Dict ks vs pos =>
    match ks, vs with
    | [], [] =>
      unfold ev at he
      cases t with
      | true =>
        simp only [if_true] at he
        cases ok_inj he
        exact wp_of pe_dnewT fun p np => q _ _ (Same.upd np) ⟨⟨p, [], rfl, trivial, upd_same, rfl, rfl⟩, [p], ⟨p, [], rfl, upd_same, rfl, rfl, rfl⟩, fun a ha => by
          have e : a = p := by simpa using ha
          subst e; exact np, by simp⟩
      | false =>
        simp only [Bool.false_eq_true, if_false] at he
        cases ok_inj he
        exact wp_of pe_dnewK fun p np => q _ _ (Same.upd np) ⟨⟨p, [], rfl, trivial, upd_same, rfl, rfl⟩, [p], ⟨p, [], rfl, upd_same, rfl, rfl, rfl⟩, fun a ha => by
          have e : a = p := by simpa using ha
          subst e; exact np, by simp⟩
    | [], _ :: _ => simp [chk] at hc
    | _ :: _, _ => simp [chk] at hc
  | _ => simp [chk] at hc
/-- every operand -/
def AllSnd (bl : List Str) (Γ : Gam) : Es → Prop
  | .nil => True
  | .cons e es => SndE bl Γ e ∧ AllSnd bl Γ es
theorem RepDs.rev {K : PySem.W.Frag} {ca : Am} {H : Hp} : ∀ {xs : List Ev.D} {vs : List V}, RepDs K ca H xs vs → RepDs K ca H xs.reverse vs.reverse
  | [], _, h => by unfold RepDs at h; subst h; exact .nil
  | x :: xs, _, h => by
    unfold RepDs at h
    obtain ⟨v, r, e, h1, h2⟩ := h
    subst e
    rw [List.reverse_cons, List.reverse_cons]
    exact RepDs.app (RepDs.rev h2) (.cons h1 .nil)
theorem RepDs.pick {K : PySem.W.Frag} {ca : Am} {H : Hp} {xs : List Ev.D} {vs : List V} (h : RepDs K ca H xs vs) : ∀ is : List Nat, RepDs K ca H (is.filterMap (xs[·]?)) (is.filterMap (vs[·]?))
  | [] => .nil
  | i :: is => by
    have ih := RepDs.pick h is
    rw [List.filterMap_cons, List.filterMap_cons]
    by_cases c : i < xs.length
    · have e : xs[i]? = some xs[i] := List.getElem?_eq_getElem c
      obtain ⟨u, hu, ru⟩ := h.get e
      rw [e, hu]
      exact .cons ru ih
    · have h2 : ¬ i < vs.length := by rw [h.length]; exact c
      rw [List.getElem?_eq_none (by omega), List.getElem?_eq_none (by omega)]
      exact ih
theorem spM_listRev {x : Expr} {ys : List Expr} (h : spM bl sc .listRev x = some ys) : ∃ p1 p2 p3 p4 y, x = .Call (.Name "list" p1) [.Call (.Name "reversed" p2) [y] [] p3] [] p4 ∧ glB sc "list" = true ∧ glB sc "reversed" = true ∧ bl.contains "list" = true ∧ bl.contains "reversed" = true ∧ ys = [y] := by
  unfold spM at h
  split at h
  · split at h
    · rename_i hcond
      cases h
      simp only [Bool.and_eq_true, decide_eq_true_eq] at hcond
      obtain ⟨⟨⟨⟨⟨hf, hg⟩, g1⟩, g2⟩, b1⟩, b2⟩ := hcond
      subst hf hg
      exact ⟨_, _, _, _, _, rfl, g1, g2, b1, b2, rfl⟩
    · cases h
  · rename_i e; cases e
  · cases h
theorem spM_step {x : Expr} {ys : List Expr} (h : spM bl sc .step x = some ys) : ∃ p1 p2 y k, x = .Subscript y (.Slice none none (some k) p1) p2 ∧ ys = [y, k] := by
  unfold spM at h
  split at h
  · rename_i e; cases e
  · cases h
    exact ⟨_, _, _, _, rfl, rfl⟩
  · cases h
theorem sp_snd {k : Spx} {es : Es} (A : AllSnd bl Γ es) : SndE bl Γ (.sp k es) := by
  intro x sc X P ca Z σ σc H fp hc C w kd he Q q
  have hc0 : (match spM bl sc k x with
      | some ys => chks bl X.N sc es ys
      | none => false) = true := by unfold chk at hc; exact hc
  clear hc
  unfold ev at he
  obtain ⟨ws, ews, he⟩ := bind_ok he
  cases hM : spM bl sc k x with
  | none => rw [hM] at hc0; cases hc0
  | some ys =>
    rw [hM] at hc0
    have hc : chks bl X.N sc es ys = true := hc0
    cases k with
    | listRev =>
      obtain ⟨p1, p2, p3, p4, y, rfl, g1, g2, b1, b2, rfl⟩ := spM_listRev hM
      cases es with
      | nil => simp [chks] at hc
      | cons e es =>
        cases es with
        | cons _ _ => simp [chks] at hc
        | nil =>
          have hc1 : chk bl X.N sc e y = true := by simpa [chks] using hc
          unfold evs at ews
          obtain ⟨⟨w1, k1⟩, e1, ews⟩ := bind_ok ews
          obtain ⟨us, e2, ews⟩ := bind_ok ews
          unfold evs at e2
          cases ok_inj e2
          cases ok_inj ews
          refine wp_of (pe_listRev C.ok.calm (gl_of C.ok.scope g1) (C.ok.bln _ (List.contains_iff_mem.mp b1)) (gl_of C.ok.scope g2) (C.ok.bln _ (List.contains_iff_mem.mp b2)) pe_wp (star_of hc1 _ _)) ?_
          refine A.1 y sc X P ca Z σ σc H fp hc1 C w1 k1 e1 _ fun v H1 s1 r1 => ?_
          have rr := (C.mono s1).sr.at_rep r1.rep
          have he2 : spW .listRev [w1.at Z] = some (.ok (w, kd)) := he
          generalize w1.at Z = w2 at rr he2
          unfold spW at he2
          split at he2
          · rename_i e3 e4
            cases e4
            cases ok_inj he2
            obtain ⟨a, vs, ev2, hl, rs⟩ := rr
            exact ⟨a, vs, ev2, hl.seq, fun p np => q _ _ (s1.trans (Same.upd np)) (.ofL (.of_same (s1.trans (Same.upd np))) np s1 (RepDs.rev rs))⟩
          · rename_i e3 e4; cases e3
          · rename_i e3 e4; cases e3
          · cases he2
    | step =>
      obtain ⟨p1, p2, y, kx, rfl, rfl⟩ := spM_step hM
      cases es with
      | nil => simp [chks] at hc
      | cons e es =>
        cases es with
        | nil => simp [chks] at hc
        | cons e2 es =>
          cases es with
          | cons _ _ => simp [chks] at hc
          | nil =>
            have hc1 : chk bl X.N sc e y = true ∧ chk bl X.N sc e2 kx = true := by simpa [chks] using hc
            unfold evs at ews
            obtain ⟨⟨w1, k1⟩, e1, ews⟩ := bind_ok ews
            obtain ⟨us, ews2, ews⟩ := bind_ok ews
            unfold evs at ews2
            obtain ⟨⟨w2, k2⟩, e3, ews2⟩ := bind_ok ews2
            obtain ⟨us2, e4, ews2⟩ := bind_ok ews2
            unfold evs at e4
            cases ok_inj e4
            cases ok_inj ews2
            cases ok_inj ews
            refine wp_of (pe_step pe_wp pe_wp) ?_
            refine A.1 y sc X P ca Z σ σc H fp hc1.1 C w1 k1 e1 _ fun v H1 s1 r1 => ?_
            refine A.2.1 kx sc X P ca Z σ σc H1 fp hc1.2 (C.mono s1) w2 k2 e3 _ fun u H2 s2 r2 => ?_
            have C2 := (C.mono s1).mono s2
            have rr := C2.sr.at_rep (r1.later s2).rep
            have rk := C2.sr.at_rep r2.rep
            have he2 : spW .step [w1.at Z, w2.at Z] = some (.ok (w, kd)) := he
            generalize w1.at Z = w3 at rr he2
            generalize w2.at Z = w4 at rk he2
            unfold spW at he2
            split at he2
            · rename_i e5 e6; cases e5
            · rename_i e5 e6
              cases e6
              obtain ⟨⟨h0, hl⟩, he3⟩ := guardP_ok he2
              cases ok_inj he3
              have rz : v = .str _ := rr
              have ri : u = .int _ := rk
              exact ⟨_, ri, _, rfl, h0, .inl ⟨_, rz, hl, q _ _ (s1.trans s2) (.ofD rfl)⟩⟩
            · rename_i e5 e6
              cases e6
              obtain ⟨h0, he3⟩ := guardP_ok he2
              cases ok_inj he3
              have ri : u = .int _ := rk
              obtain ⟨a, vs, ev2, hl, rs⟩ := rr
              refine ⟨_, ri, _, rfl, h0, .inr ⟨a, vs, ev2, hl.seq, fun p np => q _ _ ((s1.trans s2).trans (Same.upd np)) ?_⟩⟩
              rw [rs.length]
              exact .ofL (.of_same ((s1.trans s2).trans (Same.upd np))) np (s1.trans s2) (RepDs.pick rs _)
            · cases he2
theorem mt_snd {m : Mt} {o : E} {es : Es} : SndE bl Γ (.mt m o es) := by
  intro x sc X P ca Z σ σc H fp hc C w k he Q q
  unfold ev at he
  obtain ⟨_, _, he⟩ := bind_ok he
  obtain ⟨_, _, he⟩ := bind_ok he
  cases he
mutual
theorem sndE : ∀ e : E, SndE bl Γ e
  | .var i => var_ok i
  | .non => fun x sc X P ca Z σ σc H fp hc C w k he Q q => by
      cases x with
      | Constant c j p => cases c with
        | none => exact const_ok (d := .non) pe_non (fun _ => rfl) he q
        | _ => simp [chk] at hc
      | _ => simp [chk] at hc
  | .bl b => fun x sc X P ca Z σ σc H fp hc C w k he Q q => by
      cases x with
      | Constant c j p => cases c with
        | bool b' =>
          have e : b = b' := by simpa [chk] using hc
          subst e
          exact const_ok (d := .bl b) pe_bl (fun _ => rfl) he q
        | _ => simp [chk] at hc
      | _ => simp [chk] at hc
  | .int i => fun x sc X P ca Z σ σc H fp hc C w k he Q q => by
      cases x with
      | Constant c j p => cases c with
        | int b' =>
          have e : i = b' := by simpa [chk] using hc
          subst e
          exact const_ok (d := .int i) pe_int (fun _ => rfl) he q
        | _ => simp [chk] at hc
      | _ => simp [chk] at hc
  | .str z => fun x sc X P ca Z σ σc H fp hc C w k he Q q => by
      cases x with
      | Constant c j p => cases c with
        | str b' =>
          have e : z = b' := by simpa [chk] using hc
          subst e
          exact const_ok (d := .str z) pe_str (fun _ => rfl) he q
        | _ => simp [chk] at hc
      | _ => simp [chk] at hc
  | .tup es => tup_snd (sndEs es)
  | .lst es => lst_snd (sndEs es)
  | .bin _ a b => bin_snd (sndE a) (sndE b)
  | .neg a => neg_snd (sndE a)
  | .cmp _ a b => cmp_snd (sndE a) (sndE b)
  | .cmp2 _ _ a b c => cmp2_snd (sndE a) (sndE b) (sndE c)
  | .cmp3 _ _ _ a b c d => cmp3_snd (sndE a) (sndE b) (sndE c) (sndE d)
  | .and a b => and_snd (sndE a) (sndE b)
  | .or a b => or_snd (sndE a) (sndE b)
  | .not a => not_snd (sndE a)
  | .ife c a b => ife_snd (sndT c) (sndE a) (sndE b)
  | .ix a b => ix_snd (sndE a) (sndE b)
  | .sl a lo hi => sl_snd (sndE a) (sndEo lo) (sndEo hi)
  | .call _ es => call_snd (sndEs es)
  | .blt _ es => blt_snd (sndEs es)
  | .isi e _ => isi_snd (sndE e)
  | .join z e => join_snd (sndE z) (sndE e)
  | .fld e _ => fld_snd (sndE e)
  | .mcall e _ es => mcall_snd (sndE e) (sndEs es)
  | .frz e => frz_snd (sndE e)
  | .glob _ => glob_snd
  | .sp _ es => sp_snd (sndAll es)
  | .mt _ _ _ => mt_snd
  | .dnew _ => dnew_snd
  | .lc _ _ it cs e => lc_snd (sndIt it) (sndC cs) (sndE e)
theorem sndEs : ∀ es : Es, SndEs bl Γ es
  | .nil => nil_snd
  | .cons e es => cons_snd (sndE e) (sndEs es)
theorem sndAll : ∀ es : Es, AllSnd bl Γ es
  | .nil => trivial
  | .cons e es => ⟨sndE e, sndAll es⟩
theorem sndEo : ∀ e : Eo, SndEo bl Γ e
  | .none => trivial
  | .some e => sndE e
theorem sndC : ∀ (cs : Eo) (c : E), cs = .some c → tstOk c = true → SndT bl Γ c
  | .none, _, h, _ => by cases h
  | .some e, c, h, t => by cases h; exact sndT e t
theorem sndIt : ∀ it : Ev.It, SndIt bl Γ it
  | .e e => sndE e
  | .tup e => sndE e
  | .str e => sndE e
  | .enum e => sndE e
  | .rev e => sndE e
  | .rng1 a => sndE a
  | .rng2 a b => ⟨sndE a, sndE b⟩
theorem sndT : ∀ e : E, tstOk e = true → SndT bl Γ e
  | .not a, h => not_t (sndT a h)
  | .and a b, h => and_t (sndT a (Bool.and_eq_true_iff.mp h).1) (sndT b (Bool.and_eq_true_iff.mp h).2)
  | .or a b, h => or_t (sndT a (Bool.and_eq_true_iff.mp h).1) (sndT b (Bool.and_eq_true_iff.mp h).2)
  | .cmp _ a b, _ => cmp_t (sndE a) (sndE b)
  | .cmp2 _ _ a b c, _ => cmp2_t (sndE a) (sndE b) (sndE c)
  | .cmp3 _ _ _ a b c d, _ => cmp3_t (sndE a) (sndE b) (sndE c) (sndE d)
  | .ife _ _ _, h => by cases h
  | .var i, _ => plain_t (var_ok i) (fun N sc x h => by cases x <;> first | rfl | (simp [chk] at h; done) | (rename_i o _ _; cases o <;> first | rfl | (simp [chk] at h)))
  | .ix a b, _ => plain_t (ix_snd (sndE a) (sndE b)) (fun N sc x h => by cases x <;> first | rfl | (simp [chk] at h; done) | (rename_i o _ _; cases o <;> first | rfl | (simp [chk] at h)))
  | .mcall e _ es, _ => plain_t (mcall_snd (sndE e) (sndEs es)) (fun N sc x h => by cases x <;> first | rfl | (simp [chk] at h; done) | (rename_i o _ _; cases o <;> first | rfl | (simp [chk] at h)))
  | .fld _ _, h => by cases h
  | .frz _, h => by cases h
  | .glob _, h => by cases h
  | .sp _ _, h => by cases h
  | .mt _ _ _, h => by cases h
  | .dnew _, h => by cases h
  | .call _ es, _ => plain_t (call_snd (sndEs es)) (fun N sc x h => by cases x <;> first | rfl | (simp [chk] at h; done) | (rename_i o _ _; cases o <;> first | rfl | (simp [chk] at h)))
  | .blt _ es, _ => plain_t (blt_snd (sndEs es)) (fun N sc x h => by cases x <;> first | rfl | (simp [chk] at h; done) | (rename_i o _ _; cases o <;> first | rfl | (simp [chk] at h)))
  | .isi e _, _ => plain_t (isi_snd (sndE e)) (fun N sc x h => by cases x <;> first | rfl | (simp [chk] at h; done) | (rename_i o _ _; cases o <;> first | rfl | (simp [chk] at h)))
  | .bin _ a b, _ => plain_t (bin_snd (sndE a) (sndE b)) (fun N sc x h => by cases x <;> first | rfl | (simp [chk] at h; done) | (rename_i o _ _; cases o <;> first | rfl | (simp [chk] at h)))
  | .sl a lo hi, _ => plain_t (sl_snd (sndE a) (sndEo lo) (sndEo hi)) (fun N sc x h => by cases x <;> first | rfl | (simp [chk] at h; done) | (rename_i o _ _; cases o <;> first | rfl | (simp [chk] at h)))
  | .lc _ _ it cs e, _ => plain_t (lc_snd (sndIt it) (sndC cs) (sndE e)) (fun N sc x h => by cases x <;> first | rfl | (simp [chk] at h; done) | (rename_i o _ _; cases o <;> first | rfl | (simp [chk] at h)))
  | .non, h => by cases h
  | .bl _, h => by cases h
  | .int _, h => by cases h
  | .str _, h => by cases h
  | .tup _, h => by cases h
  | .lst _, h => by cases h
  | .neg _, h => by cases h
  | .join _ _, h => by cases h
end
end
end Ev
/-! Ev7: expressions that may change shared objects. -/
namespace Ev
open PySem PySem.Spec
open PyProof.Rows hiding St
open L2

/-! ### what lives -/
section
variable {P : Addr → Prop} {K : PySem.W.Frag} {ca ca' : Am} {σ σ1 σ' : List Sl} {S : Sto} {ρ : L2.St} {H H' : Hp} {fp : Nat → List Addr}
theorem OwnC.alive : ∀ {x : C} {v : V} {fp : List Addr}, OwnC K ca H x v fp → ∀ a ∈ fp, ∃ o, H a = some o
  | .d x, v, fp, ⟨_, e⟩, a, ha => by subst e; cases ha
  | .lst xs, v, fp, ⟨b, vs, _, h, _, e⟩, a, ha => by subst e; have : a = b := by simpa using ha
                                                     subst this; exact ⟨_, h⟩
  | .dK xs, v, fp, ⟨b, vs, _, h, _, _, e⟩, a, ha => by subst e; have : a = b := by simpa using ha
                                                       subst this; exact ⟨_, h⟩
  | .dT xs, v, fp, ⟨b, vs, _, h, _, _, e⟩, a, ha => by subst e; have : a = b := by simpa using ha
                                                       subst this; exact ⟨_, h⟩
theorem OwnFs.alive {fs' : List (Str × V)} : ∀ {fs : List (Str × C)} {fp : List Addr}, OwnFs K ca H fs' fs fp → ∀ a ∈ fp, ∃ o, H a = some o
  | [], _, h, a, ha => by
    have : _ = [] := h
    subst this; cases ha
  | (f, x) :: r, fp, ⟨v, fp1, fp2, l, h1, h2, e⟩, a, ha => by
    subst e
    rcases List.mem_append.mp ha with z | z
    · exact h1.alive a z
    · exact OwnFs.alive h2 a z
theorem OwnW.alive : ∀ {x : W} {v : V} {fp : List Addr}, OwnW K ca H x v fp → ∀ a ∈ fp, ∃ o, H a = some o
  | .c x, _, _, h, a, ha => OwnC.alive h a ha
  | .obj c fs, v, fp, ⟨b, dx, fs', fp', e, h, q, _, _, ef⟩, a, ha => by
    subst ef
    rcases List.mem_cons.mp ha with z | z
    · subst z; exact ⟨_, h⟩
    · exact q.alive a z
theorem SRep.alive (R : SRep P K ca σ S ρ H fp) (j : Nat) : ∀ a ∈ fp j, ∃ o, H a = some o := fun a ha => by
  rcases Nat.mod_two_eq_zero_or_one j with hj | hj
  · obtain ⟨i, rfl⟩ : ∃ i, j = 2 * i := ⟨j / 2, by omega⟩
    cases e : σ[i]? with
    | none =>
      have : fp (2 * i) = [] := R.far i (by simpa using e)
      rw [this] at ha; cases ha
    | some s =>
      have h := R.sl i s e
      cases s with
      | own w => obtain ⟨v, _, q⟩ := h; exact q.alive a ha
      | ro w => obtain ⟨v, _, _, z⟩ := h; rw [z] at ha; cases ha
      | out => rw [show fp (2 * i) = [] from h] at ha; cases ha
  · obtain ⟨n, rfl⟩ : ∃ n, j = 2 * n + 1 := ⟨j / 2, by omega⟩
    by_cases hn : n < S.cs.length
    · have e1 : S.cs[n]? = some S.cs[n] := List.getElem?_eq_getElem hn
      have hn2 : n < ca.i.length := by rw [← R.sln]; exact hn
      have q := R.cel n _ _ e1 (List.getElem?_eq_getElem hn2)
      unfold ClRep at q
      split at q
      · rw [q.2] at ha; cases ha
      · exact q.alive a ha
    · rw [R.far2 n (by omega)] at ha; cases ha
end
/-! ### where a value stands -/
def Loc (σ : List Sl) (S : Sto) (w : W) : Kd → Prop
  | .at i => σ[i]? = some (.own w)
  | .af i f => ∃ c fs y, σ[i]? = some (.own (.obj c fs)) ∧ fs.lookup f = some y ∧ w = .c y
  | .sf n f => S.fz ≤ n ∧ ∃ c fs y, S.cs[n]? = some (.obj c fs) ∧ fs.lookup f = some y ∧ w = .c y
  | _ => True
/-- told as data, or fresh -/
def Tame (x : M VW) : Prop := ∀ w k, x = some (.ok (w, k)) → k = .ro ∨ k = .fr
theorem tame_vD {d : Ev.D} : Tame (vD d) := fun w i h => by cases ok_inj h; exact .inl rfl
theorem tame_vF {w : W} : Tame (vF w) := fun w i h => by cases ok_inj h; exact .inr rfl
theorem tame_none : Tame none := fun w i h => by cases h
theorem tame_N {n : Nat} {k : M VW} (h : Tame k) : Tame (guardN n k) := fun w i e => h w i (guardN_ok e).2
theorem tame_P {p : Prop} {k : M VW} (h : Tame k) : Tame (guardP p k) := fun w i e => h w i (guardP_ok e).2
theorem tame_bind {α : Type} {x : M α} {f : α → M VW} (h : ∀ a, Tame (f a)) : Tame (x.bind f) := fun w i e => let ⟨a, _, e2⟩ := bind_ok e; h a w i e2
theorem tame_binI {o : Operator} {i j : Int} : Tame (binI o i j) := by
  unfold binI
  split <;> first | exact tame_vD | exact tame_P tame_vD | exact tame_none
theorem tame_bin {o : Operator} {a b : W} : Tame (bin o a b) := by
  unfold bin
  split
  · exact tame_binI
  · split <;> first | exact tame_N tame_vD | exact tame_none
  · split <;> first | exact tame_P tame_vD | exact tame_none
  · split <;> first | exact tame_N tame_vF | exact tame_none
  · exact tame_none
theorem tame_ix {a b : W} : Tame (ix a b) := by
  unfold ix
  split
  · split <;> first | exact tame_vD | exact tame_none
  · split <;> first | exact tame_vD | exact tame_none
  · refine tame_N ?_
    split <;> first | exact tame_vD | exact tame_none
  · exact tame_none
theorem tame_sl {a : W} {l h : Option Int} : Tame (sl a l h) := by
  unfold sl
  split <;> first | exact tame_vF | exact tame_N tame_vD | exact tame_vD | exact tame_none
theorem tame_blt {f : B} {ws : List W} : Tame (blt f ws) := by
  unfold blt
  split <;> first | exact tame_vD | exact tame_vF | exact tame_N tame_vD | exact tame_none | skip
  all_goals (split <;> first | exact tame_vD | exact tame_none)
theorem tame_spW {k : Spx} {ws : List W} : Tame (spW k ws) := by
  unfold spW
  split <;> first | exact tame_vF | exact tame_P tame_vD | exact tame_P tame_vF | exact tame_none
theorem tame_kd {w : W} : Tame (M.ok (w, kdOf w)) := fun w' k h => by
  have e := ok_inj h
  cases e
  cases w with
  | obj _ _ => exact .inr rfl
  | c y => cases y <;> first | exact .inl rfl | exact .inr rfl
theorem Tame.loc {x : M VW} (h : Tame x) {σ : List Sl} {S : Sto} {w : W} {k : Kd} (e : x = some (.ok (w, k))) : Loc σ S w k := by
  rcases h w k e with rfl | rfl <;> trivial
section
variable {Γ : Gam} {σ : List Sl} {S : Sto}
theorem ev_loc : ∀ (e : E) {w : W} {k : Kd}, ev Γ S e σ = some (.ok (w, k)) → Loc σ S w k
  | .var j, w, k, h => by
    unfold ev at h
    split at h
    · cases ok_inj h; trivial
    · rename_i e; cases ok_inj h; exact e
    · cases h
  | .non, w, i, h => tame_vD.loc h
  | .bl _, w, i, h => tame_vD.loc h
  | .int _, w, i, h => tame_vD.loc h
  | .str _, w, i, h => tame_vD.loc h
  | .tup es, w, i, h => by
    unfold ev at h
    refine Tame.loc (tame_bind fun a => ?_) h
    split <;> first | exact tame_N tame_vD | exact tame_none
  | .lst es, w, i, h => by
    unfold ev at h
    refine Tame.loc (tame_bind fun a => ?_) h
    split <;> first | exact tame_N tame_vF | exact tame_none
  | .bin o a b, w, i, h => by unfold ev at h; exact Tame.loc (tame_bind fun a => tame_bind fun b => tame_bin) h
  | .neg a, w, i, h => by
    unfold ev at h
    refine Tame.loc (tame_bind fun a => ?_) h
    split <;> first | exact tame_vD | exact tame_none
  | .cmp o a b, w, i, h => by unfold ev at h; exact Tame.loc (tame_bind fun a => tame_bind fun b => tame_bind fun c => tame_vD) h
  | .cmp2 o o' a b c, w, i, h => by
    unfold ev at h
    refine Tame.loc (tame_bind fun a => tame_bind fun b => tame_bind fun c => ?_) h
    split
    · exact tame_bind fun _ => tame_bind fun _ => tame_vD
    · exact tame_vD
  | .cmp3 o o' o2 a b c d, w, i, h => by
    unfold ev at h
    refine Tame.loc (tame_bind fun a => tame_bind fun b => tame_bind fun c => ?_) h
    split
    · refine tame_bind fun _ => tame_bind fun _ => ?_
      split
      · exact tame_bind fun _ => tame_bind fun _ => tame_vD
      · exact tame_vD
    · exact tame_vD
  | .fld e f, w, i, h => by
    unfold ev at h
    obtain ⟨⟨wx, kx⟩, ex, h⟩ := bind_ok h
    have L := ev_loc e ex
    split at h
    · rename_i c fs hx
      split at h
      · exact tame_vD.loc h
      · rename_i y _ _ el
        split at h
        · rename_i k9 hk
          cases ok_inj h
          unfold fldK at hk
          split at hk
          · rename_i n kk ev0
            cases ev0
            split at hk
            · cases hk; trivial
            · rename_i hn
              cases hk
              have hz : (match S.cs[n]? with | some w => w | none => Ev.W.c (.d (.ref n))) = .obj c fs := hx
              split at hz
              · rename_i w0 e0
                subst hz
                exact ⟨by omega, c, fs, _, e0, el, rfl⟩
              · cases hz
          · rename_i w1 i1 hne ev0
            cases ev0
            cases hk
            have L' : σ[i1]? = some (.own wx) := L
            have hw : wx = .obj c fs := by
              unfold W.at at hx
              split at hx
              · cases hx
              · exact (hne _ (by assumption)).elim
              · exact hx
            subst hw
            exact ⟨c, fs, _, L', el, rfl⟩
          · cases hk; trivial
          · cases hk
        · cases h
      · cases h
    · cases h
  | .mcall e m es, w, i, h => by
    unfold ev at h
    refine Tame.loc (tame_bind fun a => ?_) h
    split
    · split
      · exact tame_bind fun _ => tame_bind fun w1 => tame_kd
      · exact tame_none
    · exact tame_none
  | .frz e, w, i, h => by
    unfold ev at h
    refine Tame.loc (tame_bind fun a => ?_) h
    split <;> first | exact tame_vD | exact tame_none
  | .glob x, w, i, h => by
    unfold ev at h
    split at h
    · split at h
      · exact tame_vD.loc h
      · cases h
    · cases h
  | .sp k es, w, i, h => by
    unfold ev at h
    exact Tame.loc (tame_bind fun a => tame_spW) h
  | .mt m o es, w, i, h => by
    unfold ev at h
    exact Tame.loc (tame_bind fun a => tame_bind fun b => tame_none) h
  | .dnew t, w, i, h => by
    unfold ev at h
    split at h <;> exact tame_vF.loc h
  | .and a b, w, i, h => by
    unfold ev at h
    obtain ⟨⟨wa, ka⟩, ea, h⟩ := bind_ok h
    obtain ⟨k, ek, h⟩ := bind_ok h
    split at h
    · exact ev_loc b h
    · cases ok_inj h; exact ev_loc a ea
  | .or a b, w, i, h => by
    unfold ev at h
    obtain ⟨⟨wa, ka⟩, ea, h⟩ := bind_ok h
    obtain ⟨k, ek, h⟩ := bind_ok h
    split at h
    · cases ok_inj h; exact ev_loc a ea
    · exact ev_loc b h
  | .not a, w, i, h => by unfold ev at h; exact Tame.loc (tame_bind fun a => tame_bind fun b => tame_vD) h
  | .ife c a b, w, i, h => by
    unfold ev at h
    obtain ⟨⟨wa, ka⟩, ea, h⟩ := bind_ok h
    obtain ⟨k, ek, h⟩ := bind_ok h
    split at h
    · exact ev_loc a h
    · exact ev_loc b h
  | .ix a b, w, i, h => by unfold ev at h; exact Tame.loc (tame_bind fun a => tame_bind fun b => tame_ix) h
  | .sl a l u, w, i, h => by unfold ev at h; exact Tame.loc (tame_bind fun a => tame_bind fun b => tame_bind fun c => tame_sl) h
  | .call f es, w, i, h => by
    unfold ev at h
    split at h
    · exact Tame.loc (tame_bind fun a => tame_bind fun b => tame_kd) h
    · cases h
  | .blt f es, w, i, h => by unfold ev at h; exact Tame.loc (tame_bind fun a => tame_blt) h
  | .isi e t, w, i, h => by
    unfold ev at h
    refine Tame.loc (tame_bind fun a => ?_) h
    split <;> first | exact tame_vD | exact tame_none
  | .join s e, w, i, h => by
    unfold ev at h
    refine Tame.loc (tame_bind fun a => tame_bind fun b => ?_) h
    split
    · split <;> first | exact tame_N tame_vD | exact tame_none
    · exact tame_none
  | .lc own g it cs e, w, i, h => by unfold ev at h; exact Tame.loc (tame_bind fun a => tame_N (tame_bind fun b => tame_vF)) h
end
/-! ### a value at hand -/
section
variable (P : Addr → Prop) (K : PySem.W.Frag) (ca : Am) (S : Sto) (σ : List Sl)
structure RepI (ρ : L2.St) (D0 : Addr → Prop) (H : Hp) (fp : Nat → List Addr) (w : W) (k : Kd) (v : V) : Prop where
  rep : RepW (fun _ => True) K ca H w v
  loc : Loc σ S w k
  kd : match k with
    | .ro => RepW P K ca H w v
    | .fr => ∃ f, OwnW K ca H w v f ∧ (∀ a ∈ f, ∀ j, a ∉ fp j) ∧ (∀ a ∈ f, ¬ P a) ∧ f.Nodup ∧ ∀ a ∈ f, D0 a
    | .at i => ρ[i]? = some (some v)
    | .af i f => FldAt ρ[i]? H f v
    | .sf n f => FldAt ((ca.i[n]?).map fun a => some (.ref a)) H f v
end
/-- dead at first, or a shared object's -/
def Dd (H : Hp) (fp : Nat → List Addr) : Addr → Prop := fun a => H a = none ∨ ∃ m, a ∈ fp (2 * m + 1)
/-- what stands behind an expression that may change shared objects -/
structure Stp (P : Addr → Prop) (K : PySem.W.Frag) (ca : Am) (S : Sto) (H : Hp) (fp : Nat → List Addr) (ca' : Am) (S' : Sto) (H' : Hp) (fp' : Nat → List Addr) : Prop where
  le : ca.le ca'
  fz : S'.fz = S.fz
  pre : ∀ n, n < S.fz → S'.cs[n]? = S.cs[n]?
  tk : TK K H H'
  st : ∀ a u, H a = some u → (∀ n, a ∉ fp (2 * n + 1)) → H' a = some u
  al : ∀ a, H' a = none → H a = none
  ev : ∀ i, fp' (2 * i) = fp (2 * i)
  sub : ∀ n, ∀ a ∈ fp' (2 * n + 1), (∃ m, a ∈ fp (2 * m + 1)) ∨ H a = none
section
variable {P : Addr → Prop} {K : PySem.W.Frag} {ca ca' ca2 : Am} {σ : List Sl} {S S' S2 : Sto} {ρ : L2.St} {H H' H2 : Hp} {fp fp' fp2 : Nat → List Addr} {w : W} {k : Kd} {v : V}
theorem Stp.of_same (s : Same H H') : Stp P K ca S H fp ca S H' fp := ⟨.refl, rfl, fun _ _ => rfl, .of_same s, fun a u z _ => s a u z, fun a z => s.free z, fun _ => rfl, fun n a h => .inl ⟨n, h⟩⟩
theorem Stp.trans (a : Stp P K ca S H fp ca' S' H' fp') (b : Stp P K ca' S' H' fp' ca2 S2 H2 fp2) : Stp P K ca S H fp ca2 S2 H2 fp2 where
  le := a.le.trans b.le
  fz := b.fz.trans a.fz
  pre := fun n hn => (b.pre n (by rw [a.fz]; exact hn)).trans (a.pre n hn)
  tk := a.tk.trans b.tk
  st := fun c u z hc => b.st c u (a.st c u z hc) fun n y => by
    rcases a.sub n c y with ⟨m, q⟩ | q
    · exact hc m q
    · rw [q] at z; cases z
  al := fun c z => a.al c (b.al c z)
  ev := fun i => (b.ev i).trans (a.ev i)
  sub := fun n c y => by
    rcases b.sub n c y with ⟨m, q⟩ | q
    · exact a.sub m c q
    · cases e : H c with
      | none => exact .inr rfl
      | some u =>
        by_cases hc : ∃ m, c ∈ fp (2 * m + 1)
        · exact .inl hc
        · rw [a.st c u e fun n z => hc ⟨n, z⟩] at q; cases q
theorem Stp.fut (R : SRep P K ca σ S ρ H fp) (t : Stp P K ca S H fp ca' S' H' fp') : Fut P K H H' := ⟨t.tk, fun a o p z => t.st a o z fun n y => R.np _ a y p⟩
theorem RepI.of_V {H0 : Hp} (R : SRep P K ca σ S ρ H0 fp) (r : RepV P K ca ρ H0 H w k v) (l : Loc σ S w k) : RepI P K ca S σ ρ (Dd H0 fp) H fp w k v := by
  refine ⟨r.rep, l, ?_⟩
  have q := r.kd
  cases k with
  | ro => exact q
  | fr =>
    obtain ⟨f, o, n, d⟩ := q
    refine ⟨f, o, fun a ha j z => ?_, fun a ha p => ?_, d, fun a ha => .inl (n a ha)⟩
    · obtain ⟨u, y⟩ := R.alive j a z
      rw [n a ha] at y; cases y
    · obtain ⟨u, y⟩ := R.pa a p
      rw [n a ha] at y; cases y
  | «at» i => exact q
  | af i f => exact q
  | sf n f => exact q
/-- a field's value, of an object that is owned -/
theorem own_fld {c : Nat} {fs : List (Str × C)} {f : Str} {y : C} {fpo : List Addr} (o : OwnW K ca H (.obj c fs) v fpo) (l : fs.lookup f = some y) {Pq : Addr → Prop} (hp : ∀ a ∈ fpo, Pq a) : ∃ a dx fs' u, v = .ref a ∧ a ∈ fpo ∧ H a = some (.ins (ca.c c) dx fs') ∧ fs'.lookup f = some u ∧ RepC Pq K ca H y u := by
  obtain ⟨a, dx, fs', fp', e, h, q, nd, l2, ef⟩ := o
  obtain ⟨u, lu, ru⟩ := OwnFs.rep (fun b hb => hp b (by rw [ef]; simp [hb])) q f y l
  exact ⟨a, dx, fs', u, e, by rw [ef]; simp, h, lu, ru⟩
theorem RepI.from {D0 D00 : Addr → Prop} (r : RepI P K ca S σ ρ D0 H fp w k v) (al : ∀ a, D0 a → D00 a) : RepI P K ca S σ ρ D00 H fp w k v := by
  refine ⟨r.rep, r.loc, ?_⟩
  have q := r.kd
  cases k with
  | fr =>
    obtain ⟨f, o, n, p, d, z⟩ := q
    exact ⟨f, o, n, p, d, fun a ha => al a (z a ha)⟩
  | ro => exact q
  | «at» i => exact q
  | af i f => exact q
  | sf n f => exact q
theorem Stp.dd (t : Stp P K ca S H fp ca' S' H' fp') : ∀ a, Dd H' fp' a → Dd H fp a := fun a h => by
  rcases h with h | ⟨m, h⟩
  · exact .inl (t.al a h)
  · rcases t.sub m a h with z | z
    · exact .inr z
    · exact .inl z
theorem Same.dd (s : Same H H') : ∀ a, Dd H' fp a → Dd H fp a := fun a h => by
  rcases h with h | h
  · exact .inl (s.free h)
  · exact .inr h
theorem RepI.later {D0 : Addr → Prop} (r : RepI P K ca S σ ρ D0 H fp w k v) (hh : handed (w, k) = true) (R : SRep P K ca σ S ρ H fp) (t : Stp P K ca S H fp ca' S' H' fp') (R' : SRep P K ca' σ S' ρ H' fp') : RepI P K ca' S' σ ρ D0 H' fp' w k v := by
  have q := r.kd
  have l := r.loc
  have dcase : ∀ d, w = .c (.d d) → RepD K ca' H' d v := fun d e => by
    have := r.rep
    rw [e] at this
    have z : RepD K ca H d v := this
    exact (z.mono t.tk).grow t.le
  cases k with
  | ro =>
    have z : RepW P K ca' H' w v := (RepW.mono (t.fut R) (fun _ p => p) q).grow t.le
    exact ⟨z.mono .refl fun _ _ => trivial, trivial, z⟩
  | fr =>
    obtain ⟨f, o, n, p, d, z0⟩ := q
    have o' : OwnW K ca' H' w v f := (o.stay t.tk fun a ha u z => t.st a u z fun m y => n a ha _ y).grow t.le
    refine ⟨o'.rep fun _ _ => trivial, trivial, f, o', fun a ha j z => ?_, p, d, z0⟩
    rcases Nat.mod_two_eq_zero_or_one j with hj | hj
    · obtain ⟨i, rfl⟩ : ∃ i, j = 2 * i := ⟨j / 2, by omega⟩
      rw [t.ev i] at z
      exact n a ha _ z
    · obtain ⟨i, rfl⟩ : ∃ n, j = 2 * n + 1 := ⟨j / 2, by omega⟩
      rcases t.sub i a z with ⟨m, y⟩ | y
      · exact n a ha _ y
      · obtain ⟨u, z⟩ := o.alive a ha
        rw [y] at z; cases z
  | «at» i =>
    have l' : σ[i]? = some (.own w) := l
    obtain ⟨v', e, o⟩ := R'.sl i _ l'
    have q' : ρ[i]? = some (some v) := q
    rw [q'] at e
    cases e
    exact ⟨o.rep fun _ _ => trivial, l, q⟩
  | af i f =>
    obtain ⟨c, fs, y, l1, l2, rfl⟩ : ∃ c fs y, σ[i]? = some (.own (.obj c fs)) ∧ fs.lookup f = some y ∧ w = .c y := l
    obtain ⟨a, C, dx, fs', e1, e2, e3⟩ : FldAt ρ[i]? H f v := q
    obtain ⟨v', e, o⟩ := R'.sl i _ l1
    obtain ⟨v0, e0, o0⟩ := R.sl i _ l1
    obtain ⟨b, dx2, fs2, u, ev, hb, hH, hl, hr⟩ := own_fld o l2 (Pq := fun _ => True) fun _ _ => trivial
    obtain ⟨b0, dx0, fs0, u0, ev0, hb0, hH0, hl0, hr0⟩ := own_fld o0 l2 (Pq := fun _ => True) fun _ _ => trivial
    rw [e1] at e e0
    cases e
    cases e0
    cases ev
    cases ev0
    have e4 := t.st _ _ hH0 fun n z => R.dj (2 * i) (2 * n + 1) (by omega) _ hb0 z
    rw [hH] at e4
    rw [hH0] at e2
    have e5 := Option.some.inj e2
    have e6 := Option.some.inj e4
    injection e5 with _ _ e7
    injection e6 with _ _ e8
    rw [e8, e7] at hl
    rw [hl] at e3
    cases e3
    rw [← e7, ← e8] at hl
    exact ⟨hr, ⟨c, fs, y, l1, l2, rfl⟩, _, _, dx2, fs2, e1, hH, hl⟩
  | sf n f => cases hh
end
end Ev
/-! Ev8: the theorem for expressions that may change shared objects. -/
namespace Ev
open PySem PySem.Spec
open PyProof.Rows hiding St
open L2
section
variable {P : Addr → Prop} {K : PySem.W.Frag} {ca ca' : Am} {σ : List Sl} {S S' S2 : Sto} {ρ : L2.St} {H H' : Hp} {fp fp' : Nat → List Addr} {w : W} {k : Kd} {v : V}
/-- the shared objects' places -/
abbrev odd (fp : Nat → List Addr) : Nat → List Addr := fun n => fp (2 * n + 1)
theorem SRep.p_lv (R : SRep P K ca σ S ρ H fp) {a : Addr} (p : P a) : Lv H (odd fp) a := ⟨R.pa a p, fun n z => R.np _ a z p⟩
theorem ClRep.mono' {P' : Addr → Prop} {fz n : Nat} {w : W} {a : Addr} {f : List Addr} (h : ClRep P K ca fz H n w a f) (q : ∀ a, P a → P' a) : ClRep P' K ca fz H n w a f := by
  unfold ClRep at h ⊢
  split
  · rename_i e
    rw [if_pos e] at h
    exact ⟨h.1.mono .refl q, h.2⟩
  · rename_i e
    rw [if_neg e] at h
    exact h
theorem SRep.sto (R : SRep P K ca σ S ρ H fp) : StRep K ca S H (odd fp) H (odd fp) :=
  ⟨R.sln, R.fzl, fun n w a e1 e2 => (R.cel n w a e1 e2).mono' fun a p => R.p_lv p, fun i j h => R.dj _ _ (by omega), fun i => R.nd _, fun n hn => R.far2 n hn⟩
theorem RepI.arg {D0 : Addr → Prop} (r : RepI P K ca S σ ρ D0 H fp w k v) (hh : handed (w, k) = true) (R : SRep P K ca σ S ρ H fp) : RepW (Lv H (odd fp)) K ca H w v := by
  have q := r.kd
  cases k with
  | ro => exact RepW.mono .refl (fun a p => R.p_lv p) q
  | fr =>
    obtain ⟨f, o, n, p, d, _⟩ := q
    exact o.rep fun a ha => ⟨o.alive a ha, fun m => n a ha _⟩
  | «at» i =>
    obtain ⟨v', e, o⟩ := R.sl i _ r.loc
    have q' : ρ[i]? = some (some v) := q
    rw [q'] at e
    cases e
    exact o.rep fun a ha => ⟨o.alive a ha, fun m => R.dj _ _ (by omega) a ha⟩
  | af i f =>
    obtain ⟨c, fs, y, l1, l2, rfl⟩ := r.loc
    obtain ⟨a, C, dx, fs', e1, e2, e3⟩ : FldAt ρ[i]? H f v := q
    obtain ⟨v', e, o⟩ := R.sl i _ l1
    obtain ⟨b, dx2, fs2, u, ev, hb, hH, hl, hr⟩ := own_fld o l2 (Pq := Lv H (odd fp)) fun a ha => ⟨o.alive a ha, fun m => R.dj _ _ (by omega) a ha⟩
    rw [e1] at e
    cases e
    cases ev
    rw [hH] at e2
    have e5 := Option.some.inj e2
    injection e5 with _ _ e7
    rw [← e7, hl] at e3
    cases e3
    exact hr
  | sf n f => cases hh
/-- behind a call that may change shared objects -/
theorem imp_fin (R : SRep P K ca σ S ρ H fp) {g : Sto → List W → MS W} {ws : List W} {vs : List V} (r : RepWp (Lv H (odd fp)) K ca H ws vs) (h : g S ws = some (.ok w S2)) {Q : VK}
    (q : ∀ v ca' H' fp', Stp P K ca S H fp ca' S2 H' fp' → SRep P K ca' σ S2 ρ H' fp' → RepI P K ca' S2 σ ρ (Dd H fp) H' fp' w (kdOf w) v → Q v H') : spI K ca.c g vs H Q E0 := by
  refine ⟨ca, S, odd fp, ws, w, S2, rfl, R.sto, fun n a ha => R.alive _ a ha, r, h, fun v ca' H' fq' af bk => ?_⟩
  have ft : Fut P K H H' := ⟨af.tk, fun a o p z => af.st a o z (R.p_lv p).2⟩
  obtain ⟨fpN, hev, hod⟩ : ∃ f : Nat → List Addr, (∀ i, f (2 * i) = fp (2 * i)) ∧ ∀ n, f (2 * n + 1) = fq' n := ⟨fun j => if j % 2 = 0 then fp j else fq' (j / 2), fun i => if_pos (by omega), fun n => by
    show (if (2 * n + 1) % 2 = 0 then _ else _) = _
    rw [if_neg (by omega)]
    congr 1
    omega⟩
  have half : ∀ j, (∃ i, j = 2 * i) ∨ ∃ n, j = 2 * n + 1 := fun j => by
    rcases Nat.mod_two_eq_zero_or_one j with hj | hj
    · exact .inl ⟨j / 2, by omega⟩
    · exact .inr ⟨j / 2, by omega⟩
  have apart : ∀ i n a, a ∈ fp (2 * i) → a ∉ fq' n := fun i n a ha z => by
    rcases af.sub n a z with ⟨m, y⟩ | y
    · exact R.dj (2 * i) (2 * m + 1) (by omega) a ha y
    · obtain ⟨u, x⟩ := R.alive _ a ha
      rw [y] at x; cases x
  have nP : ∀ n a, a ∈ fq' n → ¬ P a := fun n a ha p => by
    rcases af.sub n a ha with ⟨m, y⟩ | y
    · exact R.np _ a y p
    · obtain ⟨u, x⟩ := R.pa a p
      rw [y] at x; cases x
  have R' : SRep P K ca' σ S2 ρ H' fpN := by
    refine ⟨R.len, fun i s e => ?_, af.rep.sln, af.rep.fzl, fun n w' a e1 e2 => ?_, fun i j hij a ha => ?_, fun j => ?_, fun j a ha p => ?_, fun i hi => ?_, fun n hn => ?_, fun a p => ?_⟩
    · rw [hev]
      have q := R.sl i s e
      have std : ∀ a ∈ fp (2 * i), ∀ o, H a = some o → H' a = some o := fun a ha u z => af.st a u z fun n => R.dj (2 * i) (2 * n + 1) (by omega) a ha
      cases s with
      | own w =>
        obtain ⟨v, e1, q⟩ := q
        exact ⟨v, e1, (q.stay af.tk std).grow af.le⟩
      | ro w =>
        obtain ⟨v, e1, q, z⟩ := q
        exact ⟨v, e1, (q.mono ft fun _ p => p).grow af.le, z⟩
      | out => exact q
    · rw [hod]
      have q := af.rep.cel n w' a e1 e2
      unfold ClRep at q ⊢
      by_cases hn : n < S2.fz
      · rw [if_pos hn] at q ⊢
        refine ⟨?_, q.2⟩
        have hn' : n < S.fz := by rw [← af.fz]; exact hn
        have e3 : S.cs[n]? = some w' := by rw [← af.pre n hn']; exact e1
        have hl : n < ca.i.length := by rw [← R.sln]; exact Nat.lt_of_lt_of_le hn' R.fzl
        have e4 : ca.i[n]? = some ca.i[n] := List.getElem?_eq_getElem hl
        have e5 := af.le.2 n _ e4
        rw [e2] at e5
        cases e5
        have q2 := R.cel n w' _ e3 e4
        unfold ClRep at q2
        rw [if_pos hn'] at q2
        exact (q2.1.mono ft fun _ p => p).grow af.le
      · rw [if_neg hn] at q ⊢
        exact q
    · rcases half i with ⟨i, rfl⟩ | ⟨i, rfl⟩ <;> rcases half j with ⟨j, rfl⟩ | ⟨j, rfl⟩
      · rw [hev] at ha ⊢; exact R.dj _ _ hij a ha
      · rw [hev] at ha; rw [hod]; exact apart i j a ha
      · rw [hod] at ha; rw [hev]; exact fun z => apart j i a z ha
      · rw [hod] at ha ⊢; exact af.rep.dj i j (by omega) a ha
    · rcases half j with ⟨j, rfl⟩ | ⟨j, rfl⟩
      · rw [hev]; exact R.nd _
      · rw [hod]; exact af.rep.nd _
    · rcases half j with ⟨j, rfl⟩ | ⟨j, rfl⟩
      · rw [hev] at ha; exact R.np _ a ha p
      · rw [hod] at ha; exact nP j a ha p
    · rw [hev]; exact R.far i hi
    · rw [hod]; exact af.rep.far n hn
    · obtain ⟨o, z⟩ := R.pa a p
      exact ⟨o, ft.at_ a o p z⟩
  refine q v ca' H' _ ⟨af.le, af.fz, af.pre, af.tk, af.st, af.al, hev, fun n a ha => ?_⟩ R' ?_
  · rw [hod] at ha
    exact af.sub n a ha
  have own : kdOf w = .fr → RepI P K ca' S2 σ ρ (Dd H fp) H' fpN w (kdOf w) v := fun hk => by
    unfold BackI at bk
    rw [hk] at bk ⊢
    obtain ⟨f, o, n1, n2, n3⟩ := bk
    refine ⟨o.rep fun _ _ => trivial, trivial, f, o, fun a ha j z => ?_, fun a ha p => ?_, n3, n1⟩
    · rcases half j with ⟨j, rfl⟩ | ⟨j, rfl⟩
      · rw [hev] at z
        rcases n1 a ha with y | ⟨m, y⟩
        · obtain ⟨u, x⟩ := R.alive _ a z
          rw [y] at x; cases x
        · exact R.dj (2 * j) (2 * m + 1) (by omega) a z y
      · rw [hod] at z; exact n2 j a ha z
    · rcases n1 a ha with y | ⟨m, y⟩
      · obtain ⟨u, x⟩ := R.pa a p
        rw [y] at x; cases x
      · exact R.np _ a y p
  cases w with
  | obj c fs => exact own rfl
  | c x => cases x with
    | d x =>
      have bk : RepD K ca' H' x v := bk
      exact ⟨bk, trivial, bk⟩
    | lst _ => exact own rfl
    | dK _ => exact own rfl
    | dT _ => exact own rfl
end
/-! ### claims -/
section
variable {bl : List Str} {sc : Scope} {X : Cx} {Γ : Gam} {P : Addr → Prop} {ca ca1 : Am} {Z Z1 Z' : Sto} {σ : List Sl} {σc : L2.St} {H H1 H' : Hp} {fp fp1 : Nat → List Addr}
theorem Ctx.step (C : Ctx bl sc X Γ P ca Z σ σc H fp) (le : ca.le ca1) (R : SRep P X.K ca1 σ Z1 σc H1 fp1) : Ctx bl sc X Γ P ca1 Z1 σ σc H1 fp1 := ⟨C.ok, by rw [← le.1]; exact C.fns, R, C.ln⟩
def RepIs (P : Addr → Prop) (K : PySem.W.Frag) (ca : Am) (S : Sto) (σ : List Sl) (ρ : L2.St) (D0 : Addr → Prop) (H : Hp) (fp : Nat → List Addr) : List VW → List V → Prop
  | [], vs => vs = []
  | x :: xs, vs => ∃ v r, vs = v :: r ∧ handed x = true ∧ RepI P K ca S σ ρ D0 H fp x.1 x.2 v ∧ RepIs P K ca S σ ρ D0 H fp xs r
theorem RepIs.args {K : PySem.W.Frag} {ρ : L2.St} {D0 : Addr → Prop} (R : SRep P K ca σ Z ρ H fp) : ∀ {xs : List VW} {vs : List V}, RepIs P K ca Z σ ρ D0 H fp xs vs → RepWp (Lv H (odd fp)) K ca H (xs.map (·.1)) vs
  | [], _, h => h
  | x :: xs, _, ⟨v, r, e, hh, h1, h2⟩ => ⟨v, r, e, h1.arg hh R, RepIs.args R h2⟩
def SndI (bl : List Str) (Γ : Gam) (i : I) : Prop := ∀ (x : Expr) (sc : Scope) (X : Cx) (P : Addr → Prop) (ca : Am) (Z : Sto) (σ : List Sl) (σc : L2.St) (H : Hp) (fp : Nat → List Addr), chkI bl X.N sc i x = true → Ctx bl sc X Γ P ca Z σ σc H fp →
  ∀ w k Z', evI Γ i σ Z = some (.ok (w, k) Z') → ∀ Q : VK, (∀ v ca' H' fp', Stp P X.K ca Z H fp ca' Z' H' fp' → SRep P X.K ca' σ Z' σc H' fp' → RepI P X.K ca' Z' σ σc (Dd H fp) H' fp' w k v → Q v H') → wpE X x σc H Q
def SndIs (bl : List Str) (Γ : Gam) (is : Is) : Prop := ∀ (x : List Expr) (sc : Scope) (X : Cx) (P : Addr → Prop) (ca : Am) (Z : Sto) (σ : List Sl) (σc : L2.St) (H : Hp) (fp : Nat → List Addr), chkIs bl X.N sc is x = true → Ctx bl sc X Γ P ca Z σ σc H fp →
  ∀ xs Z', evIs Γ is σ Z = some (.ok xs Z') → ∀ Q : List V → Hp → Prop, (∀ vs ca' H' fp', Stp P X.K ca Z H fp ca' Z' H' fp' → SRep P X.K ca' σ Z' σc H' fp' → RepIs P X.K ca' Z' σ σc (Dd H fp) H' fp' xs vs → Q vs H') → wpA X x σc H Q
def SndTI (bl : List Str) (Γ : Gam) (i : I) : Prop := ∀ (x : Expr) (sc : Scope) (X : Cx) (P : Addr → Prop) (ca : Am) (Z : Sto) (σ : List Sl) (σc : L2.St) (H : Hp) (fp : Nat → List Addr), chkI bl X.N sc i x = true → Ctx bl sc X Γ P ca Z σ σc H fp →
  ∀ w k Z' b, evI Γ i σ Z = some (.ok (w, k) Z') → truth w = some (.ok b) → ∀ Q : Bool → Hp → Prop, (∀ ca' H' fp', Stp P X.K ca Z H fp ca' Z' H' fp' → SRep P X.K ca' σ Z' σc H' fp' → Q b H') → wpT X x σc H Q
theorem bindS {α β : Type} {x : MS α} {f : α → Sto → MS β} {b : β} {S : Sto} (h : MS.bind x f = some (.ok b S)) : ∃ a S1, x = some (.ok a S1) ∧ f a S1 = some (.ok b S) := by
  unfold MS.bind at h
  split at h
  · exact ⟨_, _, rfl, h⟩
  · cases h
  · cases h
theorem upS {α : Type} {x : M α} {S S' : Sto} {b : α} (h : x.up S = some (.ok b S')) : x = some (.ok b) ∧ S' = S := by
  unfold M.up at h
  split at h
  · cases h; exact ⟨rfl, rfl⟩
  · cases h
  · cases h
theorem okS {α : Type} {a b : α} {S S' : Sto} (h : MS.ok a S = some (.ok b S')) : a = b ∧ S = S' := by
  unfold MS.ok at h
  cases h
  exact ⟨rfl, rfl⟩
theorem p_snd {e : E} : SndI bl Γ (.p e) := by
  intro x sc X P ca Z σ σc H fp hc C w k Z' he Q q
  have hc' : chk bl X.N sc e x = true := by unfold chkI at hc; exact hc
  unfold evI at he
  obtain ⟨e1, rfl⟩ := upS he
  exact sndE e x sc X P ca _ σ σc H fp hc' C w k e1 _ fun v H1 s1 r1 => q v ca H1 fp (.of_same s1) (C.sr.mono s1) (RepI.of_V C.sr r1 (ev_loc e e1))
/-- a fresh thing is shared -/
theorem SRep.share {P : Addr → Prop} {K : PySem.W.Frag} {ca : Am} {σ : List Sl} {S : Sto} {ρ : L2.St} {H : Hp} {fp : Nat → List Addr} (R : SRep P K ca σ S ρ H fp) {w : W} {a : Addr} {f : List Addr} (o : OwnW K ca H w (.ref a) f) (n : ∀ b ∈ f, ∀ j, b ∉ fp j) (np : ∀ b ∈ f, ¬ P b) (nd : f.Nodup) :
    SRep P K ⟨ca.c, ca.i ++ [a]⟩ σ ⟨S.cs ++ [w], S.fz⟩ ρ H (fun j => if j = 2 * S.cs.length + 1 then f else fp j) := by
  have le : ca.le ⟨ca.c, ca.i ++ [a]⟩ := ⟨rfl, fun n x e => by
    show (ca.i ++ [a])[n]? = some x
    rw [List.getElem?_append_left (List.getElem?_eq_some_iff.mp e).1]
    exact e⟩
  refine ⟨R.len, fun i s e => ?_, by simp [R.sln], by simpa using Nat.le_succ_of_le R.fzl, fun m w' b e1 e2 => ?_, dj_put R.dj fun j _ b hb => n b hb j, fun j => ?_, fun j b hb => ?_, fun i hi => ?_, fun m hm => ?_, R.pa⟩
  · have : 2 * i ≠ 2 * S.cs.length + 1 := by omega
    simp only [this, if_false]
    have q := R.sl i s e
    cases s with
    | own w => obtain ⟨v, e1, q⟩ := q; exact ⟨v, e1, q.grow le⟩
    | ro w => obtain ⟨v, e1, q, z⟩ := q; exact ⟨v, e1, q.grow le, z⟩
    | out => exact q
  · by_cases hm : m = S.cs.length
    · subst hm
      have e1' : w = w' := by simpa using e1
      have e2' : a = b := by
        have : (ca.i ++ [a])[ca.i.length]? = some b := by rw [← R.sln]; exact e2
        simpa using this
      subst e1' e2'
      simp only [if_true]
      unfold ClRep
      rw [if_neg (by have := R.fzl; omega)]
      exact o.grow le
    · have hlt : m < S.cs.length := by
        have := (List.getElem?_eq_some_iff.mp e1).1
        simp at this
        omega
      have : 2 * m + 1 ≠ 2 * S.cs.length + 1 := by omega
      simp only [this, if_false]
      have e1' : S.cs[m]? = some w' := by
        have e3 : (S.cs ++ [w])[m]? = some w' := e1
        rwa [List.getElem?_append_left hlt] at e3
      have e2' : ca.i[m]? = some b := by
        have e3 : (ca.i ++ [a])[m]? = some b := e2
        rwa [List.getElem?_append_left (by rw [← R.sln]; exact hlt)] at e3
      have q := R.cel m w' b e1' e2'
      unfold ClRep at q ⊢
      split
      · rename_i hz
        rw [if_pos hz] at q
        exact ⟨q.1.grow le, q.2⟩
      · rename_i hz
        rw [if_neg hz] at q
        exact q.grow le
  · by_cases hj : j = 2 * S.cs.length + 1
    · simp only [hj, if_true]; exact nd
    · simp only [hj, if_false]; exact R.nd j
  · by_cases hj : j = 2 * S.cs.length + 1
    · simp only [hj, if_true] at hb; exact np b hb
    · simp only [hj, if_false] at hb; exact R.np j b hb
  · have : 2 * i ≠ 2 * S.cs.length + 1 := by omega
    simp only [this, if_false]
    exact R.far i hi
  · have hm' : S.cs.length + 1 ≤ m := by simpa using hm
    have : 2 * m + 1 ≠ 2 * S.cs.length + 1 := by omega
    simp only [this, if_false]
    exact R.far2 m (by omega)
theorem own_ref {K : PySem.W.Frag} {w : W} {v : V} {f : List Addr} (o : OwnW K ca H w v f) (hk : kdOf w = .fr) : ∃ a, v = .ref a := by
  cases w with
  | obj c fs => obtain ⟨a, _, _, _, e, _⟩ := o; exact ⟨a, e⟩
  | c x => cases x with
    | d _ => cases hk
    | lst _ => obtain ⟨a, _, e, _⟩ := o; exact ⟨a, e⟩
    | dK _ => obtain ⟨a, _, e, _⟩ := o; exact ⟨a, e⟩
    | dT _ => obtain ⟨a, _, e, _⟩ := o; exact ⟨a, e⟩
theorem share_snd {a : I} (Sa : SndI bl Γ a) : SndI bl Γ (.share a) := by
  intro x sc X P ca Z σ σc H fp hc C w k Z' he Q q
  have hc' : chkI bl X.N sc a x = true := by unfold chkI at hc; exact hc
  unfold evI at he
  obtain ⟨⟨w0, k0⟩, Z1, e1, he⟩ := bindS he
  split at he
  · rename_i hk
    obtain ⟨hk1, hk2⟩ := hk
    simp only at hk1 hk2 he
    subst hk1
    obtain ⟨e2, e3⟩ := okS he
    cases e2
    subst e3
    refine Sa x sc X P ca Z σ σc H fp hc' C w0 .fr Z1 e1 _ fun v ca1 H1 fp1 t1 R1 r1 => ?_
    obtain ⟨f, o, n, np, nd, dd⟩ : ∃ f, OwnW X.K ca1 H1 w0 v f ∧ (∀ a ∈ f, ∀ j, a ∉ fp1 j) ∧ (∀ a ∈ f, ¬ P a) ∧ f.Nodup ∧ ∀ a ∈ f, Dd H fp a := r1.kd
    obtain ⟨b, rfl⟩ := own_ref o hk2
    have R2 := R1.share o n np nd
    have le : ca1.le ⟨ca1.c, ca1.i ++ [b]⟩ := ⟨rfl, fun n x e => by
      show (ca1.i ++ [b])[n]? = some x
      rw [List.getElem?_append_left (List.getElem?_eq_some_iff.mp e).1]
      exact e⟩
    refine q (.ref b) _ H1 _ ⟨t1.le.trans le, t1.fz, fun n hn => ?_, t1.tk, t1.st, t1.al, fun i => ?_, fun n c hc => ?_⟩ R2 ⟨⟨b, by
      show (ca1.i ++ [b])[Z1.cs.length]? = some b
      rw [R1.sln]
      simp, rfl⟩, trivial, ⟨b, by
      show (ca1.i ++ [b])[Z1.cs.length]? = some b
      rw [R1.sln]
      simp, rfl⟩⟩
    · show (Z1.cs ++ [w0])[n]? = _
      rw [List.getElem?_append_left (by have := R1.fzl; rw [t1.fz] at this; omega)]
      exact t1.pre n hn
    · have : 2 * i ≠ 2 * Z1.cs.length + 1 := by omega
      simp only [this, if_false]
      exact t1.ev i
    · by_cases hn : 2 * n + 1 = 2 * Z1.cs.length + 1
      · simp only [hn, if_true] at hc
        exact (dd c hc).symm
      · simp only [hn, if_false] at hc
        exact t1.sub n c hc
  · cases he
theorem chkI_okX {N : List Str} : ∀ {a : I} {x : Expr}, chkI bl N sc a x = true → okX x = true
  | .p e, x, h => chk_okX (e := e) (by unfold chkI at h; exact h)
  | .share a, x, h => chkI_okX (a := a) (by unfold chkI at h; exact h)
  | .call _ _, x, h => by cases x <;> first | rfl | (simp [chkI] at h)
  | .mcall _ _ _, x, h => by cases x <;> first | rfl | (simp [chkI] at h)
  | .tup _, x, h => by cases x <;> first | rfl | (simp [chkI] at h)
  | .cmp _ _ _, x, h => by cases x <;> first | rfl | (simp [chkI] at h)
  | .not _, x, h => by cases x <;> first | rfl | (simp [chkI] at h)
  | .and _ _, x, h => by cases x <;> first | rfl | (simp [chkI] at h)
  | .or _ _, x, h => by cases x <;> first | rfl | (simp [chkI] at h)
theorem star_okX {x : Expr} (h : okX x = true) (es : List Expr) (env : Env) : starEach (x :: es) env = (false, eval x env) :: starEach es env := by
  cases x <;> first | rfl | cases h
theorem star_I {N : List Str} {a : I} {x : Expr} (h : chkI bl N sc a x = true) (es : List Expr) (env : Env) : starEach (x :: es) env = (false, eval x env) :: starEach es env := star_okX (chkI_okX h) es env
theorem mark_I {N : List Str} {a : I} {y : Expr} (h : chkI bl N sc a y = true) (o : CmpOp) : behindInMarks o y = false := by
  have h := chkI_okX h
  cases y <;> first | rfl | cases h
theorem noback_I {N : List Str} : ∀ {as : Is} {l : List Expr} (_ : chkIs bl N sc as l = true) (pos : Pos) (env : Env), (backTo pos (starEach l env)).any (·.1) = false
  | .nil, [], _, _, _ => rfl
  | .nil, _ :: _, h, _, _ => by simp [chkIs] at h
  | .cons _ _, [], h, _, _ => by simp [chkIs] at h
  | .cons e es, x :: l, h, pos, env => by
    have h' : chkI bl N sc e x = true ∧ chkIs bl N sc es l = true := by simpa [chkIs] using h
    rw [star_I h'.1]
    show (false || (backTo pos (starEach l env)).any (·.1)) = false
    rw [noback_I h'.2]
    rfl
theorem RepIs.from {K : PySem.W.Frag} {ρ : L2.St} {D0 D00 : Addr → Prop} (al : ∀ a, D0 a → D00 a) : ∀ {xs : List VW} {vs : List V}, RepIs P K ca Z σ ρ D0 H fp xs vs → RepIs P K ca Z σ ρ D00 H fp xs vs
  | [], _, h => h
  | x :: xs, _, ⟨v, r, e, hh, h1, h2⟩ => ⟨v, r, e, hh, h1.from al, RepIs.from al h2⟩
theorem nilI_snd : SndIs bl Γ .nil := by
  intro x sc X P ca Z σ σc H fp hc C xs Z' he Q q
  cases x with
  | nil =>
    unfold evIs at he
    obtain ⟨rfl, rfl⟩ := okS he
    exact wpa_of pa_nil (q [] ca H fp (.of_same fun _ _ z => z) C.sr rfl)
  | cons _ _ => simp [chkIs] at hc
theorem consI_snd {a : I} {as : Is} (S : SndI bl Γ a) (Ss : SndIs bl Γ as) : SndIs bl Γ (.cons a as) := by
  intro x sc X P ca Z σ σc H fp hc C xs Z' he Q q
  cases x with
  | nil => simp [chkIs] at hc
  | cons x l =>
    have hc' : chkI bl X.N sc a x = true ∧ chkIs bl X.N sc as l = true := by simpa [chkIs] using hc
    unfold evIs at he
    obtain ⟨⟨w, k⟩, Z1, e1, he⟩ := bindS he
    split at he
    · rename_i hh
      obtain ⟨us, Z2, e2, he⟩ := bindS he
      obtain ⟨rfl, rfl⟩ := okS he
      refine wpa_of (pa_cons pe_wp pa_wp (star_I hc'.1 _ _)) ?_
      refine S x sc X P ca Z σ σc H fp hc'.1 C w k Z1 e1 _ fun v ca1 H1 fp1 t1 R1 r1 => ?_
      refine Ss l sc X P ca1 Z1 σ σc H1 fp1 hc'.2 (C.step t1.le R1) us _ e2 _ fun vs ca2 H2 fp2 t2 R2 r2 => ?_
      exact q _ ca2 H2 fp2 (t1.trans t2) R2 ⟨v, vs, rfl, hh, r1.later hh R1 t2 R2, r2.from t1.dd⟩
    · cases he
theorem callI_snd {f : Str} {as : Is} (Ss : SndIs bl Γ as) : SndI bl Γ (.call f as) := by
  intro x sc X P ca Z σ σc H fp hc C w k Z' he Q q
  cases x with
  | Call g l kws pos =>
    cases g with
    | Name x p =>
      cases kws with
      | cons _ _ => simp [chkI] at hc
      | nil =>
        have hc' : (decide (f = x) && glB sc x && plainName x && chkIs bl X.N sc as l && isPl f) = true := by unfold chkI at hc; exact hc
        simp only [Bool.and_eq_true, decide_eq_true_eq, plainName, Bool.not_eq_true'] at hc'
        obtain ⟨⟨⟨⟨h1, h2⟩, ⟨h3, _⟩, _⟩, h4⟩, hpl⟩ := hc'
        subst h1
        unfold evI at he
        split at he
        · rename_i g eg
          obtain ⟨xs, Z1, e1, he⟩ := bindS he
          obtain ⟨w', Z2, e2, he⟩ := bindS he
          obtain ⟨e3, rfl⟩ := okS he
          cases e3
          obtain ⟨rule0, rule1⟩ := (C.fns X rfl rfl rfl rfl rfl rfl f g eg).fn hpl (gl_of C.ok.scope h2) h3
          cases as with
          | nil =>
            cases l with
            | cons _ _ => simp [chkIs] at h4
            | nil =>
              unfold evIs at e1
              obtain ⟨rfl, rfl⟩ := okS e1
              refine wp_of (rule0 _ _) ?_
              exact imp_fin C.sr (ws := []) rfl e2 q
          | cons e es =>
            cases l with
            | nil => simp [chkIs] at h4
            | cons y l =>
              have h4' : chkI bl X.N sc e y = true ∧ chkIs bl X.N sc es l = true := by simpa [chkIs] using h4
              refine wp_of (rule1 _ _ _ _ _ pa_wp (star_I h4'.1 _ _) (noback_I h4'.2 _ _)) ?_
              refine Ss (y :: l) sc X P ca Z σ σc H fp h4 C xs Z1 e1 _ fun vs ca1 H1 fp1 t1 R1 r1 => ?_
              show spI X.K ca.c g (vs ++ []) H1 Q E0
              rw [List.append_nil, t1.le.1]
              exact imp_fin R1 (r1.args R1) e2 fun v ca' H' fp' t R r => q v ca' H' fp' (t1.trans t) R (r.from t1.dd)
        · cases he
    | _ => simp [chkI] at hc
  | _ => simp [chkI] at hc
theorem mcallI_snd {o : E} {m : Str} {as : Is} (Ss : SndIs bl Γ as) : SndI bl Γ (.mcall o m as) := by
  intro x sc X P ca Z σ σc H fp hc C w k Z' he Q q
  cases x with
  | Call g l kws pos =>
    cases g with
    | Attribute x a p =>
      cases kws with
      | cons _ _ => simp [chkI] at hc
      | nil =>
        have hc' : (decide (m = a) && baseOk x && (p.endLine == pos.line) && decide (l.length < 28) && chk bl X.N sc o x && chkIs bl X.N sc as l) = true := by unfold chkI at hc; exact hc
        simp only [Bool.and_eq_true, decide_eq_true_eq] at hc'
        obtain ⟨⟨⟨⟨⟨h1, h0⟩, h2⟩, h3⟩, h4⟩, h5⟩ := hc'
        subst h1
        unfold evI at he
        obtain ⟨xa, Z0, ea, he1⟩ := bindS he
        clear he
        have he := he1
        clear he1
        obtain ⟨ea9, eaz⟩ := upS ea
        subst eaz
        clear ea
        have ea := ea9
        clear ea9
        split at he
        · rename_i c fs hx
          split at he
          · rename_i g eg el hh
            obtain ⟨xs, Z1, e1, he⟩ := bindS he
            obtain ⟨w', Z2, e2, he⟩ := bindS he
            obtain ⟨e3, rfl⟩ := okS he
            cases e3
            obtain ⟨rule0, rule1⟩ := (C.fns X rfl rfl rfl rfl rfl rfl _ g eg).me c m rfl
            have hd : ∀ va H1, Same H H1 → RepW (fun _ => True) X.K ca H1 xa.1 va → ∃ a dx fs', va = .ref a ∧ H1 a = some (.ins (ca.c c) dx fs') ∧ fs'.lookup m = none := fun va H1 s1 r => by
              have rr := (C.mono s1).sr.at_rep r
              rw [hx] at rr
              obtain ⟨b, dx, fs', ev', hb, hf⟩ := obj_rd rr
              have q1 := hf m
              rw [el] at q1
              exact ⟨b, dx, fs', ev', hb, q1⟩
            cases as with
            | nil =>
              cases l with
              | cons _ _ => simp [chkIs] at h5
              | nil =>
                unfold evIs at e1
                obtain ⟨rfl, rfl⟩ := okS e1
                refine wp_of (rule0 _ _ _ _ pe_wp h0 h2) ?_
                refine sndE o x sc X P ca _ σ σc H fp h4 C _ _ ea _ fun va H1 s1 r1 => ?_
                obtain ⟨b, dx, fs', ev', hb, hl⟩ := hd va H1 s1 r1.rep
                refine ⟨b, dx, fs', ev', hb, hl, ?_⟩
                have R1 := C.sr.mono s1
                have ri := RepI.of_V C.sr r1 (ev_loc o ea)
                exact imp_fin R1 (ws := [xa.1]) ⟨va, [], rfl, ri.arg hh R1, rfl⟩ e2 fun v ca' H' fp' t R r => q v ca' H' fp' ((Stp.of_same s1).trans t) R (r.from (Same.dd s1))
            | cons e es =>
              cases l with
              | nil => simp [chkIs] at h5
              | cons y l =>
                have h5' : chkI bl X.N sc e y = true ∧ chkIs bl X.N sc es l = true := by simpa [chkIs] using h5
                refine wp_of (rule1 _ _ _ _ _ _ _ pe_wp pa_wp h0 h2 h3 (star_I h5'.1 _ _) (noback_I h5 _ _) (noback_I h5'.2 _ _)) ?_
                refine sndE o x sc X P ca _ σ σc H fp h4 C _ _ ea _ fun va H1 s1 r1 => ?_
                obtain ⟨b, dx, fs', ev', hb, hl⟩ := hd va H1 s1 r1.rep
                refine ⟨b, dx, fs', ev', hb, hl, ?_⟩
                have R1 := C.sr.mono s1
                have ri := RepI.of_V C.sr r1 (ev_loc o ea)
                refine Ss (y :: l) sc X P ca _ σ σc H1 fp h5 (C.mono s1) xs Z1 e1 _ fun vs ca1 H2 fp1 t1 R2 r2 => ?_
                show spI X.K ca.c g (va :: (vs ++ [])) H2 Q E0
                rw [List.append_nil, t1.le.1]
                have ri2 := ri.later hh R1 t1 R2
                exact imp_fin R2 (ws := xa.1 :: xs.map (·.1)) ⟨va, vs, rfl, ri2.arg hh R2, r2.args R2⟩ e2 fun v ca' H' fp' t R r => q v ca' H' fp' (((Stp.of_same s1).trans t1).trans t) R (r.from fun a z => Same.dd s1 a (t1.dd a z))
          · cases he
        · cases he
    | _ => simp [chkI] at hc
  | _ => simp [chkI] at hc
theorem RepIs.reps {K : PySem.W.Frag} {ρ : L2.St} {D0 : Addr → Prop} : ∀ {xs : List VW} {vs : List V}, RepIs P K ca Z σ ρ D0 H fp xs vs → RepWs K ca H (xs.map (·.1)) vs
  | [], _, h => h
  | x :: xs, _, ⟨v, r, e, hh, h1, h2⟩ => ⟨v, r, e, h1.rep, RepIs.reps h2⟩
theorem RepI.data {K : PySem.W.Frag} {ρ : L2.St} {D0 : Addr → Prop} {x : Ev.D} {v : V} (r : RepD K ca H x v) : RepI P K ca Z σ ρ D0 H fp (.d x) .ro v := ⟨r, trivial, r⟩
theorem tupI_snd {as : Is} (Ss : SndIs bl Γ as) : SndI bl Γ (.tup as) := by
  intro x sc X P ca Z σ σc H fp hc C w k Z' he Q q
  cases x with
  | Tuple l x1 pos =>
    have hc' : chkIs bl X.N sc as l = true := by unfold chkI at hc; exact hc
    unfold evI at he
    obtain ⟨xs, Z1, e1, he⟩ := bindS he
    obtain ⟨he9, hez⟩ := upS he
    subst hez
    clear he
    have he := he9
    clear he9
    unfold tupW at he
    split at he
    · rename_i ds ex
      obtain ⟨c, he⟩ := guardN_ok he
      cases ok_inj he
      refine wp_of (pe_tup pa_wp) ?_
      refine Ss l sc X P ca Z σ σc H fp hc' C xs _ e1 _ fun vs ca1 H1 fp1 t1 R1 r1 => ?_
      have r2 := mapD_rep ex r1.reps
      refine ⟨by rw [r2.length]; exact c, fun p np => ?_⟩
      refine q _ ca1 _ fp1 (t1.trans (.of_same (Same.upd np))) (R1.mono (Same.upd np)) (RepI.data ?_)
      exact ⟨p, vs, rfl, .inl (.inl upd_same), r2.mono (.of_same (Same.upd np))⟩
    · cases he
  | _ => simp [chkI] at hc
theorem cmpI_core {o : CmpOp} {a b : I} (Sa : SndI bl Γ a) (Sb : SndI bl Γ b) {x y : Expr} (h2 : chkI bl X.N sc a x = true) (h3 : chkI bl X.N sc b y = true) (C : Ctx bl sc X Γ P ca Z σ σc H fp) {wa wb : W} {ka kb : Kd} {c : Bool} {Z1 Z2 : Sto}
    (ea : evI Γ a σ Z = some (.ok (wa, ka) Z1)) (eb : evI Γ b σ Z1 = some (.ok (wb, kb) Z2)) (hh : handed (wa, ka) = true) (ec : cmp o wa wb = some (.ok c)) {Q : VK} (q : ∀ ca' H' fp', Stp P X.K ca Z H fp ca' Z2 H' fp' → SRep P X.K ca' σ Z2 σc H' fp' → Q (.bl c) H') : tOp (rCmp o X.K) (wpE X x) (wpE X y) σc H Q := by
  refine Sa x sc X P ca Z σ σc H fp h2 C wa ka Z1 ea _ fun va ca1 H1 fp1 t1 R1 r1 => ?_
  refine Sb y sc X P ca1 Z1 σ σc H1 fp1 h3 (C.step t1.le R1) wb kb Z2 eb _ fun vb ca2 H2 fp2 t2 R2 r2 => ?_
  exact cmp_ok (r1.later hh R1 t2 R2).rep r2.rep ec (q ca2 H2 fp2 (t1.trans t2) R2)
theorem cmpI_snd {o : CmpOp} {a b : I} (Sa : SndI bl Γ a) (Sb : SndI bl Γ b) : SndI bl Γ (.cmp o a b) := by
  intro x sc X P ca Z σ σc H fp hc C w k Z' he Q q
  cases x with
  | Compare x ops l pos =>
    match ops, l with
    | [p], [y] =>
      have hc' : (decide (o = p) && chkI bl X.N sc a x && chkI bl X.N sc b y) = true := by unfold chkI at hc; exact hc
      simp only [Bool.and_eq_true, decide_eq_true_eq] at hc'
      obtain ⟨⟨h1, h2⟩, h3⟩ := hc'
      subst h1
      unfold evI at he
      obtain ⟨⟨wa, ka⟩, Z1, ea, he⟩ := bindS he
      obtain ⟨⟨wb, kb⟩, Z2, eb, he⟩ := bindS he
      split at he
      · rename_i hh
        obtain ⟨he9, hez⟩ := upS he
        subst hez
        clear he
        have he := he9
        clear he9
        obtain ⟨c, ec, he⟩ := bind_ok he
        cases ok_inj he
        refine wp_of (pe_cmpR (op_cmp (un64 C.ok) o) pe_wp pe_wp (mark_I h3 o)) ?_
        exact cmpI_core Sa Sb h2 h3 C ea eb hh ec fun ca' H' fp' t R => q _ ca' H' fp' t R (RepI.data rfl)
      · cases he
    | [], _ => simp [chkI] at hc
    | _ :: _ :: _, _ => cases l <;> simp [chkI] at hc
    | [_], [] => simp [chkI] at hc
    | [_], _ :: _ :: _ => simp [chkI] at hc
  | _ => simp [chkI] at hc
theorem notI_snd {a : I} (Sa : SndI bl Γ a) : SndI bl Γ (.not a) := by
  intro x sc X P ca Z σ σc H fp hc C w k Z' he Q q
  cases x with
  | UnaryOp o x pos =>
    cases o with
    | Not =>
      have h2 : chkI bl X.N sc a x = true := by unfold chkI at hc; exact hc
      unfold evI at he
      obtain ⟨⟨wa, ka⟩, Z1, ea, he⟩ := bindS he
      obtain ⟨he9, hez⟩ := upS he
      subst hez
      clear he
      have he := he9
      clear he9
      obtain ⟨b, eb, he⟩ := bind_ok he
      cases ok_inj he
      refine wp_of (pe_notT pe_wp) ?_
      refine Sa x sc X P ca Z σ σc H fp h2 C wa ka _ ea _ fun va ca1 H1 fp1 t1 R1 r1 => ?_
      exact ⟨b, tru_of r1.rep eb, q _ ca1 H1 fp1 t1 R1 (RepI.data rfl)⟩
    | _ => simp [chkI] at hc
  | _ => simp [chkI] at hc
theorem andI_snd {a b : I} (Sa : SndI bl Γ a) (Sb : SndI bl Γ b) : SndI bl Γ (.and a b) := by
  intro x sc X P ca Z σ σc H fp hc C w k Z' he Q q
  cases x with
  | BoolOp o l pos =>
    cases o with
    | Or => cases l <;> simp [chkI] at hc
    | And =>
      match l with
      | [] => simp [chkI] at hc
      | [_] => simp [chkI] at hc
      | x :: y :: r =>
        have hc' : chkI bl X.N sc a x = true ∧ tailB (chkI bl X.N sc b) .And y r pos = true := by
          have hh := hc
          cases r <;> (simp only [chkI, Bool.and_eq_true] at hh; exact hh)
        unfold evI at he
        obtain ⟨⟨wa, ka⟩, Z1, ea, he⟩ := bindS he
        obtain ⟨k1, Z2, ek, he⟩ := bindS he
        obtain ⟨ek9, ekz⟩ := upS ek
        subst ekz
        clear ek
        have ek := ek9
        clear ek9
        have go : ∀ t, PE X (.BoolOp .And (y :: r) pos) t → (k1 = true → ∀ ca1 H1 fp1, Stp P X.K ca Z H fp ca1 Z2 H1 fp1 → SRep P X.K ca1 σ Z2 σc H1 fp1 → t σc H1 Q) → wpE X (.BoolOp .And (x :: y :: r) pos) σc H Q := fun t pt ht => by
          refine wp_of (pe_andT pe_wp pt) ?_
          refine Sa x sc X P ca Z σ σc H fp hc'.1 C wa ka Z2 ea _ fun va ca1 H1 fp1 t1 R1 r1 => ⟨k1, tru_of r1.rep ek, ?_⟩
          cases k1 with
          | true => rw [if_pos rfl]; exact ht rfl ca1 H1 fp1 t1 R1
          | false =>
            rw [if_neg Bool.false_ne_true]
            simp only [Bool.false_eq_true, if_false] at he
            obtain ⟨e3, rfl⟩ := okS he
            cases e3
            exact q _ ca1 H1 fp1 t1 R1 r1
        cases r with
        | nil =>
          refine go _ (pe_one pe_wp) fun hk ca1 H1 fp1 t1 R1 => ?_
          subst hk
          simp only [if_true] at he
          exact Sb y sc X P ca1 Z2 σ σc H1 fp1 hc'.2 (C.step t1.le R1) w k Z' he _ fun v ca' H' fp' t R r => q v ca' H' fp' (t1.trans t) R (r.from t1.dd)
        | cons z r =>
          refine go _ pe_wp fun hk ca1 H1 fp1 t1 R1 => ?_
          subst hk
          simp only [if_true] at he
          exact Sb _ sc X P ca1 Z2 σ σc H1 fp1 hc'.2 (C.step t1.le R1) w k Z' he _ fun v ca' H' fp' t R r => q v ca' H' fp' (t1.trans t) R (r.from t1.dd)
  | _ => simp [chkI] at hc
theorem orI_snd {a b : I} (Sa : SndI bl Γ a) (Sb : SndI bl Γ b) : SndI bl Γ (.or a b) := by
  intro x sc X P ca Z σ σc H fp hc C w k Z' he Q q
  cases x with
  | BoolOp o l pos =>
    cases o with
    | And => cases l <;> simp [chkI] at hc
    | Or =>
      match l with
      | [] => simp [chkI] at hc
      | [_] => simp [chkI] at hc
      | x :: y :: r =>
        have hc' : chkI bl X.N sc a x = true ∧ tailB (chkI bl X.N sc b) .Or y r pos = true := by
          have hh := hc
          cases r <;> (simp only [chkI, Bool.and_eq_true] at hh; exact hh)
        unfold evI at he
        obtain ⟨⟨wa, ka⟩, Z1, ea, he⟩ := bindS he
        obtain ⟨k1, Z2, ek, he⟩ := bindS he
        obtain ⟨ek9, ekz⟩ := upS ek
        subst ekz
        clear ek
        have ek := ek9
        clear ek9
        have go : ∀ t, PE X (.BoolOp .Or (y :: r) pos) t → (k1 = false → ∀ ca1 H1 fp1, Stp P X.K ca Z H fp ca1 Z2 H1 fp1 → SRep P X.K ca1 σ Z2 σc H1 fp1 → t σc H1 Q) → wpE X (.BoolOp .Or (x :: y :: r) pos) σc H Q := fun t pt ht => by
          refine wp_of (pe_orT pe_wp pt) ?_
          refine Sa x sc X P ca Z σ σc H fp hc'.1 C wa ka Z2 ea _ fun va ca1 H1 fp1 t1 R1 r1 => ⟨k1, tru_of r1.rep ek, ?_⟩
          cases k1 with
          | false => rw [if_neg Bool.false_ne_true]; exact ht rfl ca1 H1 fp1 t1 R1
          | true =>
            rw [if_pos rfl]
            simp only [if_true] at he
            obtain ⟨e3, rfl⟩ := okS he
            cases e3
            exact q _ ca1 H1 fp1 t1 R1 r1
        cases r with
        | nil =>
          refine go _ (pe_one pe_wp) fun hk ca1 H1 fp1 t1 R1 => ?_
          subst hk
          simp only [Bool.false_eq_true, if_false] at he
          exact Sb y sc X P ca1 Z2 σ σc H1 fp1 hc'.2 (C.step t1.le R1) w k Z' he _ fun v ca' H' fp' t R r => q v ca' H' fp' (t1.trans t) R (r.from t1.dd)
        | cons z r =>
          refine go _ pe_wp fun hk ca1 H1 fp1 t1 R1 => ?_
          subst hk
          simp only [Bool.false_eq_true, if_false] at he
          exact Sb _ sc X P ca1 Z2 σ σc H1 fp1 hc'.2 (C.step t1.le R1) w k Z' he _ fun v ca' H' fp' t R r => q v ca' H' fp' (t1.trans t) R (r.from t1.dd)
  | _ => simp [chkI] at hc
mutual
theorem sndI : ∀ a : I, SndI bl Γ a
  | .p e => p_snd
  | .share a => share_snd (sndI a)
  | .call _ as => callI_snd (sndIs as)
  | .mcall _ _ as => mcallI_snd (sndIs as)
  | .tup as => tupI_snd (sndIs as)
  | .cmp _ a b => cmpI_snd (sndI a) (sndI b)
  | .not a => notI_snd (sndI a)
  | .and a b => andI_snd (sndI a) (sndI b)
  | .or a b => orI_snd (sndI a) (sndI b)
theorem sndIs : ∀ as : Is, SndIs bl Γ as
  | .nil => nilI_snd
  | .cons a as => consI_snd (sndI a) (sndIs as)
end
end
end Ev
/-! Ev9: tests that may change shared objects; things changed where they stand. -/
namespace Ev
open PySem PySem.Spec
open PyProof.Rows hiding St
open L2
section
variable {bl : List Str} {sc : Scope} {X : Cx} {Γ : Gam} {P : Addr → Prop} {ca ca1 : Am} {Z Z1 Z' : Sto} {σ : List Sl} {σc : L2.St} {H H1 H' : Hp} {fp fp1 : Nat → List Addr}
theorem plain_ti {a : I} (S : SndI bl Γ a) (hn : ∀ N sc x, chkI bl N sc a x = true → noT x = true) : SndTI bl Γ a := by
  intro x sc X P ca Z σ σc H fp hc C w k Z' b he ht Q q
  have h := hn _ _ _ hc
  refine wpt_of (pt_truth pe_wp (isTrue_of _ ?_ ?_ ?_ ?_)) (S x sc X P ca Z σ σc H fp hc C w k Z' he _ fun v ca' H' fp' t R r => ⟨b, tru_of r.rep ht, q ca' H' fp' t R⟩)
  · rintro y p rfl; cases h
  · rintro o l p rfl; cases h
  · rintro a b c p rfl; cases h
  · rintro a b c p rfl; cases h
theorem p_t {e : E} (ht : tstOk e = true) : SndTI bl Γ (.p e) := by
  intro x sc X P ca Z σ σc H fp hc C w k Z' b he hb Q q
  have hc' : chk bl X.N sc e x = true := by unfold chkI at hc; exact hc
  unfold evI at he
  obtain ⟨e1, rfl⟩ := upS he
  exact sndT e ht x sc X P ca _ σ σc H fp hc' C w k b e1 hb _ fun H1 s1 => q ca H1 fp (.of_same s1) (C.sr.mono s1)
theorem not_ti {a : I} (Sa : SndTI bl Γ a) : SndTI bl Γ (.not a) := by
  intro x sc X P ca Z σ σc H fp hc C w k Z' b he ht Q q
  cases x with
  | UnaryOp o x pos =>
    cases o with
    | Not =>
      have h2 : chkI bl X.N sc a x = true := by unfold chkI at hc; exact hc
      unfold evI at he
      obtain ⟨⟨wa, ka⟩, Z1, ea, he1⟩ := bindS he
      obtain ⟨he2, hz⟩ := upS he1
      subst hz
      obtain ⟨b', eb, he3⟩ := bind_ok he2
      refine wpt_of (pt_not pt_wp) ?_
      refine Sa x sc X P ca Z σ σc H fp h2 C wa ka _ b' ea eb _ fun ca1 H1 fp1 t1 R1 => ?_
      cases ok_inj he3
      cases ok_inj ht
      exact q ca1 H1 fp1 t1 R1
    | _ => simp [chkI] at hc
  | _ => simp [chkI] at hc
theorem and_ti {a b : I} (Sa : SndTI bl Γ a) (Sb : SndTI bl Γ b) : SndTI bl Γ (.and a b) := by
  intro x sc X P ca Z σ σc H fp hc C w k Z' c he ht Q q
  cases x with
  | BoolOp o l pos =>
    cases o with
    | Or => cases l <;> simp [chkI] at hc
    | And =>
      match l with
      | [] => simp [chkI] at hc
      | [_] => simp [chkI] at hc
      | x :: y :: r =>
        have hc' : chkI bl X.N sc a x = true ∧ tailB (chkI bl X.N sc b) .And y r pos = true := by
          have hh := hc
          cases r <;> (simp only [chkI, Bool.and_eq_true] at hh; exact hh)
        unfold evI at he
        obtain ⟨⟨wa, ka⟩, Z1, ea, he1⟩ := bindS he
        obtain ⟨k1, Z2, ek, he2⟩ := bindS he1
        obtain ⟨ek2, hz⟩ := upS ek
        subst hz
        have go : ∀ t, PW X (.BoolOp .And (y :: r) pos) t → (k1 = true → ∀ ca1 H1 fp1, Stp P X.K ca Z H fp ca1 Z2 H1 fp1 → SRep P X.K ca1 σ Z2 σc H1 fp1 → t σc H1 Q) → wpT X (.BoolOp .And (x :: y :: r) pos) σc H Q := fun t pt ht' => by
          refine wpt_of (PW.pt (pw_and pt_wp pt)) ?_
          refine Sa x sc X P ca Z σ σc H fp hc'.1 C wa ka Z2 k1 ea ek2 _ fun ca1 H1 fp1 t1 R1 => ?_
          cases k1 with
          | true => rw [if_pos rfl]; exact ht' rfl ca1 H1 fp1 t1 R1
          | false =>
            rw [if_neg Bool.false_ne_true]
            simp only [Bool.false_eq_true, if_false] at he2
            obtain ⟨e3, rfl⟩ := okS he2
            cases e3
            cases truth_same ek2 ht
            exact q ca1 H1 fp1 t1 R1
        cases r with
        | nil =>
          refine go _ (pw_and1 pt_wp) fun hk ca1 H1 fp1 t1 R1 => ?_
          subst hk
          simp only [if_true] at he2
          exact Sb y sc X P ca1 Z2 σ σc H1 fp1 hc'.2 (C.step t1.le R1) w k Z' c he2 ht _ fun ca' H' fp' t R => q ca' H' fp' (t1.trans t) R
        | cons z r =>
          refine go _ (pw_bool pt_wp) fun hk ca1 H1 fp1 t1 R1 => ?_
          subst hk
          simp only [if_true] at he2
          exact Sb _ sc X P ca1 Z2 σ σc H1 fp1 hc'.2 (C.step t1.le R1) w k Z' c he2 ht _ fun ca' H' fp' t R => q ca' H' fp' (t1.trans t) R
  | _ => simp [chkI] at hc
theorem or_ti {a b : I} (Sa : SndTI bl Γ a) (Sb : SndTI bl Γ b) : SndTI bl Γ (.or a b) := by
  intro x sc X P ca Z σ σc H fp hc C w k Z' c he ht Q q
  cases x with
  | BoolOp o l pos =>
    cases o with
    | And => cases l <;> simp [chkI] at hc
    | Or =>
      match l with
      | [] => simp [chkI] at hc
      | [_] => simp [chkI] at hc
      | x :: y :: r =>
        have hc' : chkI bl X.N sc a x = true ∧ tailB (chkI bl X.N sc b) .Or y r pos = true := by
          have hh := hc
          cases r <;> (simp only [chkI, Bool.and_eq_true] at hh; exact hh)
        unfold evI at he
        obtain ⟨⟨wa, ka⟩, Z1, ea, he1⟩ := bindS he
        obtain ⟨k1, Z2, ek, he2⟩ := bindS he1
        obtain ⟨ek2, hz⟩ := upS ek
        subst hz
        have go : ∀ t, PW X (.BoolOp .Or (y :: r) pos) t → (k1 = false → ∀ ca1 H1 fp1, Stp P X.K ca Z H fp ca1 Z2 H1 fp1 → SRep P X.K ca1 σ Z2 σc H1 fp1 → t σc H1 Q) → wpT X (.BoolOp .Or (x :: y :: r) pos) σc H Q := fun t pt ht' => by
          refine wpt_of (PW.pt (pw_or pt_wp pt)) ?_
          refine Sa x sc X P ca Z σ σc H fp hc'.1 C wa ka Z2 k1 ea ek2 _ fun ca1 H1 fp1 t1 R1 => ?_
          cases k1 with
          | false => rw [if_neg Bool.false_ne_true]; exact ht' rfl ca1 H1 fp1 t1 R1
          | true =>
            rw [if_pos rfl]
            simp only [if_true] at he2
            obtain ⟨e3, rfl⟩ := okS he2
            cases e3
            cases truth_same ek2 ht
            exact q ca1 H1 fp1 t1 R1
        cases r with
        | nil =>
          refine go _ (pw_or1 pt_wp) fun hk ca1 H1 fp1 t1 R1 => ?_
          subst hk
          simp only [Bool.false_eq_true, if_false] at he2
          exact Sb y sc X P ca1 Z2 σ σc H1 fp1 hc'.2 (C.step t1.le R1) w k Z' c he2 ht _ fun ca' H' fp' t R => q ca' H' fp' (t1.trans t) R
        | cons z r =>
          refine go _ (pw_bool pt_wp) fun hk ca1 H1 fp1 t1 R1 => ?_
          subst hk
          simp only [Bool.false_eq_true, if_false] at he2
          exact Sb _ sc X P ca1 Z2 σ σc H1 fp1 hc'.2 (C.step t1.le R1) w k Z' c he2 ht _ fun ca' H' fp' t R => q ca' H' fp' (t1.trans t) R
  | _ => simp [chkI] at hc
theorem cmp_ti {o : CmpOp} {a b : I} (Sa : SndI bl Γ a) (Sb : SndI bl Γ b) : SndTI bl Γ (.cmp o a b) := by
  intro x sc X P ca Z σ σc H fp hc C w k Z' c he ht Q q
  cases x with
  | Compare x ops l pos =>
    match ops, l with
    | [p], [y] =>
      have hc' : (decide (o = p) && chkI bl X.N sc a x && chkI bl X.N sc b y) = true := by unfold chkI at hc; exact hc
      simp only [Bool.and_eq_true, decide_eq_true_eq] at hc'
      obtain ⟨⟨h1, h2⟩, h3⟩ := hc'
      subst h1
      unfold evI at he
      obtain ⟨⟨wa, ka⟩, Z1, ea, he1⟩ := bindS he
      obtain ⟨⟨wb, kb⟩, Z2, eb, he2⟩ := bindS he1
      split at he2
      · rename_i hh
        obtain ⟨he3, hz⟩ := upS he2
        subst hz
        obtain ⟨c', ec, he4⟩ := bind_ok he3
        cases ok_inj he4
        cases ok_inj ht
        refine wpt_of (pt_cmpR (op_cmp (un64 C.ok) o) pe_wp pe_wp (mark_I h3 o)) ?_
        exact cmpI_core Sa Sb h2 h3 C ea eb hh ec fun ca' H' fp' t R => ⟨_, rfl, q ca' H' fp' t R⟩
      · cases he2
    | [], _ => simp [chkI] at hc
    | _ :: _ :: _, _ => cases l <;> simp [chkI] at hc
    | [_], [] => simp [chkI] at hc
    | [_], _ :: _ :: _ => simp [chkI] at hc
  | _ => simp [chkI] at hc
theorem sndTI : ∀ a : I, tstI a = true → SndTI bl Γ a
  | .p e, h => p_t h
  | .not a, h => not_ti (sndTI a h)
  | .and a b, h => and_ti (sndTI a (Bool.and_eq_true_iff.mp h).1) (sndTI b (Bool.and_eq_true_iff.mp h).2)
  | .or a b, h => or_ti (sndTI a (Bool.and_eq_true_iff.mp h).1) (sndTI b (Bool.and_eq_true_iff.mp h).2)
  | .cmp _ a b, _ => cmp_ti (sndI a) (sndI b)
  | .call _ as, _ => plain_ti (callI_snd (sndIs as)) (fun N sc x h => by cases x <;> first | rfl | (simp [chkI] at h; done) | (rename_i o _ _; cases o <;> first | rfl | (simp [chkI] at h)))
  | .mcall _ _ as, _ => plain_ti (mcallI_snd (sndIs as)) (fun N sc x h => by cases x <;> first | rfl | (simp [chkI] at h; done) | (rename_i o _ _; cases o <;> first | rfl | (simp [chkI] at h)))
  | .share _, h => by cases h
  | .tup _, h => by cases h
end
/-! ### things changed where they stand -/
/-- a list's or a dict's content -/
def CellRep (K : PySem.W.Frag) (ca : Am) (H : Hp) : C → HO → Prop
  | .lst xs, .lst vs => RepDs K ca H xs vs
  | .dK kvs, .dK vs => kvs.map (·.1) = vs.map (·.1) ∧ RepDs K ca H (kvs.map (·.2)) (vs.map (·.2))
  | .dT kvs, .dT vs => kvs.map (·.1) = vs.map (·.1) ∧ RepDs K ca H (kvs.map (·.2)) (vs.map (·.2))
  | _, _ => False
def isCell : C → Bool
  | .d _ => false
  | _ => true
section
variable {P : Addr → Prop} {K : PySem.W.Frag} {ca ca' : Am} {σ σ1 σ' : List Sl} {S S' : Sto} {ρ : L2.St} {H H' : Hp} {fp : Nat → List Addr} {v : V} {c c' : C}
theorem CellRep.mono (t : TK K H H') {o : HO} (h : CellRep K ca H c o) : CellRep K ca H' c o := by
  cases c with
  | d _ => cases h
  | lst xs => cases o <;> first | cases h | exact RepDs.mono t h
  | dK xs => cases o <;> first | exact ⟨h.1, h.2.mono t⟩ | cases h
  | dT xs => cases o <;> first | exact ⟨h.1, h.2.mono t⟩ | cases h
theorem OwnC.cell {f : List Addr} (o : OwnC K ca H c v f) (hc : isCell c = true) : ∃ a u, v = .ref a ∧ f = [a] ∧ H a = some u ∧ CellRep K ca H c u := by
  cases c with
  | d _ => cases hc
  | lst xs => obtain ⟨a, vs, e, h, r, ef⟩ := o; exact ⟨a, _, e, ef, h, r⟩
  | dK xs => obtain ⟨a, vs, e, h, k, r, ef⟩ := o; exact ⟨a, _, e, ef, h, k, r⟩
  | dT xs => obtain ⟨a, vs, e, h, k, r, ef⟩ := o; exact ⟨a, _, e, ef, h, k, r⟩
theorem OwnC.of_cell {a : Addr} {u : HO} (h : H a = some u) (r : CellRep K ca H c u) : OwnC K ca H c (.ref a) [a] := by
  cases c with
  | d _ => cases r
  | lst xs => cases u <;> first | cases r | exact ⟨a, _, rfl, h, r, rfl⟩
  | dK xs => cases u <;> first | exact ⟨a, _, rfl, h, r.1, r.2, rfl⟩ | cases r
  | dT xs => cases u <;> first | exact ⟨a, _, rfl, h, r.1, r.2, rfl⟩ | cases r
theorem cell_ne {u : HO} (r : CellRep K ca H c u) : (∀ xs, u ≠ .tup xs) ∧ ∀ ob w, u ≠ .frz ob w := by
  constructor
  · rintro xs rfl
    cases c <;> cases r
  · rintro ob w rfl
    cases c <;> cases r
theorem tk_upd {a : Addr} {o o' : HO} (e : H a = some o) (ht : ∀ xs, o ≠ .tup xs) (hf : ∀ ob u, o ≠ .frz ob u) : TK K H (upd H a o') := ⟨fun b xs z => by
  rcases z with (z | ⟨ob, z⟩) | z
  · refine .inl (.inl ?_)
    rw [upd_ne (ne_of z e (fun q => ht xs q.symm))]
    exact z
  · refine .inl (.inr ⟨ob, ?_⟩)
    rw [upd_ne (ne_of z e (fun q => hf ob _ q.symm))]
    exact z
  · exact .inr z, fun b ob u z => by rw [upd_ne (ne_of z e (fun q => hf ob _ q.symm))]; exact z⟩
theorem OwnFs.setC {fs' : List (Str × V)} {f : Str} {a : Addr} {o' : HO} (tk : TK K H (upd H a o')) (r' : CellRep K ca (upd H a o') c' o') : ∀ {fs : List (Str × C)} {fpo : List Addr}, OwnFs K ca H fs' fs fpo → fs.lookup f = some c → isCell c = true → fs'.lookup f = some (.ref a) → fpo.Nodup → (fs.map (·.1)).Nodup →
    a ∈ fpo ∧ OwnFs K ca (upd H a o') fs' (setF f c' fs) fpo
  | [], _, _, h, _, _, _, _ => by simp at h
  | (g, y) :: r, fpo, ⟨v, fp1, fp2, l, h1, h2, e⟩, hl, hc, hv, nd, nn => by
    subst e
    have nd' := List.nodup_append.mp nd
    have nn' : g ∉ r.map (·.1) ∧ (r.map (·.1)).Nodup := by simpa using nn
    rw [List.lookup_cons] at hl
    split at hl
    · rename_i eq
      have eq' : f = g := by simpa using eq
      subst eq'
      cases hl
      rw [l] at hv
      cases hv
      obtain ⟨b, u, e1, e2, e3, e4⟩ := h1.cell hc
      cases e1
      subst e2
      have es : setF f c' ((f, c) :: r) = (f, c') :: r := if_pos rfl
      rw [es]
      refine ⟨by simp, .ref a, [a], fp2, l, .of_cell upd_same r', h2.stay tk fun b hb o z => ?_, rfl⟩
      have : b ≠ a := fun y => nd'.2.2 a (by simp) b hb y.symm
      rw [upd_ne this]
      exact z
    · rename_i eq
      have hg : g ≠ f := fun z => by subst z; simp at eq
      have es : setF f c' ((g, y) :: r) = (g, y) :: setF f c' r := if_neg hg
      rw [es]
      obtain ⟨m, q⟩ := OwnFs.setC tk r' h2 hl hc hv nd'.2.1 nn'.2
      refine ⟨List.mem_append_right _ m, v, fp1, fp2, l, h1.stay tk fun b hb o z => ?_, q, rfl⟩
      have : b ≠ a := fun y => nd'.2.2 b hb a m y
      rw [upd_ne this]
      exact z
/-- a slot's or a shared object's thing is exchanged, its places stay -/
theorem SRep.mutS (R : SRep P K ca σ S ρ H fp) {i : Nat} {w w' : W} {a : Addr} {o' : HO} (e : σ[i]? = some (Sl.own w)) (ha : a ∈ fp (2 * i)) (f : Fut P K H (upd H a o')) (h : ∃ v, ρ[i]? = some (some v) ∧ OwnW K ca (upd H a o') w' v (fp (2 * i))) :
    SRep P K ca (σ.set i (.own w')) S ρ (upd H a o') fp := by
  have hi : i < σ.length := (List.getElem?_eq_some_iff.mp e).1
  have st : ∀ j, j ≠ 2 * i → ∀ b ∈ fp j, ∀ u, H b = some u → (upd H a o') b = some u := fun j hj b hb u z => by
    have : b ≠ a := fun y => R.dj j (2 * i) hj b hb (y ▸ ha)
    rw [upd_ne this]; exact z
  refine ⟨by rw [List.length_set]; exact R.len, fun j t q => ?_, R.sln, R.fzl, fun n w0 b e1 e2 => ?_, R.dj, R.nd, R.np, fun j hj => R.far j (by simpa using hj), R.far2, fun b p => ?_⟩
  · by_cases hj : j = i
    · subst hj
      rw [List.getElem?_set_self hi] at q
      cases q
      exact h
    · rw [List.getElem?_set_ne (Ne.symm hj)] at q
      have r := R.sl j t q
      cases t with
      | own w => obtain ⟨v, e1, r⟩ := r; exact ⟨v, e1, r.stay f.tk (st _ (by omega))⟩
      | ro w => obtain ⟨v, e1, r, z⟩ := r; exact ⟨v, e1, r.mono f fun _ p => p, z⟩
      | out => exact r
  · have r := R.cel n w0 b e1 e2
    unfold ClRep at r ⊢
    split
    · rename_i hz
      rw [if_pos hz] at r
      exact ⟨r.1.mono f fun _ p => p, r.2⟩
    · rename_i hz
      rw [if_neg hz] at r
      exact r.stay f.tk (st _ (by omega))
  · obtain ⟨o, z⟩ := R.pa b p
    exact ⟨o, f.at_ b o p z⟩
theorem SRep.mutC (R : SRep P K ca σ S ρ H fp) {n : Nat} {w w' : W} {a b : Addr} {o' : HO} (e : S.cs[n]? = some w) (eb : ca.i[n]? = some b) (hz : S.fz ≤ n) (ha : a ∈ fp (2 * n + 1)) (f : Fut P K H (upd H a o')) (h : OwnW K ca (upd H a o') w' (.ref b) (fp (2 * n + 1))) :
    SRep P K ca σ ⟨S.cs.set n w', S.fz⟩ ρ (upd H a o') fp := by
  have hn : n < S.cs.length := (List.getElem?_eq_some_iff.mp e).1
  have st : ∀ j, j ≠ 2 * n + 1 → ∀ b ∈ fp j, ∀ u, H b = some u → (upd H a o') b = some u := fun j hj b hb u z => by
    have : b ≠ a := fun y => R.dj j (2 * n + 1) hj b hb (y ▸ ha)
    rw [upd_ne this]; exact z
  refine ⟨R.len, fun j t q => ?_, by simpa using R.sln, by simpa using R.fzl, fun m w0 d e1 e2 => ?_, R.dj, R.nd, R.np, R.far, fun m hm => R.far2 m (by simpa using hm), fun b p => ?_⟩
  · have r := R.sl j t q
    cases t with
    | own w => obtain ⟨v, e1, r⟩ := r; exact ⟨v, e1, r.stay f.tk (st _ (by omega))⟩
    | ro w => obtain ⟨v, e1, r, z⟩ := r; exact ⟨v, e1, r.mono f fun _ p => p, z⟩
    | out => exact r
  · by_cases hm : m = n
    · subst hm
      have e1' : (S.cs.set m w')[m]? = some w0 := e1
      rw [List.getElem?_set_self hn] at e1'
      cases e1'
      rw [eb] at e2
      cases e2
      unfold ClRep
      rw [if_neg (show ¬ m < S.fz by omega)]
      exact h
    · have e1' : (S.cs.set n w')[m]? = some w0 := e1
      rw [List.getElem?_set_ne (Ne.symm hm)] at e1'
      have r := R.cel m w0 d e1' e2
      unfold ClRep at r ⊢
      split
      · rename_i hz
        rw [if_pos hz] at r
        exact ⟨r.1.mono f fun _ p => p, r.2⟩
      · rename_i hz
        rw [if_neg hz] at r
        exact r.stay f.tk (st _ (by omega))
  · obtain ⟨o, z⟩ := R.pa b p
    exact ⟨o, f.at_ b o p z⟩
/-- what stands behind a statement -/
structure Fw (P : Addr → Prop) (K : PySem.W.Frag) (ca : Am) (S : Sto) (H : Hp) (ca' : Am) (S' : Sto) (H' : Hp) : Prop where
  le : ca.le ca'
  fz : S'.fz = S.fz
  pre : ∀ n, n < S.fz → S'.cs[n]? = S.cs[n]?
  fut : Fut P K H H'
  al : ∀ a, H' a = none → H a = none
theorem Fw.refl : Fw P K ca S H ca S H := ⟨.refl, rfl, fun _ _ => rfl, .refl, fun _ z => z⟩
theorem Fw.trans {ca2 : Am} {S2 : Sto} {H2 : Hp} (a : Fw P K ca S H ca' S' H') (b : Fw P K ca' S' H' ca2 S2 H2) : Fw P K ca S H ca2 S2 H2 :=
  ⟨a.le.trans b.le, b.fz.trans a.fz, fun n hn => (b.pre n (by rw [a.fz]; exact hn)).trans (a.pre n hn), a.fut.trans b.fut, fun c z => a.al c (b.al c z)⟩
theorem Stp.fw {fp' : Nat → List Addr} (t : Stp P K ca S H fp ca' S' H' fp') (R : SRep P K ca σ S ρ H fp) : Fw P K ca S H ca' S' H' := ⟨t.le, t.fz, t.pre, t.fut R, t.al⟩
theorem Fw.of_same (s : Same H H') : Fw P K ca S H ca S H' := ⟨.refl, rfl, fun _ _ => rfl, .of_same s, fun a z => s.free z⟩
theorem upd_al {a : Addr} {o o' : HO} (e : H a = some o) : ∀ b, upd H a o' b = none → H b = none := fun b z => by
  by_cases hb : b = a
  · subst hb; rw [upd_same] at z; cases z
  · rwa [upd_ne hb] at z
theorem OwnFs.at_ {fs' : List (Str × V)} {f : Str} {y : C} : ∀ {fs : List (Str × C)} {fpo : List Addr}, OwnFs K ca H fs' fs fpo → fs.lookup f = some y → ∃ v f1, fs'.lookup f = some v ∧ OwnC K ca H y v f1 ∧ ∀ a ∈ f1, a ∈ fpo
  | [], _, _, h => by simp at h
  | (g, x) :: r, fpo, ⟨v, fp1, fp2, l, h1, h2, e⟩, hl => by
    subst e
    rw [List.lookup_cons] at hl
    split at hl
    · rename_i eq
      have eq' : f = g := by simpa using eq
      subst eq'
      cases hl
      exact ⟨v, fp1, l, h1, fun a ha => List.mem_append_left _ ha⟩
    · obtain ⟨v, f1, l, o, s⟩ := OwnFs.at_ h2 hl
      exact ⟨v, f1, l, o, fun a ha => List.mem_append_right _ (s a ha)⟩
theorem setF_names {f : Str} {y x : C} : ∀ {fs : List (Str × C)}, fs.lookup f = some y → (setF f x fs).map (·.1) = fs.map (·.1)
  | [], h => by simp at h
  | (g, z) :: r, h => by
    by_cases hg : g = f
    · have es : setF f x ((g, z) :: r) = (g, x) :: r := if_pos hg
      rw [es]; rfl
    · have es : setF f x ((g, z) :: r) = (g, z) :: setF f x r := if_neg hg
      rw [List.lookup_cons] at h
      have hb : (f == g) = false := by simpa using Ne.symm hg
      rw [hb] at h
      rw [es, List.map_cons, List.map_cons, setF_names h]
theorem setF_len {f : Str} {y x : C} {fs : List (Str × C)} (h : fs.lookup f = some y) : (setF f x fs).length = fs.length := by
  have := congrArg List.length (setF_names (x := x) h)
  simpa using this
theorem setF_none {f g : Str} {y x : C} : ∀ {fs : List (Str × C)}, (setF f x fs).lookup g = none → fs.lookup f = some y → fs.lookup g = none
  | [], _, h => by simp at h
  | (k, z) :: r, hn, h => by
    by_cases hk : k = f
    · have es : setF f x ((k, z) :: r) = (k, x) :: r := if_pos hk
      rw [es, List.lookup_cons] at hn
      rw [List.lookup_cons]
      split at hn
      · cases hn
      · exact hn
    · have es : setF f x ((k, z) :: r) = (k, z) :: setF f x r := if_neg hk
      rw [es, List.lookup_cons] at hn
      rw [List.lookup_cons] at h
      have hb : (f == k) = false := by simpa using Ne.symm hk
      rw [hb] at h
      rw [List.lookup_cons]
      split at hn
      · cases hn
      · exact setF_none hn h
/-- THE RULE for a list or a dict changed where it stands -/
theorem change_ok {D0 : Addr → Prop} {x : VW} {o : Out} (R : SRep P K ca σ S ρ H fp) (r : RepI P K ca S σ ρ D0 H fp x.1 x.2 v) (hx : cellOf (x.1.at S) = some c) (hc : isCell c = true) (hc' : isCell c' = true) (e : change x c' σ S = some (.ok o S')) :
    ∃ a u σ', o = .nx σ' ∧ v = .ref a ∧ H a = some u ∧ CellRep K ca H c u ∧ ∀ u', CellRep K ca H c' u' → Fw P K ca S H ca S' (upd H a u') ∧ SRep P K ca σ' S' ρ (upd H a u') fp := by
  obtain ⟨w, k⟩ := x
  have fwOf : ∀ (a : Addr) (u u' : HO) (S' : Sto) (j : Nat), H a = some u → CellRep K ca H c u → a ∈ fp j → S'.fz = S.fz → (∀ n, n < S.fz → S'.cs[n]? = S.cs[n]?) → Fw P K ca S H ca S' (upd H a u') := fun a u u' S' j h1 h2 h3 h4 h5 => by
    have ne := cell_ne h2
    exact ⟨.refl, h4, h5, ⟨tk_upd h1 ne.1 ne.2, fun b o p z => by
      have : b ≠ a := fun y => R.np j a h3 (y ▸ p)
      rw [upd_ne this]; exact z⟩, upd_al h1⟩
  unfold change at e
  split at e
  · rename_i n kk ex
    cases ex
    split at e
    · rename_i hn
      cases e
      have e1 : S.cs[n]? = some S.cs[n] := List.getElem?_eq_getElem hn.2
      have hx2 : cellOf S.cs[n] = some c := by
        have : (Ev.W.c (.d (.ref n))).at S = S.cs[n] := by unfold W.at; simp only [e1]
        rw [← this]; exact hx
      obtain ⟨a, ea, hv⟩ : ∃ a, ca.i[n]? = some a ∧ v = .ref a := r.rep
      have q := R.cel n _ a e1 ea
      unfold ClRep at q
      rw [if_neg (show ¬ n < S.fz by omega)] at q
      have ew : S.cs[n] = .c c := by
        cases h : S.cs[n] with
        | obj _ _ => rw [h] at hx2; cases hx2
        | c y => rw [h] at hx2; cases hx2; rfl
      rw [ew] at q e1
      obtain ⟨b, u, eb, ef, hu, ru⟩ := OwnC.cell q hc
      cases eb
      refine ⟨a, u, σ, rfl, hv, hu, ru, fun u' ru' => ?_⟩
      have fw := fwOf a u u' ⟨S.cs.set n (.c c'), S.fz⟩ (2 * n + 1) hu ru (by rw [ef]; simp) rfl fun m hm => List.getElem?_set_ne (by omega)
      exact ⟨fw, R.mutC e1 ea hn.1 (by rw [ef]; simp) fw.fut (by rw [ef]; exact OwnC.of_cell upd_same (ru'.mono fw.fut.tk))⟩
    · cases e
  · cases e
  · rename_i i h1 h2 ex
    cases ex
    split at e
    · rename_i w0 e0
      cases e
      have l : σ[i]? = some (.own w) := r.loc
      rw [e0] at l
      cases l
      have q : ρ[i]? = some (some v) := r.kd
      obtain ⟨v', e1, ow⟩ := R.sl i _ e0
      rw [q] at e1
      cases e1
      have ew : w = .c c := by
        cases w with
        | obj _ _ => cases hx
        | c y => cases y with
          | d y => exact (h2 y rfl).elim
          | _ => cases hx; rfl
      subst ew
      obtain ⟨a, u, eb, ef, hu, ru⟩ := OwnC.cell ow hc
      subst eb
      refine ⟨a, u, _, rfl, rfl, hu, ru, fun u' ru' => ?_⟩
      have fw := fwOf a u u' S (2 * i) hu ru (by rw [ef]; simp) rfl fun _ _ => rfl
      exact ⟨fw, R.mutS e0 (by rw [ef]; simp) fw.fut ⟨_, q, by rw [ef]; exact OwnC.of_cell upd_same (ru'.mono fw.fut.tk)⟩⟩
    · cases e
  · rename_i i f h1 h2 ex
    cases ex
    split at e
    · rename_i kc fs e0
      cases e
      obtain ⟨c9, fs9, y, l1, l2, ew⟩ : ∃ c fs y, σ[i]? = some (.own (.obj c fs)) ∧ fs.lookup f = some y ∧ w = .c y := r.loc
      rw [e0] at l1
      cases l1
      obtain ⟨a, C0, dx, fs', q1, q2, q3⟩ : FldAt ρ[i]? H f v := r.kd
      have ey : y = c := by
        subst ew
        cases y with
        | d y => exact (h2 y rfl).elim
        | _ => cases hx; rfl
      subst ey
      obtain ⟨v', e1, ow⟩ := R.sl i _ e0
      rw [q1] at e1
      cases e1
      obtain ⟨b, dx2, fs2, fpo, eb, hb, of, nn, ln, ef⟩ := ow
      cases eb
      rw [hb] at q2
      cases q2
      have nd : fpo.Nodup := by
        have := R.nd (2 * i)
        rw [ef] at this
        exact (List.nodup_cons.mp this).2
      have hbn : a ∉ fpo := by
        have := R.nd (2 * i)
        rw [ef] at this
        exact (List.nodup_cons.mp this).1
      obtain ⟨v2, f1, lv, ov, sub⟩ := OwnFs.at_ of l2
      rw [lv] at q3
      cases q3
      obtain ⟨d, u, ev, ea, hu, ru⟩ := OwnC.cell ov hc
      subst ev ea
      have ma : d ∈ fpo := sub d (by simp)
      refine ⟨d, u, _, rfl, rfl, hu, ru, fun u' ru' => ?_⟩
      have fw := fwOf d u u' S (2 * i) hu ru (by rw [ef]; simp [ma]) rfl fun _ _ => rfl
      obtain ⟨_, o2⟩ := OwnFs.setC fw.fut.tk (ru'.mono fw.fut.tk) of l2 hc lv nd nn
      refine ⟨fw, R.mutS e0 (by rw [ef]; simp [ma]) fw.fut ⟨_, q1, a, dx, fs', fpo, rfl, ?_, o2, ?_, ?_, ef⟩⟩
      · rw [upd_ne (fun z => hbn (by rw [z]; exact ma))]
        exact hb
      · rw [setF_names l2]; exact nn
      · exact ⟨fun g hg => ln.1 g (setF_none hg l2), by rw [setF_len l2]; exact ln.2⟩
    · cases e
  · rename_i n f h1 h2 ex
    cases ex
    split at e
    · rename_i kc fs e0
      split at e
      · rename_i hz
        cases e
        obtain ⟨_, c9, fs9, y, l1, l2, ew⟩ : S.fz ≤ n ∧ ∃ c fs y, S.cs[n]? = some (.obj c fs) ∧ fs.lookup f = some y ∧ w = .c y := r.loc
        rw [e0] at l1
        cases l1
        obtain ⟨a, C0, dx, fs', q1, q2, q3⟩ : FldAt ((ca.i[n]?).map fun a => some (.ref a)) H f v := r.kd
        have ey : y = c := by
          subst ew
          cases y with
          | d y => exact (h2 y rfl).elim
          | _ => cases hx; rfl
        subst ey
        have eca : ca.i[n]? = some a := by
          cases h : ca.i[n]? with
          | none => rw [h] at q1; cases q1
          | some b => rw [h] at q1; cases q1; rfl
        have ow := R.cel n _ a e0 eca
        unfold ClRep at ow
        rw [if_neg (show ¬ n < S.fz by omega)] at ow
        obtain ⟨b, dx2, fs2, fpo, eb, hb, of, nn, ln, ef⟩ := ow
        cases eb
        rw [hb] at q2
        cases q2
        have nd : fpo.Nodup := by
          have := R.nd (2 * n + 1)
          rw [ef] at this
          exact (List.nodup_cons.mp this).2
        have hbn : a ∉ fpo := by
          have := R.nd (2 * n + 1)
          rw [ef] at this
          exact (List.nodup_cons.mp this).1
        obtain ⟨v2, f1, lv, ov, sub⟩ := OwnFs.at_ of l2
        rw [lv] at q3
        cases q3
        obtain ⟨d, u, ev, ea, hu, ru⟩ := OwnC.cell ov hc
        subst ev ea
        have ma : d ∈ fpo := sub d (by simp)
        refine ⟨d, u, _, rfl, rfl, hu, ru, fun u' ru' => ?_⟩
        have fw := fwOf d u u' ⟨S.cs.set n (.obj kc (setF f c' fs)), S.fz⟩ (2 * n + 1) hu ru (by rw [ef]; simp [ma]) rfl fun m hm => List.getElem?_set_ne (by omega)
        obtain ⟨_, o2⟩ := OwnFs.setC fw.fut.tk (ru'.mono fw.fut.tk) of l2 hc lv nd nn
        refine ⟨fw, R.mutC e0 eca hz (by rw [ef]; simp [ma]) fw.fut ⟨a, dx, fs', fpo, rfl, ?_, o2, ?_, ?_, ef⟩⟩
        · rw [upd_ne (fun z => hbn (by rw [z]; exact ma))]
          exact hb
        · rw [setF_names l2]; exact nn
        · exact ⟨fun g hg => ln.1 g (setF_none hg l2), by rw [setF_len l2]; exact ln.2⟩
      · cases e
    · cases e
  · cases e
end
end Ev
/-! Ev10: statements. -/
namespace Ev
open PySem PySem.Spec
open PyProof.Rows hiding St
open L2

/-- what a statement's context must bear besides -/
structure Sok (X : Cx) : Prop where
  fn : ∀ x, X.fn x = true
  own : PassesOwn (model X.prog X.w) X.A X.env X.xe
def Nxt (P : Addr → Prop) (K : PySem.W.Frag) (ca : Am) (Z : Sto) (n : Nat) (H : Hp) (σ' : List Sl) (Z' : Sto) (Q : L2.St → Hp → Prop) : Prop :=
  ∀ σc' ca' H' fp', σc'.length = n → Fw P K ca Z H ca' Z' H' → SRep P K ca' σ' Z' σc' H' fp' → Q σc' H'
def Rtn (P : Addr → Prop) (K : PySem.W.Frag) (ca : Am) (Z : Sto) (n : Nat) (H : Hp) (w : W) (σ' : List Sl) (Z' : Sto) (Q : VK) : Prop :=
  ∀ v σc' ca' H' fp' f, σc'.length = n → Fw P K ca Z H ca' Z' H' → SRep P K ca' σ' Z' σc' H' fp' → OwnW K ca' H' w v f → f.Nodup → (∀ a ∈ f, ¬ P a) → (∀ j, ∀ a ∈ f, a ∉ fp' j) → Q v H'
def PostS (P : Addr → Prop) (K : PySem.W.Frag) (ca : Am) (Z : Sto) (n : Nat) (H : Hp) (D : Ends) (Z' : Sto) : Out → Prop
  | .nx σ' => Nxt P K ca Z n H σ' Z' D.nx
  | .brk σ' => Nxt P K ca Z n H σ' Z' D.bk
  | .cnt σ' => Nxt P K ca Z n H σ' Z' D.ct
  | .ret w σ' => Rtn P K ca Z n H w σ' Z' D.rt
def SndS (bl : List Str) (Γ : Gam) (t : T) : Prop := ∀ (st : Stmt) (sc : Scope) (X : Cx) (P : Addr → Prop) (ca : Am) (Z : Sto) (σ : List Sl) (σc : L2.St) (H : Hp) (fp : Nat → List Addr), chkT bl X.N sc t st = true → Ctx bl sc X Γ P ca Z σ σc H fp → Sok X →
  ∀ o Z', run Γ t σ Z = some (.ok o Z') → ∀ D, PostS P X.K ca Z σc.length H D Z' o → wpS X st D σc H
def SndSs (bl : List Str) (Γ : Gam) (t : Ts) : Prop := ∀ (st : List Stmt) (sc : Scope) (X : Cx) (P : Addr → Prop) (ca : Am) (Z : Sto) (σ : List Sl) (σc : L2.St) (H : Hp) (fp : Nat → List Addr), chkTs bl X.N sc t st = true → Ctx bl sc X Γ P ca Z σ σc H fp → Sok X →
  ∀ o Z', runs Γ t σ Z = some (.ok o Z') → ∀ D, PostS P X.K ca Z σc.length H D Z' o → wpSs X st D σc H
section
variable {bl : List Str} {sc : Scope} {X : Cx} {Γ : Gam} {P : Addr → Prop} {K : PySem.W.Frag} {ca ca1 : Am} {Z Z1 Z' : Sto} {σ σ1 : List Sl} {σc σc1 : L2.St} {H H1 : Hp} {fp fp1 : Nat → List Addr} {n : Nat}
theorem Nxt.after {Q : L2.St → Hp → Prop} {σ2 : List Sl} (q : Nxt P K ca Z n H σ2 Z' Q) (f : Fw P K ca Z H ca1 Z1 H1) : Nxt P K ca1 Z1 n H1 σ2 Z' Q := fun σc' ca' H' fp' l s S => q σc' ca' H' fp' l (f.trans s) S
theorem PostS.after {D : Ends} {o : Out} (q : PostS P K ca Z n H D Z' o) (f : Fw P K ca Z H ca1 Z1 H1) : PostS P K ca1 Z1 n H1 D Z' o := by
  cases o with
  | nx σ' => exact Nxt.after q f
  | brk σ' => exact Nxt.after q f
  | cnt σ' => exact Nxt.after q f
  | ret w σ' => exact fun v σc' ca' H' fp' f' l s S => q v σc' ca' H' fp' f' l (f.trans s) S
theorem sp_sw {N : List Str} {k : Spx} {es : Es} {x : Expr} (h : chk bl N sc (.sp k es) x = true) (t : Option Expr) (n : Nat) (env : Env) : swapsWith x t n env = pure false := by
  unfold chk at h
  split at h
  · rename_i ys hM
    cases k with
    | listRev => obtain ⟨_, _, _, _, _, rfl, _⟩ := spM_listRev hM; rfl
    | step => obtain ⟨_, _, _, _, rfl, _⟩ := spM_step hM; rfl
  · cases h
theorem swaps_of {N : List Str} : ∀ {e : E} {x : Expr}, chk bl N sc e x = true → isLc e = false → ∀ (t : Option Expr) (n : Nat) (env : Env), swapsWith x t n env = pure false
  | .frz e, x, h, hl, t, n, env => swaps_of (e := e) (by unfold chk at h; exact h) hl t n env
  | .sp k es, x, h, hl, t, n, env => sp_sw h t n env
  | e, x, h, hl, t, n, env => by
    cases x <;> first | rfl | (cases e <;> first | (exact sp_sw h t n env) | (simp [chk, isLc] at h hl; done) | (unfold chk at h; cases h; done) | (unfold chk at h; exact swaps_of h hl t n env))
theorem swapsI_of {N : List Str} : ∀ {a : I} {x : Expr}, chkI bl N sc a x = true → isLcI a = false → ∀ (t : Option Expr) (n : Nat) (env : Env), swapsWith x t n env = pure false
  | .p e, x, h, hl, t, n, env => swaps_of (e := e) (by unfold chkI at h; exact h) hl t n env
  | .share a, x, h, hl, t, n, env => swapsI_of (a := a) (by unfold chkI at h; exact h) hl t n env
  | .call _ _, x, h, hl, t, n, env => by cases x <;> first | rfl | (simp [chkI] at h)
  | .mcall _ _ _, x, h, hl, t, n, env => by cases x <;> first | rfl | (simp [chkI] at h)
  | .tup _, x, h, hl, t, n, env => by cases x <;> first | rfl | (simp [chkI] at h)
  | .cmp _ _ _, x, h, hl, t, n, env => by cases x <;> first | rfl | (simp [chkI] at h)
  | .not _, x, h, hl, t, n, env => by cases x <;> first | rfl | (simp [chkI] at h)
  | .and _ _, x, h, hl, t, n, env => by cases x <;> first | rfl | (simp [chkI] at h)
  | .or _ _, x, h, hl, t, n, env => by cases x <;> first | rfl | (simp [chkI] at h)
/-- a value is given to a name -/
theorem setN_ok {D0 : Addr → Prop} {i : Nat} {x : VW} {σ' : List Sl} {v : V} (R : SRep P K ca σ Z σc H fp) (r : RepI P K ca Z σ σc D0 H fp x.1 x.2 v) (e : setN i x σ = some σ') : ∃ fp', SRep P K ca σ' Z (σc.set i (some v)) H fp' := by
  have ro : ∀ w, putS σ i (.ro w) = some σ' → RepW P K ca H w v → ∃ fp', SRep P K ca σ' Z (σc.set i (some v)) H fp' := fun w e h => ⟨_, R.putRo e h⟩
  have ow : ∀ w, putS σ i (.own w) = some σ' → (∃ f, OwnW K ca H w v f ∧ (∀ a ∈ f, ∀ j, a ∉ fp j) ∧ (∀ a ∈ f, ¬ P a) ∧ f.Nodup ∧ ∀ a ∈ f, D0 a) → ∃ fp', SRep P K ca σ' Z (σc.set i (some v)) H fp' := fun w e ⟨f, o, n, p, d, _⟩ => by
    obtain ⟨l, rfl⟩ := putS_lt e
    exact ⟨_, R.put i (.own w) (some v) f l ⟨v, rfl, o⟩ (fun j _ a ha => n a ha j) d p⟩
  have mv : ∀ w j, σ[j]? = some (.own w) → σc[j]? = some (some v) → putS (σ.set j .out) i (.own w) = some σ' → ∃ fp', SRep P K ca σ' Z (σc.set i (some v)) H fp' := fun w j e0 ej e => by
    obtain ⟨v', e1, o⟩ := R.sl j _ e0
    rw [ej] at e1
    cases e1
    have hj : j < σ.length := (List.getElem?_eq_some_iff.mp e0).1
    have R1 := R.putOut j (some v) hj
    have e6 : σc.set j (some v) = σc := by
      apply List.ext_getElem?
      intro m
      by_cases hm : j = m
      · subst hm
        rw [List.getElem?_set_self (by rw [← R.len]; exact hj), ej]
      · rw [List.getElem?_set_ne hm]
    rw [e6] at R1
    obtain ⟨l, rfl⟩ := putS_lt e
    refine ⟨_, R1.put i (.own w) (some v) (fp (2 * j)) l ⟨v, rfl, o⟩ (fun m _ a ha => ?_) (R.nd _) (R.np _)⟩
    by_cases hm : m = 2 * j
    · simp [hm]
    · simp only [hm, if_false]
      exact R.dj _ _ (Ne.symm hm) a ha
  obtain ⟨w, k⟩ := x
  have kd := r.kd
  have lc := r.loc
  have dt : ∀ d, w = .c (.d d) → putS σ i (.ro (.c (.d d))) = some σ' → ∃ fp', SRep P K ca σ' Z (σc.set i (some v)) H fp' := fun d ew e => by
    subst ew
    have z : RepD K ca H d v := r.rep
    exact ro _ e z
  unfold setN at e
  split at e
  · rename_i d _ ex; cases ex; exact dt d rfl e
  · rename_i w' ex; cases ex; exact ow _ e kd
  · rename_i w' ex; cases ex; exact ro _ e kd
  · rename_i w' j hne ex
    cases ex
    split at e
    · rename_i w0 e0
      have l : σ[j]? = some (.own w) := lc
      exact mv w j l kd e
    · cases e
  · cases e
theorem nxO_ok {o : Option (List Sl)} {S S' : Sto} {r : Out} (h : nxO o S = some (.ok r S')) : ∃ σ', o = some σ' ∧ r = .nx σ' ∧ S' = S := by
  cases o with
  | none => cases h
  | some σ' => obtain ⟨e, e2⟩ := okS h; exact ⟨σ', rfl, e.symm, e2.symm⟩
theorem litLc_of {e : E} (h : litLc e = true) : ∃ own g it cs e', e = .lc own g it cs e' := by
  cases e <;> first | exact ⟨_, _, _, _, _, rfl⟩ | cases h
theorem asg_snd {g : G} {a : I} : SndS bl Γ (.asg g a) := by
  intro st sc X P ca Z σ σc H fp hc C hS o Z' he D q
  cases st with
  | Assign ts x pos =>
    match ts with
    | [] => simp [chkT] at hc
    | _ :: _ :: _ => simp [chkT] at hc
    | [t] =>
      have hc' : (chkG false X.N sc g t && chkI bl X.N sc a x && noSwap t x && (!isLcI a || (litLcI a && lcLine sc t x))) = true := by unfold chkT at hc; exact hc
      simp only [Bool.and_eq_true] at hc'
      obtain ⟨⟨⟨h1, h2⟩, h3⟩, h4⟩ := hc'
      unfold run at he
      obtain ⟨⟨w, k⟩, Z1, e1, he1⟩ := bindS he
      have hl : ∀ i ∈ gSlots g, i < σc.length := fun i hi => by rw [C.ln]; exact gslots_lt h1 i hi
      cases g with
      | nm i =>
        obtain ⟨y, py, rfl, hN, hlc⟩ := nm_name (show nmOk false X.N sc i t = true from h1)
        simp only at he1
        obtain ⟨σ', e2, e3, e4⟩ := nxO_ok he1
        subst e3 e4
        have hloc := loc_of C.ok.scope (by simpa using hlc : locB sc y = true)
        have fin : ∀ v ca' H' fp', Stp P X.K ca Z H fp ca' Z' H' fp' → SRep P X.K ca' σ Z' σc H' fp' → RepI P X.K ca' Z' σ σc (Dd H fp) H' fp' w k v → D.nx (σc.set i (some v)) H' := fun v ca' H' fp' t R r => by
          obtain ⟨fp2, R2⟩ := setN_ok (x := (w, k)) R r e2
          exact q _ ca' H' fp2 (by simp) (t.fw C.sr) R2
        by_cases hlcE : isLcI a = true
        · rw [hlcE] at h4
          have h4' : litLcI a = true ∧ lcLine sc (.Name y py) x = true := by simpa using h4
          cases a with
          | p e =>
            obtain ⟨own, g', it, cs, e', rfl⟩ := litLc_of h4'.1
            have h5 := h4'.2
            have h2' : chk bl X.N sc (.lc own g' it cs e') x = true := by unfold chkI at h2; exact h2
            unfold evI at e1
            obtain ⟨e1', hz⟩ := upS e1
            subst hz
            cases x with
            | ListComp elt gens scope p2 =>
              have h6 : ((py.line == p2.line) && decide (sc.names.lookup y = some .local) && !(scope.names.any fun (n, k) => n == y && (k == .local || k == .cell))) = true := h5
              simp only [Bool.and_eq_true, decide_eq_true_eq, Bool.not_eq_true'] at h6
              obtain ⟨⟨hline, hly⟩, hany⟩ := h6
              obtain ⟨tg, iter, ifs, rfl, okB, hg, ht, hel, hs, hq⟩ := lc_core (sndIt it) (sndC cs) (sndE e') h2' C e1'
              have hly' : X.env.scope.names.lookup y = some .local := by rw [C.ok.scope]; exact hly
              refine wps_of (ps_setLc C.ok.calm C.ok.nd hN hly' (sw_true C.ok.kd hly' hline hany) pi_wp okB hg ht hel hs) (hq _ fun v H1 s1 r1 => ?_)
              exact fin v ca H1 fp (.of_same s1) (C.sr.mono s1) (RepI.of_V C.sr r1 (ev_loc _ e1'))
            | _ => simp [chk] at h2'
          | _ => cases h4'.1
        · have hz : isLcI a = false := by simpa using hlcE
          exact wps_of (ps_set C.ok.nd hN hloc pe_wp (swapsI_of h2 hz _ _ _) (.inl (hS.fn y))) (sndI a x sc X P ca Z σ σc H fp h2 C w k Z' e1 _ fin)
      | tup is =>
        simp only at he1
        split at he1
        · rename_i d
          obtain ⟨σ', e2, e3, e4⟩ := nxO_ok he1
          subst e3 e4
          cases t with
          | Tuple es kk tp =>
            have hz : isLcI a = false := by
              by_cases hlcE : isLcI a = true
              · rw [hlcE] at h4
                have h4' : litLcI a = true ∧ lcLine sc (.Tuple es kk tp) x = true := by simpa using h4
                cases h4'.2
              · simpa using hlcE
            have hsw : swappedStores [.Tuple es kk tp] x X.env = pure none := by
              cases x <;> first | rfl | (simp [noSwap] at h3)
            refine wps_of (ps_asg pe_wp (pg_of C.ok (fun _ => hS.fn) h1) (by unfold swapsWithSole; exact swapsI_of h2 hz _ _ _) hsw rfl) ?_
            refine sndI a x sc X P ca Z σ σc H fp h2 C _ k _ e1 _ fun v ca1 H1 fp1 t1 R1 r1 => ?_
            have rd : RepD X.K ca1 H1 d v := r1.rep
            refine gr_ok R1 hl e2 rd fun σc' fp' l' _ S' k' => ?_
            exact q σc' ca1 H1 fp' l' (t1.fw C.sr) S'
          | _ => simp [chkG] at h1
        · cases he1
  | _ => simp [chkT] at hc
def rAddD (o : Operator) : TIp := match o with
    | .Add => fun x y H Q => rI0 (fun i j => .int (i + j)) x y H Q ∨ ∃ i j, x = .str i ∧ y = .str j ∧ i.length + j.length ≤ sizeLine ∧ Q (.str (i ++ j)) H
    | .Sub => rI0 fun i j => .int (i - j)
    | _ => fun _ _ _ _ => False
theorem inp_ok (o : Operator) : PIp X o (rAddD o) := by
  cases o with
  | Add => exact OpR.or iop_add iop_add_str
  | Sub => exact iop_sub
  | _ => intro pins s σ H x y v u Q I rx ry h; exact False.elim h
/-- an operator on data that gives data -/
theorem addD_ok {o : Operator} {x d : Ev.D} {y : W} {k : Kd} {u w : V} {Q : VK} (h : addD o x y = some (.ok (.c (.d d), k))) (rx : RepD K ca H x u) (ry : RepW (fun _ => True) K ca H y w) (q : ∀ z, RepD K ca H d z → Q z H) :
    rAddD o u w H Q := by
  cases o with
  | Add =>
    unfold addD at h
    simp only at h
    unfold bin at h
    split at h
    · rename_i i j ex
      cases ex
      have a1 : u = .int i := rx
      have a2 : w = .int j := ry
      subst a1 a2
      have := ok_inj h
      cases this
      exact .inl ⟨_, _, rfl, rfl, q _ rfl⟩
    · rename_i i j ex
      cases ex
      have a1 : u = .str i := rx
      have a2 : w = .str j := ry
      subst a1 a2
      simp only [if_true] at h
      obtain ⟨c, h⟩ := guardN_ok h
      have := ok_inj h
      cases this
      exact .inr ⟨_, _, rfl, rfl, c, q _ rfl⟩
    · rw [if_neg (by simp)] at h; cases h
    · rename_i ex; cases ex
    · cases h
  | Sub =>
    unfold addD at h
    simp only at h
    unfold bin at h
    split at h
    · rename_i i j ex
      cases ex
      have a1 : u = .int i := rx
      have a2 : w = .int j := ry
      subst a1 a2
      have := ok_inj h
      cases this
      exact ⟨_, _, rfl, rfl, q _ rfl⟩
    · rw [if_neg (by simp)] at h; cases h
    · rw [if_neg (by simp)] at h; cases h
    · rw [if_neg (by simp)] at h; cases h
    · cases h
  | _ => cases h
theorem aug_snd {i : Nat} {o : Operator} {e : E} : SndS bl Γ (.aug i o e) := by
  intro st sc X P ca Z σ σc H fp hc C hS r Z' he D q
  cases st with
  | AugAssign t p y pos =>
    cases t with
    | Name x py =>
      have hc' : (decide (X.N[i]? = some x) && locB sc x && decide (o = p) && chk bl X.N sc e y) = true := by unfold chkT at hc; exact hc
      simp only [Bool.and_eq_true, decide_eq_true_eq] at hc'
      obtain ⟨⟨⟨h1, h2⟩, h3⟩, h4⟩ := hc'
      subst h3
      unfold run at he
      obtain ⟨⟨wy, ky⟩, Z1, e1, he1⟩ := bindS he
      obtain ⟨e1', hz⟩ := upS e1
      subst hz
      split at he1
      · rename_i x0 e2
        obtain ⟨⟨z, kz⟩, Z2, e3, he2⟩ := bindS he1
        obtain ⟨e3', hz⟩ := upS e3
        subst hz
        simp only at he2
        split at he2
        · rename_i d
          obtain ⟨σ', e4, e5, e6⟩ := nxO_ok he2
          subst e5 e6
          obtain ⟨v, ev, r0, _⟩ := C.sr.sl i _ e2
          refine wps_of (ps_aug C.ok.nd h1 (loc_of C.ok.scope h2) pe_wp (inp_ok o) (.inl (hS.fn x))) ?_
          refine ⟨v, ev, ?_⟩
          refine sndE e y sc X P ca _ σ σc H fp h4 C wy ky e1' _ fun vy H1 s1 r1 => ?_
          have rx : RepD X.K ca H1 x0 v := RepD.mono (.of_same s1) r0
          refine addD_ok e3' rx r1.rep fun u hu => ?_
          have R1 := (C.sr.mono s1).putRo (v := u) e4 (show RepW P X.K ca H1 (.c (.d d)) u from hu)
          exact q _ ca H1 _ (by simp) (.of_same s1) R1
        · cases he2
      · cases he1
    | _ => simp [chkT] at hc
  | _ => simp [chkT] at hc
theorem expr_snd {a : I} : SndS bl Γ (.expr a) := by
  intro st sc X P ca Z σ σc H fp hc C hS r Z' he D q
  cases st with
  | Expr x pos =>
    have hc' : (chkI bl X.N sc a x && !isLcI a) = true := by unfold chkT at hc; exact hc
    simp only [Bool.and_eq_true, Bool.not_eq_true'] at hc'
    obtain ⟨h1, h2⟩ := hc'
    unfold run at he
    obtain ⟨⟨w, k⟩, Z1, e1, he1⟩ := bindS he
    obtain ⟨e2, e3⟩ := okS he1
    subst e2 e3
    refine wps_of (ps_expr pe_wp (swapsI_of h1 h2 _ _ _)) ?_
    exact sndI a x sc X P ca Z σ σc H fp h1 C w k _ e1 _ fun v ca1 H1 fp1 t1 R1 r1 => q σc ca1 H1 fp1 rfl (t1.fw C.sr) R1
  | _ => simp [chkT] at hc
theorem ret_snd {a : I} : SndS bl Γ (.ret a) := by
  intro st sc X P ca Z σ σc H fp hc C hS r Z' he D q
  cases st with
  | Return x pos =>
    cases x with
    | none => simp [chkT] at hc
    | some x =>
      have h1 : chkI bl X.N sc a x = true := by unfold chkT at hc; exact hc
      unfold run at he
      obtain ⟨⟨w, k⟩, Z1, e1, he1⟩ := bindS he
      refine wps_of (ps_ret pe_wp) ?_
      refine sndI a x sc X P ca Z σ σc H fp h1 C w k Z1 e1 _ fun v ca1 H1 fp1 t1 R1 r1 => ?_
      have fw := t1.fw C.sr
      split at he1
      · rename_i d k' ex
        cases ex
        obtain ⟨e2, e3⟩ := okS he1
        subst e2 e3
        exact q v σc ca1 H1 fp1 [] rfl fw R1 ⟨r1.rep, rfl⟩ List.nodup_nil (fun a ha => by cases ha) (fun j a ha => by cases ha)
      · rename_i w' ex
        cases ex
        obtain ⟨e2, e3⟩ := okS he1
        subst e2 e3
        obtain ⟨f, o, n, p, d, _⟩ : ∃ f, OwnW X.K ca1 H1 w v f ∧ (∀ a ∈ f, ∀ j, a ∉ fp1 j) ∧ (∀ a ∈ f, ¬ P a) ∧ f.Nodup ∧ ∀ a ∈ f, Dd H fp a := r1.kd
        exact q v σc ca1 H1 fp1 f rfl fw R1 o d p fun j a ha => n a ha j
      · rename_i w' i hne ex
        cases ex
        split at he1
        · rename_i w0 e0
          obtain ⟨e2, e3⟩ := okS he1
          subst e2 e3
          have l : σ[i]? = some (.own w) := r1.loc
          have kd : σc[i]? = some (some v) := r1.kd
          obtain ⟨v', e5, o⟩ := R1.sl i _ l
          rw [kd] at e5
          cases e5
          have hi : i < σ.length := (List.getElem?_eq_some_iff.mp l).1
          have S2 := R1.putOut i (some v) hi
          have e6 : σc.set i (some v) = σc := by
            apply List.ext_getElem?
            intro j
            by_cases hj : i = j
            · subst hj
              rw [List.getElem?_set_self (by rw [← R1.len]; exact hi), kd]
            · rw [List.getElem?_set_ne hj]
          rw [e6] at S2
          refine q v σc ca1 H1 _ (fp1 (2 * i)) rfl fw S2 o (R1.nd _) (R1.np _) (fun j a ha => ?_)
          by_cases hj : j = 2 * i
          · simp [hj]
          · simp only [hj, if_false]
            exact R1.dj _ _ (Ne.symm hj) a ha
        · cases he1
      · cases he1
  | _ => simp [chkT] at hc
theorem retN_snd : SndS bl Γ .retN := by
  intro st sc X P ca Z σ σc H fp hc C hS r Z' he D q
  cases st with
  | Return x pos =>
    cases x with
    | some x => simp [chkT] at hc
    | none =>
      unfold run at he
      obtain ⟨e2, e3⟩ := okS he
      subst e2 e3
      exact wps_of ps_retN (q .non σc ca H fp [] rfl .refl C.sr ⟨rfl, rfl⟩ List.nodup_nil (fun a ha => by cases ha) (fun j a ha => by cases ha))
  | _ => simp [chkT] at hc
theorem brk_snd : SndS bl Γ .brk := by
  intro st sc X P ca Z σ σc H fp hc C hS r Z' he D q
  cases st with
  | Break pos =>
    unfold run at he
    obtain ⟨e2, e3⟩ := okS he
    subst e2 e3
    exact wps_of ps_break (q σc ca H fp rfl .refl C.sr)
  | _ => simp [chkT] at hc
theorem cnt_snd : SndS bl Γ .cnt := by
  intro st sc X P ca Z σ σc H fp hc C hS r Z' he D q
  cases st with
  | Continue pos =>
    unfold run at he
    obtain ⟨e2, e3⟩ := okS he
    subst e2 e3
    exact wps_of ps_continue (q σc ca H fp rfl .refl C.sr)
  | _ => simp [chkT] at hc
theorem pass_snd : SndS bl Γ .pass := by
  intro st sc X P ca Z σ σc H fp hc C hS r Z' he D q
  cases st with
  | Pass pos =>
    unfold run at he
    obtain ⟨e2, e3⟩ := okS he
    subst e2 e3
    exact wps_of ps_pass (q σc ca H fp rfl .refl C.sr)
  | _ => simp [chkT] at hc
theorem nev_snd : SndS bl Γ .nev := by
  intro st sc X P ca Z σ σc H fp hc C hS r Z' he D q
  unfold run at he
  cases he
end
end Ev
/-! Ev11: statements that change things where they stand. -/
namespace Ev
open PySem PySem.Spec
open PyProof.Rows hiding St
open L2
section
variable {P : Addr → Prop} {K : PySem.W.Frag} {ca ca' : Am} {σ σ1 σ' : List Sl} {S S' : Sto} {ρ : L2.St} {H H' : Hp} {fp : Nat → List Addr} {v : V} {c c' : C}
/-- a slot's thing is exchanged, its places too -/
theorem SRep.chgS (R : SRep P K ca σ S ρ H fp) {i : Nat} {w w' : W} {a : Addr} {o' : HO} {f' : List Addr} (e : σ[i]? = some (Sl.own w)) (ha : a ∈ fp (2 * i)) (f : Fut P K H (upd H a o')) (h : ∃ v, ρ[i]? = some (some v) ∧ OwnW K ca (upd H a o') w' v f') (nd : f'.Nodup)
    (sb : ∀ b ∈ f', b ∈ fp (2 * i) ∨ ((∀ j, b ∉ fp j) ∧ ¬ P b)) : SRep P K ca (σ.set i (.own w')) S ρ (upd H a o') (fun j => if j = 2 * i then f' else fp j) := by
  have hi : i < σ.length := (List.getElem?_eq_some_iff.mp e).1
  have st : ∀ j, j ≠ 2 * i → ∀ b ∈ fp j, ∀ u, H b = some u → (upd H a o') b = some u := fun j hj b hb u z => by
    have : b ≠ a := fun y => R.dj j (2 * i) hj b hb (y ▸ ha)
    rw [upd_ne this]; exact z
  refine ⟨by rw [List.length_set]; exact R.len, fun j t q => ?_, R.sln, R.fzl, fun n w0 b e1 e2 => ?_, dj_put R.dj fun j hj b hb z => ?_, fun j => ?_, fun j b hb p => ?_, fun j hj => ?_, fun n hn => ?_, fun b p => ?_⟩
  · by_cases hj : j = i
    · subst hj
      rw [List.getElem?_set_self hi] at q
      cases q
      simp only [if_true]
      exact h
    · rw [List.getElem?_set_ne (Ne.symm hj)] at q
      have hj2 : 2 * j ≠ 2 * i := by omega
      simp only [hj2, if_false]
      have r := R.sl j t q
      cases t with
      | own w => obtain ⟨v, e1, r⟩ := r; exact ⟨v, e1, r.stay f.tk (st _ (by omega))⟩
      | ro w => obtain ⟨v, e1, r, z⟩ := r; exact ⟨v, e1, r.mono f fun _ p => p, z⟩
      | out => exact r
  · have hj2 : 2 * n + 1 ≠ 2 * i := by omega
    simp only [hj2, if_false]
    have r := R.cel n w0 b e1 e2
    unfold ClRep at r ⊢
    split
    · rename_i hz
      rw [if_pos hz] at r
      exact ⟨r.1.mono f fun _ p => p, r.2⟩
    · rename_i hz
      rw [if_neg hz] at r
      exact r.stay f.tk (st _ (by omega))
  · rcases sb b hb with y | y
    · exact R.dj _ _ (Ne.symm hj) b y z
    · exact y.1 j z
  · by_cases hj : j = 2 * i
    · simp only [hj, if_true]; exact nd
    · simp only [hj, if_false]; exact R.nd j
  · by_cases hj : j = 2 * i
    · simp only [hj, if_true] at hb
      rcases sb b hb with y | y
      · exact R.np _ b y p
      · exact y.2 p
    · simp only [hj, if_false] at hb; exact R.np j b hb p
  · have hj' : σ.length ≤ j := by simpa using hj
    have : 2 * j ≠ 2 * i := by omega
    simp only [this, if_false]
    exact R.far j hj'
  · have : 2 * n + 1 ≠ 2 * i := by omega
    simp only [this, if_false]
    exact R.far2 n hn
  · obtain ⟨o, z⟩ := R.pa b p
    exact ⟨o, f.at_ b o p z⟩
theorem SRep.chgC (R : SRep P K ca σ S ρ H fp) {n : Nat} {w w' : W} {a b : Addr} {o' : HO} {f' : List Addr} (e : S.cs[n]? = some w) (eb : ca.i[n]? = some b) (hz : S.fz ≤ n) (ha : a ∈ fp (2 * n + 1)) (f : Fut P K H (upd H a o')) (h : OwnW K ca (upd H a o') w' (.ref b) f') (nd : f'.Nodup)
    (sb : ∀ b ∈ f', b ∈ fp (2 * n + 1) ∨ ((∀ j, b ∉ fp j) ∧ ¬ P b)) : SRep P K ca σ ⟨S.cs.set n w', S.fz⟩ ρ (upd H a o') (fun j => if j = 2 * n + 1 then f' else fp j) := by
  have hn : n < S.cs.length := (List.getElem?_eq_some_iff.mp e).1
  have st : ∀ j, j ≠ 2 * n + 1 → ∀ b ∈ fp j, ∀ u, H b = some u → (upd H a o') b = some u := fun j hj b hb u z => by
    have : b ≠ a := fun y => R.dj j (2 * n + 1) hj b hb (y ▸ ha)
    rw [upd_ne this]; exact z
  refine ⟨R.len, fun j t q => ?_, by simpa using R.sln, by simpa using R.fzl, fun m w0 d e1 e2 => ?_, dj_put R.dj fun j hj b hb z => ?_, fun j => ?_, fun j b hb p => ?_, fun j hj => ?_, fun m hm => ?_, fun b p => ?_⟩
  · have hj2 : 2 * j ≠ 2 * n + 1 := by omega
    simp only [hj2, if_false]
    have r := R.sl j t q
    cases t with
    | own w => obtain ⟨v, e1, r⟩ := r; exact ⟨v, e1, r.stay f.tk (st _ (by omega))⟩
    | ro w => obtain ⟨v, e1, r, z⟩ := r; exact ⟨v, e1, r.mono f fun _ p => p, z⟩
    | out => exact r
  · by_cases hm : m = n
    · subst hm
      have e1' : (S.cs.set m w')[m]? = some w0 := e1
      rw [List.getElem?_set_self hn] at e1'
      cases e1'
      rw [eb] at e2
      cases e2
      simp only [if_true]
      unfold ClRep
      rw [if_neg (show ¬ m < S.fz by omega)]
      exact h
    · have hj2 : 2 * m + 1 ≠ 2 * n + 1 := by omega
      simp only [hj2, if_false]
      have e1' : (S.cs.set n w')[m]? = some w0 := e1
      rw [List.getElem?_set_ne (Ne.symm hm)] at e1'
      have r := R.cel m w0 d e1' e2
      unfold ClRep at r ⊢
      split
      · rename_i hz
        rw [if_pos hz] at r
        exact ⟨r.1.mono f fun _ p => p, r.2⟩
      · rename_i hz
        rw [if_neg hz] at r
        exact r.stay f.tk (st _ (by omega))
  · rcases sb b hb with y | y
    · exact R.dj _ _ (Ne.symm hj) b y z
    · exact y.1 j z
  · by_cases hj : j = 2 * n + 1
    · simp only [hj, if_true]; exact nd
    · simp only [hj, if_false]; exact R.nd j
  · by_cases hj : j = 2 * n + 1
    · simp only [hj, if_true] at hb
      rcases sb b hb with y | y
      · exact R.np _ b y p
      · exact y.2 p
    · simp only [hj, if_false] at hb; exact R.np j b hb p
  · have : 2 * j ≠ 2 * n + 1 := by omega
    simp only [this, if_false]
    exact R.far j hj
  · have hm' : S.cs.length ≤ m := by simpa using hm
    have : 2 * m + 1 ≠ 2 * n + 1 := by omega
    simp only [this, if_false]
    exact R.far2 m hm'
  · obtain ⟨o, z⟩ := R.pa b p
    exact ⟨o, f.at_ b o p z⟩
theorem SRep.put1 (R : SRep P K ca σ S ρ H fp) {j : Nat} (hj : j < σ.length) : SRep P K ca (σ.set j .out) S ρ H (fun m => if m = 2 * j then [] else fp m) := by
  have hr : j < ρ.length := by rw [← R.len]; exact hj
  have R1 := R.putOut j ρ[j] hj
  have e6 : ρ.set j ρ[j] = ρ := by
    apply List.ext_getElem?
    intro m
    by_cases hm : j = m
    · subst hm
      rw [List.getElem?_set_self hr, List.getElem?_eq_getElem hr]
    · rw [List.getElem?_set_ne hm]
  rwa [e6] at R1
/-- what is stored in a cell -/
theorem given_ok {D0 : Addr → Prop} {y : VW} (R : SRep P K ca σ S ρ H fp) (r : RepI P K ca S σ ρ D0 H fp y.1 y.2 v) (e : given y σ = some (c, σ')) :
    ∃ f fp', SRep P K ca σ' S ρ H fp' ∧ OwnC K ca H c v f ∧ f.Nodup ∧ (∀ a ∈ f, ∀ j, a ∉ fp' j) ∧ (∀ a ∈ f, ¬ P a) := by
  obtain ⟨w, k⟩ := y
  unfold given at e
  split at e
  · cases e
  · rename_i d _ _ ex
    cases ex
    cases e
    exact ⟨[], fp, R, ⟨r.rep, rfl⟩, List.nodup_nil, fun a ha => (by cases ha), fun a ha => (by cases ha)⟩
  · rename_i c0 hne ex
    cases ex
    cases e
    obtain ⟨f, o, n, p, d, _⟩ : ∃ f, OwnW K ca H (.c c) v f ∧ (∀ a ∈ f, ∀ j, a ∉ fp j) ∧ (∀ a ∈ f, ¬ P a) ∧ f.Nodup ∧ ∀ a ∈ f, D0 a := r.kd
    exact ⟨f, fp, R, o, d, n, p⟩
  · rename_i c0 j hne ex
    cases ex
    split at e
    · rename_i w0 e0
      cases e
      have l : σ[j]? = some (.own (.c c)) := r.loc
      have kd : ρ[j]? = some (some v) := r.kd
      obtain ⟨v', e1, o⟩ := R.sl j _ l
      rw [kd] at e1
      cases e1
      have hj : j < σ.length := (List.getElem?_eq_some_iff.mp l).1
      refine ⟨fp (2 * j), _, R.put1 hj, o, R.nd _, fun a ha m z => ?_, R.np _⟩
      by_cases hm : m = 2 * j
      · simp [hm] at z
      · simp only [hm, if_false] at z
        exact R.dj _ _ (Ne.symm hm) a ha z
    · cases e
  · cases e
theorem setF_nd {f : Str} {x : C} : ∀ {fs : List (Str × C)}, (fs.map (·.1)).Nodup → ((setF f x fs).map (·.1)).Nodup ∧ ∀ g, g ∉ fs.map (·.1) → g ≠ f → g ∉ (setF f x fs).map (·.1)
  | [], _ => ⟨by simp [setF], fun g _ hg => by simp [setF]; exact hg⟩
  | (k, z) :: r, nd => by
    have nd' : k ∉ r.map (·.1) ∧ (r.map (·.1)).Nodup := by simpa using nd
    by_cases hk : k = f
    · have es : setF f x ((k, z) :: r) = (k, x) :: r := if_pos hk
      rw [es]
      exact ⟨nd, fun g hg _ => hg⟩
    · have es : setF f x ((k, z) :: r) = (k, z) :: setF f x r := if_neg hk
      rw [es]
      obtain ⟨h1, h2⟩ := setF_nd (f := f) (x := x) nd'.2
      refine ⟨by rw [List.map_cons, List.nodup_cons]; exact ⟨h2 k nd'.1 hk, h1⟩, fun g hg hf z => ?_⟩
      rw [List.map_cons, List.mem_cons] at z
      rw [List.map_cons, List.mem_cons] at hg
      rcases z with z | z
      · exact hg (.inl z)
      · exact h2 g (fun y => hg (.inr y)) hf z
theorem setF_len2 {f : Str} {x : C} {u : V} : ∀ {fs : List (Str × C)} {fs' : List (Str × V)} , fs'.length = fs.length → (∀ g, fs.lookup g = none → fs'.lookup g = none) → (∀ g y, fs.lookup g = some y → ∃ v, fs'.lookup g = some v) → (putF f u fs').length = (setF f x fs).length := by
  have h1 : ∀ fs : List (Str × C), (setF f x fs).length = if (fs.lookup f).isSome then fs.length else fs.length + 1 := by
    intro fs
    induction fs with
    | nil => rfl
    | cons p r ih =>
      obtain ⟨k, z⟩ := p
      by_cases hk : k = f
      · have es : setF f x ((k, z) :: r) = (k, x) :: r := if_pos hk
        rw [es, List.lookup_cons]
        have : (f == k) = true := by simpa using hk.symm
        rw [this]; simp
      · have es : setF f x ((k, z) :: r) = (k, z) :: setF f x r := if_neg hk
        rw [es, List.lookup_cons]
        have : (f == k) = false := by simpa using Ne.symm hk
        rw [this, List.length_cons, ih]
        simp only [List.length_cons]
        split <;> rfl
  have h2 : ∀ fs : List (Str × V), (putF f u fs).length = if (fs.lookup f).isSome then fs.length else fs.length + 1 := by
    intro fs
    induction fs with
    | nil => rfl
    | cons p r ih =>
      obtain ⟨k, z⟩ := p
      by_cases hk : k = f
      · have es : putF f u ((k, z) :: r) = (k, u) :: r := if_pos hk
        rw [es, List.lookup_cons]
        have : (f == k) = true := by simpa using hk.symm
        rw [this]; simp
      · have es : putF f u ((k, z) :: r) = (k, z) :: putF f u r := if_neg hk
        rw [es, List.lookup_cons]
        have : (f == k) = false := by simpa using Ne.symm hk
        rw [this, List.length_cons, ih]
        simp only [List.length_cons]
        split <;> rfl
  intro fs fs' hl hn hs
  rw [h1, h2, hl]
  cases e : fs.lookup f with
  | none => rw [hn f e]; simp
  | some y => obtain ⟨v, e2⟩ := hs f y e; rw [e2]; simp
theorem setF_none2 {f g : Str} {x : C} : ∀ {fs : List (Str × C)}, (setF f x fs).lookup g = none → fs.lookup g = none ∧ g ≠ f
  | [], h => by
    refine ⟨rfl, fun e => ?_⟩
    subst e
    simp [setF] at h
  | (k, z) :: r, h => by
    by_cases hk : k = f
    · have es : setF f x ((k, z) :: r) = (k, x) :: r := if_pos hk
      rw [es, List.lookup_cons] at h
      rw [List.lookup_cons]
      split at h
      · cases h
      · rename_i hb
        refine ⟨h, fun e => ?_⟩
        subst e hk
        simp at hb
    · have es : setF f x ((k, z) :: r) = (k, z) :: setF f x r := if_neg hk
      rw [es, List.lookup_cons] at h
      rw [List.lookup_cons]
      split at h
      · cases h
      · exact setF_none2 h
/-- an object with a field set -/
theorem own_set {k : Nat} {fs : List (Str × C)} {fpo f : List Addr} {x : C} {g : Str} {va : V} {u : V} (o : OwnW K ca H (.obj k fs) va fpo) (nd : fpo.Nodup) (ox : OwnC K ca H x u f) (nf : f.Nodup) (dj : ∀ a ∈ f, a ∉ fpo) :
    ∃ a dx fs' f2, va = .ref a ∧ a ∈ fpo ∧ H a = some (.ins (ca.c k) dx fs') ∧ fs'.length = fs.length ∧ OwnW K ca (upd H a (.ins (ca.c k) dx (putF g u fs'))) (.obj k (setF g x fs)) va f2 ∧ f2.Nodup ∧ ∀ b ∈ f2, b ∈ fpo ∨ b ∈ f := by
  obtain ⟨a, dx, fs', fp', e, h, q, nn, l, ef⟩ := o
  subst ef
  have nd' := List.nodup_cons.mp nd
  have dj' : ∀ b ∈ f, b ∉ fp' := fun b hb z => dj b hb (List.mem_cons_of_mem _ z)
  obtain ⟨f2, q2, sb, nd2⟩ := OwnFs.set (f := g) ox nf nn q nd'.2 dj'
  have naf : ∀ b ∈ f2, b ≠ a := fun b hb z => by
    subst z
    rcases sb b hb with y | y
    · exact nd'.1 y
    · exact dj b y (List.mem_cons_self)
  have tk : TK K H (upd H a (.ins (ca.c k) dx (putF g u fs'))) := tk_upd h (fun xs z => by cases z) (fun ob u z => by cases z)
  have ln := setF_len2 (f := g) (x := x) (u := u) l.2 l.1 fun g' y hy => by
    obtain ⟨v, _, lv, _, _⟩ := OwnFs.at_ q hy
    exact ⟨v, lv⟩
  refine ⟨a, dx, fs', a :: f2, e, List.mem_cons_self, h, l.2, ⟨a, dx, _, f2, e, upd_same, q2.stay tk fun b hb o z => ?_, (setF_nd nn).1, ⟨fun g' hg => ?_, ln⟩, rfl⟩, List.nodup_cons.mpr ⟨fun z => naf a z rfl, nd2⟩, fun b hb => ?_⟩
  · rw [upd_ne (naf b hb)]; exact z
  · obtain ⟨h1, h2⟩ := setF_none2 hg
    rw [lookup_putF, if_neg h2]
    exact l.1 g' h1
  · rcases List.mem_cons.mp hb with z | z
    · exact .inl (by rw [z]; exact List.mem_cons_self)
    · rcases sb b z with y | y
      · exact .inl (List.mem_cons_of_mem _ y)
      · exact .inr y
theorem setFld_ok {x : VW} {o : Out} {f : List Addr} {g : Str} {u : V} {y : C} (R : SRep P K ca σ S ρ H fp) (rep : RepW (fun _ => True) K ca H x.1 v) (kd : ∀ i, x.2 = .at i → ρ[i]? = some (some v)) (oy : OwnC K ca H y u f) (nf : f.Nodup) (dj : ∀ a ∈ f, ∀ j, a ∉ fp j) (np : ∀ a ∈ f, ¬ P a)
    (e : setFld x g y σ S = some (.ok o S')) : ∃ a dx fs' k σ' fp', o = .nx σ' ∧ v = .ref a ∧ H a = some (.ins (ca.c k) dx fs') ∧ fs'.length < 1000 ∧ (∃ fs, (x.1.at S = .obj k fs ∨ ∃ i, x.2 = .at i ∧ σ[i]? = some (.own (.obj k fs)))) ∧ Fw P K ca S H ca S' (upd H a (.ins (ca.c k) dx (putF g u fs'))) ∧ SRep P K ca σ' S' ρ (upd H a (.ins (ca.c k) dx (putF g u fs'))) fp' := by
  obtain ⟨w, k0⟩ := x
  have fwOf : ∀ (a : Addr) (u u' : HO) (S' : Sto) (j : Nat), H a = some u → (∀ xs, u ≠ .tup xs) → (∀ ob w, u ≠ .frz ob w) → a ∈ fp j → S'.fz = S.fz → (∀ n, n < S.fz → S'.cs[n]? = S.cs[n]?) → Fw P K ca S H ca S' (upd H a u') := fun a u u' S' j h1 h2 h2' h3 h4 h5 =>
    ⟨.refl, h4, h5, ⟨tk_upd h1 h2 h2', fun b o p z => by
      have : b ≠ a := fun y => R.np j a h3 (y ▸ p)
      rw [upd_ne this]; exact z⟩, upd_al h1⟩
  unfold setFld at e
  split at e
  · rename_i n kk ex
    cases ex
    split at e
    · rename_i k fs e0
      split at e
      · rename_i hn
        cases e
        obtain ⟨b, ea, hv⟩ : ∃ a, ca.i[n]? = some a ∧ v = .ref a := rep
        have ow := R.cel n _ b e0 ea
        unfold ClRep at ow
        rw [if_neg (show ¬ n < S.fz by omega)] at ow
        obtain ⟨a, dx, fs', f2, ev, ma, hH, hl, o2, nd2, sb⟩ := own_set (g := g) ow (R.nd _) oy nf fun a ha => dj a ha _
        have e1 : b = a := by cases ev; rfl
        subst e1
        have fw := fwOf b _ (.ins (ca.c k) dx (putF g u fs')) ⟨S.cs.set n (.obj k (setF g y fs)), S.fz⟩ (2 * n + 1) hH (fun xs z => by cases z) (fun ob u z => by cases z) ma rfl fun m hm => List.getElem?_set_ne (by omega)
        refine ⟨b, dx, fs', k, σ, _, rfl, hv, hH, by omega, ⟨fs, .inl (by unfold W.at; simp only [e0])⟩, fw, R.chgC e0 ea hn.1 ma fw.fut o2 nd2 fun c hc => ?_⟩
        rcases sb c hc with z | z
        · exact .inl z
        · exact .inr ⟨dj c z, np c z⟩
      · cases e
    · cases e
  · rename_i i hne ex
    cases ex
    split at e
    · rename_i k fs e0
      split at e
      · rename_i hn
        cases e
        obtain ⟨v', e1, ow⟩ := R.sl i _ e0
        have kd' := kd i rfl
        rw [kd'] at e1
        cases e1
        obtain ⟨a, dx, fs', f2, ev, ma, hH, hl, o2, nd2, sb⟩ := own_set (g := g) ow (R.nd _) oy nf fun a ha => dj a ha _
        have fw := fwOf a _ (.ins (ca.c k) dx (putF g u fs')) S (2 * i) hH (fun xs z => by cases z) (fun ob u z => by cases z) ma rfl fun _ _ => rfl
        refine ⟨a, dx, fs', k, _, _, rfl, ev, hH, by omega, ⟨fs, .inr ⟨i, rfl, e0⟩⟩, fw, R.chgS e0 ma fw.fut ⟨v, kd', o2⟩ nd2 fun c hc => ?_⟩
        rcases sb c hc with z | z
        · exact .inl z
        · exact .inr ⟨dj c z, np c z⟩
      · cases e
    · cases e
  · cases e
end
end Ev
/-! Ev12: the theorem for statements. -/
namespace Ev
open PySem PySem.Spec
open PyProof.Rows hiding St
open L2
section
variable {bl : List Str} {sc : Scope} {X : Cx} {Γ : Gam} {P : Addr → Prop} {K : PySem.W.Frag} {ca ca1 : Am} {Z Z1 Z' : Sto} {σ σ1 : List Sl} {σc σc1 : L2.St} {H H1 : Hp} {fp fp1 : Nat → List Addr} {n : Nat}
theorem setItem_cell {c c' : Ev.C} {j d : Ev.D} (h : setIt c j d = some (.ok c')) : ∃ xs k m, c = .lst xs ∧ j = .int k ∧ ixN xs.length k = some m ∧ c' = .lst (xs.set m d) := by
  unfold setIt at h
  split at h
  · split at h
    · split at h
      · rename_i m em
        cases ok_inj h
        exact ⟨_, _, m, rfl, rfl, em, rfl⟩
      · cases h
    · cases h
  · cases h
theorem setI_snd {b k : E} {a : I} : SndS bl Γ (.setI b k a) := by
  intro st sc X P ca Z σ σc H fp hc C hS r Z' he D q
  cases st with
  | Assign ts z pos =>
    match ts with
    | [] => simp [chkT] at hc
    | _ :: _ :: _ => 
      exfalso
      revert hc
      rename_i t _ _
      cases t <;> simp [chkT]
    | [t] =>
      cases t with
      | Subscript x y sp =>
        have hc' : (chk bl X.N sc b x && chk bl X.N sc k y && chkI bl X.N sc a z) = true := by unfold chkT at hc; exact hc
        simp only [Bool.and_eq_true] at hc'
        obtain ⟨⟨h1, h2⟩, h3⟩ := hc'
        unfold run at he
        obtain ⟨ya, Z1, e1, he1⟩ := bindS he
        obtain ⟨xa, Z2, e2, he2⟩ := bindS he1
        obtain ⟨e2', hz⟩ := upS e2
        subst hz
        obtain ⟨ja, Z3, e3, he3⟩ := bindS he2
        obtain ⟨e3', hz⟩ := upS e3
        subst hz
        split at he3
        · rename_i c j d ecell ej ey
          obtain ⟨c', Z4, e4, he4⟩ := bindS he3
          obtain ⟨e4', hz⟩ := upS e4
          subst hz
          obtain ⟨xs, m, mm, rfl, rfl, em, rfl⟩ := setItem_cell e4'
          have ha : ∀ v, assign (.Subscript x y sp) X.env v = (do
              let ov ← holding [v] (eval x X.env)
              let iv ← holding [v, ov] (eval y X.env)
              standAt sp
              holding [v, ov, iv] (setItem ov iv v)
              release [v, ov, iv] []) := by
            intro v
            have := chk_okX h2
            cases y <;> first | rfl | cases this
          have hsw : swapsWithSole [.Subscript x y sp] z pos.line X.env = pure false := by
            unfold swapsWithSole swapsWith
            cases z <;> rfl
          refine wps_of (ps_asg pe_wp (pg_sub pe_wp pe_wp set_list ha) hsw (by cases z <;> rfl) rfl) ?_
          refine sndI a z sc X P ca Z σ σc H fp h3 C ya.1 ya.2 _ e1 _ fun vy ca1 H1 fp1 t1 R1 r1 => ?_
          have C1 := C.step t1.le R1
          refine sndE b x sc X P ca1 _ σ σc H1 fp1 h1 C1 xa.1 xa.2 e2' _ fun vx H2 s2 r2 => ?_
          refine sndE k y sc X P ca1 _ σ σc H2 fp1 h2 (C1.mono s2) ja.1 ja.2 e3' _ fun vj H3 s3 r3 => ?_
          have s23 := s2.trans s3
          have R3 := R1.mono s23
          have ri := RepI.of_V R1 (r2.later s3) (ev_loc b e2')
          obtain ⟨p, u, σ', eo, ev, hp, ru, fin⟩ := change_ok R3 ri ecell rfl rfl he4
          cases u with
          | lst vs =>
            have rx : RepDs X.K ca1 H3 xs vs := ru
            have rj : vj = .int m := by
              have := r3.rep
              rw [ej] at this
              exact this
            have ry : RepD X.K ca1 H3 d vy := by
              have := r1.rep
              rw [ey] at this
              have z : RepD X.K ca1 H1 d vy := this
              exact z.mono (.of_same s23)
            subst eo rj ev
            refine ⟨p, vs, m, mm, rfl, rfl, hp, by rw [rx.length]; exact em, ?_⟩
            obtain ⟨fw, R4⟩ := fin (.lst (vs.set mm vy)) (rx.set mm ry)
            exact q σc ca1 _ fp1 rfl (((t1.fw C.sr).trans (.of_same s23)).trans fw) R4
          | _ => cases ru
        · cases he3
      | _ => simp [chkT] at hc
  | _ => simp [chkT] at hc
theorem moC_lst {m : Mo} {c c' : Ev.C} {ds : List Ev.D} (h : moC m c ds = some (.ok c')) : ∃ xs, c = .lst xs ∧ ((m = .append ∧ ∃ d, ds = [d] ∧ xs.length + 1 ≤ sizeLine ∧ c' = .lst (xs ++ [d])) ∨ (m = .clear ∧ ds = [] ∧ c' = .lst [])) := by
  unfold moC at h
  split at h
  · obtain ⟨z, h⟩ := guardN_ok h
    cases ok_inj h
    exact ⟨_, rfl, .inl ⟨rfl, _, rfl, z, rfl⟩⟩
  · cases ok_inj h
    exact ⟨_, rfl, .inr ⟨rfl, rfl, rfl⟩⟩
  · cases h
theorem moTy_lst {m : Mo} {w : W} (h : moTy m w = true) : ∃ xs, w = .c (.lst xs) := by
  unfold moTy at h
  split at h
  · exact ⟨_, rfl⟩
  · exact ⟨_, rfl⟩
  · cases h
theorem mut_snd {m : Mo} {b : E} {as : Is} : SndS bl Γ (.mut m b as) := by
  intro st sc X P ca Z σ σc H fp hc C hS r Z' he D q
  cases st with
  | Expr cx pos =>
    cases cx with
    | Call f l kws cpos =>
      cases f with
      | Attribute x at_ ap =>
        cases kws with
        | cons _ _ => simp [chkT] at hc
        | nil =>
          have hc' : (decide (at_ = m.name) && baseOk x && (ap.endLine == cpos.line) && decide (l.length = m.n) && chk bl X.N sc b x && chkIs bl X.N sc as l) = true := by unfold chkT at hc; exact hc
          simp only [Bool.and_eq_true, decide_eq_true_eq] at hc'
          obtain ⟨⟨⟨⟨⟨h1, h0⟩, h2⟩, hn⟩, h3⟩, h4⟩ := hc'
          subst h1
          unfold run at he
          obtain ⟨xa, Z1, e1, he1⟩ := bindS he
          obtain ⟨e1', hz⟩ := upS e1
          subst hz
          split at he1
          · rename_i hcond
            rw [Bool.and_eq_true] at hcond
            obtain ⟨hh, hty⟩ := hcond
            obtain ⟨xs0, ety⟩ := moTy_lst hty
            obtain ⟨ys, Z2, e2, he2⟩ := bindS he1
            split at he2
            · rename_i c ds ecell eds
              obtain ⟨c', Z3, e3, he3⟩ := bindS he2
              obtain ⟨e3', hz⟩ := upS e3
              subst hz
              obtain ⟨xs, rfl, hm⟩ := moC_lst e3'
              have tyL : ∀ va H1, Same H H1 → RepW (fun _ => True) X.K ca H1 xa.1 va → tyV X.K "list" va H1 := fun va H1 s1 rr => by
                have z := (C.mono s1).sr.at_rep rr
                rw [ety] at z
                obtain ⟨p, vs, ep, hp, _⟩ := repL z
                subst ep
                exact .inl ⟨rfl, _, hp.seq⟩
              rcases hm with ⟨rfl, d, rfl, hz, rfl⟩ | ⟨rfl, rfl, rfl⟩
              · -- append
                match l, as with
                | [y], .cons a .nil =>
                  have h4' : chkI bl X.N sc a y = true := by simpa [chkIs] using h4
                  unfold evIs at e2
                  obtain ⟨ya, Z4, ea, e2b⟩ := bindS e2
                  split at e2b
                  · rename_i hya
                    obtain ⟨us, Z5, eu, e2c⟩ := bindS e2b
                    unfold evIs at eu
                    obtain ⟨eu1, eu2⟩ := okS eu
                    subst eu1 eu2
                    obtain ⟨ey1, ey2⟩ := okS e2c
                    subst ey1 ey2
                    have ed : ya.1 = .c (.d d) := by
                      have : List.mapM wD [ya.1] = some [d] := eds
                      rw [List.mapM_cons] at this
                      cases h : ya.1 with
                      | obj _ _ => rw [h] at this; simp [wD] at this
                      | c x => cases x with
                        | d x => rw [h] at this; simp [wD] at this; rw [this]
                        | _ => rw [h] at this; simp [wD] at this
                    refine wps_of (ps_expr (pe_bm PySem.F.plainAttrs_list PySem.F.slot_list_append PySem.F.type_list_append mt_append pe_wp (pa_cons pe_wp pa_nil (star_I h4' _ _)) (attr_base _ h0) (by rw [star_I h4']; rfl) h2 (star_I h4' _ _) rfl)) ?_
                    refine sndE b x sc X P ca _ σ σc H fp h3 C xa.1 xa.2 e1' _ fun va H1 s1 r1 => ?_
                    refine ⟨tyL va H1 s1 r1.rep, ?_⟩
                    have C1 := C.mono s1
                    have ri := RepI.of_V C.sr r1 (ev_loc b e1')
                    have core : ∀ vy ca2 H2 fp2, Stp P X.K ca _ H1 fp ca2 _ H2 fp2 → SRep P X.K ca2 σ _ σc H2 fp2 → RepD X.K ca2 H2 d vy → RepI P X.K ca2 _ σ σc (Dd H fp) H2 fp2 xa.1 xa.2 va → (∃ a xs', va = .ref a ∧ H2 a = some (.lst xs') ∧ xs'.length < sizeLine ∧ D.nx σc (upd H2 a (.lst (xs' ++ [vy])))) := fun vy ca2 H2 fp2 t2 R2 ry ri2 => by
                      obtain ⟨p, u, σ', eo, ev, hp, ru, fin⟩ := change_ok R2 ri2 ecell rfl rfl he3
                      cases u with
                      | lst vs =>
                        have rx : RepDs X.K ca2 H2 xs vs := ru
                        refine ⟨p, vs, ev, hp, by rw [rx.length]; omega, ?_⟩
                        obtain ⟨fw, R3⟩ := fin (.lst (vs ++ [vy])) (rx.app (.cons ry .nil))
                        subst eo
                        exact q σc ca2 _ fp2 rfl (((Fw.of_same s1).trans (t2.fw C1.sr)).trans fw) R3
                      | _ => cases ru
                    by_cases hha : handed xa = true
                    · refine sndI a y sc X P ca _ σ σc H1 fp h4' C1 ya.1 ya.2 _ ea _ fun vy ca2 H2 fp2 t2 R2 r2 => ?_
                      have ry : RepD X.K ca2 H2 d vy := by
                        have := r2.rep
                        rw [ed] at this
                        exact this
                      obtain ⟨p, xs', ep, hp, hl, fin⟩ := core vy ca2 H2 fp2 t2 R2 ry (ri.later hha C1.sr t2 R2)
                      exact ⟨p, xs', vy, ep, rfl, hp, hl, fin⟩
                    · cases a with
                      | p e =>
                        have h5 : chk bl X.N sc e y = true := by unfold chkI at h4'; exact h4'
                        unfold evI at ea
                        obtain ⟨ea', hz⟩ := upS ea
                        subst hz
                        refine sndE e y sc X P ca _ σ σc H1 fp h5 C1 ya.1 ya.2 ea' _ fun vy H2 s2 r2 => ?_
                        have ry : RepD X.K ca H2 d vy := by
                          have := r2.rep
                          rw [ed] at this
                          exact this
                        obtain ⟨p, xs', ep, hp, hl, fin⟩ := core vy ca H2 fp (.of_same s2) (C1.sr.mono s2) ry (RepI.of_V C.sr (r1.later s2) (ev_loc b e1'))
                        exact ⟨p, xs', vy, ep, rfl, hp, hl, fin⟩
                      | _ => simp [hha, pureIs, pureI] at hh
                  · cases e2b
                | [], as => simp [Mo.n] at hn
                | _ :: _ :: _, as => simp [Mo.n] at hn
                | [_], .nil => simp [chkIs] at h4
                | [_], .cons _ (.cons _ _) => simp [chkIs] at h4
              · -- clear
                match l, as with
                | [], .nil =>
                  unfold evIs at e2
                  obtain ⟨eu1, eu2⟩ := okS e2
                  subst eu1 eu2
                  refine wps_of (ps_expr (pe_bm0 PySem.F.plainAttrs_list PySem.F.slot_list_clear PySem.F.type_list_clear mt_clear pe_wp (attr_base _ h0) h2)) ?_
                  refine sndE b x sc X P ca _ σ σc H fp h3 C xa.1 xa.2 e1' _ fun va H1 s1 r1 => ?_
                  refine ⟨tyL va H1 s1 r1.rep, ?_⟩
                  have ri := RepI.of_V C.sr r1 (ev_loc b e1')
                  obtain ⟨p, u, σ', eo, ev, hp, ru, fin⟩ := change_ok (C.sr.mono s1) ri ecell rfl rfl he3
                  cases u with
                  | lst vs =>
                    subst ev eo
                    refine ⟨p, vs, rfl, rfl, hp, ?_⟩
                    obtain ⟨fw, R3⟩ := fin (.lst []) (show RepDs X.K ca H1 [] [] from RepDs.nil)
                    exact q σc ca _ fp rfl ((Fw.of_same s1).trans fw) R3
                  | _ => cases ru
                | _ :: _, as => simp [Mo.n] at hn
                | [], .cons _ _ => simp [chkIs] at h4
            · cases he2
          · cases he1
      | _ => simp [chkT] at hc
    | _ => simp [chkT] at hc
  | _ => simp [chkT] at hc
/-- the object whose field is set is the one that was told -/
theorem given_at {y : VW} {c : Ev.C} {σ' : List Sl} (e : given y σ = some (c, σ')) {i : Nat} {w : W} (h : σ'[i]? = some (.own w)) : σ[i]? = some (.own w) := by
  unfold given at e
  split at e
  · cases e
  · cases e; exact h
  · cases e; exact h
  · split at e
    · cases e
      rename_i j _ _ _ _
      by_cases hj : j = i
      · subst hj
        rw [List.getElem?_set] at h
        split at h
        · split at h <;> cases h
        · exact h
      · rwa [List.getElem?_set_ne hj] at h
    · cases e
  · cases e
theorem fset_snd {b : E} {f : Str} {a : I} : SndS bl Γ (.fset b f a) := by
  intro st sc X P ca Z σ σc H fp hc C hS r Z' he D q
  cases st with
  | Assign ts z pos =>
    match ts with
    | [] => simp [chkT] at hc
    | _ :: _ :: _ =>
      exfalso
      revert hc
      rename_i t _ _
      cases t <;> simp [chkT]
    | [t] =>
      cases t with
      | Attribute x y ap =>
        have hc' : (decide (f = y) && baseOk x && chk bl X.N sc b x && chkI bl X.N sc a z) = true := by unfold chkT at hc; exact hc
        simp only [Bool.and_eq_true, decide_eq_true_eq] at hc'
        obtain ⟨⟨⟨h1, h0⟩, h2⟩, h3⟩ := hc'
        subst h1
        unfold run at he
        obtain ⟨ya, Z1, e1, he1⟩ := bindS he
        obtain ⟨xa, Z2, e2, he2⟩ := bindS he1
        obtain ⟨e2', hz⟩ := upS e2
        subst hz
        split at he2
        · rename_i c σ' k fs eg eat
          split at he2
          · rename_i g egm
            have hsw : swapsWith z (some (.Attribute x f ap)) pos.line X.env = pure false := by
              unfold swapsWith
              cases z <;> rfl
            refine wps_of (ps_fld pe_wp pe_wp hsw) ?_
            refine sndI a z sc X P ca Z σ σc H fp h3 C ya.1 ya.2 _ e1 _ fun vy ca1 H1 fp1 t1 R1 r1 => ?_
            have C1 := C.step t1.le R1
            refine sndE b x sc X P ca1 _ σ σc H1 fp1 h2 C1 xa.1 xa.2 e2' _ fun vx H2 s2 r2 => ?_
            have R2 := R1.mono s2
            have ry : RepI P X.K ca1 Z2 σ σc (Dd H fp) H2 fp1 ya.1 ya.2 vy := by
              refine r1.later ?_ R1 (.of_same s2) R2
              obtain ⟨wy, ky⟩ := ya
              cases ky with
              | sf n f' =>
                cases eg
              | _ => rfl
            obtain ⟨f0, fp0, R0, oc, nd, dj, np⟩ := given_ok R2 ry eg
            obtain ⟨p, dx, fs', k', σ2, fp2, eo, ev, hp, hl, ⟨fs2, hk⟩, fw, R3⟩ := setFld_ok (σ := σ') R0 r2.rep (fun i hi => by have := r2.kd; rw [hi] at this; exact this) oc nd dj np he2
            have ek : k' = k := by
              rcases hk with hk | ⟨i, hi, hs⟩
              · rw [eat] at hk
                cases hk
                rfl
              · have l := ev_loc b e2'
                rw [hi] at l
                have l' : σ[i]? = some (.own xa.1) := l
                rw [given_at eg hs] at l'
                have l2 : W.obj k' fs2 = xa.1 := by simpa using l'
                rw [← l2] at eat
                cases eat
                rfl
            subst ek
            obtain ⟨k1, k2⟩ := (C1.fns X rfl rfl rfl rfl rfl rfl _ g egm).fl k' f rfl
            subst eo
            exact ⟨p, _, dx, fs', ev, hp, k1, k2, hl, q σc ca1 _ fp2 rfl (((t1.fw C.sr).trans (.of_same s2)).trans fw) R3⟩
          · cases he2
        · cases he2
      | _ => simp [chkT] at hc
  | _ => simp [chkT] at hc
end
end Ev
/-! Ev13: loops, the theorem for statements. -/
namespace Ev
open PySem PySem.Spec
open PyProof.Rows hiding St
open L2
section
variable {bl : List Str} {sc : Scope} {X : Cx} {Γ : Gam} {P : Addr → Prop} {K : PySem.W.Frag} {ca ca1 : Am} {Z Z1 Z' : Sto} {σ σ1 : List Sl} {σc σc1 : L2.St} {H H1 : Hp} {fp fp1 : Nat → List Addr} {n : Nat}
theorem in_ok (o : Operator) : InOp X o (rAddD o) := fun pins s σ H x y u v Q I rx ry h => inp_ok o pins s σ H x y u v Q I rx ry h
theorem faug_snd {b : E} {f : Str} {o : Operator} {e : E} : SndS bl Γ (.faug b f o e) := by
  intro st sc X P ca Z σ σc H fp hc C hS r Z' he D q
  cases st with
  | AugAssign t p z pos =>
    cases t with
    | Attribute x y ap =>
      have hc' : (decide (f = y) && baseOk x && decide (o = p) && chk bl X.N sc b x && chk bl X.N sc e z) = true := by unfold chkT at hc; exact hc
      simp only [Bool.and_eq_true, decide_eq_true_eq] at hc'
      obtain ⟨⟨⟨⟨h1, h0⟩, ho⟩, h2⟩, h3⟩ := hc'
      subst h1 ho
      unfold run at he
      obtain ⟨xa, Z1, e1, he1⟩ := bindS he
      obtain ⟨e1', hz⟩ := upS e1
      subst hz
      obtain ⟨ya, Z2, e2, he2⟩ := bindS he1
      obtain ⟨e2', hz⟩ := upS e2
      subst hz
      split at he2
      · rename_i k fs eat
        split at he2
        · rename_i g d egm el
          obtain ⟨za, Z3, e3, he3⟩ := bindS he2
          obtain ⟨e3', hz⟩ := upS e3
          subst hz
          split at he3
          · rename_i d' ez
            obtain ⟨wz, kz⟩ := za
            simp only at ez
            subst ez
            refine wps_of (ps_fldaug pe_wp pe_wp (in_ok o)) ?_
            refine sndE b x sc X P ca _ σ σc H fp h2 C xa.1 xa.2 e1' _ fun vx H1 s1 r1 => ?_
            have C1 := C.mono s1
            have rr := C1.sr.at_rep r1.rep
            rw [eat] at rr
            obtain ⟨a, dx, fs', ev, ha, hf⟩ := obj_rd rr
            have q1 := hf f
            rw [el] at q1
            obtain ⟨u, lu, ru⟩ := q1
            obtain ⟨k1, k2⟩ := (C.fns X rfl rfl rfl rfl rfl rfl _ g egm).fl k f rfl
            refine ⟨a, _, dx, fs', u, ev, ha, k1, k2, lu, ?_⟩
            refine sndE e z sc X P ca _ σ σc H1 fp h3 C1 ya.1 ya.2 e2' _ fun vy H2 s2 r2 => ?_
            have ru2 : RepD X.K ca H2 d u := RepD.mono (.of_same s2) ru
            refine addD_ok e3' ru2 r2.rep fun w hw => ?_
            have R2 := C1.sr.mono s2
            obtain ⟨p, dx2, fs2, k', σ', fp2, eo, ev2, hp, hl, ⟨fs3, hk⟩, fw, R3⟩ := setFld_ok (f := []) R2 (r1.later s2).rep (fun i hi => by have := r1.kd; rw [hi] at this; exact this) (show OwnC X.K ca H2 (.d d') w [] from ⟨hw, rfl⟩) List.nodup_nil (fun a ha => by cases ha) (fun a ha => by cases ha) he3
            have ek : k' = k := by
              rcases hk with hk | ⟨i, hi, hs⟩
              · rw [eat] at hk
                cases hk
                rfl
              · have l := ev_loc b e1'
                rw [hi] at l
                have l' : σ[i]? = some (.own xa.1) := l
                rw [hs] at l'
                have l2 : W.obj k' fs3 = xa.1 := by simpa using l'
                rw [← l2] at eat
                cases eat
                rfl
            subst ek eo
            have epa : p = a := by rw [ev] at ev2; cases ev2; rfl
            subst epa
            exact ⟨dx2, fs2, hp, hl, q σc ca _ fp2 rfl ((Fw.of_same (s1.trans s2)).trans fw) R3⟩
          · cases he3
        · cases he2
      · cases he2
    | _ => simp [chkT] at hc
  | _ => simp [chkT] at hc
theorem ite_snd {c : I} {a b : Ts} (Sa : SndSs bl Γ a) (Sb : SndSs bl Γ b) : SndS bl Γ (.ite c a b) := by
  intro st sc X P ca Z σ σc H fp hc C hS r Z' he D q
  cases st with
  | If x l m pos =>
    have hc' : (tstI c && chkI bl X.N sc c x && chkTs bl X.N sc a l && chkTs bl X.N sc b m) = true := by unfold chkT at hc; exact hc
    simp only [Bool.and_eq_true] at hc'
    obtain ⟨⟨⟨h0, h1⟩, h2⟩, h3⟩ := hc'
    unfold run at he
    obtain ⟨kb, Z1, e1, he1⟩ := bindS he
    unfold tstI' at e1
    obtain ⟨⟨w, k⟩, Z2, e2, e3⟩ := bindS e1
    obtain ⟨e3', hz⟩ := upS e3
    subst hz
    refine wps_of (ps_if pt_wp pss_wp pss_wp) ?_
    refine sndTI c h0 x sc X P ca Z σ σc H fp h1 C w k _ kb e2 e3' _ fun ca1 H1 fp1 t1 R1 => ?_
    have C1 := C.step t1.le R1
    have q' := q.after (t1.fw C.sr)
    cases kb with
    | true =>
      rw [if_pos rfl]
      exact Sa l sc X P ca1 _ σ σc H1 fp1 h2 C1 hS r Z' he1 D q'
    | false =>
      rw [if_neg Bool.false_ne_true]
      exact Sb m sc X P ca1 _ σ σc H1 fp1 h3 C1 hS r Z' he1 D q'
  | _ => simp [chkT] at hc
theorem nil_sndS : SndSs bl Γ .nil := by
  intro st sc X P ca Z σ σc H fp hc C hS r Z' he D q
  cases st with
  | nil =>
    unfold runs at he
    obtain ⟨e2, e3⟩ := okS he
    subst e2 e3
    exact wpss_of pss_nil (q σc ca H fp rfl .refl C.sr)
  | cons _ _ => simp [chkTs] at hc
theorem Ctx.fw (C : Ctx bl sc X Γ P ca Z σ σc H fp) (f : Fw P X.K ca Z H ca1 Z1 H1) (R : SRep P X.K ca1 σ1 Z1 σc1 H1 fp1) (l : σc1.length = σc.length) : Ctx bl sc X Γ P ca1 Z1 σ1 σc1 H1 fp1 := ⟨C.ok, by rw [← f.le.1]; exact C.fns, R, l.trans C.ln⟩
theorem cons_sndS {t : T} {ts : Ts} (hg : (∀ i, t ≠ .frz i) ∧ ∀ is, t ≠ .fgt is) (S : SndS bl Γ t) (Ss : SndSs bl Γ ts) : SndSs bl Γ (.cons t ts) := by
  intro st sc X P ca Z σ σc H fp hc C hS r Z' he D q
  have hc0 : (match st with
      | s :: ss => chkT bl X.N sc t s && chkTs bl X.N sc ts ss
      | [] => false) = true := by
    unfold chkTs at hc
    split at hc
    · exact absurd rfl (hg.1 _)
    · exact absurd rfl (hg.2 _)
    · cases st <;> exact hc
  cases st with
  | nil => cases hc0
  | cons st l =>
    have hc' : chkT bl X.N sc t st = true ∧ chkTs bl X.N sc ts l = true := by simpa using hc0
    unfold runs at he
    obtain ⟨o, Z1, e1, he1⟩ := bindS he
    refine wpss_of (pss_cons ps_wp pss_wp) ?_
    refine S st sc X P ca Z σ σc H fp hc'.1 C hS o Z1 e1 _ ?_
    cases o with
    | nx σ' =>
      intro σc' ca' H' fp' l' fw R'
      refine Ss l sc X P ca' Z1 σ' σc' H' fp' hc'.2 (C.fw fw R' l') hS r Z' he1 D ?_
      have q' := q.after fw
      rw [l']
      exact q'
    | brk σ' => obtain ⟨e2, e3⟩ := okS he1; subst e2 e3; exact q
    | cnt σ' => obtain ⟨e2, e3⟩ := okS he1; subst e2 e3; exact q
    | ret w σ' => obtain ⟨e2, e3⟩ := okS he1; subst e2 e3; exact q
/-- an own list is frozen -/
theorem wpSs_frz {X : Cx} {st : List Stmt} {D : Ends} {σ : L2.St} {H : Hp} {a : Addr} {u : HO} (h : H a = some u) (mu : Mut (some u)) (w : ∀ o, wpSs X st D σ (upd H a (.frz o u))) : wpSs X st D σ H := fun pins s I => by
  obtain ⟨o, I2⟩ := I.lock h mu
  exact w o pins s I2
theorem frz_tk {a : Addr} {o : Obj} {vs : List V} (h : H a = some (.lst vs)) : TK K H (upd H a (.frz o (.lst vs))) := tk_upd h (fun xs z => by cases z) (fun ob u z => by cases z)
theorem frz_sndS {i : Nat} {ts : Ts} (Ss : SndSs bl Γ ts) : SndSs bl Γ (.cons (.frz i) ts) := by
  intro st sc X P ca Z σ σc H fp hc C hS r Z' he D q
  have hc' : chkTs bl X.N sc ts st = true := by unfold chkTs at hc; exact hc
  unfold runs at he
  obtain ⟨o, Z1, e1, he1⟩ := bindS he
  unfold run at e1
  split at e1
  · rename_i xs e0
    obtain ⟨e2, e3⟩ := okS e1
    subst e2 e3
    obtain ⟨v, ev, a, vs, e4, ha, rd, ef⟩ := C.sr.sl i _ e0
    subst e4
    refine wpSs_frz ha trivial fun ob => ?_
    have tk : TK X.K H (upd H a (.frz ob (.lst vs))) := frz_tk ha
    have ma : a ∈ fp (2 * i) := by rw [ef]; simp
    have hi : i < σ.length := (List.getElem?_eq_some_iff.mp e0).1
    have ft : Fut P X.K H (upd H a (.frz ob (.lst vs))) := ⟨tk, fun b o p z => by
      have : b ≠ a := fun y => C.sr.np _ a ma (y ▸ p)
      rw [upd_ne this]; exact z⟩
    have R1 : SRep P X.K ca (σ.set i .out) _ σc H _ := C.sr.put1 hi
    have st' : ∀ j, ∀ b ∈ (fun m => if m = 2 * i then [] else fp m) j, ∀ u, H b = some u → (upd H a (.frz ob (.lst vs))) b = some u := fun j b hb u z => by
      by_cases hj : j = 2 * i
      · simp [hj] at hb
      · simp only [hj, if_false] at hb
        have : b ≠ a := fun y => C.sr.dj j (2 * i) hj b hb (y ▸ ma)
        rw [upd_ne this]; exact z
    have R2 : SRep P X.K ca (σ.set i (.ro (.c (.d (.fl xs))))) Z σc (upd H a (.frz ob (.lst vs))) (fun m => if m = 2 * i then [] else fp m) := by
      refine ⟨by rw [List.length_set]; exact C.sr.len, fun j t e => ?_, C.sr.sln, C.sr.fzl, fun n w b e1 e2 => ?_, R1.dj, R1.nd, R1.np, fun j hj => R1.far j (by simpa using hj), R1.far2, fun b p => ?_⟩
      · by_cases hj : j = i
        · subst hj
          rw [List.getElem?_set_self hi] at e
          cases e
          refine ⟨.ref a, ev, ⟨a, ob, vs, rfl, upd_same, rd.mono tk⟩, if_pos rfl⟩
        · rw [List.getElem?_set_ne (Ne.symm hj)] at e
          have r := R1.sl j t (by rw [List.getElem?_set_ne (Ne.symm hj)]; exact e)
          cases t with
          | own w => obtain ⟨v, e1, r⟩ := r; exact ⟨v, e1, r.stay tk (st' _)⟩
          | ro w => obtain ⟨v, e1, r, z⟩ := r; exact ⟨v, e1, r.mono ft fun _ p => p, z⟩
          | out => exact r
      · have r := R1.cel n w b e1 e2
        unfold ClRep at r ⊢
        split
        · rename_i hz
          rw [if_pos hz] at r
          exact ⟨r.1.mono ft fun _ p => p, r.2⟩
        · rename_i hz
          rw [if_neg hz] at r
          exact r.stay tk (st' _)
      · obtain ⟨o, z⟩ := C.sr.pa b p
        exact ⟨o, ft.at_ b o p z⟩
    have fw : Fw P X.K ca Z H ca Z (upd H a (.frz ob (.lst vs))) := ⟨.refl, rfl, fun _ _ => rfl, ft, upd_al ha⟩
    exact Ss st sc X P ca Z _ σc _ _ hc' (C.fw fw R2 rfl) hS r Z' he1 D (q.after fw)
  · cases e1
theorem SRep.fgt {P : Addr → Prop} {K : PySem.W.Frag} {ρ : L2.St} (R : SRep P K ca σ Z ρ H fp) : ∀ (is : List Nat), ∃ fp', SRep P K ca (fgtS σ is) Z ρ H fp'
  | [] => ⟨fp, R⟩
  | v :: vs => by
    obtain ⟨fp', R'⟩ := SRep.fgt R vs
    show ∃ fp', SRep P K ca ((fgtS σ vs).set v .out) Z ρ H fp'
    by_cases hv : v < (fgtS σ vs).length
    · exact ⟨_, R'.put1 hv⟩
    · rw [List.set_eq_of_length_le (by omega)]
      exact ⟨fp', R'⟩
theorem fgt_sndS {is : List Nat} {ts : Ts} (Ss : SndSs bl Γ ts) : SndSs bl Γ (.cons (.fgt is) ts) := by
  intro st sc X P ca Z σ σc H fp hc C hS r Z' he D q
  have hc' : chkTs bl X.N sc ts st = true := by unfold chkTs at hc; exact hc
  unfold runs at he
  obtain ⟨o, Z1, e1, he1⟩ := bindS he
  unfold run at e1
  obtain ⟨e2, e3⟩ := okS e1
  subst e2 e3
  obtain ⟨fp', R'⟩ := C.sr.fgt is
  exact Ss st sc X P ca Z _ σc H fp' hc' ⟨C.ok, C.fns, R', C.ln⟩ hS r Z' he1 D q
/-! ### loops -/
theorem wpI_frz {X : Cx} {tg x : Expr} {σ : L2.St} {H : Hp} {R : L2.It → Hp → Prop} (h : wpI X tg x σ H fun J H1 => ∃ a vs, H1 a = some (.lst vs) ∧ ∀ o, R J (upd H1 a (.frz o (.lst vs)))) : wpI X tg x σ H R := fun pins s I =>
  wpAny_mono (h pins s I) (fun v s1 h1 => wpAny_mono h1 (fun it s2 ⟨p, fp, tn, J, H', e, I2, t, t0, hf, a, vs, ha, q⟩ => by
    obtain ⟨o, I3⟩ := I2.lock ha trivial
    refine ⟨p, fp, tn, J, _, e, I3, t, t0, fun b hb => ?_, q o⟩
    obtain ⟨z1, z2⟩ := hf b hb
    exact ⟨by rw [upd_ne (fun y => by rw [y, ha] at z1; cases z1)]; exact z1, z2⟩) fun _ _ z => z) fun _ _ z => z
/-- what is walked stands still from here on -/
def SrcAt (P : Addr → Prop) (K : PySem.W.Frag) (ca : Am) (Z : Sto) (ls : List VW) (vs : List V) (H : Hp) : Prop := ∀ ca2 H2, ca.le ca2 → Fut P K H H2 → RepWs K ca2 H2 (ls.map fun x => x.1.at Z) vs
theorem src_ok {ls : List VW} {vs : List V} (h : srcOk ls = true) (h2 : srcSt Z ls = true) (nf : ∀ xs, ls ≠ [(.c (.lst xs), .fr)]) (R : SRep P K ca σ Z σc H1 fp) (r : RepVs P K ca σc H H1 ls vs) : SrcAt P K ca Z ls vs H1 := by
  intro ca2 H2 le ft
  unfold srcOk at h
  split at h
  · exact r
  · rename_i d k
    obtain ⟨v, q, e, r1, r2⟩ := r
    have : q = [] := r2
    subst this
    refine ⟨v, [], e, ?_, rfl⟩
    have rd : RepD K ca H1 d v := r1.rep
    cases d with
    | fl xs => exact RepW.un (w := .c (.d (.fl xs))) ((rd.mono ft.tk).grow le)
    | ref n =>
      have hn : n < Z.fz := by simpa [srcSt] using h2
      obtain ⟨a, ea, hv⟩ : ∃ a, ca.i[n]? = some a ∧ v = .ref a := rd
      have hl : n < Z.cs.length := Nat.lt_of_lt_of_le hn R.fzl
      have e1 : Z.cs[n]? = some Z.cs[n] := List.getElem?_eq_getElem hl
      have q := R.cel n _ a e1 ea
      unfold ClRep at q
      rw [if_pos hn] at q
      show RepW _ K ca2 H2 (W.at Z (.c (.d (.ref n)))) v
      have : (Ev.W.c (.d (.ref n))).at Z = Z.cs[n] := by unfold W.at; simp only [e1]
      rw [this, hv]
      exact (q.1.mono ft fun _ _ => trivial).grow le
    | _ => exact (rd.mono ft.tk).grow le
  · rename_i w hne
    obtain ⟨v, q, e, r1, r2⟩ := r
    have : q = [] := r2
    subst this
    refine ⟨v, [], e, ?_, rfl⟩
    have rp : RepW P K ca H1 w v := r1.kd
    have ew : w.at Z = w := by
      cases w with
      | obj _ _ => rfl
      | c y => cases y with
        | d y => exact (hne y rfl).elim
        | _ => rfl
    show RepW _ K ca2 H2 (w.at Z) v
    rw [ew]
    exact (rp.mono ft fun _ _ => trivial).grow le
  · exact absurd rfl (nf _)
  · cases h
theorem for_snd {g : G} {it : Ev.It} {b : Ts} (Sb : SndSs bl Γ b) : SndS bl Γ (.for_ g it b) := by
  intro st sc X P ca Z σ σc H fp hc C hS o Z' he D q
  cases st with
  | For tg iter body orelse pos =>
    cases orelse with
    | cons _ _ => simp [chkT] at hc
    | nil =>
      have hc' : (tgOk it g && chkG false X.N sc g tg && chki bl X.N sc it iter && chkTs bl X.N sc b body) = true := by unfold chkT at hc; exact hc
      simp only [Bool.and_eq_true] at hc'
      obtain ⟨⟨⟨h1, h2⟩, h3⟩, h4⟩ := hc'
      unfold run at he
      obtain ⟨⟨xs, ls⟩, Z1, e1, he1⟩ := bindS he
      obtain ⟨e1', hz⟩ := upS e1
      subst hz
      simp only at he1
      split at he1
      · rename_i hsrc
        rw [Bool.and_eq_true] at hsrc
        have hl : ∀ i ∈ gSlots g, i < σc.length := fun i hi => by rw [C.ln]; exact gslots_lt h2 i hi
        have htt : (∃ j, g = .nm j) ∨ ∃ es k p, tg = .Tuple es k p := by
          cases g with
          | nm j => exact .inl ⟨j, rfl⟩
          | tup is => cases tg with
            | Tuple es k p => exact .inr ⟨es, k, p, rfl⟩
            | _ => simp [chkG] at h2
        refine wps_of (ps_for hS.own C.ok.calm pi_wp (pg_of C.ok (fun _ => hS.fn) h2) pss_wp (fun x => fold_of h3 _ x)) ?_
        -- the loop, from where what is walked stands still
        have main : ∀ (J : L2.It) (H1 : Hp) (vs : List V), Fw P X.K ca Z1 H ca Z1 H1 → SRep P X.K ca σ Z1 σc H1 fp → SrcAt P X.K ca Z1 ls vs H1 → ItOk X.K J xs (ls.map fun x => x.1.at Z1) vs →
            ∃ W : Nat → Nat → L2.St → Hp → Prop, (∃ m, W 0 m σc H1) ∧ ∀ i m σ H, W i m σ H → (J.stop i H ∧ D.nx σ H) ∨ (J.go i H ∧ ∃ W' : L2.St → Hp → Prop, (∀ σ' H', W' σ' H' → ∃ m', m' < m ∧ W (i + 1) m' σ' H') ∧ ∀ v H', J.yld i H v H' → gr X.K g v σ H' fun σ1 H2 => wpSs X body { nx := W', rt := D.rt, bk := D.nx, ct := W' } σ1 H2) := fun J H1 vs fw1 R1 hsrc2 hJ => by
          refine ⟨fun i m σc2 H2 => ∃ ca2 Z2 σ2 fp2, m = xs.length - i ∧ i ≤ xs.length ∧ σc2.length = σc.length ∧ Fw P X.K ca Z1 H1 ca2 Z2 H2 ∧ SRep P X.K ca2 σ2 Z2 σc2 H2 fp2 ∧
            forRun (fun x σ => setG g x σ) (runs Γ b) (xs.drop i) σ2 Z2 = some (.ok o Z'), ⟨xs.length, ca, Z1, σ, fp, by simp, Nat.zero_le _, rfl, .refl, R1, he1⟩, ?_⟩
          rintro i m σc2 H2 ⟨ca2, Z2, σ2, fp2, rfl, hi, l2, f2, R2, e3⟩
          have rw2 := hsrc2 ca2 H2 f2.le f2.fut
          obtain ⟨hgo, hstop⟩ := hJ ca2 H2 rw2
          by_cases hlt : i < xs.length
          · have hx : xs[i]? = some xs[i] := List.getElem?_eq_getElem hlt
            obtain ⟨go, yld⟩ := hgo i _ hx
            refine .inr ⟨go, fun σc3 H3 => ∃ ca3 Z3 σ3 fp3, σc3.length = σc.length ∧ Fw P X.K ca Z1 H1 ca3 Z3 H3 ∧ SRep P X.K ca3 σ3 Z3 σc3 H3 fp3 ∧
              forRun (fun x σ => setG g x σ) (runs Γ b) (xs.drop (i + 1)) σ3 Z3 = some (.ok o Z'), ?_, ?_⟩
            · rintro σc3 H3 ⟨ca3, Z3, σ3, fp3, a1, a2, a3, a4⟩
              exact ⟨xs.length - (i + 1), by omega, ca3, Z3, σ3, fp3, rfl, hlt, a1, a2, a3, a4⟩
            · intro v H3 hy
              obtain ⟨s3, rx⟩ := yld v H3 hy
              rw [List.drop_eq_getElem_cons hlt] at e3
              unfold forRun at e3
              cases eb : setG g xs[i] σ2 with
              | none => rw [eb] at e3; cases e3
              | some σ3 =>
                rw [eb] at e3
                simp only at e3
                obtain ⟨ob, Z4, e4, e5⟩ := bindS e3
                refine gr_ok (R2.mono s3) (fun j hj => by rw [l2]; exact hl j hj) eb rx fun σc3 fp3 l3 _ R3 _ => ?_
                have l3' : σc3.length = σc.length := l3.trans l2
                have f3 : Fw P X.K ca Z1 H1 ca2 Z2 H3 := f2.trans (.of_same s3)
                refine Sb body sc X P ca2 Z2 σ3 σc3 H3 fp3 h4 ⟨C.ok, by rw [← f2.le.1]; exact C.fns, R3, l3'.trans C.ln⟩ hS ob Z4 e4 _ ?_
                cases ob with
                | nx σ4 =>
                  intro σc4 ca4 H4 fp4 l4 f4 R4
                  exact ⟨ca4, Z4, σ4, fp4, l4.trans l3', f3.trans f4, R4, e5⟩
                | cnt σ4 =>
                  intro σc4 ca4 H4 fp4 l4 f4 R4
                  exact ⟨ca4, Z4, σ4, fp4, l4.trans l3', f3.trans f4, R4, e5⟩
                | brk σ4 =>
                  intro σc4 ca4 H4 fp4 l4 f4 R4
                  obtain ⟨e6, e7⟩ := okS e5
                  subst e6 e7
                  exact q σc4 ca4 H4 fp4 (l4.trans l3') (fw1.trans (f3.trans f4)) R4
                | ret w σ4 =>
                  obtain ⟨e6, e7⟩ := okS e5
                  subst e6 e7
                  intro v4 σc4 ca4 H4 fp4 f l4 f4 R4
                  exact q v4 σc4 ca4 H4 fp4 f (l4.trans l3') (fw1.trans (f3.trans f4)) R4
          · have e : i = xs.length := by omega
            subst e
            refine .inl ⟨hstop, ?_⟩
            rw [List.drop_length] at e3
            unfold forRun at e3
            obtain ⟨e6, e7⟩ := okS e3
            subst e6 e7
            exact q σc2 ca2 H2 fp2 l2 (fw1.trans f2) R2
        by_cases hfr : ∃ ys, ls = [(.c (.lst ys), .fr)]
        · obtain ⟨ys, rfl⟩ := hfr
          refine wpI_frz ?_
          refine it_snd (sndIt it) (tg := tg) h1 (fun i p z => by subst z; cases g with | nm j => exact ⟨j, rfl⟩ | tup is => simp [chkG] at h2) htt h3 C e1' fun J H1 vs s1 rv hJ => ?_
          obtain ⟨v, q9, ev, r1, r2⟩ := rv
          have : q9 = [] := r2
          subst this
          obtain ⟨f, ⟨a, us, ea, ha, rd, ef⟩, n2, _⟩ : ∃ fp, OwnW X.K ca H1 (.c (.lst ys)) v fp ∧ (∀ a ∈ fp, H a = none) ∧ fp.Nodup := r1.kd
          refine ⟨a, us, ha, fun ob => ?_⟩
          have na : H a = none := n2 a (by rw [ef]; simp)
          have sm : Same H (upd H1 a (.frz ob (.lst us))) := fun c u z => by
            rw [upd_ne (ne_of_none z na)]
            exact s1 c u z
          have tk : TK X.K H1 (upd H1 a (.frz ob (.lst us))) := frz_tk ha
          subst ea ev
          refine main J _ [.ref a] (.of_same sm) (C.sr.mono sm) (fun ca2 H2 le ft => ?_) hJ
          · refine ⟨.ref a, [], rfl, ?_, rfl⟩
            have z : RepD X.K ca (upd H1 a (.frz ob (.lst us))) (.fl ys) (.ref a) := ⟨a, ob, us, rfl, upd_same, rd.mono tk⟩
            exact RepW.un (w := .c (.d (.fl ys))) ((z.mono ft.tk).grow le)
        · refine it_snd (sndIt it) (tg := tg) h1 (fun i p z => by subst z; cases g with | nm j => exact ⟨j, rfl⟩ | tup is => simp [chkG] at h2) htt h3 C e1' fun J H1 vs s1 rv hJ => ?_
          have R1 := C.sr.mono s1
          exact main J H1 vs (.of_same s1) R1 (src_ok hsrc.1 hsrc.2 (fun ys z => hfr ⟨ys, z⟩) R1 rv) hJ
      · cases he1
  | _ => simp [chkT] at hc
theorem tst_ok {c : E} {b : Bool} (h : tstV (ev Γ Z c σ) = some (.ok b)) : ∃ w k, ev Γ Z c σ = some (.ok (w, k)) ∧ truth w = some (.ok b) := by
  unfold tstV at h
  obtain ⟨⟨w, k⟩, e1, h⟩ := bind_ok h
  exact ⟨w, k, e1, h⟩
theorem whil_snd {n : Nat} {c : E} {b : Ts} (Sb : SndSs bl Γ b) : SndS bl Γ (.whil n c b) := by
  intro st sc X P ca Z σ σc H fp hc C hS o Z' he D q
  cases st with
  | While x body orelse pos =>
    cases orelse with
    | cons _ _ => simp [chkT] at hc
    | nil =>
      have hc' : (tstOk c && chk bl X.N sc c x && chkTs bl X.N sc b body) = true := by unfold chkT at hc; exact hc
      simp only [Bool.and_eq_true] at hc'
      obtain ⟨⟨h0, h1⟩, h2⟩ := hc'
      unfold run at he
      refine wps_of (ps_while hS.own pt_wp pss_wp) ?_
      refine ⟨fun m σc2 H2 => ∃ ca2 Z2 σ2 fp2, σc2.length = σc.length ∧ Fw P X.K ca Z H ca2 Z2 H2 ∧ SRep P X.K ca2 σ2 Z2 σc2 H2 fp2 ∧ whilRun (fun σ S => tstV (ev Γ S c σ)) (runs Γ b) m σ2 Z2 = some (.ok o Z'), ⟨n, ca, Z, σ, fp, rfl, .refl, C.sr, he⟩, ?_⟩
      rintro m σc2 H2 ⟨ca2, Z2, σ2, fp2, l2, f2, R2, e2⟩
      cases m with
      | zero => unfold whilRun at e2; cases e2
      | succ m =>
        unfold whilRun at e2
        obtain ⟨bt, Z3, e3, e4⟩ := bindS e2
        obtain ⟨e3', hz⟩ := upS e3
        subst hz
        obtain ⟨w, k, e5, e6⟩ := tst_ok e3'
        have C2 := C.fw f2 R2 l2
        refine sndT c h0 x sc X P ca2 _ σ2 σc2 H2 fp2 h1 C2 w k bt e5 e6 _ fun H3 s3 => ?_
        have f3 : Fw P X.K ca Z H ca2 _ H3 := f2.trans (.of_same s3)
        cases bt with
        | false =>
          rw [if_neg Bool.false_ne_true]
          simp only [Bool.false_eq_true, if_false] at e4
          obtain ⟨e6, e7⟩ := okS e4
          subst e6 e7
          exact q σc2 ca2 H3 fp2 l2 f3 (R2.mono s3)
        | true =>
          rw [if_pos rfl]
          simp only [if_true] at e4
          obtain ⟨ob, Z4, e6, e7⟩ := bindS e4
          refine ⟨fun σc4 H4 => ∃ ca4 Z4 σ4 fp4, σc4.length = σc.length ∧ Fw P X.K ca Z H ca4 Z4 H4 ∧ SRep P X.K ca4 σ4 Z4 σc4 H4 fp4 ∧ whilRun (fun σ S => tstV (ev Γ S c σ)) (runs Γ b) m σ4 Z4 = some (.ok o Z'), ?_, ?_⟩
          · rintro σc4 H4 ⟨ca4, Z4, σ4, fp4, a⟩
            exact ⟨m, Nat.lt_succ_self m, ca4, Z4, σ4, fp4, a⟩
          · refine Sb body sc X P ca2 _ σ2 σc2 H3 fp2 h2 (C2.mono s3) hS ob Z4 e6 _ ?_
            rw [l2]
            cases ob with
            | nx σ4 =>
              intro σc4 ca4 H4 fp4 l4 f4 R4
              exact ⟨ca4, Z4, σ4, fp4, l4, f3.trans f4, R4, e7⟩
            | cnt σ4 =>
              intro σc4 ca4 H4 fp4 l4 f4 R4
              exact ⟨ca4, Z4, σ4, fp4, l4, f3.trans f4, R4, e7⟩
            | brk σ4 =>
              obtain ⟨e8, e9⟩ := okS e7
              subst e8 e9
              intro σc4 ca4 H4 fp4 l4 f4 R4
              exact q σc4 ca4 H4 fp4 l4 (f3.trans f4) R4
            | ret w σ4 =>
              obtain ⟨e8, e9⟩ := okS e7
              subst e8 e9
              intro v4 σc4 ca4 H4 fp4 f l4 f4 R4
              exact q v4 σc4 ca4 H4 fp4 f l4 (f3.trans f4) R4
  | _ => simp [chkT] at hc
theorem ghost_snd {t : T} (h : ∀ st N sc, chkT bl N sc t st = false) : SndS bl Γ t := by
  intro st sc X P ca Z σ σc H fp hc C hS o Z' he D q
  rw [h] at hc
  cases hc
mutual
theorem sndS : ∀ t : T, SndS bl Γ t
  | .asg _ _ => asg_snd
  | .aug _ _ _ => aug_snd
  | .setI _ _ _ => setI_snd
  | .mut _ _ _ => mut_snd
  | .fset _ _ _ => fset_snd
  | .faug _ _ _ _ => faug_snd
  | .nev => nev_snd
  | .expr _ => expr_snd
  | .ret _ => ret_snd
  | .retN => retN_snd
  | .ite _ a b => ite_snd (sndSs a) (sndSs b)
  | .for_ _ _ b => for_snd (sndSs b)
  | .whil _ _ b => whil_snd (sndSs b)
  | .brk => brk_snd
  | .cnt => cnt_snd
  | .pass => pass_snd
  | .frz _ => ghost_snd fun st N sc => by cases st <;> rfl
  | .fgt _ => ghost_snd fun st N sc => by cases st <;> rfl
theorem sndSs : ∀ ts : Ts, SndSs bl Γ ts
  | .nil => nil_sndS
  | .cons (.frz _) ts => frz_sndS (sndSs ts)
  | .cons (.fgt _) ts => fgt_sndS (sndSs ts)
  | .cons (.asg g a) ts => cons_sndS ⟨fun _ => nofun, fun _ => nofun⟩ (sndS (.asg g a)) (sndSs ts)
  | .cons (.aug a b c) ts => cons_sndS ⟨fun _ => nofun, fun _ => nofun⟩ (sndS (.aug a b c)) (sndSs ts)
  | .cons (.setI a b c) ts => cons_sndS ⟨fun _ => nofun, fun _ => nofun⟩ (sndS (.setI a b c)) (sndSs ts)
  | .cons (.mut a b c) ts => cons_sndS ⟨fun _ => nofun, fun _ => nofun⟩ (sndS (.mut a b c)) (sndSs ts)
  | .cons (.fset a b c) ts => cons_sndS ⟨fun _ => nofun, fun _ => nofun⟩ (sndS (.fset a b c)) (sndSs ts)
  | .cons (.faug a b c d) ts => cons_sndS ⟨fun _ => nofun, fun _ => nofun⟩ (sndS (.faug a b c d)) (sndSs ts)
  | .cons .nev ts => cons_sndS ⟨fun _ => nofun, fun _ => nofun⟩ (sndS .nev) (sndSs ts)
  | .cons (.expr a) ts => cons_sndS ⟨fun _ => nofun, fun _ => nofun⟩ (sndS (.expr a)) (sndSs ts)
  | .cons (.ret a) ts => cons_sndS ⟨fun _ => nofun, fun _ => nofun⟩ (sndS (.ret a)) (sndSs ts)
  | .cons .retN ts => cons_sndS ⟨fun _ => nofun, fun _ => nofun⟩ (sndS .retN) (sndSs ts)
  | .cons (.ite c a b) ts => cons_sndS ⟨fun _ => nofun, fun _ => nofun⟩ (sndS (.ite c a b)) (sndSs ts)
  | .cons (.for_ a b c) ts => cons_sndS ⟨fun _ => nofun, fun _ => nofun⟩ (sndS (.for_ a b c)) (sndSs ts)
  | .cons (.whil a b c) ts => cons_sndS ⟨fun _ => nofun, fun _ => nofun⟩ (sndS (.whil a b c)) (sndSs ts)
  | .cons .brk ts => cons_sndS ⟨fun _ => nofun, fun _ => nofun⟩ (sndS .brk) (sndSs ts)
  | .cons .cnt ts => cons_sndS ⟨fun _ => nofun, fun _ => nofun⟩ (sndS .cnt) (sndSs ts)
  | .cons .pass ts => cons_sndS ⟨fun _ => nofun, fun _ => nofun⟩ (sndS .pass) (sndSs ts)
end
end
end Ev
/-! Ev14: defs, methods, constructors. -/
namespace Ev
open PySem PySem.Spec
open PyProof.Rows hiding St
open L2
section
variable {Pg : Program} {w : World} {K : PySem.W.Frag} {mg : Str → Option Value} {base : Heap} {cc : Nat → Addr}
/-- what the names of the text are worth, up to a level: in every frame with room -/
def EnvOk (Pg : Program) (w : World) (K : PySem.W.Frag) (mg : Str → Option Value) (base : Heap) (cc : Nat → Addr) (k : Nat) (Γ : Gam) : Prop :=
  ∀ X : Cx, X.prog = Pg → X.w = w → X.K = K → X.mg = mg → X.base = base → Room k X.A → FnsOk X cc Γ
theorem EnvOk.mono {j k : Nat} {Γ : Gam} (h : EnvOk Pg w K mg base cc j Γ) (l : j ≤ k) : EnvOk Pg w K mg base cc k Γ := fun X h1 h2 h3 h4 h5 hr => h X h1 h2 h3 h4 h5 (hr.mono l)
/-- one more name, by any rule -/
def ext (Γ : Gam) (f : Str) (g : Sto → List W → MS W) : Gam := fun x => if x = f then some g else Γ x
theorem ext_same {Γ : Gam} {f : Str} {g : Sto → List W → MS W} : ext Γ f g f = some g := if_pos rfl
theorem ext_ne {Γ : Gam} {f x : Str} {g : Sto → List W → MS W} (h : x ≠ f) : ext Γ f g x = Γ x := if_neg h
def Gm0 : Gam := fun _ => none
theorem EnvOk.zero {k : Nat} : EnvOk Pg w K mg base cc k Gm0 := fun _ _ _ _ _ _ _ _ _ _ _ _ _ _ _ _ e => by cases e
theorem EnvOk.rule {k : Nat} {Γ : Gam} {f : Str} {g : Sto → List W → MS W} (h : EnvOk Pg w K mg base cc k Γ) (r : ∀ X : Cx, X.prog = Pg → X.w = w → X.K = K → X.mg = mg → X.base = base → Room k X.A → EntOk X cc f g) :
    EnvOk Pg w K mg base cc k (ext Γ f g) := fun X h1 h2 h3 h4 h5 hr Y e1 e2 e3 e4 e5 e6 x g' e => by
  unfold ext at e
  by_cases hx : x = f
  · simp only [hx, if_true, Option.some.injEq] at e
    subst e hx
    exact r Y (e1.trans h1) (e2.trans h2) (e3.trans h3) (e4.trans h4) (e5.trans h5) (by rw [e6]; exact hr)
  · simp only [hx, if_false] at e
    exact h X h1 h2 h3 h4 h5 hr Y e1 e2 e3 e4 e5 e6 x g' e
theorem arr_tail {x y : Nat} {a b : Array Nat} (h : (#[x] ++ a) = #[y] ++ b) : x = y ∧ a = b := by
  have h1 : (#[x] ++ a).toList = (#[y] ++ b).toList := by rw [h]
  simp at h1
  exact ⟨h1.1, h1.2⟩
theorem str_tail {x y : Nat} {a b : Str} (h : (⟨#[x] ++ a.cps⟩ : Str) = ⟨#[y] ++ b.cps⟩) : x = y ∧ a = b := by
  have h1 : #[x] ++ a.cps = #[y] ++ b.cps := by injection h
  obtain ⟨h2, h3⟩ := arr_tail h1
  refine ⟨h2, ?_⟩
  cases a; cases b
  simp at h3
  rw [h3]
theorem mkey_inj {c c' : Nat} {m m' : Str} (h : mkey c m = mkey c' m') : c = c' ∧ m = m' := by
  obtain ⟨h1, h2⟩ := str_tail h
  exact ⟨by omega, h2⟩
theorem fkey_inj {c c' : Nat} {m m' : Str} (h : fkey c m = fkey c' m') : c = c' ∧ m = m' := by
  obtain ⟨h1, h2⟩ := str_tail h
  exact ⟨by omega, h2⟩
theorem ikey_inj {c c' : Nat} {m m' : Str} (h : ikey c m = ikey c' m') : c = c' ∧ m = m' := by
  obtain ⟨h1, h2⟩ := str_tail h
  exact ⟨by omega, h2⟩
theorem fkey_mkey {c c' : Nat} {m m' : Str} (h : fkey c m = mkey c' m') : False := by
  obtain ⟨h1, _⟩ := str_tail h
  omega
theorem fkey_ikey {c c' : Nat} {m m' : Str} (h : fkey c m = ikey c' m') : False := by
  obtain ⟨h1, _⟩ := str_tail h
  omega
theorem mkey_ikey {c c' : Nat} {m m' : Str} (h : mkey c m = ikey c' m') : False := by
  obtain ⟨h1, _⟩ := str_tail h
  omega
/-- a def -/
theorem EnvOk.fn {j k : Nat} {Γ : Gam} {f : Str} {g : Sto → List W → MS W} {fa : Addr} {fd : FuncData} {ps : List Str} (h : EnvOk Pg w K mg base cc j Γ) (F : FnOk Pg w K mg base (L2.CX Pg w) k fa fd ps (spI K cc g)) (hl : j ≤ k) (hm : mg f = some (.ref fa)) (hk : PySem.W.keepIn K (.ref fa) = true) (hb : L2.Binds K fd ps [])
    (hp : isPl f = true := by decide +kernel) : EnvOk Pg w K mg base cc k (ext Γ f g) := (h.mono hl).rule fun X h1 h2 h3 h4 h5 hr => by
  subst h1 h2 h3 h4 h5
  exact ⟨fun _ => .of_fn F hr hm hk hb, fun c x e => (by rw [e, isPl_fkey] at hp; cases hp), fun c x e => (by rw [e, isPl_mkey] at hp; cases hp), fun x e => (by rw [e, isPl_ikey] at hp; cases hp)⟩
theorem meth_rule {X : Cx} {C : Addr} {k : Nat} {m : Str} {f : Addr} {fd : FuncData} {ps : List Str} {sp : L2.Sp} (F : FnOk X.prog X.w X.K X.mg X.base (L2.CX X.prog X.w) k f fd ps sp) (hr : Room k X.A) (hc : Cls X.K C) (hm : Meth X.K C m f) (hb : Binds X.K fd ps []) : MethOk X C m sp :=
  ⟨fun o ap pos ta ho h0 hl => pe_meth0 (ds := []) (dvs := []) ho hc hm F hr hb .nil passL (meth_eval h0 hl rfl (by decide)),
   fun o e es ap pos ta t ho ha h0 hl hn hst hb1 hb2 => pe_meth (ds := []) (dvs := []) ho hc hm F hr hb .nil passL ha hst hb2 (meth_eval h0 hl hb1 hn)⟩
/-- a method -/
theorem EnvOk.me {j k c : Nat} {Γ : Gam} {m : Str} {g : Sto → List W → MS W} {fa : Addr} {fd : FuncData} {ps : List Str} (h : EnvOk Pg w K mg base cc j Γ) (F : FnOk Pg w K mg base (L2.CX Pg w) k fa fd ps (spI K cc g)) (hl : j ≤ k) (hc : Cls K (cc c)) (hm : Meth K (cc c) m fa) (hb : L2.Binds K fd ps []) :
    EnvOk Pg w K mg base cc k (ext Γ (mkey c m) g) := (h.mono hl).rule fun X h1 h2 h3 h4 h5 hr => by
  subst h1 h2 h3 h4 h5
  refine ⟨fun hp => (by rw [isPl_mkey] at hp; cases hp), fun c' x e => (fkey_mkey e.symm).elim, fun c' x e => ?_, fun x e => (mkey_ikey e).elim⟩
  obtain ⟨e1, e2⟩ := mkey_inj e
  subst e1 e2
  exact meth_rule F hr hc hm hb
/-- a field -/
theorem EnvOk.fl {k c : Nat} {Γ : Gam} {f : Str} (h : EnvOk Pg w K mg base cc k Γ) (hc : Cls K (cc c)) (hn : NoAttr K (cc c) f) : EnvOk Pg w K mg base cc k (ext Γ (fkey c f) fun _ _ => none) := h.rule fun X h1 h2 h3 h4 h5 hr => by
  subst h1 h2 h3 h4 h5
  refine ⟨fun hp => (by rw [isPl_fkey] at hp; cases hp), fun c' x e => ?_, fun c' x e => (fkey_mkey e).elim, fun x e => (fkey_ikey e).elim⟩
  obtain ⟨e1, e2⟩ := fkey_inj e
  subst e1 e2
  exact ⟨hc, hn⟩
/-- how a def starts -/
theorem start_rep {ca : Am} {S : Sto} {fq : Nat → List Addr} {H : Hp} {ws : List W} {vs : List V} {N : List Str} (st : StRep K ca S H fq H fq) (al : ∀ n, ∀ a ∈ fq n, ∃ o, H a = some o) (r : RepWp (Lv H fq) K ca H ws vs) (hl : ws.length ≤ N.length) :
    SRep (Lv H fq) K ca (ws.map Sl.ro ++ List.replicate (N.length - ws.length) Sl.out) S (L2.start N vs) H (fun j => if j % 2 = 0 then [] else fq (j / 2)) := by
  have hlen := r.length
  have hev : ∀ i, (fun j => if j % 2 = 0 then [] else fq (j / 2)) (2 * i) = [] := fun i => if_pos (by omega)
  have hod : ∀ n, (fun j => if j % 2 = 0 then [] else fq (j / 2)) (2 * n + 1) = fq n := fun n => by
    show (if (2 * n + 1) % 2 = 0 then [] else fq ((2 * n + 1) / 2)) = _
    rw [if_neg (by omega)]
    congr 1
    omega
  generalize hfp : (fun j => if j % 2 = 0 then [] else fq (j / 2)) = fp at hev hod ⊢
  have half : ∀ j, (∃ i, j = 2 * i) ∨ ∃ n, j = 2 * n + 1 := fun j => by
    rcases Nat.mod_two_eq_zero_or_one j with hj | hj
    · exact .inl ⟨j / 2, by omega⟩
    · exact .inr ⟨j / 2, by omega⟩
  have get : ∀ (ws : List W) (vs : List V), RepWp (Lv H fq) K ca H ws vs → ∀ (i : Nat) (w : W), ws[i]? = some w → ∃ v, vs[i]? = some v ∧ RepW (Lv H fq) K ca H w v := by
    intro ws
    induction ws with
    | nil => intro vs _ i w e; simp at e
    | cons y ws ih =>
      intro vs r i w e
      obtain ⟨v, q, e1, h1, h2⟩ := r
      subst e1
      cases i with
      | zero => simp at e; subst e; exact ⟨v, rfl, h1⟩
      | succ i =>
        obtain ⟨u, q1, q2⟩ := ih q h2 i w (by simpa using e)
        exact ⟨u, by simpa using q1, q2⟩
  refine ⟨by simp [L2.start, hlen], fun i t e => ?_, st.sln, st.fzl, fun n w a e1 e2 => by rw [hod]; exact st.cel n w a e1 e2, fun i j hij a ha => ?_, fun j => ?_, fun j a ha p => ?_, fun i _ => hev i, fun n hn => by rw [hod]; exact st.far n hn, fun a p => p.1⟩
  · rw [hev]
    by_cases hi : i < ws.length
    · rw [List.getElem?_append_left (by simpa using hi), List.getElem?_map] at e
      cases ew : ws[i]? with
      | none => rw [ew] at e; cases e
      | some w0 =>
        rw [ew] at e
        cases e
        obtain ⟨v, e3, r3⟩ := get ws vs r i w0 ew
        refine ⟨v, ?_, r3, rfl⟩
        unfold L2.start
        rw [List.getElem?_append_left (by rw [List.length_map, hlen]; exact hi), List.getElem?_map, e3]
        rfl
    · rw [List.getElem?_append_right (by simpa using hi)] at e
      rw [List.getElem?_replicate] at e
      split at e
      · cases e; rfl
      · cases e
  · rcases half i with ⟨i, rfl⟩ | ⟨i, rfl⟩
    · rw [hev] at ha; cases ha
    · rw [hod] at ha
      rcases half j with ⟨j, rfl⟩ | ⟨j, rfl⟩
      · rw [hev]; simp
      · rw [hod]; exact st.dj i j (by omega) a ha
  · rcases half j with ⟨j, rfl⟩ | ⟨j, rfl⟩
    · rw [hev]; exact List.nodup_nil
    · rw [hod]; exact st.nd j
  · rcases half j with ⟨j, rfl⟩ | ⟨j, rfl⟩
    · rw [hev] at ha; cases ha
    · rw [hod] at ha; exact p.2 j ha
/-- how a def ends -/
theorem end_after {ca ca' : Am} {S S' : Sto} {fq : Nat → List Addr} {H H' : Hp} {σ : List Sl} {ρ : L2.St} {fp' : Nat → List Addr} (fw : Fw (Lv H fq) K ca S H ca' S' H') (R : SRep (Lv H fq) K ca' σ S' ρ H' fp') : After K ca S H fq ca' S' H' (odd fp') :=
  ⟨fw.le, fw.fz, fw.pre, fw.fut.tk, fun a u z hn => fw.fut.at_ a u ⟨⟨u, z⟩, hn⟩ z, fw.al, fun n a ha => by
    cases e : H a with
    | none => exact .inr rfl
    | some u =>
      by_cases hm : ∃ m, a ∈ fq m
      · exact .inl hm
      · exact absurd ⟨⟨u, e⟩, fun n z => hm ⟨n, z⟩⟩ (R.np _ a ha),
   ⟨R.sln, R.fzl, fun n w a e1 e2 => R.cel n w a e1 e2, fun i j h => R.dj _ _ (by omega), fun i => R.nd _, fun n hn => R.far2 n hn⟩⟩
theorem end_back {ca' : Am} {fq : Nat → List Addr} {H H' : Hp} {fp' : Nat → List Addr} {w : W} {v : V} {f : List Addr} (o : OwnW K ca' H' w v f) (nd : f.Nodup) (np : ∀ a ∈ f, ¬ Lv H fq a) (dj : ∀ j, ∀ a ∈ f, a ∉ fp' j) : BackI K ca' H fq H' (odd fp') w v := by
  unfold BackI
  split
  · exact o.rep fun _ _ => trivial
  · refine ⟨f, o, fun a ha => ?_, fun n a ha => dj _ a ha, nd⟩
    cases e : H a with
    | none => exact .inl rfl
    | some u =>
      by_cases hm : ∃ m, a ∈ fq m
      · exact .inr hm
      · exact absurd ⟨⟨u, e⟩, fun n z => hm ⟨n, z⟩⟩ (np a ha)
/-- THE RULE for a def: its text by the small language, its worth by the evaluator -/
theorem fn_ok {x qual : Str} {st : Stmt} {f : Addr} {fd : FuncData} {N ps : List Str} {k : Nat} {bl : List Str} {Γ : Gam} (F : Fun K x qual st f fd) (S : FnScope N ps (defScope st)) (b : Ts) (g : Sto → List W → MS W)
    (hc : chkTs bl N (defScope st) b (defBody st) = true) (hb : ∀ y ∈ bl, mg y = none) (hΓ : EnvOk Pg w K mg base cc k Γ) (hg : ∀ Z ws r Z', g Z ws = some (.ok r Z') → ws.length = ps.length ∧ fnRun Γ N.length b Z ws = some (.ok r Z')) :
    FnOk Pg w K mg base (L2.CX Pg w) (k + 1) f fd ps (spI K cc g) := by
  refine F.okX S (fun vs H Q E h => ?_) (fun cdv A outer s H vs Q E hr h => ?_)
  · obtain ⟨ca, Z, fq, ws, w, Z', h0, h1, h2, h3, h4, _⟩ := h
    rw [h3.length]
    exact (hg Z ws w Z' h4).1
  · obtain ⟨ca, Z, fq, ws, r, Z', h0, h1, h2, h3, h4, q⟩ := h
    obtain ⟨hl, hr2⟩ := hg Z ws r Z' h4
    refine ⟨_, pss_wp, ?_⟩
    unfold fnRun at hr2
    obtain ⟨o, Z1, e1, e2⟩ := bindS hr2
    generalize hX : cxOf (L2.CX Pg w) Pg w K mg base N qual (defScope st) f cdv A outer s H E = X
    have hlen := h3.length
    have hpn : ps.length ≤ N.length := by have := congrArg List.length S.pre; rw [List.length_take] at this; omega
    have ok : Cok bl (defScope st) X := by
      rw [← hX]
      exact ⟨rfl, S.nd, rfl, Nat.lt_of_le_of_lt (by rw [Nat.add_assoc]; exact Nat.add_le_add_left (by omega) _) hr.un, hb, S.kind⟩
    have fns : FnsOk X ca.c Γ := by
      rw [← hX, h0]
      exact hΓ _ rfl rfl rfl rfl rfl hr
    have sok : Sok X := by
      rw [← hX]
      exact ⟨fun _ => rfl, passes_of rfl⟩
    have hk : X.K = K := by rw [← hX]; rfl
    have sr : SRep (Lv H fq) X.K ca (ws.map Sl.ro ++ List.replicate (N.length - ws.length) Sl.out) Z (L2.start N vs) H (fun j => if j % 2 = 0 then [] else fq (j / 2)) := by
      rw [hk]
      exact start_rep h1 h2 h3 (by omega)
    have ln : (L2.start N vs).length = X.N.length := by
      rw [← hX]
      show (L2.start N vs).length = N.length
      simp [L2.start, hlen]
      omega
    refine sndSs b (defBody st) (defScope st) X (Lv H fq) ca Z _ (L2.start N vs) H _ (by rw [← hX]; exact hc) ⟨ok, fns, sr, ln⟩ sok o Z1 e1 _ ?_
    cases o with
    | nx σ' =>
      obtain ⟨e3, e4⟩ := okS e2
      subst e3 e4
      intro σc' ca' H' fp' l' fw R'
      rw [hk] at fw R'
      exact q .non ca' H' (odd fp') (end_after fw R') rfl
    | ret w0 σ' =>
      obtain ⟨e3, e4⟩ := okS e2
      subst e3 e4
      intro v σc' ca' H' fp' f l' fw R' o' n' p' d'
      rw [hk] at fw R' o'
      exact q v ca' H' (odd fp') (end_after fw R') (end_back o' n' p' d')
    | brk _ => cases e2
    | cnt _ => cases e2
/-! ### constructors -/
section
variable {ca : Am} {H : Hp}
mutual
theorem RepD.below_ : ∀ {x : D} {v : V}, RepD K ca H x v → below ca.i.length x = true
  | .non, _, _ => rfl
  | .bl _, _, _ => rfl
  | .int _, _, _ => rfl
  | .str _, _, _ => rfl
  | .tup xs, v, h => by
    unfold RepD at h
    obtain ⟨a, vs, e, q, r⟩ := h
    simpa [below] using RepDs.below_ r
  | .fl xs, v, h => by
    unfold RepD at h
    obtain ⟨a, o, vs, e, q, r⟩ := h
    simpa [below] using RepDs.below_ r
  | .ref n, v, h => by
    unfold RepD at h
    obtain ⟨a, e, q⟩ := h
    simpa [below] using (List.getElem?_eq_some_iff.mp e).1
theorem RepDs.below_ : ∀ {xs : List D} {vs : List V}, RepDs K ca H xs vs → belows ca.i.length xs = true
  | [], _, _ => rfl
  | x :: xs, vs, h => by
    unfold RepDs at h
    obtain ⟨v, r, e, h1, h2⟩ := h
    simp [belows, RepD.below_ h1, RepDs.below_ h2]
end
theorem OwnC.below_ : ∀ {x : C} {v : V} {f : List Addr}, OwnC K ca H x v f → belowC ca.i.length x = true
  | .d x, v, fp, ⟨h, e⟩ => h.below_
  | .lst xs, v, fp, ⟨a, vs, e, h, r, ef⟩ => r.below_
  | .dK kvs, v, fp, ⟨a, vs, e, h, k, r, ef⟩ => r.below_
  | .dT kvs, v, fp, ⟨a, vs, e, h, k, r, ef⟩ => r.below_
theorem OwnFs.below_ {fs' : List (Str × V)} : ∀ {fs : List (Str × C)} {f : List Addr}, OwnFs K ca H fs' fs f → fs.all (fun p => belowC ca.i.length p.2) = true
  | [], _, _ => rfl
  | (f, x) :: r, fp, ⟨v, fp1, fp2, l, h1, h2, e⟩ => by
    rw [List.all_cons, h1.below_, OwnFs.below_ h2]
    rfl
theorem OwnW.below_ : ∀ {x : W} {v : V} {f : List Addr}, OwnW K ca H x v f → belowW ca.i.length x = true
  | .c x, _, _, h => OwnC.below_ h
  | .obj c fs, v, fp, ⟨a, dx, fs', fp', e, h, q, nd, l, ef⟩ => q.below_
end
theorem CallOk.of_class {X : Cx} {x : Str} {c : Nat} {f : Addr} {fd : FuncData} {ps : List Str} {k : Nat} {gi : Sto → List W → MS W} (M : Mk X.K (cc c) f) (F : FnOk X.prog X.w X.K X.mg X.base (L2.CX X.prog X.w) k f fd ps (spI X.K cc gi)) (hr : Room (k + 1) X.A) (hm : X.mg x = some (.ref (cc c))) (hb : Binds X.K fd ps []) : CallOk X x (spI X.K cc (mkOf c gi)) := fun hg h3 => by
  have key : ∀ (vs : List V) (H1 : Hp) (Q : VK), spI X.K cc (mkOf c gi) vs H1 Q E0 → ∀ y dx, H1 y = none → H1 dx = none → dx ≠ y → spI X.K cc gi (.ref y :: (vs ++ [])) (upd (upd H1 dx (.own y)) y (.ins (cc c) dx [])) (fun v H2 => v = .non ∧ Q (.ref y) H2) E0 := fun vs H1 Q h y dx hy hd hne => by
    obtain ⟨ca, S, fq, ws, w, S2, h0, st, al, rw', eg, q⟩ := h
    unfold mkOf at eg
    split at eg
    · rename_i S' egi
      split at eg
      · rename_i w1 ew1
        split at eg
        · rename_i hcond
          obtain ⟨hc1, hc2, hc3⟩ := hcond
          obtain ⟨e1, e2⟩ := okS eg
          subst e1 e2
          generalize hH2 : upd (upd H1 dx (.own y)) y (.ins (cc c) dx []) = H2
          have s1 : Same H1 H2 := fun b u z => by
            rw [← hH2, upd_ne (ne_of_none z hy), upd_ne (ne_of_none z hd)]
            exact z
          have hyH : H2 y = some (.ins (cc c) dx []) := by rw [← hH2]; exact upd_same
          have le : ca.le ⟨ca.c, ca.i ++ [y]⟩ := ⟨rfl, fun n x e => by
            show (ca.i ++ [y])[n]? = some x
            rw [List.getElem?_append_left (List.getElem?_eq_some_iff.mp e).1]
            exact e⟩
          have nyf : ∀ n, y ∉ fq n := fun n z => by
            obtain ⟨o, u⟩ := al n y z
            rw [hy] at u; cases u
          have lv : ∀ a, Lv H1 fq a → Lv H2 (fun m => if m = S.cs.length then [y] else fq m) a := fun a ⟨⟨o, u⟩, hn⟩ => ⟨⟨o, s1 a o u⟩, fun n z => by
            by_cases hn2 : n = S.cs.length
            · simp only [hn2, if_true] at z
              have : a = y := by simpa using z
              subst this
              rw [hy] at u; cases u
            · simp only [hn2, if_false] at z
              exact hn n z⟩
          have args : ∀ (ws : List W) (vs : List V), RepWp (Lv H1 fq) X.K ca H1 ws vs → RepWp (Lv H2 (fun m => if m = S.cs.length then [y] else fq m)) X.K ⟨ca.c, ca.i ++ [y]⟩ H2 ws vs := by
            intro ws
            induction ws with
            | nil => intro vs h; exact h
            | cons w ws ih =>
              intro vs h
              obtain ⟨v, r, e, h1, h2⟩ := h
              exact ⟨v, r, e, (h1.mono (.of_same s1) lv).grow le, ih r h2⟩
          refine ⟨⟨ca.c, ca.i ++ [y]⟩, ⟨S.cs ++ [.obj c []], S.fz⟩, fun m => if m = S.cs.length then [y] else fq m, .c (.d (.ref S.cs.length)) :: ws, .non, S', h0, ⟨by simp [st.sln], by simpa using Nat.le_succ_of_le st.fzl, fun m w' b e1 e2 => ?_, fun i j hij a ha => ?_, fun i => ?_, fun m hm => ?_⟩, fun n a ha => ?_, ?_, egi, fun v ca' H' fq' af bk => ?_⟩
          · by_cases hm : m = S.cs.length
            · subst hm
              have e1' : w' = .obj c [] := by simpa using e1.symm
              have e2' : b = y := by
                have : (ca.i ++ [y])[ca.i.length]? = some b := by rw [← st.sln]; exact e2
                simpa using this.symm
              subst e1' e2'
              simp only [if_true]
              unfold ClRep
              rw [if_neg (show ¬ S.cs.length < S.fz by have := st.fzl; omega)]
              exact ⟨b, dx, [], [], rfl, by rw [hyH, ← h0], rfl, List.nodup_nil, ⟨fun _ _ => rfl, rfl⟩, rfl⟩
            · have hlt : m < S.cs.length := by
                have := (List.getElem?_eq_some_iff.mp e1).1
                simp at this
                omega
              simp only [hm, if_false]
              have e1' : S.cs[m]? = some w' := by
                have e3 : (S.cs ++ [Ev.W.obj c []])[m]? = some w' := e1
                rwa [List.getElem?_append_left hlt] at e3
              have e2' : ca.i[m]? = some b := by
                have e3 : (ca.i ++ [y])[m]? = some b := e2
                rwa [List.getElem?_append_left (by rw [← st.sln]; exact hlt)] at e3
              have q := st.cel m w' b e1' e2'
              unfold ClRep at q ⊢
              split
              · rename_i hz
                rw [if_pos hz] at q
                exact ⟨(q.1.mono (.of_same s1) lv).grow le, q.2⟩
              · rename_i hz
                rw [if_neg hz] at q
                exact (q.stay (.of_same s1) fun a _ u z => s1 a u z).grow le
          · by_cases hi : i = S.cs.length
            · have hj : j ≠ S.cs.length := fun z => hij (hi.trans z.symm)
              simp only [hi, if_true] at ha
              simp only [hj, if_false]
              have : a = y := by simpa using ha
              subst this
              exact nyf j
            · simp only [hi, if_false] at ha
              by_cases hj : j = S.cs.length
              · simp only [hj, if_true]
                intro z
                have : a = y := by simpa using z
                subst this
                exact nyf i ha
              · simp only [hj, if_false]
                exact st.dj i j hij a ha
          · by_cases hi : i = S.cs.length
            · simp [hi]
            · simp only [hi, if_false]; exact st.nd i
          · have hm' : S.cs.length + 1 ≤ m := by simpa using hm
            have : m ≠ S.cs.length := by omega
            simp only [this, if_false]
            exact st.far m (by omega)
          · by_cases hn : n = S.cs.length
            · simp only [hn, if_true] at ha
              have : a = y := by simpa using ha
              subst this
              exact ⟨_, hyH⟩
            · simp only [hn, if_false] at ha
              obtain ⟨o, u⟩ := al n a ha
              exact ⟨o, s1 a o u⟩
          · refine ⟨.ref y, vs ++ [], rfl, ⟨y, ?_, rfl⟩, by rw [List.append_nil]; exact args ws vs rw'⟩
            show (ca.i ++ [y])[S.cs.length]? = some y
            rw [st.sln]
            simp
          · have ev : v = .non := bk
            refine ⟨ev, ?_⟩
            have subH : ∀ n, ∀ a ∈ fq' n, (∃ m, a ∈ fq m) ∨ H1 a = none := fun n a ha => by
              rcases af.sub n a ha with ⟨m, z⟩ | z
              · by_cases hm : m = S.cs.length
                · simp only [hm, if_true] at z
                  have : a = y := by simpa using z
                  subst this
                  exact .inr hy
                · simp only [hm, if_false] at z
                  exact .inl ⟨m, z⟩
              · exact .inr (s1.free z)
            have stH : ∀ a u, H1 a = some u → (∀ n, a ∉ fq n) → H' a = some u := fun a u z hn => af.st a u (s1 a u z) (lv a ⟨⟨u, z⟩, hn⟩).2
            have tkH : TK X.K H1 H' := (TK.of_same s1).trans af.tk
            have ftH : Fut (Lv H1 fq) X.K H1 H' := ⟨tkH, fun a o p z => stH a o z p.2⟩
            have hn : S.cs.length ≤ ca.i.length := Nat.le_of_eq st.sln
            have le' : ca.le ca' := le.trans af.le
            have hlen : S'.cs.length = S.cs.length + 1 := by rw [hc1]; simp
            have hy' : ca'.i[S.cs.length]? = some y := af.le.2 _ _ (by
              show (ca.i ++ [y])[S.cs.length]? = some y
              rw [st.sln]
              simp)
            have hf' : S'.fz = S.fz := af.fz
            have hfz := st.fzl
            have q0 := af.rep.cel S.cs.length w1 y ew1 hy'
            unfold ClRep at q0
            rw [if_neg (show ¬ S.cs.length < S'.fz by rw [hf']; omega)] at q0
            refine q (.ref y) ca H' (fun m => if m < S.cs.length then fq' m else []) ⟨.refl, rfl, fun _ _ => rfl, tkH, stH, fun a z => s1.free (af.al a z), fun n a ha => ?_, ⟨st.sln, st.fzl, fun m w' b e1 e2 => ?_, fun i j hij a ha => ?_, fun i => ?_, fun m hm => ?_⟩⟩ ?_
            · by_cases hn2 : n < S.cs.length
              · simp only [hn2, if_true] at ha
                exact subH n a ha
              · simp [hn2] at ha
            · have hlt : m < S.cs.length := (List.getElem?_eq_some_iff.mp e1).1
              simp only [hlt, if_true]
              have e1' : S'.cs[m]? = some w' := by
                rw [hc1, List.getElem?_append_left hlt]
                exact e1
              have e2' := le'.2 m b e2
              have q1 := af.rep.cel m w' b e1' e2'
              have q2 := st.cel m w' b e1 e2
              unfold ClRep at q1 q2 ⊢
              by_cases hz : m < S.fz
              · rw [if_pos (show m < S'.fz by rw [hf']; exact hz)] at q1
                rw [if_pos hz] at q2 ⊢
                exact ⟨q2.1.mono ftH fun _ p => p, q1.2⟩
              · rw [if_neg (show ¬ m < S'.fz by rw [hf']; exact hz)] at q1
                rw [if_neg hz] at q2 ⊢
                have hb2 := OwnW.below_ q2
                rw [← st.sln] at hb2
                exact q1.shrink le' hn hb2
            · by_cases hi : i < S.cs.length
              · simp only [hi, if_true] at ha
                by_cases hj : j < S.cs.length
                · simp only [hj, if_true]
                  exact af.rep.dj i j hij a ha
                · simp [hj]
              · simp [hi] at ha
            · by_cases hi : i < S.cs.length
              · simp only [hi, if_true]; exact af.rep.nd i
              · simp [hi]
            · have : ¬ m < S.cs.length := by omega
              simp [this]
            · unfold BackI
              rw [hc2]
              refine ⟨fq' S.cs.length, q0.shrink le' hn hc3, fun a ha => (subH _ a ha).symm, fun n a ha => ?_, af.rep.nd _⟩
              by_cases hn2 : n < S.cs.length
              · simp only [hn2, if_true]
                exact af.rep.dj _ _ (by omega) a ha
              · simp [hn2]
        · cases eg
      · cases eg
    · cases eg
  have pimp : ∀ {e : Expr} {t t' : TE}, PE X e t → (∀ σ H Q, t' σ H Q → t σ H Q) → PE X e t' := fun h i => ⟨fun pins s σ H Q I q => h.run pins s σ H Q I (i σ H Q q)⟩
  have pam : ∀ {es : List Expr} {t : TA}, PA X es t → PA X es (fun σ H R => ∃ S, t σ H S ∧ ∀ vs H1, S vs H1 → R vs H1) := fun h => ⟨fun pos pins s σ H R I ⟨S, q1, q2⟩ =>
    wpAny_mono (h.run pos pins s σ H S I q1) (fun _ _ ⟨vs, H1, I1, r1, z⟩ => ⟨vs, H1, I1, r1, q2 vs H1 z⟩) fun _ _ z => z⟩
  refine ⟨fun p pos => ?_, fun e es p pos t ha h1 h2 => ?_⟩
  · refine pimp (pe_make0 (ds := []) (dvs := []) (E := E0) M F hr hg hm hb .nil passL h3) fun σ H Q q => ?_
    exact fun y dx hy hd hne => key [] H Q q y dx hy hd hne
  · refine pimp (pe_make (ds := []) (dvs := []) (E := E0) M F hr hg hm hb .nil passL (pam ha) h3 h1 h2) fun σ H Q q => ?_
    refine ⟨fun vs H1 => spI X.K cc (mkOf c gi) (vs ++ []) H1 Q E0, q, fun vs H1 z => ?_⟩
    have z' : spI X.K cc (mkOf c gi) (vs ++ []) H1 Q E0 := z
    rw [List.append_nil] at z'
    exact fun y dx hy hd hne => key vs H1 Q z' y dx hy hd hne
/-- a class -/
theorem EnvOk.cls {j k c : Nat} {Γ : Gam} {x : Str} {gi : Sto → List W → MS W} {fa : Addr} {fd : FuncData} {ps : List Str} (h : EnvOk Pg w K mg base cc j Γ) (M : Mk K (cc c) fa) (F : FnOk Pg w K mg base (L2.CX Pg w) k fa fd ps (spI K cc gi)) (hl : j ≤ k + 1) (hm : mg x = some (.ref (cc c))) (hb : L2.Binds K fd ps [])
    (hp : isPl x = true := by decide +kernel) : EnvOk Pg w K mg base cc (k + 1) (ext Γ x (mkOf c gi)) := (h.mono hl).rule fun X h1 h2 h3 h4 h5 hr => by
  subst h1 h2 h3 h4 h5
  exact ⟨fun _ => .of_class M F hr hm hb, fun c x e => (by rw [e, isPl_fkey] at hp; cases hp), fun c x e => (by rw [e, isPl_mkey] at hp; cases hp), fun x e => (by rw [e, isPl_ikey] at hp; cases hp)⟩
end
end Ev
/-! Ev15: how the evaluator is run in a proof. -/
namespace Ev
open PySem PySem.Spec
open PyProof.Rows hiding St
open L2
theorem bok {α β : Type} (a : α) (f : α → M β) : M.bind (some (.ok a)) f = f a := rfl
theorem mok {α : Type} (a : α) : M.ok a = some (.ok a) := rfl
theorem bokS {α β : Type} (a : α) (S : Sto) (f : α → Sto → MS β) : MS.bind (some (.ok a S)) f = f a S := rfl
theorem mokS {α : Type} (a : α) (S : Sto) : MS.ok a S = some (.ok a S) := rfl
theorem upok {α : Type} (a : α) (S : Sto) : M.up (some (.ok a)) S = some (.ok a S) := rfl
theorem guardP_pos {α : Type} {p : Prop} {k : M α} (h : p) : guardP p k = k := if_pos h
theorem guardN_pos {α : Type} {n : Nat} {k : M α} (h : n ≤ 16777216) : guardN n k = k := guardP_pos (by rw [sizeLine_eq]; exact h)
theorem putS_pos {σ : List Sl} {i : Nat} {s : Sl} (h : i < σ.length) : putS σ i s = some (σ.set i s) := if_pos h
/-- a def as it runs -/
noncomputable def fnG (Γ : Gam) (m n : Nat) (b : Ts) : Sto → List W → MS W := fun S ws => if ws.length = m then fnRun Γ n b S ws else none
theorem fnG_ok {Γ : Gam} {m n : Nat} {b : Ts} {S : Sto} {ws : List W} {r : MS W} (hl : ws.length = m) (h : fnRun Γ n b S ws = r) : fnG Γ m n b S ws = r := (if_pos hl).trans h
theorem fnG_hg {Γ : Gam} {m n : Nat} {b : Ts} (S : Sto) (ws : List W) (r : W) (S' : Sto) (h : fnG Γ m n b S ws = some (.ok r S')) : ws.length = m ∧ fnRun Γ n b S ws = some (.ok r S') := by
  unfold fnG at h
  split at h
  · rename_i e; exact ⟨e, h⟩
  · cases h
/-- a comprehension's list -/
theorem lcRun_map {bind : D → Option (List Sl)} {test : List Sl → M Bool} {elt : List Sl → M VW} (p : D → Bool) (f : D → D) : ∀ (xs : List D), (∀ x ∈ xs, ∃ σ, bind x = some σ ∧ test σ = some (.ok (p x)) ∧ (p x = true → ∃ k, elt σ = some (.ok (.c (.d (f x)), k)))) →
    lcRun bind test elt xs = some (.ok ((xs.filter p).map f))
  | [], _ => rfl
  | x :: xs, h => by
    obtain ⟨σ, h1, h2, h3⟩ := h x List.mem_cons_self
    have ih := lcRun_map p f xs fun y hy => h y (List.mem_cons_of_mem _ hy)
    unfold lcRun
    rw [h1]
    simp only [h2, bok]
    cases e : p x with
    | true =>
      obtain ⟨k, h3⟩ := h3 e
      simp only [if_true, h3, bok, ih, List.filter_cons, e, List.map_cons]
      rfl
    | false =>
      simp only [Bool.false_eq_true, if_false, ih, List.filter_cons, e]
/-- .. over written items -/
theorem lcRun_mapT {bind : D → Option (List Sl)} {elt : List Sl → M VW} (f : D → D) (xs : List D) (h : ∀ x ∈ xs, ∃ σ, bind x = some σ ∧ ∃ k, elt σ = some (.ok (.c (.d (f x)), k))) :
    lcRun bind (fun _ => some (.ok true)) elt xs = some (.ok (xs.map f)) := by
  rw [lcRun_map (fun _ => true) f xs fun x hx => let ⟨σ, h1, h2⟩ := h x hx; ⟨σ, h1, rfl, fun _ => h2⟩, List.filter_eq_self.mpr (by simp)]
theorem rngD_get {lo : Int} {n i : Nat} {x : D} (h : (rngD lo n)[i]? = some x) : i < n ∧ x = .int (lo + (i : Int)) := by
  unfold rngD at h
  rw [List.getElem?_map] at h
  cases e : (List.range n)[i]? with
  | none => rw [e] at h; cases h
  | some c =>
    rw [e] at h
    cases h
    obtain ⟨hi, e2⟩ := List.getElem?_eq_some_iff.mp e
    simp at hi e2
    subst e2
    exact ⟨hi, rfl⟩
theorem rngD_mem {lo : Int} {n : Nat} {x : D} (h : x ∈ rngD lo n) : ∃ i : Nat, i < n ∧ x = .int (lo + (i : Int)) := by
  obtain ⟨i, hi, e⟩ := List.mem_iff_getElem.mp h
  obtain ⟨h1, h2⟩ := rngD_get (i := i) (x := x) (lo := lo) (n := n) (by rw [List.getElem?_eq_getElem hi, e])
  exact ⟨i, h1, h2⟩
theorem rngD_length {lo : Int} {n : Nat} : (rngD lo n).length = n := by simp [rngD]
theorem atI_lt {α : Type} {xs : List α} {i : Nat} (h : i < xs.length) : L2.atI xs (i : Int) = some xs[i] := L2.atI_nat (List.getElem?_eq_getElem h)
theorem atI_int {α : Type} {xs : List α} {i : Int} (h0 : 0 ≤ i) (h : i < xs.length) : ∃ x, xs[i.toNat]? = some x ∧ L2.atI xs i = some x := by
  have hl : i.toNat < xs.length := by omega
  refine ⟨xs[i.toNat], List.getElem?_eq_getElem hl, ?_⟩
  have := L2.atI_nat (xs := xs) (j := i.toNat) (List.getElem?_eq_getElem hl)
  rwa [show ((i.toNat : Nat) : Int) = i by omega] at this
/-! ### slices by numbers that are not negative -/
theorem sIx_pos (n d : Nat) {v : Int} (h : 0 ≤ v) : HT.sIx n d (some v) = min v.toNat n := by
  have e : v = ((v.toNat : Nat) : Int) := by omega
  conv => lhs; rw [e]
  exact HT.sIx_nat n d v.toNat
theorem cutD_pos {xs : List D} {i j : Int} (hi : 0 ≤ i) (hj : 0 ≤ j) : cutD xs (some i) (some j) = (xs.take j.toNat).drop i.toNat := by
  unfold cutD
  rw [sIx_pos _ _ hi, sIx_pos _ _ hj, List.drop_take]
  by_cases h1 : i.toNat ≤ xs.length
  · rw [Nat.min_eq_left h1]
    by_cases h2 : j.toNat ≤ xs.length
    · rw [Nat.min_eq_left h2]
    · rw [Nat.min_eq_right (by omega), List.take_of_length_le (by simp), List.take_of_length_le (by simp; omega)]
  · rw [Nat.min_eq_right (by omega : xs.length ≤ i.toNat)]
    rw [List.drop_eq_nil_of_le (Nat.le_refl _), List.drop_eq_nil_of_le (by omega : xs.length ≤ i.toNat)]
    simp
theorem cutD_to {xs : List D} {j : Int} (hj : 0 ≤ j) : cutD xs none (some j) = xs.take j.toNat := by
  unfold cutD
  rw [sIx_pos _ _ hj, HT.sIx_none]
  simp only [List.drop_zero, Nat.sub_zero]
  by_cases h2 : j.toNat ≤ xs.length
  · rw [Nat.min_eq_left h2]
  · rw [Nat.min_eq_right (by omega), List.take_of_length_le (Nat.le_refl _), List.take_of_length_le (by omega)]
theorem cutD_from {xs : List D} {i : Int} (hi : 0 ≤ i) : cutD xs (some i) none = xs.drop i.toNat := by
  unfold cutD
  rw [sIx_pos _ _ hi, HT.sIx_none]
  by_cases h1 : i.toNat ≤ xs.length
  · rw [Nat.min_eq_left h1, List.take_of_length_le (by simp)]
  · rw [Nat.min_eq_right (by omega), List.drop_eq_nil_of_le (Nat.le_refl _), List.drop_eq_nil_of_le (by omega : xs.length ≤ i.toNat)]
    simp
/-! ### what may be compared -/
mutual
def okD : Nat → D → Bool
  | _, .non => true
  | _, .bl _ => true
  | _, .int _ => true
  | _, .str x => PyData.strOk x
  | 0, .tup _ => false
  | n + 1, .tup xs => okDs n xs
  | 0, .fl _ => false
  | n + 1, .fl xs => okDs n xs
  | _, .ref _ => false
def okDs : Nat → List D → Bool
  | _, [] => true
  | n, x :: xs => okD n x && okDs n xs
end
mutual
theorem okD_lay : ∀ (n : Nat) (x : D), okD n x = true → PyData.canLay0 (toPy x) = true ∧ PyData.depth (toPy x) ≤ n
  | _, .non, _ => ⟨rfl, Nat.zero_le _⟩
  | _, .bl _, _ => ⟨rfl, Nat.zero_le _⟩
  | _, .int _, _ => ⟨rfl, Nat.zero_le _⟩
  | n, .str x, h => by
    have h : PyData.strOk x = true := by cases n <;> simpa [okD] using h
    exact ⟨by simpa [toPy, PyData.canLay0] using h, Nat.zero_le _⟩
  | 0, .tup xs, h => by simp [okD] at h
  | n + 1, .tup xs, h => by
    have h' : okDs n xs = true := by simpa [okD] using h
    obtain ⟨h1, h2⟩ := okDs_lay n xs h'
    refine ⟨by simpa [toPy, PyData.canLay0] using h1, ?_⟩
    simp only [toPy, PyData.depth]
    omega
  | 0, .fl xs, h => by simp [okD] at h
  | n + 1, .fl xs, h => by
    have h' : okDs n xs = true := by simpa [okD] using h
    obtain ⟨h1, h2⟩ := okDs_lay n xs h'
    refine ⟨by simpa [toPy, PyData.canLay0] using h1, ?_⟩
    simp only [toPy, PyData.depth]
    omega
  | n, .ref _, h => by cases n <;> simp [okD] at h
theorem okDs_lay : ∀ (n : Nat) (xs : List D), okDs n xs = true → PyData.canLayAll0 (toPys xs) = true ∧ PyData.depthAll (toPys xs) ≤ n
  | n, [], _ => ⟨rfl, Nat.zero_le _⟩
  | n, x :: xs, h => by
    have h' : okD n x = true ∧ okDs n xs = true := by simpa [okDs] using h
    obtain ⟨h1, h2⟩ := okD_lay n x h'.1
    obtain ⟨h3, h4⟩ := okDs_lay n xs h'.2
    refine ⟨by simp [toPys, PyData.canLayAll0, h1, h3], ?_⟩
    simp only [toPys, PyData.depthAll]
    omega
end
mutual
theorem okD_py : ∀ (n : Nat) (x : D), okD n x = true → pyOk x = true
  | _, .non, _ => rfl
  | _, .bl _, _ => rfl
  | _, .int _, _ => rfl
  | _, .str _, _ => rfl
  | 0, .tup xs, h => by simp [okD] at h
  | n + 1, .tup xs, h => by
    have h' : okDs n xs = true := by simpa [okD] using h
    simpa [pyOk] using okDs_py n xs h'
  | 0, .fl xs, h => by simp [okD] at h
  | n + 1, .fl xs, h => by
    have h' : okDs n xs = true := by simpa [okD] using h
    simpa [pyOk] using okDs_py n xs h'
  | n, .ref _, h => by cases n <;> simp [okD] at h
theorem okDs_py : ∀ (n : Nat) (xs : List D), okDs n xs = true → pyOks xs = true
  | n, [], _ => rfl
  | n, x :: xs, h => by
    have h' : okD n x = true ∧ okDs n xs = true := by simpa [okDs] using h
    simp [pyOks, okD_py n x h'.1, okDs_py n xs h'.2]
end
theorem okDs_all {n : Nat} {xs : List D} : okDs n xs = true ↔ ∀ x ∈ xs, okD n x = true := by
  induction xs with
  | nil => simp [okDs]
  | cons x xs ih => simp [okDs, ih]
theorem shaped_D {n : Nat} {x : D} (h : okD n x = true) (hn : n ≤ 64) : SeqAt.shaped (toPy x) = true := by
  obtain ⟨h1, h2⟩ := okD_lay n x h
  unfold SeqAt.shaped
  rw [h1, decide_eq_true (by omega)]
  rfl
theorem shaped_L {n : Nat} {xs : List D} (h : okDs n xs = true) (hn : n ≤ 63) : SeqAt.shaped (.list (toPys xs)) = true := by
  obtain ⟨h1, h2⟩ := okDs_lay n xs h
  unfold SeqAt.shaped
  have e1 : PyData.canLay0 (.list (toPys xs)) = true := by simpa [PyData.canLay0] using h1
  have e2 : PyData.depth (.list (toPys xs)) ≤ 64 := by simp only [PyData.depth]; omega
  rw [e1, decide_eq_true e2]
  rfl
theorem eqW_D {n : Nat} {x y : D} (h : okD n x = true) (h' : okD n y = true) (hn : n ≤ 64) : eqW (.c (.d x)) (.c (.d y)) = some (.ok (PyData.eqv (toPy x) (toPy y))) := by
  unfold eqW wPy
  simp only [okD_py n x h, okD_py n y h', if_true]
  rw [guardP_pos ⟨shaped_D h hn, shaped_D h' hn⟩]
  rfl
theorem eqW_L {n : Nat} {xs ys : List D} (h : okDs n xs = true) (h' : okDs n ys = true) (hn : n ≤ 63) : eqW (.c (.lst xs)) (.c (.lst ys)) = some (.ok (PyData.eqvAll (toPys xs) (toPys ys))) := by
  unfold eqW wPy
  simp only [okDs_py n xs h, okDs_py n ys h', if_true]
  rw [guardP_pos ⟨shaped_L h hn, shaped_L h' hn⟩]
  simp only [PyData.eqv]
  rfl
mutual
theorem eqv_toPy : ∀ x : D, PyData.eqv (toPy x) (toPy x) = true
  | .non => rfl
  | .bl b => by simp [toPy, PyData.eqv]
  | .int i => by simp [toPy, PyData.eqv]
  | .str x => by simp [toPy, PyData.eqv]
  | .tup xs => by simp only [toPy, PyData.eqv]; exact eqvAll_toPys xs
  | .fl xs => by simp only [toPy, PyData.eqv]; exact eqvAll_toPys xs
  | .ref _ => rfl
theorem eqvAll_toPys : ∀ xs : List D, PyData.eqvAll (toPys xs) (toPys xs) = true
  | [] => rfl
  | x :: xs => by simp only [toPys, PyData.eqvAll, eqv_toPy x, eqvAll_toPys xs]; rfl
end
/-! ### what comes of a run -/
def WP {α : Type} (x : MS α) (Q : α → Sto → Prop) : Prop := ∃ a S, x = some (.ok a S) ∧ Q a S
section
variable {Γ : Gam} {t : T} {ts a b : Ts} {c : I} {σ σ' : List Sl} {S S' : Sto} {o : Out} {w : W} {g : G} {it : It} {xs : List D} {ls : List VW} {Q : Out → Sto → Prop} {k : Bool}
/-- one statement, told -/
theorem WP.seq (h1 : run Γ t σ S = some (.ok (.nx σ') S')) (h2 : WP (runs Γ ts σ' S') Q) : WP (runs Γ (.cons t ts) σ S) Q := by
  obtain ⟨o, S2, e, q⟩ := h2
  refine ⟨o, S2, ?_, q⟩
  unfold runs
  rw [h1, bokS]
  exact e
/-- one statement, by what comes of it -/
theorem WP.cons (h : WP (run Γ t σ S) fun o S' => match o with
    | .nx σ' => WP (runs Γ ts σ' S') Q
    | .ret w σ' => Q (.ret w σ') S'
    | .brk σ' => Q (.brk σ') S'
    | .cnt σ' => Q (.cnt σ') S') : WP (runs Γ (.cons t ts) σ S) Q := by
  obtain ⟨o, S1, e, q⟩ := h
  cases o with
  | nx σ' =>
    obtain ⟨o2, S2, e2, q2⟩ := q
    refine ⟨o2, S2, ?_, q2⟩
    unfold runs
    rw [e, bokS]
    exact e2
  | ret w σ' => exact ⟨_, S1, by unfold runs; rw [e, bokS]; rfl, q⟩
  | brk σ' => exact ⟨_, S1, by unfold runs; rw [e, bokS]; rfl, q⟩
  | cnt σ' => exact ⟨_, S1, by unfold runs; rw [e, bokS]; rfl, q⟩
theorem WP.nil (q : Q (.nx σ) S) : WP (runs Γ .nil σ S) Q := ⟨_, S, by unfold runs; rfl, q⟩
theorem WP.last (h : run Γ t σ S = some (.ok o S')) (hn : ∀ σ, o ≠ .nx σ) (q : Q o S') : WP (runs Γ (.cons t ts) σ S) Q := by
  refine ⟨o, S', ?_, q⟩
  unfold runs
  rw [h, bokS]
  cases o with
  | nx σ => exact absurd rfl (hn σ)
  | _ => rfl
theorem WP.ret {ts : Ts} {a : I} {w : W} (h : run Γ (.ret a) σ S = some (.ok (.ret w σ') S')) (q : Q (.ret w σ') S') : WP (runs Γ (.cons (.ret a) ts) σ S) Q := WP.last h (fun _ => nofun) q
theorem WP.of {x : MS Out} (h : x = some (.ok o S')) (q : Q o S') : WP x Q := ⟨o, S', h, q⟩
theorem WP.imp {α : Type} {x : MS α} {Q Q' : α → Sto → Prop} (h : WP x Q) (i : ∀ a S, Q a S → Q' a S) : WP x Q' := let ⟨a, S, e, q⟩ := h; ⟨a, S, e, i a S q⟩
theorem WP.ite (h : tstI' (evI Γ c σ S) = some (.ok k S')) (ht : k = true → WP (runs Γ a σ S') Q) (hf : k = false → WP (runs Γ b σ S') Q) : WP (run Γ (.ite c a b) σ S) Q := by
  unfold WP run
  rw [h, bokS]
  cases k with
  | true => exact ht rfl
  | false => exact hf rfl
/-- a loop, by what holds between its turns -/
theorem WP.for_ (I : Nat → List Sl → Sto → Prop) (hi : evi Γ S it σ = some (.ok (xs, ls))) (hs : (srcOk ls && srcSt S ls) = true) (h0 : I 0 σ S)
    (step : ∀ (i : Nat) (x : D) (σ : List Sl) (S : Sto), xs[i]? = some x → I i σ S → ∃ σ1, setG g x σ = some σ1 ∧ WP (runs Γ b σ1 S) fun o S' => match o with
      | .nx σ' => I (i + 1) σ' S'
      | .cnt σ' => I (i + 1) σ' S'
      | .brk σ' => Q (.nx σ') S'
      | .ret w σ' => Q (.ret w σ') S')
    (fin : ∀ σ' S', I xs.length σ' S' → Q (.nx σ') S') : WP (run Γ (.for_ g it b) σ S) Q := by
  have key : ∀ (ys : List D) (n : Nat) (σ : List Sl) (S : Sto), (∀ j, ys[j]? = xs[n + j]?) → n + ys.length = xs.length → I n σ S → WP (forRun (fun x σ => setG g x σ) (runs Γ b) ys σ S) Q := by
    intro ys
    induction ys with
    | nil =>
      intro n σ S _ hl hI
      have : n = xs.length := by simpa using hl
      exact ⟨_, S, rfl, fin σ S (by rw [← this]; exact hI)⟩
    | cons y ys ih =>
      intro n σ S hy hl hI
      obtain ⟨σ1, e1, o, S1, e2, q⟩ := step n y σ S (by have := hy 0; simpa using this.symm) hI
      unfold WP forRun
      rw [e1]
      simp only [e2, bokS]
      have nxt : ∀ σ2, I (n + 1) σ2 S1 → WP (forRun (fun x σ => setG g x σ) (runs Γ b) ys σ2 S1) Q := fun σ2 h => ih (n + 1) σ2 S1 (fun j => by have := hy (j + 1); simpa [Nat.add_assoc, Nat.add_comm 1 j] using this) (by simp at hl ⊢; omega) h
      cases o with
      | nx σ2 => exact nxt σ2 q
      | cnt σ2 => exact nxt σ2 q
      | brk σ2 => exact ⟨_, S1, rfl, q⟩
      | ret w σ2 => exact ⟨_, S1, rfl, q⟩
  unfold WP run
  rw [hi, upok, bokS]
  simp only
  rw [if_pos hs]
  exact key xs 0 σ S (fun j => by simp) (by simp) h0
/-- a while, by a measure -/
theorem WP.whil {n : Nat} {e : E} (I : List Sl → Sto → Prop) (m : List Sl → Sto → Nat) (h0 : I σ S) (hm : m σ S < n)
    (step : ∀ (σ : List Sl) (S : Sto), I σ S → ∃ k, tstV (ev Γ S e σ) = some (.ok k) ∧ (k = false → Q (.nx σ) S) ∧ (k = true → WP (runs Γ b σ S) fun o S' => match o with
      | .nx σ' => I σ' S' ∧ m σ' S' < m σ S
      | .cnt σ' => I σ' S' ∧ m σ' S' < m σ S
      | .brk σ' => Q (.nx σ') S'
      | .ret w σ' => Q (.ret w σ') S')) : WP (run Γ (.whil n e b) σ S) Q := by
  have key : ∀ (n : Nat) (σ : List Sl) (S : Sto), I σ S → m σ S < n → WP (whilRun (fun σ S => tstV (ev Γ S e σ)) (runs Γ b) n σ S) Q := by
    intro n
    induction n with
    | zero => intro σ S _ h; omega
    | succ n ih =>
      intro σ S hI hm
      obtain ⟨k, e1, h1, h2⟩ := step σ S hI
      unfold WP whilRun
      simp only [e1, upok, bokS]
      cases k with
      | false => exact ⟨_, S, rfl, h1 rfl⟩
      | true =>
        obtain ⟨o, S1, e2, q⟩ := h2 rfl
        simp only [if_true, e2, bokS]
        cases o with
        | nx σ2 => exact ih σ2 S1 q.1 (by omega)
        | cnt σ2 => exact ih σ2 S1 q.1 (by omega)
        | brk σ2 => exact ⟨_, S1, rfl, q⟩
        | ret w σ2 => exact ⟨_, S1, rfl, q⟩
  unfold WP run
  exact key n σ S h0 hm
/-- a def, by what comes of its body -/
theorem WP.fn {n : Nat} {b : Ts} {ws : List W} {R : W → Sto → Prop} (h : WP (runs Γ b (ws.map Sl.ro ++ List.replicate (n - ws.length) Sl.out) S) fun o S' => match o with
    | .ret w _ => R w S'
    | .nx _ => R .non S'
    | _ => False) : WP (fnRun Γ n b S ws) R := by
  obtain ⟨o, S1, e, q⟩ := h
  unfold WP fnRun
  rw [e, bokS]
  cases o with
  | ret w σ => exact ⟨w, S1, rfl, q⟩
  | nx σ => exact ⟨.non, S1, rfl, q⟩
  | brk _ => exact q.elim
  | cnt _ => exact q.elim
theorem WP.fnG {n m : Nat} {b : Ts} {ws : List W} {R : W → Sto → Prop} (hl : ws.length = m) (h : WP (fnRun Γ n b S ws) R) : WP (fnG Γ m n b S ws) R := by
  unfold Ev.fnG
  rw [if_pos hl]
  exact h
end
theorem mapM_nil : List.mapM wD ([] : List W) = some [] := rfl
theorem mapM_cons1 (x : D) (r : List W) : List.mapM wD (W.c (C.d x) :: r) = (List.mapM wD r).map (x :: ·) := by
  rw [List.mapM_cons]
  cases List.mapM wD r <;> rfl
theorem lcRun_evc {Γ : Gam} {S : Sto} {bind : D → Option (List Sl)} {elt : List Sl → M VW} (f : D → D) (xs : List D) (h : ∀ x ∈ xs, ∃ σ, bind x = some σ ∧ ∃ k, elt σ = some (.ok (.c (.d (f x)), k))) :
    lcRun bind (evc Γ S .none) elt xs = some (.ok (xs.map f)) := by
  rw [lcRun_map (fun _ => true) f xs fun x hx => let ⟨σ, h1, h2⟩ := h x hx; ⟨σ, h1, by unfold evc; rfl, fun _ => h2⟩, List.filter_eq_self.mpr (by simp)]
theorem intsD_map : ∀ l : List Int, intsD (l.map D.int) = some l
  | [] => rfl
  | i :: l => by rw [List.map_cons, intsD, intsD_map l]; rfl
theorem strsD_map : ∀ l : List Str, strsD (l.map D.str) = some l
  | [] => rfl
  | i :: l => by rw [List.map_cons, strsD, strsD_map l]; rfl
theorem ev_lc {Γ : Gam} {S : Sto} {own : List (Str × Nat)} {g : G} {it : It} {cs : Eo} {e : E} {σ : List Sl} {xs ys : List D} {ls : List VW} (hi : evi Γ S it σ = some (.ok (xs, ls))) (hn : xs.length ≤ 16777216)
    (h : lcRun (fun x => setG g x (wipeS σ (own.map (·.2)))) (evc Γ S cs) (ev Γ S e) xs = some (.ok ys)) : ev Γ S (.lc own g it cs e) σ = some (.ok (.lst ys, .fr)) := by
  unfold ev
  rw [hi, bok]
  simp only
  rw [guardN_pos hn, h, bok]
  rfl
end Ev
/-! Ev16: texts by their signs, look-ups, more tools. -/
namespace Ev
open PySem PySem.Spec
open PyProof.Rows hiding St
open L2
/-- numbers drawn -/
def drawn (c p : Int) : Int := (fun n : Int => n * (n / 1009 + 69621) % 2147483647) ((c + 7919 * p + 1) * 48271 % 2147483647)
theorem drawn_pos (c p : Int) : 0 ≤ drawn c p := Int.emod_nonneg _ (by decide)
theorem drawn_lt (c p : Int) : drawn c p < 2147483647 := Int.emod_lt_of_pos _ (by decide)
/-! ### texts -/
theorem cutS_S (l : List Nat) (lo hi : Option Int) : cutS (SX.S l) lo hi = SX.S ((l.drop (HT.sIx l.length 0 lo)).take (HT.sIx l.length l.length hi - HT.sIx l.length 0 lo)) := by
  unfold cutS
  rw [SX.S_len]
theorem cutS_to {l : List Nat} {j : Int} (hj : 0 ≤ j) : cutS (SX.S l) none (some j) = SX.S (l.take j.toNat) := by
  rw [cutS_S, sIx_pos _ _ hj, HT.sIx_none]
  simp only [List.drop_zero, Nat.sub_zero]
  by_cases h2 : j.toNat ≤ l.length
  · rw [Nat.min_eq_left h2]
  · rw [Nat.min_eq_right (by omega), List.take_of_length_le (Nat.le_refl _), List.take_of_length_le (by omega)]
theorem cutS_from {l : List Nat} {i : Int} (hi : 0 ≤ i) : cutS (SX.S l) (some i) none = SX.S (l.drop i.toNat) := by
  rw [cutS_S, sIx_pos _ _ hi, HT.sIx_none]
  by_cases h1 : i.toNat ≤ l.length
  · rw [Nat.min_eq_left h1, List.take_of_length_le (by simp)]
  · rw [Nat.min_eq_right (by omega), List.drop_eq_nil_of_le (Nat.le_refl _), List.drop_eq_nil_of_le (by omega : l.length ≤ i.toNat)]
    simp
theorem cutS_pos {l : List Nat} {i j : Int} (hi : 0 ≤ i) (hj : 0 ≤ j) : cutS (SX.S l) (some i) (some j) = SX.S ((l.take j.toNat).drop i.toNat) := by
  rw [cutS_S, sIx_pos _ _ hi, sIx_pos _ _ hj, List.drop_take]
  by_cases h1 : i.toNat ≤ l.length
  · rw [Nat.min_eq_left h1]
    by_cases h2 : j.toNat ≤ l.length
    · rw [Nat.min_eq_left h2]
    · rw [Nat.min_eq_right (by omega), List.take_of_length_le (by simp), List.take_of_length_le (by simp; omega)]
  · rw [Nat.min_eq_right (by omega : l.length ≤ i.toNat)]
    rw [List.drop_eq_nil_of_le (Nat.le_refl _), List.drop_eq_nil_of_le (by omega : l.length ≤ i.toNat)]
    simp
theorem S_app (a b : List Nat) : SX.S a ++ SX.S b = SX.S (a ++ b) := SX.S_cat a b
theorem joinL_nil : ∀ ys : List (List Nat), TL.joinL [] ys = ys.flatten
  | [] => rfl
  | [x] => by simp [TL.joinL]
  | x :: y :: r => by
    have ih := joinL_nil (y :: r)
    simp only [TL.joinL] at ih ⊢
    simp [ih]
theorem flat_ones (l : List Nat) : (l.map fun c => [c]).flatten = l := by
  induction l with
  | nil => rfl
  | cons c l ih => simp [ih]
theorem join_sg (l : List Nat) : Txt.join (SX.S []) (l.map fun c => SX.S [c]) = SX.S l := by
  have e : (l.map fun c => SX.S [c]) = (l.map fun c => [c]).map SX.S := by rw [List.map_map]; rfl
  rw [e, SX.join_S, joinL_nil, flat_ones]
theorem empty_S : ("" : Str) = SX.S [] := rfl
theorem S_eq_iff {a b : List Nat} : SX.S a = SX.S b ↔ a = b := ⟨SX.S_inj, fun h => by rw [h]⟩
theorem S_ok {l : List Nat} (h : ∀ c ∈ l, c < 1114112) : PyData.strOk (SX.S l) = true := by
  unfold PyData.strOk
  rw [← Array.all_toList]
  simpa using h
theorem sg_def (c : Nat) : (⟨#[c]⟩ : Str) = SX.S [c] := rfl
theorem S_cps (l : List Nat) : (SX.S l).cps.toList = l := rfl
/-! ### entries -/
theorem callOf {Γ : Gam} {f : Str} {g : Sto → List W → MS W} {S : Sto} {es : Es} {σ : List Sl} {ws : List W} {w : W} {Z : Sto} (hΓ : Γ f = some g) (he : evs Γ S es σ = some (.ok ws)) (hg : g S.hold ws = some (.ok w Z)) (hb : belowW S.cs.length w = true) : ev Γ S (.call f es) σ = some (.ok (w, kdOf w)) := by
  unfold ev
  rw [hΓ]
  simp only [he, bok, hg, pureOf, hb, if_true]
  rfl
theorem mcallOf {Γ : Gam} {m : Str} {c : Nat} {fs : List (Str × C)} {g : Sto → List W → MS W} {S : Sto} {o : E} {es : Es} {σ : List Sl} {x : VW} {ws : List W} {w : W} {Z : Sto} (ho : ev Γ S o σ = some (.ok x)) (ha : x.1.at S = .obj c fs) (hΓ : Γ (mkey c m) = some g) (hn : fs.lookup m = none) (he : evs Γ S es σ = some (.ok ws)) (hg : g S.hold (x.1 :: ws) = some (.ok w Z)) (hb : belowW S.cs.length w = true) : ev Γ S (.mcall o m es) σ = some (.ok (w, kdOf w)) := by
  unfold ev
  rw [ho, bok]
  simp only [ha, hΓ, hn, he, bok, hg, pureOf, hb, if_true]
  rfl
/-- a field of data, or one that is held in a thing that stands still -/
theorem fldOf {Γ : Gam} {f : Str} {c n : Nat} {fs : List (Str × C)} {g : Sto → List W → MS W} {S : Sto} {o : E} {σ : List Sl} {k : Kd} {w : C} (ho : ev Γ S o σ = some (.ok (.c (.d (.ref n)), k))) (ha : S.cs[n]? = some (.obj c fs)) (hΓ : Γ (fkey c f) = some g) (hl : fs.lookup f = some w) : ev Γ S (.fld o f) σ = match w with
    | .d d => some (.ok (.c (.d d), .ro))
    | w => some (.ok (.c w, if n < S.fz then .ro else .sf n f)) := by
  unfold ev
  rw [ho, bok]
  simp only [W.at, ha, hΓ, hl, fldK]
  cases w with
  | d d => rfl
  | _ => by_cases hz : n < S.fz <;> simp only [hz, if_true, if_false] <;> rfl
theorem mkOf_ok {c : Nat} {gi : Sto → List W → MS W} {S S' : Sto} {ws : List W} {w : W} (h : gi ⟨S.cs ++ [.obj c []], S.fz⟩ (.c (.d (.ref S.cs.length)) :: ws) = some (.ok .non S')) (h2 : S'.cs = S.cs ++ [w]) (h3 : kdOf w = .fr) (h4 : belowW S.cs.length w = true) : mkOf c gi S ws = some (.ok w S) := by
  unfold mkOf
  rw [h]
  have e : S'.cs[S.cs.length]? = some w := by rw [h2]; simp
  simp only [e]
  rw [if_pos ⟨h2, h3, h4⟩]
  rfl
/-- a turn of a for-loop over fresh or standing things -/
theorem lenD {xs : List D} : ((xs.length : Nat) : Int).toNat = xs.length := by omega
theorem WP.eq {α : Type} {x : MS α} {a : α} {S : Sto} (h : WP x fun a' S' => a' = a ∧ S' = S) : x = some (.ok a S) := by
  obtain ⟨a', S', e, rfl, rfl⟩ := h
  exact e
theorem WP.ofEq {α : Type} {x : MS α} {a : α} {S : Sto} {Q : α → Sto → Prop} (h : x = some (.ok a S)) (q : Q a S) : WP x Q := ⟨a, S, h, q⟩
end Ev
/-! Ev17: how a law begins and ends. -/
namespace Ev
open PySem PySem.Spec
open PyProof.Rows hiding St
open L2
def spA (K : PySem.W.Frag) (g : Sto → List W → MS W) : Sp := fun vs H Q E => ∀ cc, spI K cc g vs H Q E
def ccOf (l : List Addr) (n : Nat) : Addr := l.getD n 0
theorem fn_any {P : Program} {w : World} {K : PySem.W.Frag} {mg : Str → Option Value} {base : Heap} {CX : CXT} {k : Nat} {f : Addr} {fd : FuncData} {ps : List Str} {cc : Nat → Addr} {g : Sto → List W → MS W} (F : FnOk P w K mg base CX k f fd ps (spI K cc g)) : FnOk P w K mg base CX k f fd ps (spA K g) := F.imp fun vs H Q E h => h cc
theorem rep_ints {K : PySem.W.Frag} {ca : Am} {H : Hp} : ∀ ns : List Int, RepDs K ca H (ns.map D.int) (ns.map V.int)
  | [] => .nil
  | i :: ns => .cons (by unfold RepD; rfl) (rep_ints ns)
theorem law_start {K : PySem.W.Frag} {H : Hp} {a : Addr} {ns : List Int} {g : Sto → List W → MS W} {S' : Sto} (hS : SqL K H a (ns.map V.int)) (hg : g ⟨[], 0⟩ [.lst (ns.map D.int)] = some (.ok (.bl true) S')) : spA K g [.ref a] H (fun v _ => v = .bl true) fun _ _ _ => False := by
  intro cc
  refine ⟨⟨cc, []⟩, ⟨[], 0⟩, fun _ => [], [.lst (ns.map D.int)], .bl true, S', rfl, ⟨rfl, Nat.le_refl _, fun n w a e => by simp at e, fun i j _ a ha => by simp at ha, fun i => List.nodup_nil, fun _ _ => rfl⟩, fun n a ha => by simp at ha, ⟨_, _, rfl, ⟨a, _, rfl, ?_, rep_ints ns⟩, rfl⟩, hg, fun v ca' H' fq' _ b => b⟩
  rcases hS with h | h
  · refine .inl ⟨⟨?_, fun _ => by simp⟩, h⟩
    rcases h with h | ⟨o, h⟩
    · exact ⟨_, h⟩
    · exact ⟨_, h⟩
  · exact .inr (.inr h)
theorem law_nope {Pg : Program} {w : World} {A : List Env} {H : Hp} {s : Shared} {e : Value} {s' : Shared} (h : L2.CX Pg w A H s (fun _ _ _ => False) e s') : False := by
  obtain ⟨_, _, _, _, _, _, _, _, _, _, _, _, z⟩ := h
  exact z.elim
theorem callI_of {Γ : Gam} {f : Str} {g : Sto → List W → MS W} {S S1 S2 : Sto} {as : Is} {σ : List Sl} {xs : List VW} {w : W} (hΓ : Γ f = some g) (he : evIs Γ as σ S = some (.ok xs S1)) (hg : g S1 (xs.map (·.1)) = some (.ok w S2)) : evI Γ (.call f as) σ S = some (.ok (w, kdOf w) S2) := by
  unfold evI
  simp only [hΓ, he, bokS, hg]
  rfl
theorem mcallI_of {Γ : Gam} {m : Str} {c : Nat} {fs : List (Str × C)} {g : Sto → List W → MS W} {S S1 S2 : Sto} {o : E} {as : Is} {σ : List Sl} {x : VW} {xs : List VW} {w : W} (ho : ev Γ S o σ = some (.ok x)) (ha : x.1.at S = .obj c fs) (hh : handed x = true) (hΓ : Γ (mkey c m) = some g) (hn : fs.lookup m = none) (he : evIs Γ as σ S = some (.ok xs S1)) (hg : g S1 (x.1 :: xs.map (·.1)) = some (.ok w S2)) : evI Γ (.mcall o m as) σ S = some (.ok (w, kdOf w) S2) := by
  unfold evI
  rw [ho, upok, bokS]
  simp only [ha, hΓ, hn, hh, he, bokS, hg]
  rfl
theorem exprI {Γ : Gam} {a : I} {σ : List Sl} {S S1 : Sto} {x : VW} (h : evI Γ a σ S = some (.ok x S1)) : run Γ (.expr a) σ S = some (.ok (.nx σ) S1) := by
  unfold run
  rw [h, bokS]
  rfl
end Ev
/-! Ev18: defs with defaults. -/
namespace Ev
open PySem PySem.Spec
open PyProof.Rows hiding St
open L2
/-- with the defaults, where they lack -/
def pad (n : Nat) (dd : List D) (g : Sto → List W → MS W) : Sto → List W → MS W := fun S ws => if ws.length = n then g S ws else g S (ws ++ dd.map fun x => .c (.d x))
theorem pad_all {n : Nat} {dd : List D} {g : Sto → List W → MS W} {S : Sto} {ws : List W} (h : ws.length = n) : pad n dd g S ws = g S ws := if_pos h
theorem pad_lack {n : Nat} {dd : List D} {g : Sto → List W → MS W} {S : Sto} {ws : List W} (h : ws.length ≠ n) : pad n dd g S ws = g S (ws ++ dd.map fun x => .c (.d x)) := if_neg h
def spD (sp : Sp) (dvs : List V) : Sp := fun vs H Q E => sp vs H Q E ∨ sp (vs ++ dvs) H Q E
section
variable {P : Addr → Prop} {K : PySem.W.Frag} {cc : Nat → Addr}
theorem RepWp.app {ca : Am} {H : Hp} {dvs : List V} {dd : List D} (hd : RepDs K ca H dd dvs) : ∀ {ws : List W} {vs : List V}, RepWp P K ca H ws vs → RepWp P K ca H (ws ++ dd.map fun x => .c (.d x)) (vs ++ dvs)
  | [], vs, h => by
    have e : vs = [] := h
    subst e
    have go : ∀ (dd : List D) (dvs : List V), RepDs K ca H dd dvs → RepWp P K ca H (dd.map fun x => .c (.d x)) dvs := by
      intro dd
      induction dd with
      | nil => intro dvs h; unfold RepDs at h; exact h
      | cons d dd ih =>
        intro dvs h
        unfold RepDs at h
        obtain ⟨v, r, e, h1, h2⟩ := h
        exact ⟨v, r, e, h1, ih r h2⟩
    exact go dd dvs hd
  | w :: ws, vs, h => by
    obtain ⟨v, r, e, h1, h2⟩ := h
    subst e
    exact ⟨v, r ++ dvs, rfl, h1, RepWp.app hd h2⟩
theorem spI_pad {n : Nat} {dd : List D} {dvs : List V} {g : Sto → List W → MS W} (hd : ∀ ca H, RepDs K ca H dd dvs) {vs : List V} {H : Hp} {Q : VK} {E : XK} (h : spI K cc (pad n dd g) vs H Q E) : spD (spI K cc g) dvs vs H Q E := by
  obtain ⟨ca, S, fq, ws, w, S', h0, h1, h2, h3, h4, h5⟩ := h
  by_cases hl : ws.length = n
  · exact .inl ⟨ca, S, fq, ws, w, S', h0, h1, h2, h3, (pad_all (dd := dd) (g := g) (S := S) hl).symm.trans h4, h5⟩
  · exact .inr ⟨ca, S, fq, _, w, S', h0, h1, h2, RepWp.app (hd ca H) h3, (pad_lack (dd := dd) (g := g) (S := S) hl).symm.trans h4, h5⟩
end
section
variable {X : Cx} {CX : CXT} {k : Nat} {f C : Addr} {fd : FuncData} {ps : List Str} {sp : Sp} {dvs : List V} {ds : List Value} {E : XK} {x m : Str} {p pos apos : Pos} {e o : Expr} {es : List Expr} {ta : TE} {t : TA}
theorem run_fn2 {pins : List (Addr × Obj)} {σ : L2.St} {H : Hp} {s : Shared} {Q : VK} {us : List Value} {vs : List V} (F : FnOk X.prog X.w X.K X.mg X.base CX k f fd ps sp) (hr : Room k X.A) (b1 : Binds X.K fd ps []) (b2 : Binds X.K fd ps ds) (hd : Vals dvs ds) (hx : Passes CX X E)
    (I : Inv X pins σ H s) (r : Vals vs us) (h : spD sp dvs vs H Q E) : wpAny (model X.prog X.w) X.A (call (.ref f) us) (EP X pins σ Q) X.xe s := by
  rcases h with h | h
  · exact run_fn F hr b1 .nil hx I r (by rw [List.append_nil]; exact h)
  · exact run_fn F hr b2 hd hx I r h
theorem meth_ruleD {C : Addr} (F : FnOk X.prog X.w X.K X.mg X.base (L2.CX X.prog X.w) k f fd ps sp) (hr : Room k X.A) (c : Cls X.K C) (hm : Meth X.K C m f) (b1 : Binds X.K fd ps []) (b2 : Binds X.K fd ps ds) (hd : Vals dvs ds) {sp' : Sp} (hi : ∀ vs H Q, sp' vs H Q E0 → spD sp dvs vs H Q E0) : MethOk X C m sp' := by
  refine ⟨fun o ap pos ta ho h0 hl => ⟨fun pins s σ H Q I h => ?_⟩, fun o e es ap pos ta t ho ha h0 hl hn hst hb1 hb2 => ⟨fun pins s σ H Q I h => ?_⟩⟩
  · refine PySem.W.methodCall_KW (thn (ho.run pins s σ H _ I h) fun u s1 ⟨x, H1, I1, rx, a, dx, fs, ex, ea, l, q⟩ => ?_) (meth_eval h0 hl rfl (by decide))
    subst ex
    obtain rfl : u = Value.ref a := rx
    refine getmeth_ok I1 ea c hm l ?_
    exact PySem.W.callWith_K0 (first := [.ref a]) I1.kIn hm.kp (run_fn2 (us := [.ref a]) (vs := [.ref a]) F hr b1 b2 hd passL I1 (.cons rfl .nil) (hi _ _ _ q))
  · refine PySem.W.methodCall_KW (thn (ho.run pins s σ H _ I h) fun u s1 ⟨x, H1, I1, rx, a, dx, fs, ex, ea, l, q⟩ => ?_) (meth_eval h0 hl hb1 hn)
    subst ex
    obtain rfl : u = Value.ref a := rx
    refine getmeth_ok I1 ea c hm l ?_
    refine PySem.W.callWith_K (first := [.ref a]) (h₀ := X.base) I.ok.mod.kin hm.kp (thn (ha.run pos pins s1 σ H1 _ I1 q) fun us s2 ⟨vs, H2, I2, r, q2⟩ => ⟨I2.kIn, ?_⟩) hst hb2
    exact run_fn2 (us := .ref a :: us) (vs := .ref a :: vs) F hr b1 b2 hd passL I2 (.cons rfl r) (hi _ _ _ (by have q3 : sp' (.ref a :: (vs ++ [])) H2 Q E0 := q2; rw [List.append_nil] at q3; exact q3))
end
theorem call_ruleD {X : Cx} {k : Nat} {f : Addr} {fd : FuncData} {ps : List Str} {sp sp' : Sp} {dvs : List V} {ds : List Value} {x : Str} (F : FnOk X.prog X.w X.K X.mg X.base (L2.CX X.prog X.w) k f fd ps sp) (hr : Room k X.A) (hm : X.mg x = some (.ref f)) (hk : PySem.W.keepIn X.K (.ref f) = true) (b1 : Binds X.K fd ps []) (b2 : Binds X.K fd ps ds) (hd : Vals dvs ds) (hi : ∀ vs H Q, sp' vs H Q E0 → spD sp dvs vs H Q E0) : CallOk X x sp' := fun hg h3 => by
  refine ⟨fun p pos => ⟨fun pins s σ H Q I h => ?_⟩, fun e es p pos t ha h1 h2 => ⟨fun pins s σ H Q I h => ?_⟩⟩
  · refine wpAny_Call_Name_kw (ld_glob I hg hm ?_ h3)
    exact PySem.W.callWith_K0 I.kIn hk (run_fn2 (us := []) (vs := []) F hr b1 b2 hd passL I .nil (hi _ _ _ h))
  · refine wpAny_Call_Name_kw (ld_glob I hg hm ?_ h3)
    refine PySem.W.callWith_K (h₀ := X.base) I.ok.mod.kin hk (thn (ha.run pos pins s σ H _ I h) fun us s1 ⟨vs, H1, I1, r, q⟩ => ⟨I1.kIn, ?_⟩) h1 h2
    exact run_fn2 F hr b1 b2 hd passL I1 r (hi _ _ _ (by have q3 : sp' (vs ++ []) H1 Q E0 := q; rw [List.append_nil] at q3; exact q3))
section
variable {Pg : Program} {w : World} {K : PySem.W.Frag} {mg : Str → Option Value} {base : Heap} {cc : Nat → Addr}
/-- a method with defaults -/
theorem EnvOk.meD {j k c : Nat} {Γ : Gam} {m : Str} {g : Sto → List W → MS W} {fa : Addr} {fd : FuncData} {ps : List Str} {dd : List D} {dvs : List V} {ds : List Value} (h : EnvOk Pg w K mg base cc j Γ) (F : FnOk Pg w K mg base (L2.CX Pg w) k fa fd ps (spI K cc g)) (hl : j ≤ k) (hc : Cls K (cc c)) (hm : Meth K (cc c) m fa) (b1 : L2.Binds K fd ps []) (b2 : L2.Binds K fd ps ds) (hd : Vals dvs ds) (hdd : ∀ ca H, RepDs K ca H dd dvs) :
    EnvOk Pg w K mg base cc k (ext Γ (mkey c m) (pad ps.length dd g)) := (h.mono hl).rule fun X h1 h2 h3 h4 h5 hr => by
  subst h1 h2 h3 h4 h5
  refine ⟨fun hp => (by rw [isPl_mkey] at hp; cases hp), fun c' x e => (fkey_mkey e.symm).elim, fun c' x e => ?_, fun x e => (mkey_ikey e).elim⟩
  obtain ⟨e1, e2⟩ := mkey_inj e
  subst e1 e2
  exact meth_ruleD F hr hc hm b1 b2 hd fun vs H Q q => spI_pad hdd q
/-- a def with defaults -/
theorem EnvOk.fnD {j k : Nat} {Γ : Gam} {f : Str} {g : Sto → List W → MS W} {fa : Addr} {fd : FuncData} {ps : List Str} {dd : List D} {dvs : List V} {ds : List Value} (h : EnvOk Pg w K mg base cc j Γ) (F : FnOk Pg w K mg base (L2.CX Pg w) k fa fd ps (spI K cc g)) (hl : j ≤ k) (hm : mg f = some (.ref fa)) (hk : PySem.W.keepIn K (.ref fa) = true) (b1 : L2.Binds K fd ps []) (b2 : L2.Binds K fd ps ds) (hd : Vals dvs ds) (hdd : ∀ ca H, RepDs K ca H dd dvs)
    (hp : isPl f = true := by decide +kernel) : EnvOk Pg w K mg base cc k (ext Γ f (pad ps.length dd g)) := (h.mono hl).rule fun X h1 h2 h3 h4 h5 hr => by
  subst h1 h2 h3 h4 h5
  exact ⟨fun _ => call_ruleD F hr hm hk b1 b2 hd fun vs H Q q => spI_pad hdd q, fun c x e => (by rw [e, isPl_fkey] at hp; cases hp), fun c x e => (by rw [e, isPl_mkey] at hp; cases hp), fun x e => (by rw [e, isPl_ikey] at hp; cases hp)⟩
/-- the rule for a def, with or without defaults -/
theorem fn_okD {x qual : Str} {st : Stmt} {f : Addr} {fd : FuncData} {N ps : List Str} {k : Nat} {bl : List Str} {Γ : Gam} {dvs : List V} {kws : List (Str × V)} (F : FunD K x qual (defArgs st) (defBody st) (defScope st) dvs kws f fd) (S : FnScope N ps (defScope st)) (b : Ts) (g : Sto → List W → MS W)
    (hc : chkTs bl N (defScope st) b (defBody st) = true) (hb : ∀ y ∈ bl, mg y = none) (hΓ : EnvOk Pg w K mg base cc k Γ) (hg : ∀ Z ws r Z', g Z ws = some (.ok r Z') → ws.length = ps.length ∧ fnRun Γ N.length b Z ws = some (.ok r Z')) :
    FnOk Pg w K mg base (L2.CX Pg w) (k + 1) f fd ps (spI K cc g) := by
  refine FunD.ok (CX := L2.CX Pg w) F S (fun vs H Q E h => ?_) (fun cdv A outer s H vs Q E hr h => ?_)
  · obtain ⟨ca, Z, fq, ws, w, Z', h0, h1, h2, h3, h4, _⟩ := h
    rw [h3.length]
    exact (hg Z ws w Z' h4).1
  · obtain ⟨ca, Z, fq, ws, r, Z', h0, h1, h2, h3, h4, q⟩ := h
    obtain ⟨hl, hr2⟩ := hg Z ws r Z' h4
    refine ⟨_, pss_wp, ?_⟩
    unfold fnRun at hr2
    obtain ⟨o, Z1, e1, e2⟩ := bindS hr2
    generalize hX : cxOf (L2.CX Pg w) Pg w K mg base N qual (defScope st) f cdv A outer s H E = X
    have hlen := h3.length
    have hpn : ps.length ≤ N.length := by have := congrArg List.length S.pre; rw [List.length_take] at this; omega
    have ok : Cok bl (defScope st) X := by
      rw [← hX]
      exact ⟨rfl, S.nd, rfl, Nat.lt_of_le_of_lt (by rw [Nat.add_assoc]; exact Nat.add_le_add_left (by omega) _) hr.un, hb, S.kind⟩
    have fns : FnsOk X ca.c Γ := by
      rw [← hX, h0]
      exact hΓ _ rfl rfl rfl rfl rfl hr
    have sok : Sok X := by
      rw [← hX]
      exact ⟨fun _ => rfl, passes_of rfl⟩
    have hk : X.K = K := by rw [← hX]; rfl
    have sr : SRep (Lv H fq) X.K ca (ws.map Sl.ro ++ List.replicate (N.length - ws.length) Sl.out) Z (L2.start N vs) H (fun j => if j % 2 = 0 then [] else fq (j / 2)) := by
      rw [hk]
      exact start_rep h1 h2 h3 (by omega)
    have ln : (L2.start N vs).length = X.N.length := by
      rw [← hX]
      show (L2.start N vs).length = N.length
      simp [L2.start, hlen]
      omega
    refine sndSs b (defBody st) (defScope st) X (Lv H fq) ca Z _ (L2.start N vs) H _ (by rw [← hX]; exact hc) ⟨ok, fns, sr, ln⟩ sok o Z1 e1 _ ?_
    cases o with
    | nx σ' =>
      obtain ⟨e3, e4⟩ := okS e2
      subst e3 e4
      intro σc' ca' H' fp' l' fw R'
      rw [hk] at fw R'
      exact q .non ca' H' (odd fp') (end_after fw R') rfl
    | ret w0 σ' =>
      obtain ⟨e3, e4⟩ := okS e2
      subst e3 e4
      intro v σc' ca' H' fp' f l' fw R' o' n' p' d'
      rw [hk] at fw R' o'
      exact q v ca' H' (odd fp') (end_after fw R') (end_back o' n' p' d')
    | brk _ => cases e2
    | cnt _ => cases e2
end
end Ev
namespace PP
open PySem PySem.Spec
open PyProof.Rows hiding St
open L2 Ev
abbrev N_plain_init : List Str := ["self", "text", "sign"]
def b_plain_init : Ts :=
 (.cons (.fset (.var 0) "kept" (.p (.lc [("sign", 2)] (.nm 2) (.str (.var 1)) .none (.tup (.cons (.var 2) (.cons (.str "") .nil))))))
 .nil)
abbrev N_plain_rows : List Str := ["self"]
def b_plain_rows : Ts :=
 (.cons (.ret (.p (.blt .list (.cons (.fld (.var 0) "kept") .nil))))
 .nil)
abbrev N_plain_ask_gap : List Str := ["self", "at"]
def b_plain_ask_gap : Ts :=
 (.cons (.ite (.p (.not (.cmp2 .LtE .LtE (.int 0) (.var 1) (.blt .len (.cons (.fld (.var 0) "kept") .nil)))))
  (.cons .nev
  .nil)
  .nil)
 .nil)
abbrev N_plain_ask_stretch : List Str := ["self", "at", "to"]
def b_plain_ask_stretch : Ts :=
 (.cons (.ite (.p (.not (.cmp2 .LtE .Lt (.int 0) (.var 1) (.blt .len (.cons (.fld (.var 0) "kept") .nil)))))
  (.cons .nev
  .nil)
  .nil)
 (.cons (.ite (.p (.not (.cmp2 .Lt .LtE (.var 1) (.var 2) (.blt .len (.cons (.fld (.var 0) "kept") .nil)))))
  (.cons .nev
  .nil)
  .nil)
 .nil))
abbrev N_plain_put : List Str := ["self", "at", "signs", "sign"]
def b_plain_put : Ts :=
 (.cons (.expr (.p (.mcall (.var 0) "ask_gap" (.cons (.var 1) .nil))))
 (.cons (.fset (.var 0) "kept" (.p (.bin .Add (.bin .Add (.sl (.fld (.var 0) "kept") .none (.some (.var 1))) (.lc [("sign", 3)] (.nm 3) (.str (.var 2)) .none (.tup (.cons (.var 3) (.cons (.str "") .nil))))) (.sl (.fld (.var 0) "kept") (.some (.var 1)) .none))))
 .nil))
abbrev N_plain_strike : List Str := ["self", "at", "to"]
def b_plain_strike : Ts :=
 (.cons (.expr (.p (.mcall (.var 0) "ask_stretch" (.cons (.var 1) (.cons (.var 2) .nil)))))
 (.cons (.fset (.var 0) "kept" (.p (.bin .Add (.sl (.fld (.var 0) "kept") .none (.some (.var 1))) (.sl (.fld (.var 0) "kept") (.some (.var 2)) .none))))
 .nil))
abbrev N_law_drawn : List Str := ["_law_cell", "_law_place", "_law_number"]
def b_law_drawn : Ts :=
 (.cons (.asg (.nm 2) (.p (.bin .Mod (.bin .Mult (.bin .Add (.bin .Add (.var 0) (.bin .Mult (.int 7919) (.var 1))) (.int 1)) (.int 48271)) (.int 2147483647))))
 (.cons (.ret (.p (.bin .Mod (.bin .Mult (.var 2) (.bin .Add (.bin .FloorDiv (.var 2) (.int 1009)) (.int 69621))) (.int 2147483647))))
 .nil))
end PP
namespace PP
open PySem PySem.Spec
open PyProof.Rows hiding St
open L2 Ev
/-- a row -/
def pr (p : Nat × Str) : D := .tup [.str (SX.S [p.1]), .str p.2]
abbrev kr (l : List (Nat × Str)) : List D := l.map pr
theorem kr_below {n : Nat} : ∀ l : List (Nat × Str), belows n (kr l) = true
  | [] => rfl
  | p :: l => by
    have := kr_below (n := n) l
    simp [kr, pr, belows, below] at this ⊢
    exact this
/-- a plain text's object -/
abbrev plainW (c : Nat) (l : List (Nat × Str)) : W := .obj c [("kept", .lst (kr l))]
def bare (l : List Nat) : List (Nat × Str) := l.map fun c => (c, "")
theorem lc_signs {Γ : Gam} {S : Sto} {nm : Str} {i : Nat} {e : E} {σ : List Sl} {l : List Nat} {k : Kd} (hi : i < σ.length) (he : ev Γ S e σ = some (.ok (.c (.d (.str (SX.S l))), k))) (hn : l.length ≤ 16777216) :
    ev Γ S (.lc [(nm, i)] (.nm i) (.str e) .none (.tup (.cons (.var i) (.cons (.str "") .nil)))) σ = some (.ok (.c (.lst (kr (bare l))), .fr)) := by
  have e1 : evi Γ S (.str e) σ = some (.ok (l.map fun c => D.str (SX.S [c]), [])) := by
    unfold evi
    rw [he, bok]
    rfl
  rw [ev_lc (ys := kr (bare l)) e1 (by simpa using hn)]
  rw [show kr (bare l) = (l.map fun c => D.str (SX.S [c])).map fun x => D.tup [x, .str ""] by simp [kr, bare, pr, List.map_map, Function.comp]]
  refine lcRun_evc _ _ fun x hx => ?_
  refine ⟨(wipeS σ [i]).set i (.ro (.d x)), ?_, .ro, ?_⟩
  · simp [setG, putS, wipeS, hi]
  · have e2 : ((σ.set i .out).set i (.ro (.d x)))[i]? = some (.ro (.d x)) := by simp [hi]
    simp (disch := first | omega | decide) only [mapM_nil, mapM_cons1, List.map_cons, List.map_nil, List.length_cons, List.length_nil, Ev.runs, Ev.run, Ev.evI, Ev.evIs, Ev.ev, Ev.evs, Ev.evo, Ev.evc, Ev.evi, Ev.tstV, Ev.tstI', Ev.asInt, bok, mok, bokS, mokS, upok, Ev.bin, Ev.binI, Ev.cmp, Ev.cmpI, Ev.cmpS, Ev.isNonW, Ev.isiW, Ev.kdOf, vI, vD, vB, vF, setN, putS, setG, setGs, nxO, truth, Ev.sl, Ev.ix, blt, wipeS, W.at, handed, change, setFld, given, fldK, Ev.cellOf, moTy, moC, setIt, setF, srcOk, srcSt, fgtS, Sto.hold, pureOf, belowW, belowC, below, belows, pureI, pureIs, guardP_pos, guardN_pos, Option.map_some, Option.bind_some, Nat.reduceAdd, Nat.reduceSub, Nat.reduceLT, Nat.reduceLeDiff, List.replicate, List.cons_append, List.nil_append, List.getElem?_cons_zero, List.getElem?_cons_succ, List.set_cons_succ, List.set_cons_zero, if_true, if_false, Bool.false_eq_true, Bool.not_true, Bool.not_false, Bool.and_true, Bool.true_and, Bool.or_true, Bool.true_or, reduceCtorEq, eq_self, decide_true, decide_false, decide_not, List.take_succ_cons, List.take_zero, List.length_map, Int.toNat_natCast, e2]
section
variable {Γ : Gam} {S : Sto} {c n : Nat} {l : List (Nat × Str)} {k : Sto → List W → MS W}
theorem run_init {cs : List W} {fz : Nat} {t : List Nat} (hf : Γ (fkey c "kept") = some k) (hz : fz ≤ cs.length) (hl : t.length ≤ 16777216) :
    fnG Γ 2 3 b_plain_init ⟨cs ++ [.obj c []], fz⟩ [.c (.d (.ref cs.length)), .str (SX.S t)] = some (.ok .non ⟨cs ++ [plainW c (bare t)], fz⟩) := by
  refine fnG_ok rfl (WP.eq (WP.fn ?_))
  unfold b_plain_init
  have h1 : (cs ++ [W.obj c []])[cs.length]? = some (W.obj c []) := by simp
  refine WP.seq (σ' := [.ro (.c (.d (.ref cs.length))), .ro (.str (SX.S t)), .out]) (S' := ⟨cs ++ [plainW c (bare t)], fz⟩) ?_ (WP.nil ⟨rfl, rfl⟩)
  unfold Ev.run
  simp only [Ev.evI]
  rw [lc_signs (l := t) (k := .ro) (by simp) (by simp only [mapM_nil, mapM_cons1, List.map_cons, List.map_nil, List.length_cons, List.length_nil, Ev.runs, Ev.run, Ev.evI, Ev.evIs, Ev.ev, Ev.evs, Ev.evo, Ev.evc, Ev.evi, Ev.tstV, Ev.tstI', Ev.asInt, bok, mok, bokS, mokS, upok, Ev.bin, Ev.binI, Ev.cmp, Ev.cmpI, Ev.cmpS, Ev.isNonW, Ev.isiW, Ev.kdOf, vI, vD, vB, vF, setN, putS, setG, setGs, nxO, truth, Ev.sl, Ev.ix, blt, wipeS, W.at, handed, change, setFld, given, fldK, Ev.cellOf, moTy, moC, setIt, setF, srcOk, srcSt, fgtS, Sto.hold, pureOf, belowW, belowC, below, belows, pureI, pureIs, guardP_pos, guardN_pos, Option.map_some, Option.bind_some, Nat.reduceAdd, Nat.reduceSub, Nat.reduceLT, Nat.reduceLeDiff, List.replicate, List.cons_append, List.nil_append, List.getElem?_cons_zero, List.getElem?_cons_succ, List.set_cons_succ, List.set_cons_zero, if_true, if_false, Bool.false_eq_true, Bool.not_true, Bool.not_false, Bool.and_true, Bool.true_and, Bool.or_true, Bool.true_or, reduceCtorEq, eq_self, decide_true, decide_false, decide_not, List.take_succ_cons, List.take_zero, List.length_map, Int.toNat_natCast]) hl]
  simp (disch := first | omega | decide) only [mapM_nil, mapM_cons1, List.map_cons, List.map_nil, List.length_cons, List.length_nil, Ev.runs, Ev.run, Ev.evI, Ev.evIs, Ev.ev, Ev.evs, Ev.evo, Ev.evc, Ev.evi, Ev.tstV, Ev.tstI', Ev.asInt, bok, mok, bokS, mokS, upok, Ev.bin, Ev.binI, Ev.cmp, Ev.cmpI, Ev.cmpS, Ev.isNonW, Ev.isiW, Ev.kdOf, vI, vD, vB, vF, setN, putS, setG, setGs, nxO, truth, Ev.sl, Ev.ix, blt, wipeS, W.at, handed, change, setFld, given, fldK, Ev.cellOf, moTy, moC, setIt, setF, srcOk, srcSt, fgtS, Sto.hold, pureOf, belowW, belowC, below, belows, pureI, pureIs, guardP_pos, guardN_pos, Option.map_some, Option.bind_some, Nat.reduceAdd, Nat.reduceSub, Nat.reduceLT, Nat.reduceLeDiff, List.replicate, List.cons_append, List.nil_append, List.getElem?_cons_zero, List.getElem?_cons_succ, List.set_cons_succ, List.set_cons_zero, if_true, if_false, Bool.false_eq_true, Bool.not_true, Bool.not_false, Bool.and_true, Bool.true_and, Bool.or_true, Bool.true_or, reduceCtorEq, eq_self, decide_true, decide_false, decide_not, List.take_succ_cons, List.take_zero, List.length_map, Int.toNat_natCast, h1, hf]
  rw [if_pos ⟨hz, by simp⟩]
  simp
theorem run_rows (hs : S.cs[n]? = some (plainW c l)) (hf : Γ (fkey c "kept") = some k) : fnG Γ 1 1 b_plain_rows S [.c (.d (.ref n))] = some (.ok (.c (.lst (kr l))) S) := by
  refine fnG_ok rfl (WP.eq (WP.fn ?_))
  unfold b_plain_rows
  have e : ev Γ S (.fld (.var 0) "kept") ([W.c (.d (.ref n))].map Sl.ro ++ List.replicate (1 - [W.c (.d (.ref n))].length) Sl.out) = some (.ok (.c (.lst (kr l)), if n < S.fz then .ro else .sf n "kept")) := fldOf (k := .ro) (by simp only [mapM_nil, mapM_cons1, List.map_cons, List.map_nil, List.length_cons, List.length_nil, Ev.runs, Ev.run, Ev.evI, Ev.evIs, Ev.ev, Ev.evs, Ev.evo, Ev.evc, Ev.evi, Ev.tstV, Ev.tstI', Ev.asInt, bok, mok, bokS, mokS, upok, Ev.bin, Ev.binI, Ev.cmp, Ev.cmpI, Ev.cmpS, Ev.isNonW, Ev.isiW, Ev.kdOf, vI, vD, vB, vF, setN, putS, setG, setGs, nxO, truth, Ev.sl, Ev.ix, blt, wipeS, W.at, handed, change, setFld, given, fldK, Ev.cellOf, moTy, moC, setIt, setF, srcOk, srcSt, fgtS, Sto.hold, pureOf, belowW, belowC, below, belows, pureI, pureIs, guardP_pos, guardN_pos, Option.map_some, Option.bind_some, Nat.reduceAdd, Nat.reduceSub, Nat.reduceLT, Nat.reduceLeDiff, List.replicate, List.cons_append, List.nil_append, List.getElem?_cons_zero, List.getElem?_cons_succ, List.set_cons_succ, List.set_cons_zero, if_true, if_false, Bool.false_eq_true, Bool.not_true, Bool.not_false, Bool.and_true, Bool.true_and, Bool.or_true, Bool.true_or, reduceCtorEq, eq_self, decide_true, decide_false, decide_not, List.take_succ_cons, List.take_zero, List.length_map, Int.toNat_natCast]) hs hf rfl
  refine WP.ret (σ' := [.ro (.c (.d (.ref n)))]) (w := .c (.lst (kr l))) (S' := S) ?_ ⟨rfl, rfl⟩
  unfold Ev.run
  simp only [Ev.evI, Ev.ev, Ev.evs] at e ⊢
  rw [e]
  simp (disch := first | omega | decide) only [mapM_nil, mapM_cons1, List.map_cons, List.map_nil, List.length_cons, List.length_nil, Ev.runs, Ev.run, Ev.evI, Ev.evIs, Ev.ev, Ev.evs, Ev.evo, Ev.evc, Ev.evi, Ev.tstV, Ev.tstI', Ev.asInt, bok, mok, bokS, mokS, upok, Ev.bin, Ev.binI, Ev.cmp, Ev.cmpI, Ev.cmpS, Ev.isNonW, Ev.isiW, Ev.kdOf, vI, vD, vB, vF, setN, putS, setG, setGs, nxO, truth, Ev.sl, Ev.ix, blt, wipeS, W.at, handed, change, setFld, given, fldK, Ev.cellOf, moTy, moC, setIt, setF, srcOk, srcSt, fgtS, Sto.hold, pureOf, belowW, belowC, below, belows, pureI, pureIs, guardP_pos, guardN_pos, Option.map_some, Option.bind_some, Nat.reduceAdd, Nat.reduceSub, Nat.reduceLT, Nat.reduceLeDiff, List.replicate, List.cons_append, List.nil_append, List.getElem?_cons_zero, List.getElem?_cons_succ, List.set_cons_succ, List.set_cons_zero, if_true, if_false, Bool.false_eq_true, Bool.not_true, Bool.not_false, Bool.and_true, Bool.true_and, Bool.or_true, Bool.true_or, reduceCtorEq, eq_self, decide_true, decide_false, decide_not, List.take_succ_cons, List.take_zero, List.length_map, Int.toNat_natCast]
theorem run_gap {at_ : Int} (hs : S.cs[n]? = some (plainW c l)) (hf : Γ (fkey c "kept") = some k) (h0 : 0 ≤ at_) (h1 : at_ ≤ l.length) : fnG Γ 2 2 b_plain_ask_gap S [.c (.d (.ref n)), .int at_] = some (.ok .non S) := by
  refine fnG_ok rfl (WP.eq (WP.fn ?_))
  unfold b_plain_ask_gap
  have e : ev Γ S (.fld (.var 0) "kept") [.ro (.c (.d (.ref n))), .ro (.int at_)] = some (.ok (.c (.lst (kr l)), if n < S.fz then .ro else .sf n "kept")) := fldOf (k := .ro) (by simp only [mapM_nil, mapM_cons1, List.map_cons, List.map_nil, List.length_cons, List.length_nil, Ev.runs, Ev.run, Ev.evI, Ev.evIs, Ev.ev, Ev.evs, Ev.evo, Ev.evc, Ev.evi, Ev.tstV, Ev.tstI', Ev.asInt, bok, mok, bokS, mokS, upok, Ev.bin, Ev.binI, Ev.cmp, Ev.cmpI, Ev.cmpS, Ev.isNonW, Ev.isiW, Ev.kdOf, vI, vD, vB, vF, setN, putS, setG, setGs, nxO, truth, Ev.sl, Ev.ix, blt, wipeS, W.at, handed, change, setFld, given, fldK, Ev.cellOf, moTy, moC, setIt, setF, srcOk, srcSt, fgtS, Sto.hold, pureOf, belowW, belowC, below, belows, pureI, pureIs, guardP_pos, guardN_pos, Option.map_some, Option.bind_some, Nat.reduceAdd, Nat.reduceSub, Nat.reduceLT, Nat.reduceLeDiff, List.replicate, List.cons_append, List.nil_append, List.getElem?_cons_zero, List.getElem?_cons_succ, List.set_cons_succ, List.set_cons_zero, if_true, if_false, Bool.false_eq_true, Bool.not_true, Bool.not_false, Bool.and_true, Bool.true_and, Bool.or_true, Bool.true_or, reduceCtorEq, eq_self, decide_true, decide_false, decide_not, List.take_succ_cons, List.take_zero, List.length_map, Int.toNat_natCast]) hs hf rfl
  have d1 : decide (0 ≤ at_) = true := decide_eq_true h0
  have d2 : decide (at_ ≤ (l.length : Int)) = true := decide_eq_true h1
  refine WP.cons (WP.ite (k := false) (S' := S) ?_ nofun fun _ => WP.nil (WP.nil ⟨rfl, rfl⟩))
  have e' := e
  unfold Ev.ev at e'
  simp (disch := first | omega | decide) only [mapM_nil, mapM_cons1, List.map_cons, List.map_nil, List.length_cons, List.length_nil, Ev.runs, Ev.run, Ev.evI, Ev.evIs, Ev.ev, Ev.evs, Ev.evo, Ev.evc, Ev.evi, Ev.tstV, Ev.tstI', Ev.asInt, bok, mok, bokS, mokS, upok, Ev.bin, Ev.binI, Ev.cmp, Ev.cmpI, Ev.cmpS, Ev.isNonW, Ev.isiW, Ev.kdOf, vI, vD, vB, vF, setN, putS, setG, setGs, nxO, truth, Ev.sl, Ev.ix, blt, wipeS, W.at, handed, change, setFld, given, fldK, Ev.cellOf, moTy, moC, setIt, setF, srcOk, srcSt, fgtS, Sto.hold, pureOf, belowW, belowC, below, belows, pureI, pureIs, guardP_pos, guardN_pos, Option.map_some, Option.bind_some, Nat.reduceAdd, Nat.reduceSub, Nat.reduceLT, Nat.reduceLeDiff, List.replicate, List.cons_append, List.nil_append, List.getElem?_cons_zero, List.getElem?_cons_succ, List.set_cons_succ, List.set_cons_zero, if_true, if_false, Bool.false_eq_true, Bool.not_true, Bool.not_false, Bool.and_true, Bool.true_and, Bool.or_true, Bool.true_or, reduceCtorEq, eq_self, decide_true, decide_false, decide_not, List.take_succ_cons, List.take_zero, List.length_map, Int.toNat_natCast] at e' ⊢
  simp only [e']
  simp (disch := first | omega | decide) only [mapM_nil, mapM_cons1, List.map_cons, List.map_nil, List.length_cons, List.length_nil, Ev.runs, Ev.run, Ev.evI, Ev.evIs, Ev.ev, Ev.evs, Ev.evo, Ev.evc, Ev.evi, Ev.tstV, Ev.tstI', Ev.asInt, bok, mok, bokS, mokS, upok, Ev.bin, Ev.binI, Ev.cmp, Ev.cmpI, Ev.cmpS, Ev.isNonW, Ev.isiW, Ev.kdOf, vI, vD, vB, vF, setN, putS, setG, setGs, nxO, truth, Ev.sl, Ev.ix, blt, wipeS, W.at, handed, change, setFld, given, fldK, Ev.cellOf, moTy, moC, setIt, setF, srcOk, srcSt, fgtS, Sto.hold, pureOf, belowW, belowC, below, belows, pureI, pureIs, guardP_pos, guardN_pos, Option.map_some, Option.bind_some, Nat.reduceAdd, Nat.reduceSub, Nat.reduceLT, Nat.reduceLeDiff, List.replicate, List.cons_append, List.nil_append, List.getElem?_cons_zero, List.getElem?_cons_succ, List.set_cons_succ, List.set_cons_zero, if_true, if_false, Bool.false_eq_true, Bool.not_true, Bool.not_false, Bool.and_true, Bool.true_and, Bool.or_true, Bool.true_or, reduceCtorEq, eq_self, decide_true, decide_false, decide_not, List.take_succ_cons, List.take_zero, List.length_map, Int.toNat_natCast, d1, d2]
theorem run_stretch {a b : Int} (hs : S.cs[n]? = some (plainW c l)) (hf : Γ (fkey c "kept") = some k) (h0 : 0 ≤ a) (h1 : a < b) (h2 : b ≤ l.length) : fnG Γ 3 3 b_plain_ask_stretch S [.c (.d (.ref n)), .int a, .int b] = some (.ok .non S) := by
  refine fnG_ok rfl (WP.eq (WP.fn ?_))
  unfold b_plain_ask_stretch
  have e : ev Γ S (.fld (.var 0) "kept") [.ro (.c (.d (.ref n))), .ro (.int a), .ro (.int b)] = some (.ok (.c (.lst (kr l)), if n < S.fz then .ro else .sf n "kept")) := fldOf (k := .ro) (by simp only [mapM_nil, mapM_cons1, List.map_cons, List.map_nil, List.length_cons, List.length_nil, Ev.runs, Ev.run, Ev.evI, Ev.evIs, Ev.ev, Ev.evs, Ev.evo, Ev.evc, Ev.evi, Ev.tstV, Ev.tstI', Ev.asInt, bok, mok, bokS, mokS, upok, Ev.bin, Ev.binI, Ev.cmp, Ev.cmpI, Ev.cmpS, Ev.isNonW, Ev.isiW, Ev.kdOf, vI, vD, vB, vF, setN, putS, setG, setGs, nxO, truth, Ev.sl, Ev.ix, blt, wipeS, W.at, handed, change, setFld, given, fldK, Ev.cellOf, moTy, moC, setIt, setF, srcOk, srcSt, fgtS, Sto.hold, pureOf, belowW, belowC, below, belows, pureI, pureIs, guardP_pos, guardN_pos, Option.map_some, Option.bind_some, Nat.reduceAdd, Nat.reduceSub, Nat.reduceLT, Nat.reduceLeDiff, List.replicate, List.cons_append, List.nil_append, List.getElem?_cons_zero, List.getElem?_cons_succ, List.set_cons_succ, List.set_cons_zero, if_true, if_false, Bool.false_eq_true, Bool.not_true, Bool.not_false, Bool.and_true, Bool.true_and, Bool.or_true, Bool.true_or, reduceCtorEq, eq_self, decide_true, decide_false, decide_not, List.take_succ_cons, List.take_zero, List.length_map, Int.toNat_natCast]) hs hf rfl
  have d1 : decide (0 ≤ a) = true := decide_eq_true h0
  have d2 : decide (a < (l.length : Int)) = true := decide_eq_true (by omega)
  have d3 : decide (a < b) = true := decide_eq_true h1
  have d4 : decide (b ≤ (l.length : Int)) = true := decide_eq_true h2
  have e' := e
  unfold Ev.ev at e'
  simp (disch := first | omega | decide) only [mapM_nil, mapM_cons1, List.map_cons, List.map_nil, List.length_cons, List.length_nil, Ev.runs, Ev.run, Ev.evI, Ev.evIs, Ev.ev, Ev.evs, Ev.evo, Ev.evc, Ev.evi, Ev.tstV, Ev.tstI', Ev.asInt, bok, mok, bokS, mokS, upok, Ev.bin, Ev.binI, Ev.cmp, Ev.cmpI, Ev.cmpS, Ev.isNonW, Ev.isiW, Ev.kdOf, vI, vD, vB, vF, setN, putS, setG, setGs, nxO, truth, Ev.sl, Ev.ix, blt, wipeS, W.at, handed, change, setFld, given, fldK, Ev.cellOf, moTy, moC, setIt, setF, srcOk, srcSt, fgtS, Sto.hold, pureOf, belowW, belowC, below, belows, pureI, pureIs, guardP_pos, guardN_pos, Option.map_some, Option.bind_some, Nat.reduceAdd, Nat.reduceSub, Nat.reduceLT, Nat.reduceLeDiff, List.replicate, List.cons_append, List.nil_append, List.getElem?_cons_zero, List.getElem?_cons_succ, List.set_cons_succ, List.set_cons_zero, if_true, if_false, Bool.false_eq_true, Bool.not_true, Bool.not_false, Bool.and_true, Bool.true_and, Bool.or_true, Bool.true_or, reduceCtorEq, eq_self, decide_true, decide_false, decide_not, List.take_succ_cons, List.take_zero, List.length_map, Int.toNat_natCast] at e'
  refine WP.cons (WP.ite (k := false) (S' := S) ?_ nofun fun _ => WP.nil (WP.cons (WP.ite (k := false) (S' := S) ?_ nofun fun _ => WP.nil (WP.nil ⟨rfl, rfl⟩))))
  · simp (disch := first | omega | decide) only [mapM_nil, mapM_cons1, List.map_cons, List.map_nil, List.length_cons, List.length_nil, Ev.runs, Ev.run, Ev.evI, Ev.evIs, Ev.ev, Ev.evs, Ev.evo, Ev.evc, Ev.evi, Ev.tstV, Ev.tstI', Ev.asInt, bok, mok, bokS, mokS, upok, Ev.bin, Ev.binI, Ev.cmp, Ev.cmpI, Ev.cmpS, Ev.isNonW, Ev.isiW, Ev.kdOf, vI, vD, vB, vF, setN, putS, setG, setGs, nxO, truth, Ev.sl, Ev.ix, blt, wipeS, W.at, handed, change, setFld, given, fldK, Ev.cellOf, moTy, moC, setIt, setF, srcOk, srcSt, fgtS, Sto.hold, pureOf, belowW, belowC, below, belows, pureI, pureIs, guardP_pos, guardN_pos, Option.map_some, Option.bind_some, Nat.reduceAdd, Nat.reduceSub, Nat.reduceLT, Nat.reduceLeDiff, List.replicate, List.cons_append, List.nil_append, List.getElem?_cons_zero, List.getElem?_cons_succ, List.set_cons_succ, List.set_cons_zero, if_true, if_false, Bool.false_eq_true, Bool.not_true, Bool.not_false, Bool.and_true, Bool.true_and, Bool.or_true, Bool.true_or, reduceCtorEq, eq_self, decide_true, decide_false, decide_not, List.take_succ_cons, List.take_zero, List.length_map, Int.toNat_natCast]
    simp only [e']
    simp (disch := first | omega | decide) only [mapM_nil, mapM_cons1, List.map_cons, List.map_nil, List.length_cons, List.length_nil, Ev.runs, Ev.run, Ev.evI, Ev.evIs, Ev.ev, Ev.evs, Ev.evo, Ev.evc, Ev.evi, Ev.tstV, Ev.tstI', Ev.asInt, bok, mok, bokS, mokS, upok, Ev.bin, Ev.binI, Ev.cmp, Ev.cmpI, Ev.cmpS, Ev.isNonW, Ev.isiW, Ev.kdOf, vI, vD, vB, vF, setN, putS, setG, setGs, nxO, truth, Ev.sl, Ev.ix, blt, wipeS, W.at, handed, change, setFld, given, fldK, Ev.cellOf, moTy, moC, setIt, setF, srcOk, srcSt, fgtS, Sto.hold, pureOf, belowW, belowC, below, belows, pureI, pureIs, guardP_pos, guardN_pos, Option.map_some, Option.bind_some, Nat.reduceAdd, Nat.reduceSub, Nat.reduceLT, Nat.reduceLeDiff, List.replicate, List.cons_append, List.nil_append, List.getElem?_cons_zero, List.getElem?_cons_succ, List.set_cons_succ, List.set_cons_zero, if_true, if_false, Bool.false_eq_true, Bool.not_true, Bool.not_false, Bool.and_true, Bool.true_and, Bool.or_true, Bool.true_or, reduceCtorEq, eq_self, decide_true, decide_false, decide_not, List.take_succ_cons, List.take_zero, List.length_map, Int.toNat_natCast, d1, d2]
  · simp (disch := first | omega | decide) only [mapM_nil, mapM_cons1, List.map_cons, List.map_nil, List.length_cons, List.length_nil, Ev.runs, Ev.run, Ev.evI, Ev.evIs, Ev.ev, Ev.evs, Ev.evo, Ev.evc, Ev.evi, Ev.tstV, Ev.tstI', Ev.asInt, bok, mok, bokS, mokS, upok, Ev.bin, Ev.binI, Ev.cmp, Ev.cmpI, Ev.cmpS, Ev.isNonW, Ev.isiW, Ev.kdOf, vI, vD, vB, vF, setN, putS, setG, setGs, nxO, truth, Ev.sl, Ev.ix, blt, wipeS, W.at, handed, change, setFld, given, fldK, Ev.cellOf, moTy, moC, setIt, setF, srcOk, srcSt, fgtS, Sto.hold, pureOf, belowW, belowC, below, belows, pureI, pureIs, guardP_pos, guardN_pos, Option.map_some, Option.bind_some, Nat.reduceAdd, Nat.reduceSub, Nat.reduceLT, Nat.reduceLeDiff, List.replicate, List.cons_append, List.nil_append, List.getElem?_cons_zero, List.getElem?_cons_succ, List.set_cons_succ, List.set_cons_zero, if_true, if_false, Bool.false_eq_true, Bool.not_true, Bool.not_false, Bool.and_true, Bool.true_and, Bool.or_true, Bool.true_or, reduceCtorEq, eq_self, decide_true, decide_false, decide_not, List.take_succ_cons, List.take_zero, List.length_map, Int.toNat_natCast]
    simp only [e']
    simp (disch := first | omega | decide) only [mapM_nil, mapM_cons1, List.map_cons, List.map_nil, List.length_cons, List.length_nil, Ev.runs, Ev.run, Ev.evI, Ev.evIs, Ev.ev, Ev.evs, Ev.evo, Ev.evc, Ev.evi, Ev.tstV, Ev.tstI', Ev.asInt, bok, mok, bokS, mokS, upok, Ev.bin, Ev.binI, Ev.cmp, Ev.cmpI, Ev.cmpS, Ev.isNonW, Ev.isiW, Ev.kdOf, vI, vD, vB, vF, setN, putS, setG, setGs, nxO, truth, Ev.sl, Ev.ix, blt, wipeS, W.at, handed, change, setFld, given, fldK, Ev.cellOf, moTy, moC, setIt, setF, srcOk, srcSt, fgtS, Sto.hold, pureOf, belowW, belowC, below, belows, pureI, pureIs, guardP_pos, guardN_pos, Option.map_some, Option.bind_some, Nat.reduceAdd, Nat.reduceSub, Nat.reduceLT, Nat.reduceLeDiff, List.replicate, List.cons_append, List.nil_append, List.getElem?_cons_zero, List.getElem?_cons_succ, List.set_cons_succ, List.set_cons_zero, if_true, if_false, Bool.false_eq_true, Bool.not_true, Bool.not_false, Bool.and_true, Bool.true_and, Bool.or_true, Bool.true_or, reduceCtorEq, eq_self, decide_true, decide_false, decide_not, List.take_succ_cons, List.take_zero, List.length_map, Int.toNat_natCast, d3, d4]
theorem kr_app (a b : List (Nat × Str)) : kr a ++ kr b = kr (a ++ b) := (List.map_append ..).symm
theorem kr_take (a : List (Nat × Str)) (n : Nat) : (kr a).take n = kr (a.take n) := (List.map_take ..).symm
theorem kr_drop (a : List (Nat × Str)) (n : Nat) : (kr a).drop n = kr (a.drop n) := (List.map_drop ..).symm
theorem kr_len (a : List (Nat × Str)) : (kr a).length = a.length := List.length_map _
theorem bare_len (a : List Nat) : (bare a).length = a.length := List.length_map _
theorem binL {Γ : Gam} {S : Sto} {a b : E} {σ : List Sl} {xs ys : List D} {k1 k2 : Kd} (h1 : ev Γ S a σ = some (.ok (.c (.lst xs), k1))) (h2 : ev Γ S b σ = some (.ok (.c (.lst ys), k2))) (hl : xs.length + ys.length ≤ 16777216) : ev Γ S (.bin .Add a b) σ = some (.ok (.c (.lst (xs ++ ys)), .fr)) := by
  unfold Ev.ev
  rw [h1, h2]
  simp (disch := assumption) only [bok, W.at, Ev.bin, if_true, guardN_pos, vF, mok]
theorem run_put {a : Int} {t : List Nat} {ga : Sto → List W → MS W} {Z : Sto} (hs : S.cs[n]? = some (plainW c l)) (hf : Γ (fkey c "kept") = some k) (hgam : Γ (mkey c "ask_gap") = some ga) (hga : ga S.hold [.c (.d (.ref n)), .int a] = some (.ok .non Z)) (hz : S.fz ≤ n) (h0 : 0 ≤ a) (h1 : a ≤ l.length) (hl : l.length + t.length ≤ 16777216) :
    fnG Γ 3 4 b_plain_put S [.c (.d (.ref n)), .int a, .str (SX.S t)] = some (.ok .non ⟨S.cs.set n (plainW c (l.take a.toNat ++ bare t ++ l.drop a.toNat)), S.fz⟩) := by
  refine fnG_ok rfl (WP.eq (WP.fn ?_))
  unfold b_plain_put
  change WP (runs Γ _ [Sl.ro (W.c (.d (.ref n))), .ro (.int a), .ro (.str (SX.S t)), .out] S) _
  generalize hσ : [Sl.ro (W.c (.d (.ref n))), .ro (.int a), .ro (.str (SX.S t)), .out] = σ
  have v0 : ev Γ S (.var 0) σ = some (.ok (.c (.d (.ref n)), .ro)) := by rw [← hσ]; simp only [mapM_nil, mapM_cons1, List.map_cons, List.map_nil, List.length_cons, List.length_nil, Ev.runs, Ev.run, Ev.evI, Ev.evIs, Ev.ev, Ev.evs, Ev.evo, Ev.evc, Ev.evi, Ev.tstV, Ev.tstI', Ev.asInt, bok, mok, bokS, mokS, upok, Ev.bin, Ev.binI, Ev.cmp, Ev.cmpI, Ev.cmpS, Ev.isNonW, Ev.isiW, Ev.kdOf, vI, vD, vB, vF, setN, putS, setG, setGs, nxO, truth, Ev.sl, Ev.ix, blt, wipeS, W.at, handed, change, setFld, given, fldK, Ev.cellOf, moTy, moC, setIt, setF, srcOk, srcSt, fgtS, Sto.hold, pureOf, belowW, belowC, below, belows, pureI, pureIs, guardP_pos, guardN_pos, Option.map_some, Option.bind_some, Nat.reduceAdd, Nat.reduceSub, Nat.reduceLT, Nat.reduceLeDiff, List.replicate, List.cons_append, List.nil_append, List.getElem?_cons_zero, List.getElem?_cons_succ, List.set_cons_succ, List.set_cons_zero, if_true, if_false, Bool.false_eq_true, Bool.not_true, Bool.not_false, Bool.and_true, Bool.true_and, Bool.or_true, Bool.true_or, reduceCtorEq, eq_self, decide_true, decide_false, decide_not, List.take_succ_cons, List.take_zero, List.length_map, Int.toNat_natCast]
  have v1 : ev Γ S (.var 1) σ = some (.ok (.int a, .ro)) := by rw [← hσ]; simp only [mapM_nil, mapM_cons1, List.map_cons, List.map_nil, List.length_cons, List.length_nil, Ev.runs, Ev.run, Ev.evI, Ev.evIs, Ev.ev, Ev.evs, Ev.evo, Ev.evc, Ev.evi, Ev.tstV, Ev.tstI', Ev.asInt, bok, mok, bokS, mokS, upok, Ev.bin, Ev.binI, Ev.cmp, Ev.cmpI, Ev.cmpS, Ev.isNonW, Ev.isiW, Ev.kdOf, vI, vD, vB, vF, setN, putS, setG, setGs, nxO, truth, Ev.sl, Ev.ix, blt, wipeS, W.at, handed, change, setFld, given, fldK, Ev.cellOf, moTy, moC, setIt, setF, srcOk, srcSt, fgtS, Sto.hold, pureOf, belowW, belowC, below, belows, pureI, pureIs, guardP_pos, guardN_pos, Option.map_some, Option.bind_some, Nat.reduceAdd, Nat.reduceSub, Nat.reduceLT, Nat.reduceLeDiff, List.replicate, List.cons_append, List.nil_append, List.getElem?_cons_zero, List.getElem?_cons_succ, List.set_cons_succ, List.set_cons_zero, if_true, if_false, Bool.false_eq_true, Bool.not_true, Bool.not_false, Bool.and_true, Bool.true_and, Bool.or_true, Bool.true_or, reduceCtorEq, eq_self, decide_true, decide_false, decide_not, List.take_succ_cons, List.take_zero, List.length_map, Int.toNat_natCast]
  have v2 : ev Γ S (.var 2) σ = some (.ok (.str (SX.S t), .ro)) := by rw [← hσ]; simp only [mapM_nil, mapM_cons1, List.map_cons, List.map_nil, List.length_cons, List.length_nil, Ev.runs, Ev.run, Ev.evI, Ev.evIs, Ev.ev, Ev.evs, Ev.evo, Ev.evc, Ev.evi, Ev.tstV, Ev.tstI', Ev.asInt, bok, mok, bokS, mokS, upok, Ev.bin, Ev.binI, Ev.cmp, Ev.cmpI, Ev.cmpS, Ev.isNonW, Ev.isiW, Ev.kdOf, vI, vD, vB, vF, setN, putS, setG, setGs, nxO, truth, Ev.sl, Ev.ix, blt, wipeS, W.at, handed, change, setFld, given, fldK, Ev.cellOf, moTy, moC, setIt, setF, srcOk, srcSt, fgtS, Sto.hold, pureOf, belowW, belowC, below, belows, pureI, pureIs, guardP_pos, guardN_pos, Option.map_some, Option.bind_some, Nat.reduceAdd, Nat.reduceSub, Nat.reduceLT, Nat.reduceLeDiff, List.replicate, List.cons_append, List.nil_append, List.getElem?_cons_zero, List.getElem?_cons_succ, List.set_cons_succ, List.set_cons_zero, if_true, if_false, Bool.false_eq_true, Bool.not_true, Bool.not_false, Bool.and_true, Bool.true_and, Bool.or_true, Bool.true_or, reduceCtorEq, eq_self, decide_true, decide_false, decide_not, List.take_succ_cons, List.take_zero, List.length_map, Int.toNat_natCast]
  have e : ev Γ S (.fld (.var 0) "kept") σ = some (.ok (.c (.lst (kr l)), if n < S.fz then .ro else .sf n "kept")) := fldOf v0 hs hf rfl
  have e1 : ev Γ S (.mcall (.var 0) "ask_gap" (.cons (.var 1) .nil)) σ = some (.ok (.non, .ro)) := mcallOf (x := (.c (.d (.ref n)), .ro)) (c := c) (fs := [("kept", .lst (kr l))]) v0 (by simp only [W.at, hs]) hgam rfl (by unfold evs evs; rw [v1]; rfl) hga rfl
  have e2 : ev Γ S (.bin .Add (.bin .Add (.sl (.fld (.var 0) "kept") .none (.some (.var 1))) (.lc [("sign", 3)] (.nm 3) (.str (.var 2)) .none (.tup (.cons (.var 3) (.cons (.str "") .nil))))) (.sl (.fld (.var 0) "kept") (.some (.var 1)) .none)) σ = some (.ok (.c (.lst (kr (l.take a.toNat ++ bare t ++ l.drop a.toNat))), .fr)) := by
    have q : ev Γ S (.lc [("sign", 3)] (.nm 3) (.str (.var 2)) .none (.tup (.cons (.var 3) (.cons (.str "") .nil)))) σ = some (.ok (.c (.lst (kr (bare t))), .fr)) := lc_signs (by rw [← hσ]; simp) v2 (by omega)
    have q1 : ev Γ S (.sl (.fld (.var 0) "kept") .none (.some (.var 1))) σ = some (.ok (.c (.lst (kr (l.take a.toNat))), .fr)) := by
      unfold Ev.ev
      rw [e]
      simp (disch := first | omega | decide) only [Ev.evo, v1, bok, mok, W.at, Ev.asInt, Ev.sl, vF, cutD_to h0, kr_take]
    have q2 : ev Γ S (.sl (.fld (.var 0) "kept") (.some (.var 1)) .none) σ = some (.ok (.c (.lst (kr (l.drop a.toNat))), .fr)) := by
      unfold Ev.ev
      rw [e]
      simp (disch := first | omega | decide) only [Ev.evo, v1, bok, mok, W.at, Ev.asInt, Ev.sl, vF, cutD_from h0, kr_drop]
    have g1 : (kr (l.take a.toNat)).length + (kr (bare t)).length ≤ 16777216 := by rw [kr_len, kr_len, bare_len, List.length_take]; omega
    have g2 : (kr (l.take a.toNat ++ bare t)).length + (kr (l.drop a.toNat)).length ≤ 16777216 := by rw [kr_len, kr_len, List.length_append, bare_len, List.length_take, List.length_drop]; omega
    rw [binL (binL q1 q g1) q2 (by rw [kr_app]; exact g2), kr_app, kr_app]
  refine WP.seq (σ' := σ) (S' := S) (by unfold Ev.run; simp only [Ev.evI, e1, upok, bokS, mokS]) (WP.seq (σ' := σ) (S' := ⟨S.cs.set n (plainW c (l.take a.toNat ++ bare t ++ l.drop a.toNat)), S.fz⟩) ?_ (WP.nil ⟨rfl, rfl⟩))
  unfold Ev.run
  simp only [Ev.evI, e2, upok, bokS, v0, given, W.at, hs, hf, setFld]
  rw [if_pos ⟨hz, by simp⟩]
  rfl
theorem run_strike {a b : Int} {ga : Sto → List W → MS W} {Z : Sto} (hs : S.cs[n]? = some (plainW c l)) (hf : Γ (fkey c "kept") = some k) (hgam : Γ (mkey c "ask_stretch") = some ga) (hga : ga S.hold [.c (.d (.ref n)), .int a, .int b] = some (.ok .non Z)) (hz : S.fz ≤ n) (h0 : 0 ≤ a) (h1 : a < b) (h2 : b ≤ l.length) (hl : l.length ≤ 16777216) :
    fnG Γ 3 3 b_plain_strike S [.c (.d (.ref n)), .int a, .int b] = some (.ok .non ⟨S.cs.set n (plainW c (l.take a.toNat ++ l.drop b.toNat)), S.fz⟩) := by
  refine fnG_ok rfl (WP.eq (WP.fn ?_))
  unfold b_plain_strike
  change WP (runs Γ _ [Sl.ro (W.c (.d (.ref n))), .ro (.int a), .ro (.int b)] S) _
  generalize hσ : [Sl.ro (W.c (.d (.ref n))), .ro (.int a), .ro (.int b)] = σ
  have v0 : ev Γ S (.var 0) σ = some (.ok (.c (.d (.ref n)), .ro)) := by rw [← hσ]; simp only [mapM_nil, mapM_cons1, List.map_cons, List.map_nil, List.length_cons, List.length_nil, Ev.runs, Ev.run, Ev.evI, Ev.evIs, Ev.ev, Ev.evs, Ev.evo, Ev.evc, Ev.evi, Ev.tstV, Ev.tstI', Ev.asInt, bok, mok, bokS, mokS, upok, Ev.bin, Ev.binI, Ev.cmp, Ev.cmpI, Ev.cmpS, Ev.isNonW, Ev.isiW, Ev.kdOf, vI, vD, vB, vF, setN, putS, setG, setGs, nxO, truth, Ev.sl, Ev.ix, blt, wipeS, W.at, handed, change, setFld, given, fldK, Ev.cellOf, moTy, moC, setIt, setF, srcOk, srcSt, fgtS, Sto.hold, pureOf, belowW, belowC, below, belows, pureI, pureIs, guardP_pos, guardN_pos, Option.map_some, Option.bind_some, Nat.reduceAdd, Nat.reduceSub, Nat.reduceLT, Nat.reduceLeDiff, List.replicate, List.cons_append, List.nil_append, List.getElem?_cons_zero, List.getElem?_cons_succ, List.set_cons_succ, List.set_cons_zero, if_true, if_false, Bool.false_eq_true, Bool.not_true, Bool.not_false, Bool.and_true, Bool.true_and, Bool.or_true, Bool.true_or, reduceCtorEq, eq_self, decide_true, decide_false, decide_not, List.take_succ_cons, List.take_zero, List.length_map, Int.toNat_natCast]
  have v1 : ev Γ S (.var 1) σ = some (.ok (.int a, .ro)) := by rw [← hσ]; simp only [mapM_nil, mapM_cons1, List.map_cons, List.map_nil, List.length_cons, List.length_nil, Ev.runs, Ev.run, Ev.evI, Ev.evIs, Ev.ev, Ev.evs, Ev.evo, Ev.evc, Ev.evi, Ev.tstV, Ev.tstI', Ev.asInt, bok, mok, bokS, mokS, upok, Ev.bin, Ev.binI, Ev.cmp, Ev.cmpI, Ev.cmpS, Ev.isNonW, Ev.isiW, Ev.kdOf, vI, vD, vB, vF, setN, putS, setG, setGs, nxO, truth, Ev.sl, Ev.ix, blt, wipeS, W.at, handed, change, setFld, given, fldK, Ev.cellOf, moTy, moC, setIt, setF, srcOk, srcSt, fgtS, Sto.hold, pureOf, belowW, belowC, below, belows, pureI, pureIs, guardP_pos, guardN_pos, Option.map_some, Option.bind_some, Nat.reduceAdd, Nat.reduceSub, Nat.reduceLT, Nat.reduceLeDiff, List.replicate, List.cons_append, List.nil_append, List.getElem?_cons_zero, List.getElem?_cons_succ, List.set_cons_succ, List.set_cons_zero, if_true, if_false, Bool.false_eq_true, Bool.not_true, Bool.not_false, Bool.and_true, Bool.true_and, Bool.or_true, Bool.true_or, reduceCtorEq, eq_self, decide_true, decide_false, decide_not, List.take_succ_cons, List.take_zero, List.length_map, Int.toNat_natCast]
  have v2 : ev Γ S (.var 2) σ = some (.ok (.int b, .ro)) := by rw [← hσ]; simp only [mapM_nil, mapM_cons1, List.map_cons, List.map_nil, List.length_cons, List.length_nil, Ev.runs, Ev.run, Ev.evI, Ev.evIs, Ev.ev, Ev.evs, Ev.evo, Ev.evc, Ev.evi, Ev.tstV, Ev.tstI', Ev.asInt, bok, mok, bokS, mokS, upok, Ev.bin, Ev.binI, Ev.cmp, Ev.cmpI, Ev.cmpS, Ev.isNonW, Ev.isiW, Ev.kdOf, vI, vD, vB, vF, setN, putS, setG, setGs, nxO, truth, Ev.sl, Ev.ix, blt, wipeS, W.at, handed, change, setFld, given, fldK, Ev.cellOf, moTy, moC, setIt, setF, srcOk, srcSt, fgtS, Sto.hold, pureOf, belowW, belowC, below, belows, pureI, pureIs, guardP_pos, guardN_pos, Option.map_some, Option.bind_some, Nat.reduceAdd, Nat.reduceSub, Nat.reduceLT, Nat.reduceLeDiff, List.replicate, List.cons_append, List.nil_append, List.getElem?_cons_zero, List.getElem?_cons_succ, List.set_cons_succ, List.set_cons_zero, if_true, if_false, Bool.false_eq_true, Bool.not_true, Bool.not_false, Bool.and_true, Bool.true_and, Bool.or_true, Bool.true_or, reduceCtorEq, eq_self, decide_true, decide_false, decide_not, List.take_succ_cons, List.take_zero, List.length_map, Int.toNat_natCast]
  have e : ev Γ S (.fld (.var 0) "kept") σ = some (.ok (.c (.lst (kr l)), if n < S.fz then .ro else .sf n "kept")) := fldOf v0 hs hf rfl
  have e1 : ev Γ S (.mcall (.var 0) "ask_stretch" (.cons (.var 1) (.cons (.var 2) .nil))) σ = some (.ok (.non, .ro)) := mcallOf (x := (.c (.d (.ref n)), .ro)) (c := c) (fs := [("kept", .lst (kr l))]) v0 (by simp only [W.at, hs]) hgam rfl (by unfold evs evs evs; rw [v1, v2]; rfl) hga rfl
  have e2 : ev Γ S (.bin .Add (.sl (.fld (.var 0) "kept") .none (.some (.var 1))) (.sl (.fld (.var 0) "kept") (.some (.var 2)) .none)) σ = some (.ok (.c (.lst (kr (l.take a.toNat ++ l.drop b.toNat))), .fr)) := by
    have q1 : ev Γ S (.sl (.fld (.var 0) "kept") .none (.some (.var 1))) σ = some (.ok (.c (.lst (kr (l.take a.toNat))), .fr)) := by
      unfold Ev.ev
      rw [e]
      simp (disch := first | omega | decide) only [Ev.evo, v1, bok, mok, W.at, Ev.asInt, Ev.sl, vF, cutD_to h0, kr_take]
    have q2 : ev Γ S (.sl (.fld (.var 0) "kept") (.some (.var 2)) .none) σ = some (.ok (.c (.lst (kr (l.drop b.toNat))), .fr)) := by
      unfold Ev.ev
      rw [e]
      simp (disch := first | omega | decide) only [Ev.evo, v2, bok, mok, W.at, Ev.asInt, Ev.sl, vF, cutD_from (show 0 ≤ b by omega), kr_drop]
    have g1 : (kr (l.take a.toNat)).length + (kr (l.drop b.toNat)).length ≤ 16777216 := by rw [kr_len, kr_len, List.length_take, List.length_drop]; omega
    rw [binL q1 q2 g1, kr_app]
  refine WP.seq (σ' := σ) (S' := S) (by unfold Ev.run; simp only [Ev.evI, e1, upok, bokS, mokS]) (WP.seq (σ' := σ) (S' := ⟨S.cs.set n (plainW c (l.take a.toNat ++ l.drop b.toNat)), S.fz⟩) ?_ (WP.nil ⟨rfl, rfl⟩))
  unfold Ev.run
  simp only [Ev.evI, e2, upok, bokS, v0, given, W.at, hs, hf, setFld]
  rw [if_pos ⟨hz, by simp⟩]
  rfl
theorem run_drawn {S : Sto} (a b : Int) : fnG Γ 2 3 b_law_drawn S [.int a, .int b] = some (.ok (.int (drawn a b)) S) := by
  refine fnG_ok rfl (WP.eq (WP.fn ?_))
  unfold b_law_drawn
  have h1 : 0 ≤ (a + 7919 * b + 1) * 48271 % 2147483647 := Int.emod_nonneg _ (by decide)
  have h2 : (a + 7919 * b + 1) * 48271 % 2147483647 < 2147483647 := Int.emod_lt_of_pos _ (by decide)
  refine WP.seq (σ' := [.ro (.int a), .ro (.int b), .ro (.int ((a + 7919 * b + 1) * 48271 % 2147483647))]) (S' := S) ?_ (WP.ret (σ' := [.ro (.int a), .ro (.int b), .ro (.int ((a + 7919 * b + 1) * 48271 % 2147483647))]) (w := .int (drawn a b)) (S' := S) ?_ ⟨rfl, rfl⟩)
  · simp (disch := first | omega | decide) only [mapM_nil, mapM_cons1, List.map_cons, List.map_nil, List.length_cons, List.length_nil, Ev.runs, Ev.run, Ev.evI, Ev.evIs, Ev.ev, Ev.evs, Ev.evo, Ev.evc, Ev.evi, Ev.tstV, Ev.tstI', Ev.asInt, bok, mok, bokS, mokS, upok, Ev.bin, Ev.binI, Ev.cmp, Ev.cmpI, Ev.cmpS, Ev.isNonW, Ev.isiW, Ev.kdOf, vI, vD, vB, vF, setN, putS, setG, setGs, nxO, truth, Ev.sl, Ev.ix, blt, wipeS, W.at, handed, change, setFld, given, fldK, Ev.cellOf, moTy, moC, setIt, setF, srcOk, srcSt, fgtS, Sto.hold, pureOf, belowW, belowC, below, belows, pureI, pureIs, guardP_pos, guardN_pos, Option.map_some, Option.bind_some, Nat.reduceAdd, Nat.reduceSub, Nat.reduceLT, Nat.reduceLeDiff, List.replicate, List.cons_append, List.nil_append, List.getElem?_cons_zero, List.getElem?_cons_succ, List.set_cons_succ, List.set_cons_zero, if_true, if_false, Bool.false_eq_true, Bool.not_true, Bool.not_false, Bool.and_true, Bool.true_and, Bool.or_true, Bool.true_or, reduceCtorEq, eq_self, decide_true, decide_false, decide_not, List.take_succ_cons, List.take_zero, List.length_map, Int.toNat_natCast]
  · have hd : drawn a b = (fun n : Int => n * (n / 1009 + 69621) % 2147483647) ((a + 7919 * b + 1) * 48271 % 2147483647) := rfl
    rw [hd]
    generalize (a + 7919 * b + 1) * 48271 % 2147483647 = x at h1 h2
    simp (disch := first | omega | decide) only [mapM_nil, mapM_cons1, List.map_cons, List.map_nil, List.length_cons, List.length_nil, Ev.runs, Ev.run, Ev.evI, Ev.evIs, Ev.ev, Ev.evs, Ev.evo, Ev.evc, Ev.evi, Ev.tstV, Ev.tstI', Ev.asInt, bok, mok, bokS, mokS, upok, Ev.bin, Ev.binI, Ev.cmp, Ev.cmpI, Ev.cmpS, Ev.isNonW, Ev.isiW, Ev.kdOf, vI, vD, vB, vF, setN, putS, setG, setGs, nxO, truth, Ev.sl, Ev.ix, blt, wipeS, W.at, handed, change, setFld, given, fldK, Ev.cellOf, moTy, moC, setIt, setF, srcOk, srcSt, fgtS, Sto.hold, pureOf, belowW, belowC, below, belows, pureI, pureIs, guardP_pos, guardN_pos, Option.map_some, Option.bind_some, Nat.reduceAdd, Nat.reduceSub, Nat.reduceLT, Nat.reduceLeDiff, List.replicate, List.cons_append, List.nil_append, List.getElem?_cons_zero, List.getElem?_cons_succ, List.set_cons_succ, List.set_cons_zero, if_true, if_false, Bool.false_eq_true, Bool.not_true, Bool.not_false, Bool.and_true, Bool.true_and, Bool.or_true, Bool.true_or, reduceCtorEq, eq_self, decide_true, decide_false, decide_not, List.take_succ_cons, List.take_zero, List.length_map, Int.toNat_natCast]
end
end PP
namespace PP
open PySem PySem.Spec
open PyProof.Rows hiding St
open L2 Ev
abbrev N_plain_dress : List Str := ["self", "at", "to", "word", "worn", "sign", "old"]
def b_plain_dress : Ts :=
 (.cons (.expr (.p (.mcall (.var 0) "ask_stretch" (.cons (.var 1) (.cons (.var 2) .nil)))))
 (.cons (.asg (.nm 4) (.p (.lc [("sign", 5), ("old", 6)] (.tup [5, 6]) (.e (.sl (.fld (.var 0) "kept") (.some (.var 1)) (.some (.var 2)))) .none (.tup (.cons (.var 5) (.cons (.var 3) .nil))))))
 (.cons (.fset (.var 0) "kept" (.p (.bin .Add (.bin .Add (.sl (.fld (.var 0) "kept") .none (.some (.var 1))) (.var 4)) (.sl (.fld (.var 0) "kept") (.some (.var 2)) .none))))
 .nil)))
abbrev N_plain_move : List Str := ["self", "at", "to", "goal", "taken", "ahead", "left", "k"]
def b_plain_move : Ts :=
 (.cons (.expr (.p (.mcall (.var 0) "ask_stretch" (.cons (.var 1) (.cons (.var 2) .nil)))))
 (.cons (.expr (.p (.mcall (.var 0) "ask_gap" (.cons (.var 3) .nil))))
 (.cons (.asg (.nm 4) (.p (.sl (.fld (.var 0) "kept") (.some (.var 1)) (.some (.var 2)))))
 (.cons (.asg (.nm 5) (.p (.lc [("k", 7)] (.nm 7) (.rng1 (.var 3)) (.some (.not (.cmp2 .LtE .Lt (.var 1) (.var 7) (.var 2)))) (.var 7))))
 (.cons (.asg (.nm 6) (.p (.bin .Add (.sl (.fld (.var 0) "kept") .none (.some (.var 1))) (.sl (.fld (.var 0) "kept") (.some (.var 2)) .none))))
 (.cons (.fset (.var 0) "kept" (.p (.bin .Add (.bin .Add (.sl (.var 6) .none (.some (.blt .len (.cons (.var 5) .nil)))) (.var 4)) (.sl (.var 6) (.some (.blt .len (.cons (.var 5) .nil))) .none))))
 .nil))))))
end PP
namespace PP
open PySem PySem.Spec
open PyProof.Rows hiding St
open L2 Ev
/-- how many of the others stand ahead of a goal -/
def mvN (a b g : Nat) : Nat := if g ≤ a then g else if g ≤ b then a else g - (b - a)
theorem mvN_count {a b : Nat} (h : a < b) : ∀ g, ((List.range g).filter fun k => !(decide (a ≤ k) && decide (k < b))).length = mvN a b g
  | 0 => by simp [mvN]
  | g + 1 => by
    rw [List.range_succ, List.filter_append, List.length_append, mvN_count h g]
    unfold mvN
    by_cases h1 : a ≤ g
    · by_cases h2 : g < b
      · simp [h1, h2]; repeat' split
        all_goals omega
      · simp [h1, h2]; repeat' split
        all_goals omega
    · simp [h1]; repeat' split
      all_goals omega
theorem mvN_le {a b g n : Nat} (h : a < b) (hb : b ≤ n) (hg : g ≤ n) : mvN a b g ≤ n - (b - a) := by
  unfold mvN
  repeat' split
  all_goals omega
def mvL (l : List (Nat × Str)) (a b g : Nat) : List (Nat × Str) := (l.take a ++ l.drop b).take (mvN a b g) ++ (l.take b).drop a ++ (l.take a ++ l.drop b).drop (mvN a b g)
def drL (l : List (Nat × Str)) (a b : Nat) (w : Str) : List (Nat × Str) := l.take a ++ ((l.take b).drop a).map (fun p => (p.1, w)) ++ l.drop b
theorem mvL_len {l : List (Nat × Str)} {a b g : Nat} (h : a < b) (hb : b ≤ l.length) : (mvL l a b g).length = l.length := by
  unfold mvL
  rw [List.length_append, List.length_append, List.length_take, List.length_drop, List.length_drop, List.length_take, List.length_append, List.length_take, List.length_drop]
  omega
theorem drL_len {l : List (Nat × Str)} {a b : Nat} {w : Str} (h : a < b) (hb : b ≤ l.length) : (drL l a b w).length = l.length := by
  unfold drL
  rw [List.length_append, List.length_append, List.length_map, List.length_drop, List.length_drop, List.length_take, List.length_take]
  omega
section
variable {Γ : Gam} {S : Sto} {c n : Nat} {l : List (Nat × Str)} {k : Sto → List W → MS W} {σ : List Sl}
theorem slL {a : E} {lo hi : Eo} {xs : List D} {k1 : Kd} {l h : Option Int} (h1 : ev Γ S a σ = some (.ok (.c (.lst xs), k1))) (h2 : evo Γ S lo σ = some (.ok l)) (h3 : evo Γ S hi σ = some (.ok h)) : ev Γ S (.sl a lo hi) σ = some (.ok (.c (.lst (cutD xs l h)), .fr)) := by
  unfold Ev.ev
  rw [h1, h2, h3]
  rfl
theorem evoV {e : E} {i : Int} {k1 : Kd} (h : ev Γ S e σ = some (.ok (.int i, k1))) : evo Γ S (.some e) σ = some (.ok (some i)) := by
  unfold evo
  rw [h]
  rfl
theorem evoN : evo Γ S .none σ = some (.ok none) := by unfold evo; rfl
theorem kr_cut {l : List (Nat × Str)} {a b : Int} (h0 : 0 ≤ a) (h1 : 0 ≤ b) : cutD (kr l) (some a) (some b) = kr ((l.take b.toNat).drop a.toNat) := by rw [cutD_pos h0 h1, kr_take, kr_drop]
theorem kr_to {l : List (Nat × Str)} {b : Int} (h1 : 0 ≤ b) : cutD (kr l) none (some b) = kr (l.take b.toNat) := by rw [cutD_to h1, kr_take]
theorem kr_from {l : List (Nat × Str)} {b : Int} (h1 : 0 ≤ b) : cutD (kr l) (some b) none = kr (l.drop b.toNat) := by rw [cutD_from h1, kr_drop]
theorem lc_dress {i0 i1 : Int} {l : List (Nat × Str)} {w : Str} {it : E} {k1 : Kd} {σ0 : List Sl} (h0 : σ0 = [Sl.ro (.c (.d (.ref n))), .ro (.int i0), .ro (.int i1), .ro (.str w), .out, .out, .out]) (he : ev Γ S it σ0 = some (.ok (.c (.lst (kr l)), k1))) (hn : l.length ≤ 16777216) :
    ev Γ S (.lc [("sign", 5), ("old", 6)] (.tup [5, 6]) (.e it) .none (.tup (.cons (.var 5) (.cons (.var 3) .nil)))) σ0 = some (.ok (.c (.lst (kr (l.map fun p => (p.1, w)))), .fr)) := by
  have e1 : evi Γ S (.e it) σ0 = some (.ok (kr l, [(.c (.lst (kr l)), k1)])) := by
    unfold evi
    rw [he, bok]
    rfl
  rw [ev_lc (ys := kr (l.map fun p => (p.1, w))) e1 (by rw [kr_len]; exact hn)]
  rw [show kr (l.map fun p => (p.1, w)) = (kr l).map fun x => match x with | .tup [a, b] => D.tup [a, .str w] | d => d by simp [kr, pr, List.map_map, Function.comp]]
  refine lcRun_evc _ _ fun x hx => ?_
  obtain ⟨p, _, rfl⟩ := List.mem_map.mp hx
  subst h0
  refine ⟨[Sl.ro (.c (.d (.ref n))), .ro (.int i0), .ro (.int i1), .ro (.str w), .out, .ro (.str (SX.S [p.1])), .ro (.str p.2)], rfl, .ro, ?_⟩
  simp (disch := first | omega | decide) only [mapM_nil, mapM_cons1, List.map_cons, List.map_nil, List.length_cons, List.length_nil, Ev.runs, Ev.run, Ev.evI, Ev.evIs, Ev.ev, Ev.evs, Ev.evo, Ev.evc, Ev.evi, Ev.tstV, Ev.tstI', Ev.asInt, bok, mok, bokS, mokS, upok, Ev.bin, Ev.binI, Ev.cmp, Ev.cmpI, Ev.cmpS, Ev.isNonW, Ev.isiW, Ev.kdOf, vI, vD, vB, vF, setN, putS, setG, setGs, nxO, truth, Ev.sl, Ev.ix, blt, wipeS, W.at, handed, change, setFld, given, fldK, Ev.cellOf, moTy, moC, setIt, setF, srcOk, srcSt, fgtS, Sto.hold, pureOf, belowW, belowC, below, belows, pureI, pureIs, guardP_pos, guardN_pos, Option.map_some, Option.bind_some, Nat.reduceAdd, Nat.reduceSub, Nat.reduceLT, Nat.reduceLeDiff, List.replicate, List.cons_append, List.nil_append, List.getElem?_cons_zero, List.getElem?_cons_succ, List.set_cons_succ, List.set_cons_zero, if_true, if_false, Bool.false_eq_true, Bool.not_true, Bool.not_false, Bool.and_true, Bool.true_and, Bool.or_true, Bool.true_or, reduceCtorEq, eq_self, decide_true, decide_false, decide_not, List.take_succ_cons, List.take_zero, List.length_map, Int.toNat_natCast, pr]
theorem run_dress {a b : Int} {w : Str} {ga : Sto → List W → MS W} {Z : Sto} (hs : S.cs[n]? = some (plainW c l)) (hf : Γ (fkey c "kept") = some k) (hgam : Γ (mkey c "ask_stretch") = some ga) (hga : ga S.hold [.c (.d (.ref n)), .int a, .int b] = some (.ok .non Z)) (hz : S.fz ≤ n) (h0 : 0 ≤ a) (h1 : a < b) (h2 : b ≤ l.length) (hl : l.length ≤ 16777216) :
    fnG Γ 4 7 b_plain_dress S [.c (.d (.ref n)), .int a, .int b, .str w] = some (.ok .non ⟨S.cs.set n (plainW c (drL l a.toNat b.toNat w)), S.fz⟩) := by
  refine fnG_ok rfl (WP.eq (WP.fn ?_))
  unfold b_plain_dress
  change WP (runs Γ _ [Sl.ro (W.c (.d (.ref n))), .ro (.int a), .ro (.int b), .ro (.str w), .out, .out, .out] S) _
  have fld : ∀ σ : List Sl, σ[0]? = some (.ro (.c (.d (.ref n)))) → ev Γ S (.fld (.var 0) "kept") σ = some (.ok (.c (.lst (kr l)), if n < S.fz then .ro else .sf n "kept")) := fun σ h => fldOf (k := .ro) (by unfold Ev.ev; rw [h]; rfl) hs hf rfl
  have v : ∀ (σ : List Sl) (i : Nat) (w : W), σ[i]? = some (.ro w) → ev Γ S (.var i) σ = some (.ok (w, .ro)) := fun σ i w h => by unfold Ev.ev; rw [h]; rfl
  generalize hσ : [Sl.ro (W.c (.d (.ref n))), .ro (.int a), .ro (.int b), .ro (.str w), .out, .out, .out] = σ
  have e1 : ev Γ S (.mcall (.var 0) "ask_stretch" (.cons (.var 1) (.cons (.var 2) .nil))) σ = some (.ok (.non, .ro)) := mcallOf (x := (.c (.d (.ref n)), .ro)) (c := c) (fs := [("kept", .lst (kr l))]) (v _ _ _ (by rw [← hσ]; rfl)) (by simp only [W.at, hs]) hgam rfl (by unfold evs evs evs; rw [v σ 1 (.int a) (by rw [← hσ]; rfl), v σ 2 (.int b) (by rw [← hσ]; rfl)]; rfl) hga rfl
  refine WP.seq (σ' := σ) (S' := S) (by unfold Ev.run; simp only [Ev.evI, e1, upok, bokS, mokS]) ?_
  have e2 := lc_dress (Γ := Γ) (S := S) (l := (l.take b.toNat).drop a.toNat) hσ.symm (by rw [slL (fld σ (by rw [← hσ]; rfl)) (evoV (v σ 1 (.int a) (by rw [← hσ]; rfl))) (evoV (v σ 2 (.int b) (by rw [← hσ]; rfl))), kr_cut h0 (by omega)]) (by rw [List.length_drop, List.length_take]; omega)
  generalize hW : kr (((l.take b.toNat).drop a.toNat).map fun p => (p.1, w)) = Wn at e2
  refine WP.seq (σ' := [Sl.ro (W.c (.d (.ref n))), .ro (.int a), .ro (.int b), .ro (.str w), .own (.c (.lst Wn)), .out, .out]) (S' := S) (by unfold Ev.run Ev.evI; rw [e2, ← hσ]; rfl) ?_
  generalize hσ2 : [Sl.ro (W.c (.d (.ref n))), .ro (.int a), .ro (.int b), .ro (.str w), .own (.c (.lst Wn)), .out, .out] = σ2
  have q1 : ev Γ S (.sl (.fld (.var 0) "kept") .none (.some (.var 1))) σ2 = some (.ok (.c (.lst (kr (l.take a.toNat))), .fr)) := by rw [slL (fld σ2 (by rw [← hσ2]; rfl)) evoN (evoV (v σ2 1 (.int a) (by rw [← hσ2]; rfl))), kr_to h0]
  have q2 : ev Γ S (.sl (.fld (.var 0) "kept") (.some (.var 2)) .none) σ2 = some (.ok (.c (.lst (kr (l.drop b.toNat))), .fr)) := by rw [slL (fld σ2 (by rw [← hσ2]; rfl)) (evoV (v σ2 2 (.int b) (by rw [← hσ2]; rfl))) evoN, kr_from (by omega)]
  have q3 : ev Γ S (.var 4) σ2 = some (.ok (.c (.lst Wn), .at 4)) := by rw [← hσ2]; simp only [mapM_nil, mapM_cons1, List.map_cons, List.map_nil, List.length_cons, List.length_nil, Ev.runs, Ev.run, Ev.evI, Ev.evIs, Ev.ev, Ev.evs, Ev.evo, Ev.evc, Ev.evi, Ev.tstV, Ev.tstI', Ev.asInt, bok, mok, bokS, mokS, upok, Ev.bin, Ev.binI, Ev.cmp, Ev.cmpI, Ev.cmpS, Ev.isNonW, Ev.isiW, Ev.kdOf, vI, vD, vB, vF, setN, putS, setG, setGs, nxO, truth, Ev.sl, Ev.ix, blt, wipeS, W.at, handed, change, setFld, given, fldK, Ev.cellOf, moTy, moC, setIt, setF, srcOk, srcSt, fgtS, Sto.hold, pureOf, belowW, belowC, below, belows, pureI, pureIs, guardP_pos, guardN_pos, Option.map_some, Option.bind_some, Nat.reduceAdd, Nat.reduceSub, Nat.reduceLT, Nat.reduceLeDiff, List.replicate, List.cons_append, List.nil_append, List.getElem?_cons_zero, List.getElem?_cons_succ, List.set_cons_succ, List.set_cons_zero, if_true, if_false, Bool.false_eq_true, Bool.not_true, Bool.not_false, Bool.and_true, Bool.true_and, Bool.or_true, Bool.true_or, reduceCtorEq, eq_self, decide_true, decide_false, decide_not, List.take_succ_cons, List.take_zero, List.length_map, Int.toNat_natCast]
  have g0 : Wn.length ≤ l.length := by rw [← hW, kr_len, List.length_map, List.length_drop, List.length_take]; omega
  have g1 : (kr (l.take a.toNat)).length + Wn.length ≤ 16777216 := by rw [← hW, kr_len, kr_len, List.length_map, List.length_drop, List.length_take, List.length_take]; omega
  have g2 : (kr (l.take a.toNat) ++ Wn).length + (kr (l.drop b.toNat)).length ≤ 16777216 := by rw [← hW, List.length_append, kr_len, kr_len, kr_len, List.length_map, List.length_drop, List.length_drop, List.length_take, List.length_take]; omega
  have e3 : ev Γ S (.bin .Add (.bin .Add (.sl (.fld (.var 0) "kept") .none (.some (.var 1))) (.var 4)) (.sl (.fld (.var 0) "kept") (.some (.var 2)) .none)) σ2 = some (.ok (.c (.lst (kr (drL l a.toNat b.toNat w))), .fr)) := by
    rw [binL (binL q1 q3 g1) q2 g2, ← hW, kr_app, kr_app]
    rfl
  refine WP.seq (σ' := σ2) (S' := ⟨S.cs.set n (plainW c (drL l a.toNat b.toNat w)), S.fz⟩) ?_ (WP.nil ⟨rfl, rfl⟩)
  unfold Ev.run
  simp only [Ev.evI, e3, upok, bokS, v σ2 0 (.c (.d (.ref n))) (by rw [← hσ2]; rfl), given, W.at, hs, hf, setFld]
  rw [if_pos ⟨hz, by simp⟩]
  rfl
theorem run_move {a b g : Int} {ga gb : Sto → List W → MS W} {Z Z2 : Sto} (hs : S.cs[n]? = some (plainW c l)) (hf : Γ (fkey c "kept") = some k) (hgam : Γ (mkey c "ask_stretch") = some ga) (hga : ga S.hold [.c (.d (.ref n)), .int a, .int b] = some (.ok .non Z)) (hgbm : Γ (mkey c "ask_gap") = some gb) (hgb : gb S.hold [.c (.d (.ref n)), .int g] = some (.ok .non Z2)) (hz : S.fz ≤ n) (h0 : 0 ≤ a) (h1 : a < b) (h2 : b ≤ l.length) (hg0 : 0 ≤ g) (hg1 : g ≤ l.length) (hl : l.length ≤ 16777216) :
    fnG Γ 4 8 b_plain_move S [.c (.d (.ref n)), .int a, .int b, .int g] = some (.ok .non ⟨S.cs.set n (plainW c (mvL l a.toNat b.toNat g.toNat)), S.fz⟩) := by
  refine fnG_ok rfl (WP.eq (WP.fn ?_))
  unfold b_plain_move
  change WP (runs Γ _ [Sl.ro (W.c (.d (.ref n))), .ro (.int a), .ro (.int b), .ro (.int g), .out, .out, .out, .out] S) _
  have fld : ∀ σ : List Sl, σ[0]? = some (.ro (.c (.d (.ref n)))) → ev Γ S (.fld (.var 0) "kept") σ = some (.ok (.c (.lst (kr l)), if n < S.fz then .ro else .sf n "kept")) := fun σ h => fldOf (k := .ro) (by unfold Ev.ev; rw [h]; rfl) hs hf rfl
  have v : ∀ (σ : List Sl) (i : Nat) (w : W), σ[i]? = some (.ro w) → ev Γ S (.var i) σ = some (.ok (w, .ro)) := fun σ i w h => by unfold Ev.ev; rw [h]; rfl
  generalize hσ : [Sl.ro (W.c (.d (.ref n))), .ro (.int a), .ro (.int b), .ro (.int g), .out, .out, .out, .out] = σ
  have e1 : ev Γ S (.mcall (.var 0) "ask_stretch" (.cons (.var 1) (.cons (.var 2) .nil))) σ = some (.ok (.non, .ro)) := mcallOf (x := (.c (.d (.ref n)), .ro)) (c := c) (fs := [("kept", .lst (kr l))]) (v _ _ _ (by rw [← hσ]; rfl)) (by simp only [W.at, hs]) hgam rfl (by unfold evs evs evs; rw [v σ 1 (.int a) (by rw [← hσ]; rfl), v σ 2 (.int b) (by rw [← hσ]; rfl)]; rfl) hga rfl
  have e2 : ev Γ S (.mcall (.var 0) "ask_gap" (.cons (.var 3) .nil)) σ = some (.ok (.non, .ro)) := mcallOf (x := (.c (.d (.ref n)), .ro)) (c := c) (fs := [("kept", .lst (kr l))]) (v _ _ _ (by rw [← hσ]; rfl)) (by simp only [W.at, hs]) hgbm rfl (by unfold evs evs; rw [v σ 3 (.int g) (by rw [← hσ]; rfl)]; rfl) hgb rfl
  refine WP.seq (σ' := σ) (S' := S) (by unfold Ev.run; simp only [Ev.evI, e1, upok, bokS, mokS]) (WP.seq (σ' := σ) (S' := S) (by unfold Ev.run; simp only [Ev.evI, e2, upok, bokS, mokS]) ?_)
  have e3 : ev Γ S (.sl (.fld (.var 0) "kept") (.some (.var 1)) (.some (.var 2))) σ = some (.ok (.c (.lst (kr ((l.take b.toNat).drop a.toNat))), .fr)) := by rw [slL (fld σ (by rw [← hσ]; rfl)) (evoV (v σ 1 (.int a) (by rw [← hσ]; rfl))) (evoV (v σ 2 (.int b) (by rw [← hσ]; rfl))), kr_cut h0 (by omega)]
  generalize hT : kr ((l.take b.toNat).drop a.toNat) = Tn at e3
  refine WP.seq (σ' := [Sl.ro (W.c (.d (.ref n))), .ro (.int a), .ro (.int b), .ro (.int g), .own (.c (.lst Tn)), .out, .out, .out]) (S' := S) (by unfold Ev.run Ev.evI; rw [e3, ← hσ]; rfl) ?_
  obtain ⟨An, hA, e4⟩ : ∃ An : List D, An.length = mvN a.toNat b.toNat g.toNat ∧ ev Γ S (.lc [("k", 7)] (.nm 7) (.rng1 (.var 3)) (.some (.not (.cmp2 .LtE .Lt (.var 1) (.var 7) (.var 2)))) (.var 7)) [Sl.ro (W.c (.d (.ref n))), .ro (.int a), .ro (.int b), .ro (.int g), .own (.c (.lst Tn)), .out, .out, .out] = some (.ok (.c (.lst An), .fr)) := by
    have e : evi Γ S (.rng1 (.var 3)) [Sl.ro (W.c (.d (.ref n))), .ro (.int a), .ro (.int b), .ro (.int g), .own (.c (.lst Tn)), .out, .out, .out] = some (.ok (rngD 0 g.toNat, [])) := by
      simp (disch := first | omega | decide) only [mapM_nil, mapM_cons1, List.map_cons, List.map_nil, List.length_cons, List.length_nil, Ev.runs, Ev.run, Ev.evI, Ev.evIs, Ev.ev, Ev.evs, Ev.evo, Ev.evc, Ev.evi, Ev.tstV, Ev.tstI', Ev.asInt, bok, mok, bokS, mokS, upok, Ev.bin, Ev.binI, Ev.cmp, Ev.cmpI, Ev.cmpS, Ev.isNonW, Ev.isiW, Ev.kdOf, vI, vD, vB, vF, setN, putS, setG, setGs, nxO, truth, Ev.sl, Ev.ix, blt, wipeS, W.at, handed, change, setFld, given, fldK, Ev.cellOf, moTy, moC, setIt, setF, srcOk, srcSt, fgtS, Sto.hold, pureOf, belowW, belowC, below, belows, pureI, pureIs, guardP_pos, guardN_pos, Option.map_some, Option.bind_some, Nat.reduceAdd, Nat.reduceSub, Nat.reduceLT, Nat.reduceLeDiff, List.replicate, List.cons_append, List.nil_append, List.getElem?_cons_zero, List.getElem?_cons_succ, List.set_cons_succ, List.set_cons_zero, if_true, if_false, Bool.false_eq_true, Bool.not_true, Bool.not_false, Bool.and_true, Bool.true_and, Bool.or_true, Bool.true_or, reduceCtorEq, eq_self, decide_true, decide_false, decide_not, List.take_succ_cons, List.take_zero, List.length_map, Int.toNat_natCast]
    let p : D → Bool := fun x => match x with
      | .int k => !(decide (a ≤ k) && decide (k < b))
      | _ => false
    refine ⟨((rngD 0 g.toNat).filter p).map id, ?_, ev_lc e (by rw [rngD_length]; omega) (lcRun_map p id _ fun x hx => ?_)⟩
    · rw [List.length_map, ← mvN_count (show a.toNat < b.toNat by omega), rngD, List.filter_map, List.length_map]
      congr 1
      refine List.filter_congr fun k _ => ?_
      have q1 : decide (a ≤ 0 + (k : Int)) = decide (a.toNat ≤ k) := by simp
      have q2 : decide (0 + (k : Int) < b) = decide (k < b.toNat) := by simp
      show (!(decide (a ≤ 0 + (k : Int)) && decide (0 + (k : Int) < b))) = _
      rw [q1, q2]
    · obtain ⟨i, hi, rfl⟩ := rngD_mem hx
      refine ⟨[Sl.ro (W.c (.d (.ref n))), .ro (.int a), .ro (.int b), .ro (.int g), .own (.c (.lst Tn)), .out, .out, .ro (.int (0 + (i : Int)))], rfl, ?_, fun _ => ⟨.ro, by simp only [mapM_nil, mapM_cons1, List.map_cons, List.map_nil, List.length_cons, List.length_nil, Ev.runs, Ev.run, Ev.evI, Ev.evIs, Ev.ev, Ev.evs, Ev.evo, Ev.evc, Ev.evi, Ev.tstV, Ev.tstI', Ev.asInt, bok, mok, bokS, mokS, upok, Ev.bin, Ev.binI, Ev.cmp, Ev.cmpI, Ev.cmpS, Ev.isNonW, Ev.isiW, Ev.kdOf, vI, vD, vB, vF, setN, putS, setG, setGs, nxO, truth, Ev.sl, Ev.ix, blt, wipeS, W.at, handed, change, setFld, given, fldK, Ev.cellOf, moTy, moC, setIt, setF, srcOk, srcSt, fgtS, Sto.hold, pureOf, belowW, belowC, below, belows, pureI, pureIs, guardP_pos, guardN_pos, Option.map_some, Option.bind_some, Nat.reduceAdd, Nat.reduceSub, Nat.reduceLT, Nat.reduceLeDiff, List.replicate, List.cons_append, List.nil_append, List.getElem?_cons_zero, List.getElem?_cons_succ, List.set_cons_succ, List.set_cons_zero, if_true, if_false, Bool.false_eq_true, Bool.not_true, Bool.not_false, Bool.and_true, Bool.true_and, Bool.or_true, Bool.true_or, reduceCtorEq, eq_self, decide_true, decide_false, decide_not, List.take_succ_cons, List.take_zero, List.length_map, Int.toNat_natCast, id]⟩⟩
      simp only [p]
      by_cases h3 : a ≤ 0 + (i : Int)
      · simp (disch := first | omega | decide) only [mapM_nil, mapM_cons1, List.map_cons, List.map_nil, List.length_cons, List.length_nil, Ev.runs, Ev.run, Ev.evI, Ev.evIs, Ev.ev, Ev.evs, Ev.evo, Ev.evc, Ev.evi, Ev.tstV, Ev.tstI', Ev.asInt, bok, mok, bokS, mokS, upok, Ev.bin, Ev.binI, Ev.cmp, Ev.cmpI, Ev.cmpS, Ev.isNonW, Ev.isiW, Ev.kdOf, vI, vD, vB, vF, setN, putS, setG, setGs, nxO, truth, Ev.sl, Ev.ix, blt, wipeS, W.at, handed, change, setFld, given, fldK, Ev.cellOf, moTy, moC, setIt, setF, srcOk, srcSt, fgtS, Sto.hold, pureOf, belowW, belowC, below, belows, pureI, pureIs, guardP_pos, guardN_pos, Option.map_some, Option.bind_some, Nat.reduceAdd, Nat.reduceSub, Nat.reduceLT, Nat.reduceLeDiff, List.replicate, List.cons_append, List.nil_append, List.getElem?_cons_zero, List.getElem?_cons_succ, List.set_cons_succ, List.set_cons_zero, if_true, if_false, Bool.false_eq_true, Bool.not_true, Bool.not_false, Bool.and_true, Bool.true_and, Bool.or_true, Bool.true_or, reduceCtorEq, eq_self, decide_true, decide_false, decide_not, List.take_succ_cons, List.take_zero, List.length_map, Int.toNat_natCast, decide_eq_true h3]
      · simp (disch := first | omega | decide) only [mapM_nil, mapM_cons1, List.map_cons, List.map_nil, List.length_cons, List.length_nil, Ev.runs, Ev.run, Ev.evI, Ev.evIs, Ev.ev, Ev.evs, Ev.evo, Ev.evc, Ev.evi, Ev.tstV, Ev.tstI', Ev.asInt, bok, mok, bokS, mokS, upok, Ev.bin, Ev.binI, Ev.cmp, Ev.cmpI, Ev.cmpS, Ev.isNonW, Ev.isiW, Ev.kdOf, vI, vD, vB, vF, setN, putS, setG, setGs, nxO, truth, Ev.sl, Ev.ix, blt, wipeS, W.at, handed, change, setFld, given, fldK, Ev.cellOf, moTy, moC, setIt, setF, srcOk, srcSt, fgtS, Sto.hold, pureOf, belowW, belowC, below, belows, pureI, pureIs, guardP_pos, guardN_pos, Option.map_some, Option.bind_some, Nat.reduceAdd, Nat.reduceSub, Nat.reduceLT, Nat.reduceLeDiff, List.replicate, List.cons_append, List.nil_append, List.getElem?_cons_zero, List.getElem?_cons_succ, List.set_cons_succ, List.set_cons_zero, if_true, if_false, Bool.false_eq_true, Bool.not_true, Bool.not_false, Bool.and_true, Bool.true_and, Bool.or_true, Bool.true_or, reduceCtorEq, eq_self, decide_true, decide_false, decide_not, List.take_succ_cons, List.take_zero, List.length_map, Int.toNat_natCast, decide_eq_false h3, Bool.false_and]
  refine WP.seq (σ' := [Sl.ro (W.c (.d (.ref n))), .ro (.int a), .ro (.int b), .ro (.int g), .own (.c (.lst Tn)), .own (.c (.lst An)), .out, .out]) (S' := S) (by unfold Ev.run Ev.evI; rw [e4]; rfl) ?_
  generalize hσ2 : [Sl.ro (W.c (.d (.ref n))), .ro (.int a), .ro (.int b), .ro (.int g), .own (.c (.lst Tn)), .own (.c (.lst An)), .out, .out] = σ2
  have q1 : ev Γ S (.sl (.fld (.var 0) "kept") .none (.some (.var 1))) σ2 = some (.ok (.c (.lst (kr (l.take a.toNat))), .fr)) := by rw [slL (fld σ2 (by rw [← hσ2]; rfl)) evoN (evoV (v σ2 1 (.int a) (by rw [← hσ2]; rfl))), kr_to h0]
  have q2 : ev Γ S (.sl (.fld (.var 0) "kept") (.some (.var 2)) .none) σ2 = some (.ok (.c (.lst (kr (l.drop b.toNat))), .fr)) := by rw [slL (fld σ2 (by rw [← hσ2]; rfl)) (evoV (v σ2 2 (.int b) (by rw [← hσ2]; rfl))) evoN, kr_from (by omega)]
  have g1 : (kr (l.take a.toNat)).length + (kr (l.drop b.toNat)).length ≤ 16777216 := by rw [kr_len, kr_len, List.length_drop, List.length_take]; omega
  have e5 := binL q1 q2 g1
  rw [kr_app] at e5
  have hLl : (l.take a.toNat ++ l.drop b.toNat).length ≤ l.length := by rw [List.length_append, List.length_take, List.length_drop]; omega
  generalize hL : l.take a.toNat ++ l.drop b.toNat = L at e5 hLl
  refine WP.seq (σ' := [Sl.ro (W.c (.d (.ref n))), .ro (.int a), .ro (.int b), .ro (.int g), .own (.c (.lst Tn)), .own (.c (.lst An)), .own (.c (.lst (kr L))), .out]) (S' := S) (by unfold Ev.run Ev.evI; rw [e5, ← hσ2]; rfl) ?_
  generalize hσ3 : [Sl.ro (W.c (.d (.ref n))), .ro (.int a), .ro (.int b), .ro (.int g), .own (.c (.lst Tn)), .own (.c (.lst An)), .own (.c (.lst (kr L))), .out] = σ3
  have v6 : ev Γ S (.var 6) σ3 = some (.ok (.c (.lst (kr L)), .at 6)) := by rw [← hσ3]; simp only [mapM_nil, mapM_cons1, List.map_cons, List.map_nil, List.length_cons, List.length_nil, Ev.runs, Ev.run, Ev.evI, Ev.evIs, Ev.ev, Ev.evs, Ev.evo, Ev.evc, Ev.evi, Ev.tstV, Ev.tstI', Ev.asInt, bok, mok, bokS, mokS, upok, Ev.bin, Ev.binI, Ev.cmp, Ev.cmpI, Ev.cmpS, Ev.isNonW, Ev.isiW, Ev.kdOf, vI, vD, vB, vF, setN, putS, setG, setGs, nxO, truth, Ev.sl, Ev.ix, blt, wipeS, W.at, handed, change, setFld, given, fldK, Ev.cellOf, moTy, moC, setIt, setF, srcOk, srcSt, fgtS, Sto.hold, pureOf, belowW, belowC, below, belows, pureI, pureIs, guardP_pos, guardN_pos, Option.map_some, Option.bind_some, Nat.reduceAdd, Nat.reduceSub, Nat.reduceLT, Nat.reduceLeDiff, List.replicate, List.cons_append, List.nil_append, List.getElem?_cons_zero, List.getElem?_cons_succ, List.set_cons_succ, List.set_cons_zero, if_true, if_false, Bool.false_eq_true, Bool.not_true, Bool.not_false, Bool.and_true, Bool.true_and, Bool.or_true, Bool.true_or, reduceCtorEq, eq_self, decide_true, decide_false, decide_not, List.take_succ_cons, List.take_zero, List.length_map, Int.toNat_natCast]
  have v4 : ev Γ S (.var 4) σ3 = some (.ok (.c (.lst Tn), .at 4)) := by rw [← hσ3]; simp only [mapM_nil, mapM_cons1, List.map_cons, List.map_nil, List.length_cons, List.length_nil, Ev.runs, Ev.run, Ev.evI, Ev.evIs, Ev.ev, Ev.evs, Ev.evo, Ev.evc, Ev.evi, Ev.tstV, Ev.tstI', Ev.asInt, bok, mok, bokS, mokS, upok, Ev.bin, Ev.binI, Ev.cmp, Ev.cmpI, Ev.cmpS, Ev.isNonW, Ev.isiW, Ev.kdOf, vI, vD, vB, vF, setN, putS, setG, setGs, nxO, truth, Ev.sl, Ev.ix, blt, wipeS, W.at, handed, change, setFld, given, fldK, Ev.cellOf, moTy, moC, setIt, setF, srcOk, srcSt, fgtS, Sto.hold, pureOf, belowW, belowC, below, belows, pureI, pureIs, guardP_pos, guardN_pos, Option.map_some, Option.bind_some, Nat.reduceAdd, Nat.reduceSub, Nat.reduceLT, Nat.reduceLeDiff, List.replicate, List.cons_append, List.nil_append, List.getElem?_cons_zero, List.getElem?_cons_succ, List.set_cons_succ, List.set_cons_zero, if_true, if_false, Bool.false_eq_true, Bool.not_true, Bool.not_false, Bool.and_true, Bool.true_and, Bool.or_true, Bool.true_or, reduceCtorEq, eq_self, decide_true, decide_false, decide_not, List.take_succ_cons, List.take_zero, List.length_map, Int.toNat_natCast]
  have v5 : ev Γ S (.blt .len (.cons (.var 5) .nil)) σ3 = some (.ok (.int (mvN a.toNat b.toNat g.toNat : Nat), .ro)) := by rw [← hσ3, ← hA]; simp only [mapM_nil, mapM_cons1, List.map_cons, List.map_nil, List.length_cons, List.length_nil, Ev.runs, Ev.run, Ev.evI, Ev.evIs, Ev.ev, Ev.evs, Ev.evo, Ev.evc, Ev.evi, Ev.tstV, Ev.tstI', Ev.asInt, bok, mok, bokS, mokS, upok, Ev.bin, Ev.binI, Ev.cmp, Ev.cmpI, Ev.cmpS, Ev.isNonW, Ev.isiW, Ev.kdOf, vI, vD, vB, vF, setN, putS, setG, setGs, nxO, truth, Ev.sl, Ev.ix, blt, wipeS, W.at, handed, change, setFld, given, fldK, Ev.cellOf, moTy, moC, setIt, setF, srcOk, srcSt, fgtS, Sto.hold, pureOf, belowW, belowC, below, belows, pureI, pureIs, guardP_pos, guardN_pos, Option.map_some, Option.bind_some, Nat.reduceAdd, Nat.reduceSub, Nat.reduceLT, Nat.reduceLeDiff, List.replicate, List.cons_append, List.nil_append, List.getElem?_cons_zero, List.getElem?_cons_succ, List.set_cons_succ, List.set_cons_zero, if_true, if_false, Bool.false_eq_true, Bool.not_true, Bool.not_false, Bool.and_true, Bool.true_and, Bool.or_true, Bool.true_or, reduceCtorEq, eq_self, decide_true, decide_false, decide_not, List.take_succ_cons, List.take_zero, List.length_map, Int.toNat_natCast]
  have r1 := slL v6 evoN (evoV v5)
  have r2 := slL v6 (evoV v5) evoN
  rw [kr_to (Int.natCast_nonneg _), Int.toNat_natCast] at r1
  rw [kr_from (Int.natCast_nonneg _), Int.toNat_natCast] at r2
  have g3 : (kr (L.take (mvN a.toNat b.toNat g.toNat))).length + Tn.length ≤ 16777216 := by rw [← hT, kr_len, kr_len, List.length_take, List.length_drop, List.length_take, ← hL, List.length_append, List.length_take, List.length_drop]; omega
  have g4 : (kr (L.take (mvN a.toNat b.toNat g.toNat)) ++ Tn).length + (kr (L.drop (mvN a.toNat b.toNat g.toNat))).length ≤ 16777216 := by rw [← hT, List.length_append, kr_len, kr_len, kr_len, List.length_drop, List.length_take, List.length_drop, List.length_take, ← hL, List.length_append, List.length_take, List.length_drop]; omega
  have e6 : ev Γ S (.bin .Add (.bin .Add (.sl (.var 6) .none (.some (.blt .len (.cons (.var 5) .nil)))) (.var 4)) (.sl (.var 6) (.some (.blt .len (.cons (.var 5) .nil))) .none)) σ3 = some (.ok (.c (.lst (kr (mvL l a.toNat b.toNat g.toNat))), .fr)) := by
    rw [binL (binL r1 v4 g3) r2 g4, ← hT, kr_app, kr_app, ← hL]
    rfl
  refine WP.seq (σ' := σ3) (S' := ⟨S.cs.set n (plainW c (mvL l a.toNat b.toNat g.toNat)), S.fz⟩) ?_ (WP.nil ⟨rfl, rfl⟩)
  unfold Ev.run
  simp only [Ev.evI, e6, upok, bokS, v σ3 0 (.c (.d (.ref n))) (by rw [← hσ3]; rfl), given, W.at, hs, hf, setFld]
  rw [if_pos ⟨hz, by simp⟩]
  rfl
end
end PP
namespace PP
open PySem PySem.Spec
open PyProof.Rows hiding St
open L2 Ev
theorem lcRun_ex {bind : D → Option (List Sl)} {test : List Sl → M Bool} {elt : List Sl → M VW} {R : D → D → Prop} : ∀ {xs : List D}, (∀ x ∈ xs, ∃ σ y, bind x = some σ ∧ test σ = some (.ok true) ∧ R x y ∧ ∃ k, elt σ = some (.ok (.c (.d y), k))) →
    ∃ ys, lcRun bind test elt xs = some (.ok ys) ∧ ys.length = xs.length ∧ ∀ y ∈ ys, ∃ x ∈ xs, R x y
  | [], _ => ⟨[], rfl, rfl, fun _ h => by cases h⟩
  | x :: xs, h => by
    obtain ⟨σ, y, h1, h2, h3, k, h4⟩ := h x List.mem_cons_self
    obtain ⟨ys, e, hl, hr⟩ := lcRun_ex (xs := xs) fun z hz => h z (List.mem_cons_of_mem _ hz)
    refine ⟨y :: ys, ?_, by simp [hl], fun z hz => ?_⟩
    · unfold lcRun
      rw [h1]
      simp only [h2, bok, if_true, h4, e]
      rfl
    · rcases List.mem_cons.mp hz with rfl | hz
      · exact ⟨x, List.mem_cons_self, h3⟩
      · obtain ⟨w, hw, r⟩ := hr z hz
        exact ⟨w, List.mem_cons_of_mem _ hw, r⟩
theorem sgs_of {m : List Nat} : ∀ {ys : List D}, (∀ y ∈ ys, ∃ z ∈ m, y = .str (SX.S [z])) → ∃ l : List Nat, (∀ c ∈ l, c ∈ m) ∧ ys = (l.map fun c => SX.S [c]).map D.str
  | [], _ => ⟨[], (fun _ h => by cases h), rfl⟩
  | y :: ys, h => by
    obtain ⟨z, hz, rfl⟩ := h y List.mem_cons_self
    obtain ⟨l, h1, rfl⟩ := sgs_of (ys := ys) fun w hw => h w (List.mem_cons_of_mem _ hw)
    refine ⟨z :: l, ?_, rfl⟩
    intro c hc
    rcases List.mem_cons.mp hc with rfl | hc
    · exact hz
    · exact h1 c hc
section
variable {Γ Γ1 Γ2 Γ3 Γ4 : Gam} {S : Sto} {σ : List Sl} {k : Sto → List W → MS W}
/-- signs picked out of a menu -/
theorem lc_pick {own : List (Str × Nat)} {g : G} {it : Ev.It} {e : E} {m : List Nat} {n : Nat} {ls : List VW} (hi : evi Γ S it σ = some (.ok (rngD 0 n, ls))) (hn : n ≤ 16777216)
    (h : ∀ i : Nat, i < n → ∃ σ' z, setG g (.int (0 + (i : Int))) (wipeS σ (own.map (·.2))) = some σ' ∧ z ∈ m ∧ ∃ k, ev Γ S e σ' = some (.ok (.str (SX.S [z]), k))) :
    ∃ l : List Nat, (∀ c ∈ l, c ∈ m) ∧ l.length = n ∧ ev Γ S (.lc own g it .none e) σ = some (.ok (.c (.lst ((l.map fun c => SX.S [c]).map D.str)), .fr)) := by
  obtain ⟨ys, e1, hl, hr⟩ := lcRun_ex (bind := fun x => setG g x (wipeS σ (own.map (·.2)))) (test := evc Γ S .none) (elt := ev Γ S e) (R := fun _ y => ∃ z ∈ m, y = .str (SX.S [z])) (xs := rngD 0 n) fun x hx => by
    obtain ⟨i, hi, rfl⟩ := rngD_mem hx
    obtain ⟨σ', z, h1, h2, k, h3⟩ := h i hi
    exact ⟨σ', .str (SX.S [z]), h1, by unfold evc; rfl, ⟨z, h2, rfl⟩, k, h3⟩
  obtain ⟨l, h1, rfl⟩ := sgs_of fun y hy => (hr y hy).elim fun x hx => hx.2
  refine ⟨l, h1, by simpa [rngD_length] using hl, ?_⟩
  exact ev_lc hi (by rw [rngD_length]; exact hn) e1
theorem joinOf {a b : E} {z : Str} {ys : List Str} {k k2 : Kd} (h1 : ev Γ S a σ = some (.ok (.c (.d (.str z)), k))) (h2 : ev Γ S b σ = some (.ok (.c (.lst (ys.map D.str)), k2))) (hl : z.length * ys.length + (ys.map (·.length)).sum ≤ 16777216) : ev Γ S (.join a b) σ = some (.ok (.str (Txt.join z ys), .ro)) := by
  unfold Ev.ev
  rw [h1, h2]
  simp only [bok, W.at, strsD_map]
  rw [guardN_pos hl]
  rfl
theorem sum_ones (l : List Nat) : ((l.map fun c => SX.S [c]).map (·.length)).sum = l.length := by
  induction l with
  | nil => rfl
  | cons c l ih => simp only [List.map_cons, List.sum_cons, ih, SX.S_len, List.length_cons, List.length_nil]; omega
theorem join_pick {e : E} {l : List Nat} {k : Kd} (h : ev Γ S e σ = some (.ok (.c (.lst ((l.map fun c => SX.S [c]).map D.str)), k))) (hl : l.length ≤ 16777216) : ev Γ S (.join (.str "") e) σ = some (.ok (.str (SX.S l), .ro)) := by
  rw [joinOf (z := "") (k := .ro) (by unfold Ev.ev; rfl) h (by rw [sum_ones, List.length_map, show ("" : Str).length = 0 from rfl]; omega)]
  rw [empty_S, join_sg]
theorem ixS {m : List Nat} {i : Int} (hn : m.length ≤ 16777216) (h0 : 0 ≤ i) (h : i < m.length) : ∃ c ∈ m, Ev.ix (.str (SX.S m)) (.int i) = some (.ok (.str (SX.S [c]), .ro)) := by
  obtain ⟨c, hc, e⟩ := atI_int (xs := m) h0 h
  refine ⟨c, List.mem_of_getElem? hc, ?_⟩
  unfold Ev.ix
  simp only
  rw [guardN_pos (by rw [SX.S_len]; exact hn), e]
  rfl
theorem varO {i : Nat} {w : W} (h : σ[i]? = some (.ro w)) : ev Γ S (.var i) σ = some (.ok (w, .ro)) := by unfold Ev.ev; rw [h]; rfl
theorem ix_pick {a b : E} {m : List Nat} {i : Int} {k1 k2 : Kd} (h1 : ev Γ S a σ = some (.ok (.str (SX.S m), k1))) (h2 : ev Γ S b σ = some (.ok (.int i, k2))) (hn : m.length ≤ 16777216) (h0 : 0 ≤ i) (h : i < m.length) : ∃ c ∈ m, ∃ k, ev Γ S (.ix a b) σ = some (.ok (.str (SX.S [c]), k)) := by
  obtain ⟨c, hc, e⟩ := ixS hn h0 h
  refine ⟨c, hc, .ro, ?_⟩
  unfold Ev.ev
  rw [h1, h2]
  exact e
theorem drawn_of (hΓ : Γ "_law_drawn" = some (fnG Γ1 2 3 b_law_drawn)) {e1 e2 : E} {c p : Int} {k1 k2 : Kd} (h1 : ev Γ S e1 σ = some (.ok (.int c, k1))) (h2 : ev Γ S e2 σ = some (.ok (.int p, k2))) : ev Γ S (.call "_law_drawn" (.cons e1 (.cons e2 .nil))) σ = some (.ok (.int (drawn c p), .ro)) :=
  callOf hΓ (by simp only [Ev.evs, h1, h2, bok, mok]) (run_drawn (S := S.hold) c p) rfl
theorem plain_of (hΓ : Γ "Plain" = some (mkOf 0 (fnG Γ1 2 3 b_plain_init))) (hf : Γ1 (fkey 0 "kept") = some k) {e : E} {d : List Nat} {k1 : Kd} (he : ev Γ S e σ = some (.ok (.str (SX.S d), k1))) (hl : d.length ≤ 10000) : evI Γ (.share (.p (.call "Plain" (.cons e .nil)))) σ S = some (.ok (.c (.d (.ref S.cs.length)), .ro) ⟨S.cs ++ [plainW 0 (bare d)], S.fz⟩) := by
  have h := mkOf_ok (c := 0) (S := S.hold) (ws := [.str (SX.S d)]) (w := plainW 0 (bare d)) (run_init (Γ := Γ1) (c := 0) (cs := S.cs) (fz := S.cs.length) hf (Nat.le_refl _) (by omega)) rfl rfl (by simp [belowW, belowC, kr_below])
  have h2 : ev Γ S (.call "Plain" (.cons e .nil)) σ = some (.ok (plainW 0 (bare d), .fr)) := callOf hΓ (by simp only [Ev.evs, he, bok, mok]) h (by simp [belowW, belowC, kr_below])
  simp only [Ev.evI, h2, upok, bokS]
  rfl
variable {i m : Nat} {l : List (Nat × Str)} {as : Is}
theorem rows_of (hΓ : Γ (mkey 0 "rows") = some (fnG Γ2 1 1 b_plain_rows)) (hf : Γ2 (fkey 0 "kept") = some k) (hv : σ[i]? = some (.ro (.c (.d (.ref m))))) (hs : S.cs[m]? = some (plainW 0 l)) : ev Γ S (.mcall (.var i) "rows" .nil) σ = some (.ok (.c (.lst (kr l)), .fr)) :=
  mcallOf (x := (.c (.d (.ref m)), .ro)) (c := 0) (fs := [("kept", .lst (kr l))]) (varO hv) (by simp only [W.at, hs]) hΓ rfl (by unfold evs; rfl) (run_rows (S := S.hold) hs hf) (kr_below _)
theorem dress_of {w : Str} {a b : Int} {k1 k2 k3 : Kd} (hΓ : Γ (mkey 0 "dress") = some (pad 4 [.str ""] (fnG Γ2 4 7 b_plain_dress))) (hf : Γ2 (fkey 0 "kept") = some k) (hst : Γ2 (mkey 0 "ask_stretch") = some (fnG Γ3 3 3 b_plain_ask_stretch)) (hf3 : Γ3 (fkey 0 "kept") = some k) (hv : σ[i]? = some (.ro (.c (.d (.ref m))))) (hs : S.cs[m]? = some (plainW 0 l)) (hz : S.fz = 0)
    (ha : evIs Γ as σ S = some (.ok [(.int a, k1), (.int b, k2), (.str w, k3)] S)) (h0 : 0 ≤ a) (h1 : a < b) (h2 : b ≤ l.length) (hl : l.length ≤ 10000) : Ev.run Γ (.expr (.mcall (.var i) "dress" as)) σ S = some (.ok (.nx σ) ⟨S.cs.set m (plainW 0 (drL l a.toNat b.toNat w)), S.fz⟩) :=
  exprI (mcallI_of (x := (.c (.d (.ref m)), .ro)) (c := 0) (fs := [("kept", .lst (kr l))]) (varO hv) (by simp only [W.at, hs]) rfl hΓ rfl ha ((pad_all rfl).trans (run_dress hs hf hst (run_stretch (S := S.hold) hs hf3 h0 h1 h2) (by omega) h0 h1 h2 (by omega))))
/-- .. where no word is told -/
theorem dress_of2 {a b : Int} {k1 k2 : Kd} (hΓ : Γ (mkey 0 "dress") = some (pad 4 [.str ""] (fnG Γ2 4 7 b_plain_dress))) (hf : Γ2 (fkey 0 "kept") = some k) (hst : Γ2 (mkey 0 "ask_stretch") = some (fnG Γ3 3 3 b_plain_ask_stretch)) (hf3 : Γ3 (fkey 0 "kept") = some k) (hv : σ[i]? = some (.ro (.c (.d (.ref m))))) (hs : S.cs[m]? = some (plainW 0 l)) (hz : S.fz = 0)
    (ha : evIs Γ as σ S = some (.ok [(.int a, k1), (.int b, k2)] S)) (h0 : 0 ≤ a) (h1 : a < b) (h2 : b ≤ l.length) (hl : l.length ≤ 10000) : Ev.run Γ (.expr (.mcall (.var i) "dress" as)) σ S = some (.ok (.nx σ) ⟨S.cs.set m (plainW 0 (drL l a.toNat b.toNat "")), S.fz⟩) :=
  exprI (mcallI_of (x := (.c (.d (.ref m)), .ro)) (c := 0) (fs := [("kept", .lst (kr l))]) (varO hv) (by simp only [W.at, hs]) rfl hΓ rfl ha ((pad_lack (by simp)).trans (run_dress hs hf hst (run_stretch (S := S.hold) hs hf3 h0 h1 h2) (by omega) h0 h1 h2 (by omega))))
theorem move_of {a b g : Int} {k1 k2 k3 : Kd} (hΓ : Γ (mkey 0 "move") = some (fnG Γ2 4 8 b_plain_move)) (hf : Γ2 (fkey 0 "kept") = some k) (hst : Γ2 (mkey 0 "ask_stretch") = some (fnG Γ3 3 3 b_plain_ask_stretch)) (hf3 : Γ3 (fkey 0 "kept") = some k) (hga : Γ2 (mkey 0 "ask_gap") = some (fnG Γ4 2 2 b_plain_ask_gap)) (hf4 : Γ4 (fkey 0 "kept") = some k) (hv : σ[i]? = some (.ro (.c (.d (.ref m))))) (hs : S.cs[m]? = some (plainW 0 l)) (hz : S.fz = 0)
    (ha : evIs Γ as σ S = some (.ok [(.int a, k1), (.int b, k2), (.int g, k3)] S)) (h0 : 0 ≤ a) (h1 : a < b) (h2 : b ≤ l.length) (hg0 : 0 ≤ g) (hg1 : g ≤ l.length) (hl : l.length ≤ 10000) : Ev.run Γ (.expr (.mcall (.var i) "move" as)) σ S = some (.ok (.nx σ) ⟨S.cs.set m (plainW 0 (mvL l a.toNat b.toNat g.toNat)), S.fz⟩) :=
  exprI (mcallI_of (x := (.c (.d (.ref m)), .ro)) (c := 0) (fs := [("kept", .lst (kr l))]) (varO hv) (by simp only [W.at, hs]) rfl hΓ rfl ha (run_move hs hf hst (run_stretch (S := S.hold) hs hf3 h0 h1 h2) hga (run_gap (S := S.hold) hs hf4 hg0 hg1) (by omega) h0 h1 h2 hg0 hg1 (by omega)))
end
/-! ### rows compared -/
def okRw (l : List (Nat × Str)) : Prop := ∀ p ∈ l, p.1 < 1114112 ∧ PyData.strOk p.2 = true
theorem okS1 {c : Nat} (h : c < 1114112) : PyData.strOk (SX.S [c]) = true := S_ok fun d hd => by
  have : d = c := by simpa using hd
  omega
theorem okDs_kr {l : List (Nat × Str)} (h : okRw l) : okDs 3 (kr l) = true := okDs_all.mpr fun x hx => by
  obtain ⟨p, hp, rfl⟩ := List.mem_map.mp hx
  obtain ⟨h1, h2⟩ := h p hp
  simp [pr, okD, okDs, okS1 h1, h2]
theorem eq_kr {l : List (Nat × Str)} (h : okRw l) : eqW (.c (.lst (kr l))) (.c (.lst (kr l))) = some (.ok true) := by
  rw [eqW_L (okDs_kr h) (okDs_kr h) (by decide), eqvAll_toPys]
theorem okRw_app {a b : List (Nat × Str)} (h : okRw a) (k : okRw b) : okRw (a ++ b) := fun c hc => (List.mem_append.mp hc).elim (h c) (k c)
theorem okRw_take {a : List (Nat × Str)} {n : Nat} (h : okRw a) : okRw (a.take n) := fun c hc => h c (List.mem_of_mem_take hc)
theorem okRw_drop {a : List (Nat × Str)} {n : Nat} (h : okRw a) : okRw (a.drop n) := fun c hc => h c (List.mem_of_mem_drop hc)
theorem okRw_bare {a : List Nat} (h : ∀ c ∈ a, c < 1114112) : okRw (bare a) := fun p hp => by
  obtain ⟨c, hc, rfl⟩ := List.mem_map.mp hp
  exact ⟨h c hc, show PyData.strOk ("" : Str) = true by decide +kernel⟩
theorem okRw_dr {l : List (Nat × Str)} {a b : Nat} {w : Str} (h : okRw l) (hw : PyData.strOk w = true) : okRw (drL l a b w) := okRw_app (okRw_app (okRw_take h) fun p hp => by
  obtain ⟨q, hq, rfl⟩ := List.mem_map.mp hp
  exact ⟨(h q (List.mem_of_mem_take (List.mem_of_mem_drop hq))).1, hw⟩) (okRw_drop h)
theorem okRw_mv {l : List (Nat × Str)} {a b g : Nat} (h : okRw l) : okRw (mvL l a b g) := okRw_app (okRw_app (okRw_take (okRw_app (okRw_take h) (okRw_drop h))) (okRw_drop (okRw_take h))) (okRw_drop (okRw_app (okRw_take h) (okRw_drop h)))
theorem cut3 {α : Type} {A T B : List α} {m n : Nat} (hm : A.length = m) (hn : T.length = n) : ((A ++ T ++ B).take (m + n)).drop m = T ∧ (A ++ T ++ B).take m = A ∧ (A ++ T ++ B).drop (m + n) = B := by
  subst hm hn
  refine ⟨?_, ?_, ?_⟩
  · rw [List.take_append_of_le_length (by simp), List.take_of_length_le (by simp), List.drop_left]
  · rw [List.append_assoc, List.take_left]
  · rw [← List.length_append, List.drop_left]
theorem mvL_cut {l : List (Nat × Str)} {a b g : Nat} (h : a < b) (hb : b ≤ l.length) (hg : g ≤ l.length) : ((mvL l a b g).take (mvN a b g + (b - a))).drop (mvN a b g) = (l.take b).drop a ∧ (mvL l a b g).take (mvN a b g) ++ (mvL l a b g).drop (mvN a b g + (b - a)) = l.take a ++ l.drop b := by
  have hm := mvN_le h hb hg
  have hL : (l.take a ++ l.drop b).length = l.length - (b - a) := by rw [List.length_append, List.length_take, List.length_drop]; omega
  obtain ⟨h1, h2, h3⟩ := cut3 (A := (l.take a ++ l.drop b).take (mvN a b g)) (T := (l.take b).drop a) (B := (l.take a ++ l.drop b).drop (mvN a b g)) (m := mvN a b g) (n := b - a) (by rw [List.length_take, hL]; omega) (by rw [List.length_drop, List.length_take]; omega)
  exact ⟨h1, by unfold mvL; rw [h2, h3, List.take_append_drop]⟩
end PP
namespace PP
open PySem PySem.Spec
open PyProof.Rows hiding St
open L2 Ev
section
variable {Γ Γ1 Γ2 Γ3 Γ4 : Gam} {S : Sto} {σ : List Sl} {k : Sto → List W → MS W} {i m : Nat} {l : List (Nat × Str)} {as : Is}
theorem isC {e : E} {x : VW} {xs : List VW} (h : ev Γ S e σ = some (.ok x)) (hh : handed x = true) (hs : evIs Γ as σ S = some (.ok xs S)) : evIs Γ (.cons (.p e) as) σ S = some (.ok (x :: xs) S) := by
  unfold evIs evI
  rw [h, upok, bokS, if_pos hh, hs, bokS]
  rfl
theorem isN : evIs Γ .nil σ S = some (.ok [] S) := by unfold evIs; rfl
theorem esC {e : E} {es : Es} {x : VW} {xs : List W} (h : ev Γ S e σ = some (.ok x)) (hs : evs Γ S es σ = some (.ok xs)) : evs Γ S (.cons e es) σ = some (.ok (x.1 :: xs)) := by
  unfold evs
  rw [h, bok, hs, bok]
  rfl
theorem esN : evs Γ S .nil σ = some (.ok []) := by unfold evs; rfl
theorem slF {a : E} {lo hi : Eo} {xs : List D} {k1 : Kd} {l h : Option Int} (h1 : ev Γ S a σ = some (.ok (.c (.d (.fl xs)), k1))) (h2 : evo Γ S lo σ = some (.ok l)) (h3 : evo Γ S hi σ = some (.ok h)) : ev Γ S (.sl a lo hi) σ = some (.ok (.c (.lst (cutD xs l h)), .fr)) := by
  unfold Ev.ev
  rw [h1, h2, h3]
  rfl
theorem binS {a b : E} {x y : List Nat} {k1 k2 : Kd} (h1 : ev Γ S a σ = some (.ok (.str (SX.S x), k1))) (h2 : ev Γ S b σ = some (.ok (.str (SX.S y), k2))) (hl : x.length + y.length ≤ 16777216) : ev Γ S (.bin .Add a b) σ = some (.ok (.str (SX.S (x ++ y)), .ro)) := by
  unfold Ev.ev
  rw [h1, h2]
  simp (disch := assumption) only [bok, W.at, Ev.bin, if_true, guardN_pos, vD, mok, SX.S_len, S_app]
theorem asgD {e : E} {d : D} {k1 : Kd} (h : ev Γ S e σ = some (.ok (.c (.d d), k1))) (hi : i < σ.length) : Ev.run Γ (.asg (.nm i) (.p e)) σ S = some (.ok (.nx (σ.set i (.ro (.c (.d d))))) S) := by
  unfold Ev.run Ev.evI
  rw [h, upok, bokS]
  simp only [setN, putS, nxO, if_pos hi]
  rfl
theorem asgL {e : E} {xs : List D} (h : ev Γ S e σ = some (.ok (.c (.lst xs), .fr))) (hi : i < σ.length) : Ev.run Γ (.asg (.nm i) (.p e)) σ S = some (.ok (.nx (σ.set i (.own (.c (.lst xs))))) S) := by
  unfold Ev.run Ev.evI
  rw [h, upok, bokS]
  simp only [setN, putS, nxO, if_pos hi]
  rfl
theorem retL {e : E} {xs : List D} (h : ev Γ S e σ = some (.ok (.c (.lst xs), .fr))) : Ev.run Γ (.ret (.p e)) σ S = some (.ok (.ret (.c (.lst xs)) σ) S) := by
  unfold Ev.run Ev.evI
  rw [h, upok, bokS]
  rfl
theorem retD {e : E} {d : D} {k1 : Kd} (h : ev Γ S e σ = some (.ok (.c (.d d), k1))) : Ev.run Γ (.ret (.p e)) σ S = some (.ok (.ret (.c (.d d)) σ) S) := by
  unfold Ev.run Ev.evI
  rw [h, upok, bokS]
  rfl
theorem tstP {e : E} {b : Bool} {k1 : Kd} (h : ev Γ S e σ = some (.ok (.bl b, k1))) : tstI' (evI Γ (.p e) σ S) = some (.ok b S) := by
  unfold tstI' evI
  rw [h, upok, bokS]
  rfl
theorem notB {e : E} {b : Bool} {k1 : Kd} (h : ev Γ S e σ = some (.ok (.bl b, k1))) : ev Γ S (.not e) σ = some (.ok (.bl (!b), .ro)) := by
  unfold Ev.ev
  rw [h, bok]
  rfl
theorem orF {a b : E} {k1 : Kd} {x : VW} (h1 : ev Γ S a σ = some (.ok (.bl false, k1))) (h2 : ev Γ S b σ = some (.ok x)) : ev Γ S (.or a b) σ = some (.ok x) := by
  unfold Ev.ev
  rw [h1, bok]
  exact h2
theorem orT {a b : E} {k1 : Kd} (h1 : ev Γ S a σ = some (.ok (.bl true, k1))) : ev Γ S (.or a b) σ = some (.ok (.bl true, k1)) := by
  unfold Ev.ev
  rw [h1, bok]
  rfl
theorem andT {a b : E} {k1 : Kd} {x : VW} (h1 : ev Γ S a σ = some (.ok (.bl true, k1))) (h2 : ev Γ S b σ = some (.ok x)) : ev Γ S (.and a b) σ = some (.ok x) := by
  unfold Ev.ev
  rw [h1, bok]
  exact h2
theorem andF {a b : E} {k1 : Kd} (h1 : ev Γ S a σ = some (.ok (.bl false, k1))) : ev Γ S (.and a b) σ = some (.ok (.bl false, k1)) := by
  unfold Ev.ev
  rw [h1, bok]
  rfl
theorem cmpOf {o : CmpOp} {a b : E} {x y : VW} {k1 : Bool} (h1 : ev Γ S a σ = some (.ok x)) (h2 : ev Γ S b σ = some (.ok y)) (h : Ev.cmp o x.1 y.1 = some (.ok k1)) : ev Γ S (.cmp o a b) σ = some (.ok (.bl k1, .ro)) := by
  unfold Ev.ev
  rw [h1, bok, h2, bok, h]
  rfl
theorem neL {xs ys : List D} {b : Bool} (h : eqW (.c (.lst xs)) (.c (.lst ys)) = some (.ok b)) : Ev.cmp .NotEq (.c (.lst xs)) (.c (.lst ys)) = some (.ok (!b)) := by
  simp only [Ev.cmp, h, bok]
  rfl
theorem eqL {xs ys : List D} {b : Bool} (h : eqW (.c (.lst xs)) (.c (.lst ys)) = some (.ok b)) : Ev.cmp .Eq (.c (.lst xs)) (.c (.lst ys)) = some (.ok b) := by
  simp only [Ev.cmp, h]
theorem put_of {a : Int} {t : List Nat} {k1 k2 : Kd} (hΓ : Γ (mkey 0 "put") = some (fnG Γ2 3 4 b_plain_put)) (hf : Γ2 (fkey 0 "kept") = some k) (hga : Γ2 (mkey 0 "ask_gap") = some (fnG Γ3 2 2 b_plain_ask_gap)) (hf3 : Γ3 (fkey 0 "kept") = some k) (hv : σ[i]? = some (.ro (.c (.d (.ref m))))) (hs : S.cs[m]? = some (plainW 0 l)) (hz : S.fz = 0)
    (ha : evIs Γ as σ S = some (.ok [(.int a, k1), (.str (SX.S t), k2)] S)) (h0 : 0 ≤ a) (h1 : a ≤ l.length) (hl : l.length ≤ 10000) (hl2 : t.length ≤ 10000) : Ev.run Γ (.expr (.mcall (.var i) "put" as)) σ S = some (.ok (.nx σ) ⟨S.cs.set m (plainW 0 (l.take a.toNat ++ bare t ++ l.drop a.toNat)), S.fz⟩) :=
  exprI (mcallI_of (x := (.c (.d (.ref m)), .ro)) (c := 0) (fs := [("kept", .lst (kr l))]) (varO hv) (by simp only [W.at, hs]) rfl hΓ rfl ha (run_put hs hf hga (run_gap (S := S.hold) hs hf3 h0 h1) (by omega) h0 h1 (by omega)))
theorem strike_of {a b : Int} {k1 k2 : Kd} (hΓ : Γ (mkey 0 "strike") = some (fnG Γ2 3 3 b_plain_strike)) (hf : Γ2 (fkey 0 "kept") = some k) (hst : Γ2 (mkey 0 "ask_stretch") = some (fnG Γ3 3 3 b_plain_ask_stretch)) (hf3 : Γ3 (fkey 0 "kept") = some k) (hv : σ[i]? = some (.ro (.c (.d (.ref m))))) (hs : S.cs[m]? = some (plainW 0 l)) (hz : S.fz = 0)
    (ha : evIs Γ as σ S = some (.ok [(.int a, k1), (.int b, k2)] S)) (h0 : 0 ≤ a) (h1 : a < b) (h2 : b ≤ l.length) (hl : l.length ≤ 10000) : Ev.run Γ (.expr (.mcall (.var i) "strike" as)) σ S = some (.ok (.nx σ) ⟨S.cs.set m (plainW 0 (l.take a.toNat ++ l.drop b.toNat)), S.fz⟩) :=
  exprI (mcallI_of (x := (.c (.d (.ref m)), .ro)) (c := 0) (fs := [("kept", .lst (kr l))]) (varO hv) (by simp only [W.at, hs]) rfl hΓ rfl ha (run_strike hs hf hst (run_stretch (S := S.hold) hs hf3 h0 h1 h2) (by omega) h0 h1 h2 (by omega)))
theorem lc_dressG {n1 n2 : Str} {i1 i2 j : Nat} {w : Str} {it : E} {k1 : Kd} (h12 : i1 ≠ i2) (hj1 : j ≠ i1) (hj2 : j ≠ i2) (hi1 : i1 < σ.length) (hi2 : i2 < σ.length) (hw : σ[j]? = some (.ro (.str w))) (he : ev Γ S it σ = some (.ok (.c (.lst (kr l)), k1))) (hn : l.length ≤ 16777216) :
    ev Γ S (.lc [(n1, i1), (n2, i2)] (.tup [i1, i2]) (.e it) .none (.tup (.cons (.var i1) (.cons (.var j) .nil)))) σ = some (.ok (.c (.lst (kr (l.map fun p => (p.1, w)))), .fr)) := by
  have e1 : evi Γ S (.e it) σ = some (.ok (kr l, [(.c (.lst (kr l)), k1)])) := by
    unfold evi
    rw [he, bok]
    rfl
  rw [ev_lc (ys := kr (l.map fun p => (p.1, w))) e1 (by rw [kr_len]; exact hn)]
  rw [show kr (l.map fun p => (p.1, w)) = (kr l).map fun x => match x with | .tup [a, b] => D.tup [a, .str w] | d => d by simp [kr, pr, List.map_map, Function.comp]]
  refine lcRun_evc _ _ fun x hx => ?_
  obtain ⟨p, _, rfl⟩ := List.mem_map.mp hx
  refine ⟨((wipeS σ [i1, i2]).set i1 (.ro (.str (SX.S [p.1])))).set i2 (.ro (.str p.2)), ?_, .ro, ?_⟩
  · simp [setG, setGs, putS, wipeS, hi1, hi2, pr]
  · have g1 : (((wipeS σ [i1, i2]).set i1 (.ro (.str (SX.S [p.1])))).set i2 (.ro (.str p.2)))[i1]? = some (.ro (.str (SX.S [p.1]))) := by
      simp [wipeS, List.getElem?_set, hi1, hi2, Ne.symm h12]
    have g2 : (((wipeS σ [i1, i2]).set i1 (.ro (.str (SX.S [p.1])))).set i2 (.ro (.str p.2)))[j]? = some (.ro (.str w)) := by
      simp [wipeS, List.getElem?_set, hi1, hi2, Ne.symm h12, Ne.symm hj1, Ne.symm hj2, hw]
    unfold Ev.ev
    rw [esC (varO g1) (esC (varO g2) esN), bok]
    simp (disch := first | omega | decide) only [mapM_nil, mapM_cons1, List.map_cons, List.map_nil, List.length_cons, List.length_nil, Ev.runs, Ev.run, Ev.evI, Ev.evIs, Ev.ev, Ev.evs, Ev.evo, Ev.evc, Ev.evi, Ev.tstV, Ev.tstI', Ev.asInt, bok, mok, bokS, mokS, upok, Ev.bin, Ev.binI, Ev.cmp, Ev.cmpI, Ev.cmpS, Ev.isNonW, Ev.isiW, Ev.kdOf, vI, vD, vB, vF, setN, putS, setG, setGs, nxO, truth, Ev.sl, Ev.ix, blt, wipeS, W.at, handed, change, setFld, given, fldK, Ev.cellOf, moTy, moC, setIt, setF, srcOk, srcSt, fgtS, Sto.hold, pureOf, belowW, belowC, below, belows, pureI, pureIs, guardP_pos, guardN_pos, Option.map_some, Option.bind_some, Nat.reduceAdd, Nat.reduceSub, Nat.reduceLT, Nat.reduceLeDiff, List.replicate, List.cons_append, List.nil_append, List.getElem?_cons_zero, List.getElem?_cons_succ, List.set_cons_succ, List.set_cons_zero, if_true, if_false, Bool.false_eq_true, Bool.not_true, Bool.not_false, Bool.and_true, Bool.true_and, Bool.or_true, Bool.true_or, reduceCtorEq, eq_self, decide_true, decide_false, decide_not, List.take_succ_cons, List.take_zero, List.length_map, Int.toNat_natCast, pr]
end
end PP
namespace L72
open PySem PySem.Spec
open PyProof.Rows hiding St
open L2 Ev PP
abbrev N_prices : List Str := ["one", "other", "table", "i", "ahead", "row", "j", "least"]
def b_prices : Ts :=
 (.cons (.asg (.nm 2) (.p (.lst (.cons (.frz (.lc [("j", 6)] (.nm 6) (.rng1 (.bin .Add (.blt .len (.cons (.var 1) .nil)) (.int 1))) .none (.var 6))) .nil))))
 (.cons (.for_ (.nm 3) (.rng1 (.blt .len (.cons (.var 0) .nil)))
  (.cons (.asg (.nm 4) (.p (.ix (.var 2) (.var 3))))
  (.cons (.asg (.nm 5) (.p (.lst (.cons (.bin .Add (.var 3) (.int 1)) .nil))))
  (.cons (.for_ (.nm 6) (.rng1 (.blt .len (.cons (.var 1) .nil)))
   (.cons (.asg (.nm 7) (.p (.bin .Add (.blt .min (.cons (.ix (.var 4) (.bin .Add (.var 6) (.int 1))) (.cons (.ix (.var 5) (.var 6)) .nil))) (.int 1))))
   (.cons (.ite (.p (.cmp .Eq (.ix (.var 0) (.var 3)) (.ix (.var 1) (.var 6))))
    (.cons (.asg (.nm 7) (.p (.blt .min (.cons (.var 7) (.cons (.ix (.var 4) (.var 6)) .nil)))))
    .nil)
    .nil)
   (.cons (.mut .append (.var 5) (.cons (.p (.var 7)) .nil))
   .nil))))
  (.cons (.frz 5)
  (.cons (.mut .append (.var 2) (.cons (.p (.var 5)) .nil))
  .nil))))))
 (.cons (.ret (.p (.var 2)))
 .nil)))
-- pure; calls []
abbrev N_steps : List Str := ["one", "other", "table", "i", "j", "found", "here"]
def b_steps : Ts :=
 (.cons (.asg (.nm 2) (.p (.call "prices" (.cons (.var 0) (.cons (.var 1) .nil)))))
 (.cons (.asg (.nm 3) (.p (.blt .len (.cons (.var 0) .nil))))
 (.cons (.asg (.nm 4) (.p (.blt .len (.cons (.var 1) .nil))))
 (.cons (.asg (.nm 5) (.p (.lst .nil)))
 (.cons (.whil 1000000 (.or (.cmp .Gt (.var 3) (.int 0)) (.cmp .Gt (.var 4) (.int 0)))
  (.cons (.asg (.nm 6) (.p (.ix (.ix (.var 2) (.var 3)) (.var 4))))
  (.cons (.ite (.p (.and (.cmp .Gt (.var 3) (.int 0)) (.and (.cmp .Gt (.var 4) (.int 0)) (.and (.cmp .Eq (.ix (.var 0) (.bin .Sub (.var 3) (.int 1))) (.ix (.var 1) (.bin .Sub (.var 4) (.int 1)))) (.cmp .Eq (.ix (.ix (.var 2) (.bin .Sub (.var 3) (.int 1))) (.bin .Sub (.var 4) (.int 1))) (.var 6))))))
   (.cons (.aug 3 .Sub (.int 1))
   (.cons (.aug 4 .Sub (.int 1))
   (.cons (.mut .append (.var 5) (.cons (.p (.tup (.cons (.str "keep") (.cons (.var 3) (.cons (.var 4) .nil))))) .nil))
   .nil)))
   (.cons (.ite (.p (.and (.cmp .Gt (.var 3) (.int 0)) (.cmp .Eq (.bin .Add (.ix (.ix (.var 2) (.bin .Sub (.var 3) (.int 1))) (.var 4)) (.int 1)) (.var 6))))
    (.cons (.aug 3 .Sub (.int 1))
    (.cons (.mut .append (.var 5) (.cons (.p (.tup (.cons (.str "strike") (.cons (.var 3) .nil)))) .nil))
    .nil))
    (.cons (.aug 4 .Sub (.int 1))
    (.cons (.mut .append (.var 5) (.cons (.p (.tup (.cons (.str "put") (.cons (.var 4) .nil)))) .nil))
    .nil)))
   .nil))
  .nil)))
 (.cons (.ret (.p (.sp .listRev (.cons (.var 5) .nil))))
 .nil))))))
-- pure; calls ['prices']
abbrev N_law_mixed : List Str := ["_law_cell", "_law_k", "_law_number"]
def b_law_mixed : Ts :=
 (.cons (.asg (.nm 2) (.p (.bin .Mod (.bin .Mult (.bin .Add (.bin .Add (.var 0) (.bin .Mult (.int 7919) (.var 1))) (.int 1)) (.int 48271)) (.int 2147483647))))
 (.cons (.ret (.p (.bin .Mod (.bin .Mult (.var 2) (.bin .Add (.bin .FloorDiv (.var 2) (.int 1009)) (.int 69621))) (.int 2147483647))))
 .nil))
-- pure; calls []
abbrev N_law_cell_at : List Str := ["_law_script", "_law_k"]
def b_law_cell_at : Ts :=
 (.cons (.ite (.p (.cmp .Lt (.var 1) (.blt .len (.cons (.var 0) .nil))))
  (.cons (.ret (.p (.ix (.var 0) (.var 1))))
  .nil)
  .nil)
 (.cons (.ret (.p (.int 0)))
 .nil))
-- pure; calls []
abbrev N_law_text : List Str := ["_law_cell", "_law_some", "_law_first", "_law_size", "_law_wide", "_law_start", "_law_k"]
def b_law_text : Ts :=
 (.cons (.asg (.nm 1) (.p (.str " !\"#$&'()*+,-./0123456789:;<=>?@ABCDEFGHIJKLMNOPQRSTUVWXYZ[\\]^_`")))
 (.cons (.asg (.nm 1) (.p (.bin .Add (.var 1) (.str "abcdefghijklmnopqrstuvwxyz{|}~\n"))))
 (.cons (.asg (.nm 2) (.p (.call "_law_mixed" (.cons (.var 0) (.cons (.int 1) .nil)))))
 (.cons (.asg (.nm 3) (.p (.ix (.lst (.cons (.bin .Mod (.bin .FloorDiv (.var 2) (.int 4)) (.int 25)) (.cons (.bin .Mod (.bin .FloorDiv (.var 2) (.int 4)) (.int 9)) (.cons (.ife (.cmp .Eq (.bin .Mod (.bin .FloorDiv (.var 2) (.int 300)) (.int 2)) (.int 0)) (.bin .Mod (.bin .FloorDiv (.var 2) (.int 4)) (.int 61)) (.int 5)) (.cons (.bin .Mod (.bin .FloorDiv (.var 2) (.int 4)) (.int 3)) .nil))))) (.bin .Mod (.var 2) (.int 4)))))
 (.cons (.asg (.nm 4) (.p (.ix (.lst (.cons (.int 95) (.cons (.int 2) (.cons (.int 3) .nil)))) (.bin .Mod (.call "_law_mixed" (.cons (.var 0) (.cons (.int 2) .nil))) (.int 3)))))
 (.cons (.asg (.nm 5) (.p (.bin .Mod (.call "_law_mixed" (.cons (.var 0) (.cons (.int 3) .nil))) (.int 95))))
 (.cons (.ret (.p (.join (.str "") (.lc [("_law_k", 6)] (.nm 6) (.rng1 (.var 3)) .none (.ix (.var 1) (.bin .Mod (.bin .Add (.var 5) (.bin .Mod (.call "_law_mixed" (.cons (.var 0) (.cons (.bin .Add (.int 4) (.var 6)) .nil))) (.var 4))) (.int 95)))))))
 .nil)))))))
-- pure; calls ['_law_mixed']
abbrev N_law_other : List Str := ["_law_one", "_law_cell", "_law_number", "_law_k", "_law_turn", "_law_at"]
def b_law_other : Ts :=
 (.cons (.asg (.nm 2) (.p (.call "_law_mixed" (.cons (.var 1) (.cons (.int 70) .nil)))))
 (.cons (.ite (.p (.cmp .Eq (.bin .Mod (.var 2) (.int 6)) (.int 0)))
  (.cons (.ret (.p (.call "_law_text" (.cons (.bin .Add (.bin .FloorDiv (.var 1) (.int 7)) (.int 13)) .nil))))
  .nil)
  .nil)
 (.cons (.ite (.p (.cmp .Eq (.bin .Mod (.var 2) (.int 6)) (.int 1)))
  (.cons (.ret (.p (.sp .step (.cons (.var 0) (.cons (.ix (.lst (.cons (.int 1) (.cons (.neg (.int 1)) .nil))) (.bin .Mod (.bin .FloorDiv (.var 2) (.int 6)) (.int 2))) .nil)))))
  .nil)
  .nil)
 (.cons (.for_ (.nm 3) (.rng1 (.bin .Mod (.bin .FloorDiv (.var 2) (.int 12)) (.int 9)))
  (.cons (.asg (.nm 4) (.p (.call "_law_mixed" (.cons (.var 1) (.cons (.bin .Add (.int 71) (.var 3)) .nil)))))
  (.cons (.asg (.nm 5) (.p (.bin .Mod (.bin .FloorDiv (.var 4) (.int 2)) (.bin .Add (.blt .len (.cons (.var 0) .nil)) (.int 1)))))
  (.cons (.ite (.p (.and (.cmp .Eq (.bin .Mod (.var 4) (.int 2)) (.int 0)) (.cmp .Lt (.blt .len (.cons (.var 0) .nil)) (.int 60))))
   (.cons (.asg (.nm 0) (.p (.bin .Add (.bin .Add (.sl (.var 0) .none (.some (.var 5))) (.ix (.bin .Add (.var 0) (.str "x")) (.bin .Mod (.bin .FloorDiv (.var 4) (.int 200)) (.bin .Add (.blt .len (.cons (.var 0) .nil)) (.int 1))))) (.sl (.var 0) (.some (.var 5)) .none))))
   .nil)
   (.cons (.asg (.nm 0) (.p (.bin .Add (.sl (.var 0) .none (.some (.var 5))) (.sl (.var 0) (.some (.bin .Add (.var 5) (.int 1))) .none))))
   .nil))
  .nil))))
 (.cons (.ret (.p (.var 0)))
 .nil)))))
-- pure; calls ['_law_mixed', '_law_text']
abbrev N_law_goes : List Str := ["_law_one", "_law_other_here", "_law_walk", "_law_i", "_law_j", "_law_many", "_law_step", "_law_part"]
def b_law_goes : Ts :=
 (.cons (.asg (.nm 3) (.p (.int 0)))
 (.cons (.asg (.nm 4) (.p (.int 0)))
 (.cons (.asg (.nm 5) (.p (.int 0)))
 (.cons (.for_ (.nm 6) (.e (.var 2))
  (.cons (.ite (.p (.or (.not (.isi (.var 6) .tuple)) (.not (.blt .all (.cons (.lc [("_law_part", 7)] (.nm 7) (.tup (.var 6)) .none (.not (.isi (.var 7) .bool))) .nil)))))
   (.cons (.ret (.p .non))
   .nil)
   .nil)
  (.cons (.ite (.p (.and (.cmp .Eq (.var 6) (.tup (.cons (.str "keep") (.cons (.var 3) (.cons (.var 4) .nil))))) (.and (.cmp .Lt (.var 3) (.blt .len (.cons (.var 0) .nil))) (.and (.cmp .Lt (.var 4) (.blt .len (.cons (.var 1) .nil))) (.cmp .Eq (.ix (.var 0) (.var 3)) (.ix (.var 1) (.var 4)))))))
   (.cons (.asg (.nm 3) (.p (.bin .Add (.var 3) (.int 1))))
   (.cons (.asg (.nm 4) (.p (.bin .Add (.var 4) (.int 1))))
   .nil))
   (.cons (.ite (.p (.and (.cmp .Eq (.var 6) (.tup (.cons (.str "strike") (.cons (.var 3) .nil)))) (.cmp .Lt (.var 3) (.blt .len (.cons (.var 0) .nil)))))
    (.cons (.asg (.nm 3) (.p (.bin .Add (.var 3) (.int 1))))
    (.cons (.asg (.nm 5) (.p (.bin .Add (.var 5) (.int 1))))
    .nil))
    (.cons (.ite (.p (.and (.cmp .Eq (.var 6) (.tup (.cons (.str "put") (.cons (.var 4) .nil)))) (.cmp .Lt (.var 4) (.blt .len (.cons (.var 1) .nil)))))
     (.cons (.asg (.nm 4) (.p (.bin .Add (.var 4) (.int 1))))
     (.cons (.asg (.nm 5) (.p (.bin .Add (.var 5) (.int 1))))
     .nil))
     (.cons (.ret (.p .non))
     .nil))
    .nil))
   .nil))
  .nil)))
 (.cons (.ite (.p (.or (.cmp .NotEq (.var 3) (.blt .len (.cons (.var 0) .nil))) (.cmp .NotEq (.var 4) (.blt .len (.cons (.var 1) .nil)))))
  (.cons (.ret (.p .non))
  .nil)
  .nil)
 (.cons (.ret (.p (.var 5)))
 .nil))))))
-- pure; calls []
abbrev N_law : List Str := ["_law_script", "_law_one", "_law_other_here", "_law_walk", "_law_due", "_law_k"]
def b_law : Ts :=
 (.cons (.asg (.nm 1) (.p (.call "_law_text" (.cons (.call "_law_cell_at" (.cons (.var 0) (.cons (.int 0) .nil))) .nil))))
 (.cons (.asg (.nm 2) (.p (.call "_law_other" (.cons (.var 1) (.cons (.call "_law_cell_at" (.cons (.var 0) (.cons (.int 1) .nil))) .nil)))))
 (.cons (.asg (.nm 3) (.p (.call "steps" (.cons (.var 1) (.cons (.var 2) .nil)))))
 (.cons (.asg (.nm 4) (.p (.ix (.ix (.call "prices" (.cons (.var 1) (.cons (.var 2) .nil))) (.blt .len (.cons (.var 1) .nil))) (.blt .len (.cons (.var 2) .nil)))))
 (.cons (.ite (.p (.or (.not (.isi (.var 3) .list)) (.cmp .NotEq (.call "_law_goes" (.cons (.var 1) (.cons (.var 2) (.cons (.var 3) .nil)))) (.var 4))))
  (.cons (.ret (.p (.bl false)))
  .nil)
  .nil)
 (.cons (.ret (.p (.cmp .Eq (.call "steps" (.cons (.var 1) (.cons (.var 1) .nil))) (.lc [("_law_k", 5)] (.nm 5) (.rng1 (.blt .len (.cons (.var 1) .nil))) .none (.tup (.cons (.str "keep") (.cons (.var 5) (.cons (.var 5) .nil))))))))
 .nil))))))
-- pure; calls ['_law_cell_at', '_law_goes', '_law_other', '_law_text', 'prices', 'steps']
end L72
namespace L72
open PySem PySem.Spec
open PyProof.Rows hiding St
open L2 Ev PP
def topS (i : Nat) : Stmt := PySem.Challenge.pw_redquill_k72_steps_told.main.body.getD i (.Pass ⟨0, 0, 0, 0⟩)
def clsB : Stmt → List Stmt
  | .ClassDef _ _ _ b .. => b
  | _ => []
def methS (i j : Nat) : Stmt := (clsB (topS i)).getD j (.Pass ⟨0, 0, 0, 0⟩)
def bl : List Str := ["all", "bool", "isinstance", "len", "list", "min", "range", "reversed", "tuple"]
abbrev s_prices : Stmt := topS 1
theorem sc_prices : FnScope N_prices ["one", "other"] (defScope s_prices) := ⟨rfl, rfl, rfl, by decide +kernel, rfl, by decide +kernel, by decide +kernel⟩
theorem ck_prices : chkTs bl N_prices (defScope s_prices) b_prices (defBody s_prices) = true := by decide +kernel
abbrev s_steps : Stmt := topS 2
theorem sc_steps : FnScope N_steps ["one", "other"] (defScope s_steps) := ⟨rfl, rfl, rfl, by decide +kernel, rfl, by decide +kernel, by decide +kernel⟩
theorem ck_steps : chkTs bl N_steps (defScope s_steps) b_steps (defBody s_steps) = true := by decide +kernel
abbrev s_law_mixed : Stmt := topS 4
theorem sc_law_mixed : FnScope N_law_mixed ["_law_cell", "_law_k"] (defScope s_law_mixed) := ⟨rfl, rfl, rfl, by decide +kernel, rfl, by decide +kernel, by decide +kernel⟩
theorem ck_law_mixed : chkTs bl N_law_mixed (defScope s_law_mixed) b_law_mixed (defBody s_law_mixed) = true := by decide +kernel
abbrev s_law_cell_at : Stmt := topS 5
theorem sc_law_cell_at : FnScope N_law_cell_at ["_law_script", "_law_k"] (defScope s_law_cell_at) := ⟨rfl, rfl, rfl, by decide +kernel, rfl, by decide +kernel, by decide +kernel⟩
theorem ck_law_cell_at : chkTs bl N_law_cell_at (defScope s_law_cell_at) b_law_cell_at (defBody s_law_cell_at) = true := by decide +kernel
abbrev s_law_text : Stmt := topS 6
theorem sc_law_text : FnScope N_law_text ["_law_cell"] (defScope s_law_text) := ⟨rfl, rfl, rfl, by decide +kernel, rfl, by decide +kernel, by decide +kernel⟩
theorem ck_law_text : chkTs bl N_law_text (defScope s_law_text) b_law_text (defBody s_law_text) = true := by decide +kernel
abbrev s_law_other : Stmt := topS 7
theorem sc_law_other : FnScope N_law_other ["_law_one", "_law_cell"] (defScope s_law_other) := ⟨rfl, rfl, rfl, by decide +kernel, rfl, by decide +kernel, by decide +kernel⟩
theorem ck_law_other : chkTs bl N_law_other (defScope s_law_other) b_law_other (defBody s_law_other) = true := by decide +kernel
abbrev s_law_goes : Stmt := topS 8
theorem sc_law_goes : FnScope N_law_goes ["_law_one", "_law_other_here", "_law_walk"] (defScope s_law_goes) := ⟨rfl, rfl, rfl, by decide +kernel, rfl, by decide +kernel, by decide +kernel⟩
theorem ck_law_goes : chkTs bl N_law_goes (defScope s_law_goes) b_law_goes (defBody s_law_goes) = true := by decide +kernel
abbrev s_law : Stmt := topS 9
theorem sc_law : FnScope N_law ["_law_script"] (defScope s_law) := ⟨rfl, rfl, rfl, by decide +kernel, rfl, by decide +kernel, by decide +kernel⟩
theorem ck_law : chkTs bl N_law (defScope s_law) b_law (defBody s_law) = true := by decide +kernel
end L72
namespace L72
/-- one price, from those above, left and across -/
def st (up left diag : Nat) (same : Bool) : Nat := if same then min (min up left + 1) diag else min up left + 1
def eqAt (a b : List Nat) (i j : Nat) : Bool := decide (a[i]? = b[j]?)
/-- the price of the first i signs of a against the first j of b -/
def pr (a b : List Nat) : Nat → Nat → Nat
  | 0 => fun j => j
  | i + 1 => fun j => Nat.rec (i + 1) (fun j left => st (pr a b i (j + 1)) left (pr a b i j) (eqAt a b i j)) j
theorem pr_00 (a b : List Nat) (j : Nat) : pr a b 0 j = j := rfl
theorem pr_s0 (a b : List Nat) (i : Nat) : pr a b (i + 1) 0 = i + 1 := rfl
theorem pr_ss (a b : List Nat) (i j : Nat) : pr a b (i + 1) (j + 1) = st (pr a b i (j + 1)) (pr a b (i + 1) j) (pr a b i j) (eqAt a b i j) := rfl
theorem pr_diag (a : List Nat) : ∀ i, pr a a i i = 0
  | 0 => rfl
  | i + 1 => by
    rw [pr_ss, pr_diag a i]
    simp [st, eqAt]
theorem pr_le (a b : List Nat) : ∀ i j, pr a b i j ≤ i + j
  | 0, j => by rw [pr_00]; omega
  | i + 1, 0 => by rw [pr_s0]; omega
  | i + 1, j + 1 => by
    have h1 := pr_le a b i (j + 1)
    rw [pr_ss]
    unfold st
    split <;> omega
inductive Stp where
  | keep (i j : Nat) | strike (i : Nat) | put (j : Nat)
/-- where the walk back goes -/
def one (a b : List Nat) (i j : Nat) : Stp × Nat × Nat :=
  if 0 < i ∧ 0 < j ∧ eqAt a b (i - 1) (j - 1) = true ∧ pr a b (i - 1) (j - 1) = pr a b i j then (.keep (i - 1) (j - 1), i - 1, j - 1)
  else if 0 < i ∧ pr a b (i - 1) j + 1 = pr a b i j then (.strike (i - 1), i - 1, j)
  else (.put (j - 1), i, j - 1)
theorem one_put {a b : List Nat} {i j : Nat} (h : 0 < i ∨ 0 < j) (h1 : ¬ (0 < i ∧ 0 < j ∧ eqAt a b (i - 1) (j - 1) = true ∧ pr a b (i - 1) (j - 1) = pr a b i j)) (h2 : ¬ (0 < i ∧ pr a b (i - 1) j + 1 = pr a b i j)) : 0 < j ∧ pr a b i (j - 1) + 1 = pr a b i j := by
  cases i with
  | zero =>
    have hj : 0 < j := by omega
    refine ⟨hj, ?_⟩
    rw [pr_00, pr_00]
    omega
  | succ i =>
    cases j with
    | zero =>
      exfalso
      apply h2
      refine ⟨by omega, ?_⟩
      cases i with
      | zero => rfl
      | succ i => rfl
    | succ j =>
      refine ⟨by omega, ?_⟩
      have e1 : i + 1 - 1 = i := rfl
      have e2 : j + 1 - 1 = j := rfl
      rw [e1, e2] at *
      have hp := pr_ss a b i j
      unfold st at hp
      cases hs : eqAt a b i j with
      | true =>
        rw [hs, if_pos rfl] at hp
        have n1 : pr a b i j ≠ pr a b (i + 1) (j + 1) := fun e => h1 ⟨by omega, by omega, hs, e⟩
        have n2 : pr a b i (j + 1) + 1 ≠ pr a b (i + 1) (j + 1) := fun e => h2 ⟨by omega, e⟩
        omega
      | false =>
        rw [hs, if_neg Bool.false_ne_true] at hp
        have n2 : pr a b i (j + 1) + 1 ≠ pr a b (i + 1) (j + 1) := fun e => h2 ⟨by omega, e⟩
        omega
/-- the rest of the way forward: from i, j by these steps to n, m, with this many strikes and puts -/
inductive Way (a b : List Nat) (n m : Nat) : Nat → Nat → List Stp → Nat → Prop where
  | nil : Way a b n m n m [] 0
  | keep {i j : Nat} {l : List Stp} {k : Nat} : i < a.length → j < b.length → eqAt a b i j = true → Way a b n m (i + 1) (j + 1) l k → Way a b n m i j (.keep i j :: l) k
  | strike {i j : Nat} {l : List Stp} {k : Nat} : i < a.length → Way a b n m (i + 1) j l k → Way a b n m i j (.strike i :: l) (k + 1)
  | put {i j : Nat} {l : List Stp} {k : Nat} : j < b.length → Way a b n m i (j + 1) l k → Way a b n m i j (.put j :: l) (k + 1)
theorem way_one {a b : List Nat} {i j : Nat} {l : List Stp} {k : Nat} (hi : i ≤ a.length) (hj : j ≤ b.length) (h : 0 < i ∨ 0 < j) (w : Way a b a.length b.length i j l k) (hk : k + pr a b i j = pr a b a.length b.length) :
    ∃ k', Way a b a.length b.length (one a b i j).2.1 (one a b i j).2.2 ((one a b i j).1 :: l) k' ∧ k' + pr a b (one a b i j).2.1 (one a b i j).2.2 = pr a b a.length b.length ∧ (one a b i j).2.1 ≤ i ∧ (one a b i j).2.2 ≤ j ∧ (one a b i j).2.1 + (one a b i j).2.2 < i + j := by
  unfold one
  by_cases h1 : 0 < i ∧ 0 < j ∧ eqAt a b (i - 1) (j - 1) = true ∧ pr a b (i - 1) (j - 1) = pr a b i j
  · rw [if_pos h1]
    obtain ⟨q1, q2, q3, q4⟩ := h1
    refine ⟨k, Way.keep (i := i - 1) (j := j - 1) (by omega) (by omega) q3 ?_, by simp only; omega, by simp only; omega, by simp only; omega, by simp only; omega⟩
    rw [show i - 1 + 1 = i by omega, show j - 1 + 1 = j by omega]
    exact w
  · rw [if_neg h1]
    by_cases h2 : 0 < i ∧ pr a b (i - 1) j + 1 = pr a b i j
    · rw [if_pos h2]
      refine ⟨k + 1, Way.strike (i := i - 1) (j := j) (by omega) ?_, by simp only; omega, by simp only; omega, by simp only; omega, by simp only; omega⟩
      rw [show i - 1 + 1 = i by omega]
      exact w
    · rw [if_neg h2]
      obtain ⟨q1, q2⟩ := one_put h h1 h2
      refine ⟨k + 1, Way.put (i := i) (j := j - 1) (by omega) ?_, by simp only; omega, by simp only; omega, by simp only; omega, by simp only; omega⟩
      rw [show j - 1 + 1 = j by omega]
      exact w
theorem one_diag {a : List Nat} {i : Nat} (h : 0 < i) : one a a i i = (.keep (i - 1) (i - 1), i - 1, i - 1) := by
  unfold one
  rw [if_pos ⟨h, h, by simp [eqAt], by rw [pr_diag, pr_diag]⟩]
end L72
namespace L72
open PySem PySem.Spec
open PyProof.Rows hiding St
open L2 Ev PP
noncomputable def Gm1 : Gam := ext Gm0 "prices" (fnG Gm0 2 8 b_prices)
theorem lk1_prices : Gm1 "prices" = some (fnG Gm0 2 8 b_prices) := (by repeat (first | refine (ext_ne (by decide +kernel)).trans ?_ | exact ext_same))
noncomputable def Gm2 : Gam := ext Gm1 "steps" (fnG Gm1 2 7 b_steps)
noncomputable def Gm3 : Gam := ext Gm2 "_law_mixed" (fnG Gm2 2 3 b_law_mixed)
noncomputable def Gm4 : Gam := ext Gm3 "_law_cell_at" (fnG Gm3 2 2 b_law_cell_at)
theorem lk4_law_mixed : Gm4 "_law_mixed" = some (fnG Gm2 2 3 b_law_mixed) := (by repeat (first | refine (ext_ne (by decide +kernel)).trans ?_ | exact ext_same))
noncomputable def Gm5 : Gam := ext Gm4 "_law_text" (fnG Gm4 1 7 b_law_text)
theorem lk5_law_mixed : Gm5 "_law_mixed" = some (fnG Gm2 2 3 b_law_mixed) := (by repeat (first | refine (ext_ne (by decide +kernel)).trans ?_ | exact ext_same))
theorem lk5_law_text : Gm5 "_law_text" = some (fnG Gm4 1 7 b_law_text) := (by repeat (first | refine (ext_ne (by decide +kernel)).trans ?_ | exact ext_same))
noncomputable def Gm6 : Gam := ext Gm5 "_law_other" (fnG Gm5 2 6 b_law_other)
noncomputable def Gm7 : Gam := ext Gm6 "_law_goes" (fnG Gm6 3 8 b_law_goes)
theorem lk7_prices : Gm7 "prices" = some (fnG Gm0 2 8 b_prices) := (by repeat (first | refine (ext_ne (by decide +kernel)).trans ?_ | exact ext_same))
theorem lk7_steps : Gm7 "steps" = some (fnG Gm1 2 7 b_steps) := (by repeat (first | refine (ext_ne (by decide +kernel)).trans ?_ | exact ext_same))
theorem lk7_law_cell_at : Gm7 "_law_cell_at" = some (fnG Gm3 2 2 b_law_cell_at) := (by repeat (first | refine (ext_ne (by decide +kernel)).trans ?_ | exact ext_same))
theorem lk7_law_text : Gm7 "_law_text" = some (fnG Gm4 1 7 b_law_text) := (by repeat (first | refine (ext_ne (by decide +kernel)).trans ?_ | exact ext_same))
theorem lk7_law_other : Gm7 "_law_other" = some (fnG Gm5 2 6 b_law_other) := (by repeat (first | refine (ext_ne (by decide +kernel)).trans ?_ | exact ext_same))
theorem lk7_law_goes : Gm7 "_law_goes" = some (fnG Gm6 3 8 b_law_goes) := (by repeat (first | refine (ext_ne (by decide +kernel)).trans ?_ | exact ext_same))
end L72
namespace L72
open PySem PySem.Spec
open PyProof.Rows hiding St
open L2 Ev PP
def rowD (a b : List Nat) (i n : Nat) : List D := (List.range n).map fun j => .int (pr a b i j : Nat)
def tabD (a b : List Nat) (n : Nat) : List D := (List.range n).map fun i => .fl (rowD a b i (b.length + 1))
theorem rowD_len {a b : List Nat} {i n : Nat} : (rowD a b i n).length = n := by simp [rowD]
theorem tabD_len {a b : List Nat} {n : Nat} : (tabD a b n).length = n := by simp [tabD]
theorem rowD_at {a b : List Nat} {i n j : Nat} (h : j < n) : L2.atI (rowD a b i n) (j : Int) = some (.int (pr a b i j : Nat)) := by
  rw [atI_lt (by rw [rowD_len]; exact h)]
  simp [rowD]
theorem tabD_at {a b : List Nat} {n i : Nat} (h : i < n) : L2.atI (tabD a b n) (i : Int) = some (.fl (rowD a b i (b.length + 1))) := by
  rw [atI_lt (by rw [tabD_len]; exact h)]
  simp [tabD]
theorem rowD_succ {a b : List Nat} {i n : Nat} : rowD a b i (n + 1) = rowD a b i n ++ [.int (pr a b i n : Nat)] := by simp [rowD, List.range_succ]
theorem tabD_succ {a b : List Nat} {n : Nat} : tabD a b (n + 1) = tabD a b n ++ [.fl (rowD a b n (b.length + 1))] := by simp [tabD, List.range_succ]
section
variable {Γ : Gam} {S : Sto} {σ : List Sl}
theorem ixOf {a b : E} {x y : VW} {r : VW} (h1 : ev Γ S a σ = some (.ok x)) (h2 : ev Γ S b σ = some (.ok y)) (h : Ev.ix (x.1.at S) y.1 = some (.ok r)) : ev Γ S (.ix a b) σ = some (.ok r) := by
  unfold Ev.ev
  rw [h1, bok, h2, bok]
  exact h
theorem atS {m : List Nat} {i : Nat} (hi : i < m.length) (hn : m.length ≤ 16777216) : Ev.ix (.str (SX.S m)) (.int (i : Int)) = some (.ok (.str (SX.S [m[i]]), .ro)) := by
  unfold Ev.ix
  simp only
  rw [guardN_pos (by rw [SX.S_len]; exact hn), atI_lt hi]
  rfl
theorem atL {xs : List D} {i : Int} {d : D} (h : L2.atI xs i = some d) : Ev.ix (.c (.lst xs)) (.int i) = some (.ok (.c (.d d), .ro)) := by
  unfold Ev.ix
  simp only [h]
  rfl
theorem same_ch {a b : List Nat} {i j : Nat} {e1 e2 e3 e4 : E} {k1 k2 k3 k4 : Kd} (h1 : ev Γ S e1 σ = some (.ok (.str (SX.S a), k1))) (h2 : ev Γ S e2 σ = some (.ok (.int (i : Nat), k2))) (h3 : ev Γ S e3 σ = some (.ok (.str (SX.S b), k3))) (h4 : ev Γ S e4 σ = some (.ok (.int (j : Nat), k4))) (hi : i < a.length) (hj : j < b.length) (ha : a.length ≤ 1000) (hb : b.length ≤ 1000) : ev Γ S (.cmp .Eq (.ix e1 e2) (.ix e3 e4)) σ = some (.ok (.bl (eqAt a b i j), .ro)) := by
  refine cmpOf (ixOf h1 h2 (atS hi (by omega))) (ixOf h3 h4 (atS hj (by omega))) ?_
  have e : decide (SX.S [a[i]] = SX.S [b[j]]) = eqAt a b i j := by
    unfold eqAt
    rw [List.getElem?_eq_getElem hi, List.getElem?_eq_getElem hj]
    simp only [S_eq_iff, List.cons.injEq, and_true, Option.some.injEq]
  rw [← e]
  rfl
end
abbrev SP (a b : List Nat) (t : List D) (y3 y4 y5 y6 y7 : Sl) : List Sl := [.ro (.str (SX.S a)), .ro (.str (SX.S b)), .own (.c (.lst t)), y3, y4, y5, y6, y7]
theorem run_prices {S : Sto} {a b : List Nat} (ha : a.length ≤ 1000) (hb : b.length ≤ 1000) : fnG Gm0 2 8 b_prices S [.str (SX.S a), .str (SX.S b)] = some (.ok (.c (.lst (tabD a b (a.length + 1)))) S) := by
  refine fnG_ok rfl (WP.eq (WP.fn ?_))
  change WP (runs Gm0 _ [Sl.ro (.str (SX.S a)), .ro (.str (SX.S b)), .out, .out, .out, .out, .out, .out] S) _
  unfold b_prices
  have e0 : ev Gm0 S (.lst (.cons (.frz (.lc [("j", 6)] (.nm 6) (.rng1 (.bin .Add (.blt .len (.cons (.var 1) .nil)) (.int 1))) .none (.var 6))) .nil)) [Sl.ro (.str (SX.S a)), .ro (.str (SX.S b)), .out, .out, .out, .out, .out, .out] = some (.ok (.c (.lst (tabD a b 1)), .fr)) := by
    have e1 : evi Gm0 S (.rng1 (.bin .Add (.blt .len (.cons (.var 1) .nil)) (.int 1))) [Sl.ro (.str (SX.S a)), .ro (.str (SX.S b)), .out, .out, .out, .out, .out, .out] = some (.ok (rngD 0 (b.length + 1), [])) := by
      have : ((b.length : Int) + 1).toNat = b.length + 1 := by omega
      simp (disch := first | omega | decide) only [mapM_nil, mapM_cons1, List.map_cons, List.map_nil, List.length_cons, List.length_nil, Ev.runs, Ev.run, Ev.evI, Ev.evIs, Ev.ev, Ev.evs, Ev.evo, Ev.evc, Ev.evi, Ev.tstV, Ev.tstI', Ev.asInt, bok, mok, bokS, mokS, upok, Ev.bin, Ev.binI, Ev.cmp, Ev.cmpI, Ev.cmpS, Ev.isNonW, Ev.isiW, Ev.kdOf, vI, vD, vB, vF, setN, putS, setG, setGs, nxO, truth, Ev.sl, Ev.ix, blt, wipeS, W.at, handed, change, setFld, given, fldK, Ev.cellOf, moTy, moC, setIt, setF, srcOk, srcSt, fgtS, Sto.hold, pureOf, belowW, belowC, below, belows, pureI, pureIs, guardP_pos, guardN_pos, Option.map_some, Option.bind_some, Nat.reduceAdd, Nat.reduceSub, Nat.reduceLT, Nat.reduceLeDiff, List.replicate, List.cons_append, List.nil_append, List.getElem?_cons_zero, List.getElem?_cons_succ, List.set_cons_succ, List.set_cons_zero, if_true, if_false, Bool.false_eq_true, Bool.not_true, Bool.not_false, Bool.and_true, Bool.true_and, Bool.or_true, Bool.true_or, reduceCtorEq, eq_self, decide_true, decide_false, decide_not, List.take_succ_cons, List.take_zero, List.length_map, Int.toNat_natCast, SX.S_len, this]
    have e2 : ev Gm0 S (.lc [("j", 6)] (.nm 6) (.rng1 (.bin .Add (.blt .len (.cons (.var 1) .nil)) (.int 1))) .none (.var 6)) [Sl.ro (.str (SX.S a)), .ro (.str (SX.S b)), .out, .out, .out, .out, .out, .out] = some (.ok (.c (.lst (rowD a b 0 (b.length + 1))), .fr)) := by
      refine ev_lc e1 (by rw [rngD_length]; omega) ?_
      have : rowD a b 0 (b.length + 1) = (rngD 0 (b.length + 1)).map id := by
        simp only [rowD, rngD, List.map_id_fun, id, pr_00, Int.zero_add]
      rw [this]
      refine lcRun_evc _ _ fun x hx => ?_
      obtain ⟨i, hi, rfl⟩ := rngD_mem hx
      exact ⟨_, rfl, .ro, by simp only [mapM_nil, mapM_cons1, List.map_cons, List.map_nil, List.length_cons, List.length_nil, Ev.runs, Ev.run, Ev.evI, Ev.evIs, Ev.ev, Ev.evs, Ev.evo, Ev.evc, Ev.evi, Ev.tstV, Ev.tstI', Ev.asInt, bok, mok, bokS, mokS, upok, Ev.bin, Ev.binI, Ev.cmp, Ev.cmpI, Ev.cmpS, Ev.isNonW, Ev.isiW, Ev.kdOf, vI, vD, vB, vF, setN, putS, setG, setGs, nxO, truth, Ev.sl, Ev.ix, blt, wipeS, W.at, handed, change, setFld, given, fldK, Ev.cellOf, moTy, moC, setIt, setF, srcOk, srcSt, fgtS, Sto.hold, pureOf, belowW, belowC, below, belows, pureI, pureIs, guardP_pos, guardN_pos, Option.map_some, Option.bind_some, Nat.reduceAdd, Nat.reduceSub, Nat.reduceLT, Nat.reduceLeDiff, List.replicate, List.cons_append, List.nil_append, List.getElem?_cons_zero, List.getElem?_cons_succ, List.set_cons_succ, List.set_cons_zero, if_true, if_false, Bool.false_eq_true, Bool.not_true, Bool.not_false, Bool.and_true, Bool.true_and, Bool.or_true, Bool.true_or, reduceCtorEq, eq_self, decide_true, decide_false, decide_not, List.take_succ_cons, List.take_zero, List.length_map, Int.toNat_natCast, id]⟩
    have e3 : ev Gm0 S (.frz (.lc [("j", 6)] (.nm 6) (.rng1 (.bin .Add (.blt .len (.cons (.var 1) .nil)) (.int 1))) .none (.var 6))) [Sl.ro (.str (SX.S a)), .ro (.str (SX.S b)), .out, .out, .out, .out, .out, .out] = some (.ok (.c (.d (.fl (rowD a b 0 (b.length + 1)))), .ro)) := by
      unfold Ev.ev
      rw [e2, bok]
      rfl
    unfold Ev.ev
    rw [esC e3 esN, bok]
    simp (disch := first | omega | decide) only [mapM_cons1, mapM_nil, Option.map_some, List.length_cons, List.length_nil, guardN_pos, vF, mok, Nat.reduceAdd, Nat.reduceLeDiff]
    rfl
  refine WP.seq (asgL (i := 2) e0 (by simp)) ?_
  change WP (runs Gm0 _ (SP a b (tabD a b 1) .out .out .out .out .out) S) _
  refine WP.cons (WP.for_ (xs := rngD 0 a.length) (ls := []) (fun i σ S' => S = S' ∧ ∃ y3 y4 y5 y6 y7, σ = SP a b (tabD a b (i + 1)) y3 y4 y5 y6 y7) ?_ rfl ⟨rfl, _, _, _, _, _, rfl⟩ ?_ ?_)
  · simp (disch := first | omega | decide) only [mapM_nil, mapM_cons1, List.map_cons, List.map_nil, List.length_cons, List.length_nil, Ev.runs, Ev.run, Ev.evI, Ev.evIs, Ev.ev, Ev.evs, Ev.evo, Ev.evc, Ev.evi, Ev.tstV, Ev.tstI', Ev.asInt, bok, mok, bokS, mokS, upok, Ev.bin, Ev.binI, Ev.cmp, Ev.cmpI, Ev.cmpS, Ev.isNonW, Ev.isiW, Ev.kdOf, vI, vD, vB, vF, setN, putS, setG, setGs, nxO, truth, Ev.sl, Ev.ix, blt, wipeS, W.at, handed, change, setFld, given, fldK, Ev.cellOf, moTy, moC, setIt, setF, srcOk, srcSt, fgtS, Sto.hold, pureOf, belowW, belowC, below, belows, pureI, pureIs, guardP_pos, guardN_pos, Option.map_some, Option.bind_some, Nat.reduceAdd, Nat.reduceSub, Nat.reduceLT, Nat.reduceLeDiff, List.replicate, List.cons_append, List.nil_append, List.getElem?_cons_zero, List.getElem?_cons_succ, List.set_cons_succ, List.set_cons_zero, if_true, if_false, Bool.false_eq_true, Bool.not_true, Bool.not_false, Bool.and_true, Bool.true_and, Bool.or_true, Bool.true_or, reduceCtorEq, eq_self, decide_true, decide_false, decide_not, List.take_succ_cons, List.take_zero, List.length_map, Int.toNat_natCast, SX.S_len]
  · rintro i x σ _ hx ⟨rfl, y3, y4, y5, y6, y7, rfl⟩
    obtain ⟨hi, rfl⟩ := rngD_get hx
    have ez : (0 : Int) + (i : Int) = (i : Int) := by omega
    rw [ez]
    generalize hT : tabD a b (i + 1) = T
    have hTl : T.length ≤ 10000 := by rw [← hT, tabD_len]; omega
    have hat : L2.atI T (i : Int) = some (.fl (rowD a b i (b.length + 1))) := by rw [← hT]; exact tabD_at (by omega)
    refine ⟨SP a b T (.ro (.int (i : Nat))) y4 y5 y6 y7, rfl, ?_⟩
    generalize hR : rowD a b i (b.length + 1) = R at hat
    refine WP.seq (σ' := SP a b T (.ro (.int (i : Nat))) (.ro (.c (.d (.fl R)))) y5 y6 y7) (S' := S) (by simp (disch := first | omega | decide) only [mapM_nil, mapM_cons1, List.map_cons, List.map_nil, List.length_cons, List.length_nil, Ev.runs, Ev.run, Ev.evI, Ev.evIs, Ev.ev, Ev.evs, Ev.evo, Ev.evc, Ev.evi, Ev.tstV, Ev.tstI', Ev.asInt, bok, mok, bokS, mokS, upok, Ev.bin, Ev.binI, Ev.cmp, Ev.cmpI, Ev.cmpS, Ev.isNonW, Ev.isiW, Ev.kdOf, vI, vD, vB, vF, setN, putS, setG, setGs, nxO, truth, Ev.sl, Ev.ix, blt, wipeS, W.at, handed, change, setFld, given, fldK, Ev.cellOf, moTy, moC, setIt, setF, srcOk, srcSt, fgtS, Sto.hold, pureOf, belowW, belowC, below, belows, pureI, pureIs, guardP_pos, guardN_pos, Option.map_some, Option.bind_some, Nat.reduceAdd, Nat.reduceSub, Nat.reduceLT, Nat.reduceLeDiff, List.replicate, List.cons_append, List.nil_append, List.getElem?_cons_zero, List.getElem?_cons_succ, List.set_cons_succ, List.set_cons_zero, if_true, if_false, Bool.false_eq_true, Bool.not_true, Bool.not_false, Bool.and_true, Bool.true_and, Bool.or_true, Bool.true_or, reduceCtorEq, eq_self, decide_true, decide_false, decide_not, List.take_succ_cons, List.take_zero, List.length_map, Int.toNat_natCast, hat]) ?_
    have e9 : ((i : Int) + 1) = ((i + 1 : Nat) : Int) := by omega
    refine WP.seq (σ' := SP a b T (.ro (.int (i : Nat))) (.ro (.c (.d (.fl R)))) (.own (.c (.lst (rowD a b (i + 1) 1)))) y6 y7) (S' := S) ?_ ?_
    · have : rowD a b (i + 1) 1 = [.int ((i : Int) + 1)] := by rw [e9]; rfl
      rw [this]
      simp (disch := first | omega | decide) only [mapM_nil, mapM_cons1, List.map_cons, List.map_nil, List.length_cons, List.length_nil, Ev.runs, Ev.run, Ev.evI, Ev.evIs, Ev.ev, Ev.evs, Ev.evo, Ev.evc, Ev.evi, Ev.tstV, Ev.tstI', Ev.asInt, bok, mok, bokS, mokS, upok, Ev.bin, Ev.binI, Ev.cmp, Ev.cmpI, Ev.cmpS, Ev.isNonW, Ev.isiW, Ev.kdOf, vI, vD, vB, vF, setN, putS, setG, setGs, nxO, truth, Ev.sl, Ev.ix, blt, wipeS, W.at, handed, change, setFld, given, fldK, Ev.cellOf, moTy, moC, setIt, setF, srcOk, srcSt, fgtS, Sto.hold, pureOf, belowW, belowC, below, belows, pureI, pureIs, guardP_pos, guardN_pos, Option.map_some, Option.bind_some, Nat.reduceAdd, Nat.reduceSub, Nat.reduceLT, Nat.reduceLeDiff, List.replicate, List.cons_append, List.nil_append, List.getElem?_cons_zero, List.getElem?_cons_succ, List.set_cons_succ, List.set_cons_zero, if_true, if_false, Bool.false_eq_true, Bool.not_true, Bool.not_false, Bool.and_true, Bool.true_and, Bool.or_true, Bool.true_or, reduceCtorEq, eq_self, decide_true, decide_false, decide_not, List.take_succ_cons, List.take_zero, List.length_map, Int.toNat_natCast]
    refine WP.cons (WP.for_ (xs := rngD 0 b.length) (ls := []) (fun j σ S' => S = S' ∧ ∃ y6 y7, σ = SP a b T (.ro (.int (i : Nat))) (.ro (.c (.d (.fl R)))) (.own (.c (.lst (rowD a b (i + 1) (j + 1))))) y6 y7) ?_ rfl ⟨rfl, _, _, rfl⟩ ?_ ?_)
    · simp (disch := first | omega | decide) only [mapM_nil, mapM_cons1, List.map_cons, List.map_nil, List.length_cons, List.length_nil, Ev.runs, Ev.run, Ev.evI, Ev.evIs, Ev.ev, Ev.evs, Ev.evo, Ev.evc, Ev.evi, Ev.tstV, Ev.tstI', Ev.asInt, bok, mok, bokS, mokS, upok, Ev.bin, Ev.binI, Ev.cmp, Ev.cmpI, Ev.cmpS, Ev.isNonW, Ev.isiW, Ev.kdOf, vI, vD, vB, vF, setN, putS, setG, setGs, nxO, truth, Ev.sl, Ev.ix, blt, wipeS, W.at, handed, change, setFld, given, fldK, Ev.cellOf, moTy, moC, setIt, setF, srcOk, srcSt, fgtS, Sto.hold, pureOf, belowW, belowC, below, belows, pureI, pureIs, guardP_pos, guardN_pos, Option.map_some, Option.bind_some, Nat.reduceAdd, Nat.reduceSub, Nat.reduceLT, Nat.reduceLeDiff, List.replicate, List.cons_append, List.nil_append, List.getElem?_cons_zero, List.getElem?_cons_succ, List.set_cons_succ, List.set_cons_zero, if_true, if_false, Bool.false_eq_true, Bool.not_true, Bool.not_false, Bool.and_true, Bool.true_and, Bool.or_true, Bool.true_or, reduceCtorEq, eq_self, decide_true, decide_false, decide_not, List.take_succ_cons, List.take_zero, List.length_map, Int.toNat_natCast, SX.S_len]
    · rintro j x σ _ hx ⟨rfl, y6, y7, rfl⟩
      obtain ⟨hj, rfl⟩ := rngD_get hx
      have ez : (0 : Int) + (j : Int) = (j : Int) := by omega
      rw [ez]
      have h1 : L2.atI R ((j : Int) + 1) = some (.int (pr a b i (j + 1) : Nat)) := by
        rw [← hR, show ((j : Int) + 1) = ((j + 1 : Nat) : Int) by omega]
        exact rowD_at (by omega)
      have h2 : L2.atI R (j : Int) = some (.int (pr a b i j : Nat)) := by rw [← hR]; exact rowD_at (by omega)
      have h3 : L2.atI (rowD a b (i + 1) (j + 1)) (j : Int) = some (.int (pr a b (i + 1) j : Nat)) := rowD_at (by omega)
      have hrl : (rowD a b (i + 1) (j + 1)).length + 1 ≤ 16777216 := by rw [rowD_len]; omega
      refine ⟨SP a b T (.ro (.int (i : Nat))) (.ro (.c (.d (.fl R)))) (.own (.c (.lst (rowD a b (i + 1) (j + 1))))) (.ro (.int (j : Nat))) y7, rfl, ?_⟩
      have hs := pr_ss a b i j
      have hsucc : rowD a b (i + 1) (j + 1 + 1) = rowD a b (i + 1) (j + 1) ++ [.int (pr a b (i + 1) (j + 1) : Nat)] := rowD_succ
      rw [hsucc, hs]
      generalize rowD a b (i + 1) (j + 1) = R2 at h3 hrl
      generalize pr a b i (j + 1) = u at h1
      generalize pr a b (i + 1) j = v at h3
      generalize pr a b i j = w at h2
      refine WP.seq (σ' := SP a b T (.ro (.int (i : Nat))) (.ro (.c (.d (.fl R)))) (.own (.c (.lst R2))) (.ro (.int (j : Nat))) (.ro (.int ((min u v + 1 : Nat) : Int)))) (S' := S) ?_ ?_
      · have : (if (v : Int) < (u : Int) then (v : Int) else (u : Int)) + 1 = ((min u v + 1 : Nat) : Int) := by split <;> omega
        simp (disch := first | omega | decide) only [mapM_nil, mapM_cons1, List.map_cons, List.map_nil, List.length_cons, List.length_nil, Ev.runs, Ev.run, Ev.evI, Ev.evIs, Ev.ev, Ev.evs, Ev.evo, Ev.evc, Ev.evi, Ev.tstV, Ev.tstI', Ev.asInt, bok, mok, bokS, mokS, upok, Ev.bin, Ev.binI, Ev.cmp, Ev.cmpI, Ev.cmpS, Ev.isNonW, Ev.isiW, Ev.kdOf, vI, vD, vB, vF, setN, putS, setG, setGs, nxO, truth, Ev.sl, Ev.ix, blt, wipeS, W.at, handed, change, setFld, given, fldK, Ev.cellOf, moTy, moC, setIt, setF, srcOk, srcSt, fgtS, Sto.hold, pureOf, belowW, belowC, below, belows, pureI, pureIs, guardP_pos, guardN_pos, Option.map_some, Option.bind_some, Nat.reduceAdd, Nat.reduceSub, Nat.reduceLT, Nat.reduceLeDiff, List.replicate, List.cons_append, List.nil_append, List.getElem?_cons_zero, List.getElem?_cons_succ, List.set_cons_succ, List.set_cons_zero, if_true, if_false, Bool.false_eq_true, Bool.not_true, Bool.not_false, Bool.and_true, Bool.true_and, Bool.or_true, Bool.true_or, reduceCtorEq, eq_self, decide_true, decide_false, decide_not, List.take_succ_cons, List.take_zero, List.length_map, Int.toNat_natCast, h1, h3, this]
      refine WP.cons (WP.imp (Q := fun o S' => S' = S ∧ o = .nx (SP a b T (.ro (.int (i : Nat))) (.ro (.c (.d (.fl R)))) (.own (.c (.lst R2))) (.ro (.int (j : Nat))) (.ro (.int (st u v w (eqAt a b i j) : Nat))))) (WP.ite (tstP (same_ch (varO (i := 0) rfl) (varO (i := 3) rfl) (varO (i := 1) rfl) (varO (i := 6) rfl) hi hj ha hb)) (fun he => ?_) fun he => ?_) ?_)
      · rw [he]
        refine WP.seq (σ' := SP a b T (.ro (.int (i : Nat))) (.ro (.c (.d (.fl R)))) (.own (.c (.lst R2))) (.ro (.int (j : Nat))) (.ro (.int (st u v w true : Nat)))) (S' := S) ?_ (WP.nil ⟨rfl, rfl⟩)
        have : (if (w : Int) < ((min u v + 1 : Nat) : Int) then (w : Int) else ((min u v + 1 : Nat) : Int)) = (st u v w true : Nat) := by
          unfold st
          rw [if_pos rfl]
          split <;> omega
        simp (disch := first | omega | decide) only [mapM_nil, mapM_cons1, List.map_cons, List.map_nil, List.length_cons, List.length_nil, Ev.runs, Ev.run, Ev.evI, Ev.evIs, Ev.ev, Ev.evs, Ev.evo, Ev.evc, Ev.evi, Ev.tstV, Ev.tstI', Ev.asInt, bok, mok, bokS, mokS, upok, Ev.bin, Ev.binI, Ev.cmp, Ev.cmpI, Ev.cmpS, Ev.isNonW, Ev.isiW, Ev.kdOf, vI, vD, vB, vF, setN, putS, setG, setGs, nxO, truth, Ev.sl, Ev.ix, blt, wipeS, W.at, handed, change, setFld, given, fldK, Ev.cellOf, moTy, moC, setIt, setF, srcOk, srcSt, fgtS, Sto.hold, pureOf, belowW, belowC, below, belows, pureI, pureIs, guardP_pos, guardN_pos, Option.map_some, Option.bind_some, Nat.reduceAdd, Nat.reduceSub, Nat.reduceLT, Nat.reduceLeDiff, List.replicate, List.cons_append, List.nil_append, List.getElem?_cons_zero, List.getElem?_cons_succ, List.set_cons_succ, List.set_cons_zero, if_true, if_false, Bool.false_eq_true, Bool.not_true, Bool.not_false, Bool.and_true, Bool.true_and, Bool.or_true, Bool.true_or, reduceCtorEq, eq_self, decide_true, decide_false, decide_not, List.take_succ_cons, List.take_zero, List.length_map, Int.toNat_natCast, h2, this]
      · rw [he]
        exact WP.nil ⟨rfl, rfl⟩
      · rintro o S' ⟨rfl, rfl⟩
        refine WP.seq (σ' := SP a b T (.ro (.int (i : Nat))) (.ro (.c (.d (.fl R)))) (.own (.c (.lst (R2 ++ [.int (st u v w (eqAt a b i j) : Nat)])))) (.ro (.int (j : Nat))) (.ro (.int (st u v w (eqAt a b i j) : Nat)))) (S' := S') ?_ (WP.nil ⟨rfl, _, _, rfl⟩)
        simp (disch := first | assumption | omega | decide) only [mapM_nil, mapM_cons1, List.map_cons, List.map_nil, List.length_cons, List.length_nil, Ev.runs, Ev.run, Ev.evI, Ev.evIs, Ev.ev, Ev.evs, Ev.evo, Ev.evc, Ev.evi, Ev.tstV, Ev.tstI', Ev.asInt, bok, mok, bokS, mokS, upok, Ev.bin, Ev.binI, Ev.cmp, Ev.cmpI, Ev.cmpS, Ev.isNonW, Ev.isiW, Ev.kdOf, vI, vD, vB, vF, setN, putS, setG, setGs, nxO, truth, Ev.sl, Ev.ix, blt, wipeS, W.at, handed, change, setFld, given, fldK, Ev.cellOf, moTy, moC, setIt, setF, srcOk, srcSt, fgtS, Sto.hold, pureOf, belowW, belowC, below, belows, pureI, pureIs, guardP_pos, guardN_pos, Option.map_some, Option.bind_some, Nat.reduceAdd, Nat.reduceSub, Nat.reduceLT, Nat.reduceLeDiff, List.replicate, List.cons_append, List.nil_append, List.getElem?_cons_zero, List.getElem?_cons_succ, List.set_cons_succ, List.set_cons_zero, if_true, if_false, Bool.false_eq_true, Bool.not_true, Bool.not_false, Bool.and_true, Bool.true_and, Bool.or_true, Bool.true_or, reduceCtorEq, eq_self, decide_true, decide_false, decide_not, List.take_succ_cons, List.take_zero, List.length_map, Int.toNat_natCast]
    · rintro σ _ ⟨rfl, y6, y7, rfl⟩
      change WP (runs Gm0 _ (SP a b T (.ro (.int (i : Nat))) (.ro (.c (.d (.fl R)))) (.own (.c (.lst (rowD a b (i + 1) ((rngD 0 b.length).length + 1))))) y6 y7) S) _
      rw [rngD_length]
      refine WP.seq (σ' := SP a b T (.ro (.int (i : Nat))) (.ro (.c (.d (.fl R)))) (.ro (.c (.d (.fl (rowD a b (i + 1) (b.length + 1)))))) y6 y7) (S' := S) (by simp only [mapM_nil, mapM_cons1, List.map_cons, List.map_nil, List.length_cons, List.length_nil, Ev.runs, Ev.run, Ev.evI, Ev.evIs, Ev.ev, Ev.evs, Ev.evo, Ev.evc, Ev.evi, Ev.tstV, Ev.tstI', Ev.asInt, bok, mok, bokS, mokS, upok, Ev.bin, Ev.binI, Ev.cmp, Ev.cmpI, Ev.cmpS, Ev.isNonW, Ev.isiW, Ev.kdOf, vI, vD, vB, vF, setN, putS, setG, setGs, nxO, truth, Ev.sl, Ev.ix, blt, wipeS, W.at, handed, change, setFld, given, fldK, Ev.cellOf, moTy, moC, setIt, setF, srcOk, srcSt, fgtS, Sto.hold, pureOf, belowW, belowC, below, belows, pureI, pureIs, guardP_pos, guardN_pos, Option.map_some, Option.bind_some, Nat.reduceAdd, Nat.reduceSub, Nat.reduceLT, Nat.reduceLeDiff, List.replicate, List.cons_append, List.nil_append, List.getElem?_cons_zero, List.getElem?_cons_succ, List.set_cons_succ, List.set_cons_zero, if_true, if_false, Bool.false_eq_true, Bool.not_true, Bool.not_false, Bool.and_true, Bool.true_and, Bool.or_true, Bool.true_or, reduceCtorEq, eq_self, decide_true, decide_false, decide_not, List.take_succ_cons, List.take_zero, List.length_map, Int.toNat_natCast]) ?_
      refine WP.seq (σ' := SP a b (T ++ [.fl (rowD a b (i + 1) (b.length + 1))]) (.ro (.int (i : Nat))) (.ro (.c (.d (.fl R)))) (.ro (.c (.d (.fl (rowD a b (i + 1) (b.length + 1)))))) y6 y7) (S' := S) (by simp (disch := first | assumption | omega | decide) only [mapM_nil, mapM_cons1, List.map_cons, List.map_nil, List.length_cons, List.length_nil, Ev.runs, Ev.run, Ev.evI, Ev.evIs, Ev.ev, Ev.evs, Ev.evo, Ev.evc, Ev.evi, Ev.tstV, Ev.tstI', Ev.asInt, bok, mok, bokS, mokS, upok, Ev.bin, Ev.binI, Ev.cmp, Ev.cmpI, Ev.cmpS, Ev.isNonW, Ev.isiW, Ev.kdOf, vI, vD, vB, vF, setN, putS, setG, setGs, nxO, truth, Ev.sl, Ev.ix, blt, wipeS, W.at, handed, change, setFld, given, fldK, Ev.cellOf, moTy, moC, setIt, setF, srcOk, srcSt, fgtS, Sto.hold, pureOf, belowW, belowC, below, belows, pureI, pureIs, guardP_pos, guardN_pos, Option.map_some, Option.bind_some, Nat.reduceAdd, Nat.reduceSub, Nat.reduceLT, Nat.reduceLeDiff, List.replicate, List.cons_append, List.nil_append, List.getElem?_cons_zero, List.getElem?_cons_succ, List.set_cons_succ, List.set_cons_zero, if_true, if_false, Bool.false_eq_true, Bool.not_true, Bool.not_false, Bool.and_true, Bool.true_and, Bool.or_true, Bool.true_or, reduceCtorEq, eq_self, decide_true, decide_false, decide_not, List.take_succ_cons, List.take_zero, List.length_map, Int.toNat_natCast]) (WP.nil ⟨rfl, .ro (.int (i : Nat)), .ro (.c (.d (.fl R))), .ro (.c (.d (.fl (rowD a b (i + 1) (b.length + 1))))), y6, y7, by rw [← hT, ← tabD_succ]⟩)
  · rintro σ _ ⟨rfl, y3, y4, y5, y6, y7, rfl⟩
    change WP (runs Gm0 _ (SP a b (tabD a b ((rngD 0 a.length).length + 1)) y3 y4 y5 y6 y7) S) _
    rw [rngD_length]
    exact WP.ret (σ' := _) (w := .c (.lst (tabD a b (a.length + 1)))) (S' := S) (by simp only [mapM_nil, mapM_cons1, List.map_cons, List.map_nil, List.length_cons, List.length_nil, Ev.runs, Ev.run, Ev.evI, Ev.evIs, Ev.ev, Ev.evs, Ev.evo, Ev.evc, Ev.evi, Ev.tstV, Ev.tstI', Ev.asInt, bok, mok, bokS, mokS, upok, Ev.bin, Ev.binI, Ev.cmp, Ev.cmpI, Ev.cmpS, Ev.isNonW, Ev.isiW, Ev.kdOf, vI, vD, vB, vF, setN, putS, setG, setGs, nxO, truth, Ev.sl, Ev.ix, blt, wipeS, W.at, handed, change, setFld, given, fldK, Ev.cellOf, moTy, moC, setIt, setF, srcOk, srcSt, fgtS, Sto.hold, pureOf, belowW, belowC, below, belows, pureI, pureIs, guardP_pos, guardN_pos, Option.map_some, Option.bind_some, Nat.reduceAdd, Nat.reduceSub, Nat.reduceLT, Nat.reduceLeDiff, List.replicate, List.cons_append, List.nil_append, List.getElem?_cons_zero, List.getElem?_cons_succ, List.set_cons_succ, List.set_cons_zero, if_true, if_false, Bool.false_eq_true, Bool.not_true, Bool.not_false, Bool.and_true, Bool.true_and, Bool.or_true, Bool.true_or, reduceCtorEq, eq_self, decide_true, decide_false, decide_not, List.take_succ_cons, List.take_zero, List.length_map, Int.toNat_natCast]; rfl) ⟨rfl, rfl⟩
end L72
namespace L72
open PySem PySem.Spec
open PyProof.Rows hiding St
open L2 Ev PP
def enc : Stp → D
  | .keep i j => .tup [.str "keep", .int (i : Nat), .int (j : Nat)]
  | .strike i => .tup [.str "strike", .int (i : Nat)]
  | .put j => .tup [.str "put", .int (j : Nat)]
/-- the walk back, as it goes -/
inductive Bk (a b : List Nat) : Nat → Nat → List Stp → Prop where
  | nil : Bk a b a.length b.length []
  | go {i j : Nat} {l : List Stp} : Bk a b i j l → (0 < i ∨ 0 < j) → Bk a b (one a b i j).2.1 (one a b i j).2.2 ((one a b i j).1 :: l)
theorem Bk.way {a b : List Nat} {i j : Nat} {l : List Stp} (h : Bk a b i j l) : i ≤ a.length ∧ j ≤ b.length ∧ ∃ k, Way a b a.length b.length i j l k ∧ k + pr a b i j = pr a b a.length b.length := by
  induction h with
  | nil => exact ⟨Nat.le_refl _, Nat.le_refl _, 0, .nil, by omega⟩
  | go h hp ih =>
    obtain ⟨h1, h2, k, w, hk⟩ := ih
    obtain ⟨k', w', hk', q1, q2, q3⟩ := way_one h1 h2 hp w hk
    exact ⟨by omega, by omega, k', w', hk'⟩
theorem Bk.diag {a : List Nat} {i j : Nat} {l : List Stp} (h : Bk a a i j l) : i = j ∧ i ≤ a.length ∧ l = (List.range' i (a.length - i)).map fun k => Stp.keep k k := by
  induction h with
  | nil => simp
  | @go i j l h hp ih =>
    obtain ⟨rfl, h2, rfl⟩ := ih
    have hi : 0 < i := by omega
    rw [one_diag hi]
    refine ⟨rfl, by simp only; omega, ?_⟩
    simp only
    rw [show a.length - (i - 1) = (a.length - i) + 1 by omega, List.range'_succ, show i - 1 + 1 = i by omega]
    rfl
abbrev SS (a b : List Nat) (i j : Nat) (f : List D) (y6 : Sl) : List Sl := [.ro (.str (SX.S a)), .ro (.str (SX.S b)), .own (.c (.lst (tabD a b (a.length + 1)))), .ro (.int (i : Nat)), .ro (.int (j : Nat)), .own (.c (.lst f)), y6]
def mS (σ : List Sl) : Nat := match σ[3]?, σ[4]? with
  | some (Sl.ro (W.c (C.d (D.int i)))), some (Sl.ro (W.c (C.d (D.int j)))) => i.toNat + j.toNat
  | _, _ => 0
theorem mS_SS {a b : List Nat} {i j : Nat} {f : List D} {y6 : Sl} : mS (SS a b i j f y6) = i + j := by
  show ((i : Nat) : Int).toNat + ((j : Nat) : Int).toNat = i + j
  omega
section
variable {S : Sto} {a b : List Nat}
theorem subN {i : Nat} {σ : List Sl} {n : Nat} (h : σ[n]? = some (.ro (.int ((i + 1 : Nat) : Int)))) : ev Gm1 S (.bin .Sub (.var n) (.int 1)) σ = some (.ok (.int (i : Nat), .ro)) := by
  have e : ((i + 1 : Nat) : Int) - 1 = (i : Nat) := by omega
  unfold Ev.ev
  rw [varO h]
  simp (disch := first | omega | decide) only [mapM_nil, mapM_cons1, List.map_cons, List.map_nil, List.length_cons, List.length_nil, Ev.runs, Ev.run, Ev.evI, Ev.evIs, Ev.ev, Ev.evs, Ev.evo, Ev.evc, Ev.evi, Ev.tstV, Ev.tstI', Ev.asInt, bok, mok, bokS, mokS, upok, Ev.bin, Ev.binI, Ev.cmp, Ev.cmpI, Ev.cmpS, Ev.isNonW, Ev.isiW, Ev.kdOf, vI, vD, vB, vF, setN, putS, setG, setGs, nxO, truth, Ev.sl, Ev.ix, blt, wipeS, W.at, handed, change, setFld, given, fldK, Ev.cellOf, moTy, moC, setIt, setF, srcOk, srcSt, fgtS, Sto.hold, pureOf, belowW, belowC, below, belows, pureI, pureIs, guardP_pos, guardN_pos, Option.map_some, Option.bind_some, Nat.reduceAdd, Nat.reduceSub, Nat.reduceLT, Nat.reduceLeDiff, List.replicate, List.cons_append, List.nil_append, List.getElem?_cons_zero, List.getElem?_cons_succ, List.set_cons_succ, List.set_cons_zero, if_true, if_false, Bool.false_eq_true, Bool.not_true, Bool.not_false, Bool.and_true, Bool.true_and, Bool.or_true, Bool.true_or, reduceCtorEq, eq_self, decide_true, decide_false, decide_not, List.take_succ_cons, List.take_zero, List.length_map, Int.toNat_natCast, e]
theorem tab_ix {σ : List Sl} {e1 e2 : E} {i j : Nat} {k1 k2 : Kd} (hv : ev Gm1 S (.var 2) σ = some (.ok (.c (.lst (tabD a b (a.length + 1))), .at 2))) (h1 : ev Gm1 S e1 σ = some (.ok (.int (i : Nat), k1))) (h2 : ev Gm1 S e2 σ = some (.ok (.int (j : Nat), k2))) (hi : i ≤ a.length) (hj : j ≤ b.length) : ev Gm1 S (.ix (.ix (.var 2) e1) e2) σ = some (.ok (.int (pr a b i j : Nat), .ro)) :=
  ixOf (ixOf hv h1 (atL (tabD_at (by omega)))) h2 (atL (rowD_at (by omega)))
theorem gt0 {σ : List Sl} {n i : Nat} (h : σ[n]? = some (.ro (.int (i : Nat)))) : ev Gm1 S (.cmp .Gt (.var n) (.int 0)) σ = some (.ok (.bl (decide (0 < i)), .ro)) := by
  refine cmpOf (x := (.int (i : Nat), .ro)) (y := (.int 0, .ro)) (varO h) (by unfold Ev.ev; rfl) ?_
  have : decide ((0 : Int) < (i : Nat)) = decide (0 < i) := by simp
  rw [← this]
  rfl
theorem eqI {σ : List Sl} {e1 e2 : E} {x y : Nat} {k1 k2 : Kd} (h1 : ev Gm1 S e1 σ = some (.ok (.int (x : Nat), k1))) (h2 : ev Gm1 S e2 σ = some (.ok (.int (y : Nat), k2))) : ev Gm1 S (.cmp .Eq e1 e2) σ = some (.ok (.bl (decide (x = y)), .ro)) := by
  refine cmpOf h1 h2 ?_
  have : decide ((x : Int) = (y : Nat)) = decide (x = y) := by simp; omega
  rw [← this]
  rfl
theorem step_run {i j : Nat} {f : List D} {y6 : Sl} (ha : a.length ≤ 1000) (hb : b.length ≤ 1000) (hi : i ≤ a.length) (hj : j ≤ b.length) (hp : 0 < i ∨ 0 < j) (hf : f.length ≤ 10000) :
    WP (runs Gm1 (.cons (.asg (.nm 6) (.p (.ix (.ix (.var 2) (.var 3)) (.var 4))))
  (.cons (.ite (.p (.and (.cmp .Gt (.var 3) (.int 0)) (.and (.cmp .Gt (.var 4) (.int 0)) (.and (.cmp .Eq (.ix (.var 0) (.bin .Sub (.var 3) (.int 1))) (.ix (.var 1) (.bin .Sub (.var 4) (.int 1)))) (.cmp .Eq (.ix (.ix (.var 2) (.bin .Sub (.var 3) (.int 1))) (.bin .Sub (.var 4) (.int 1))) (.var 6))))))
   (.cons (.aug 3 .Sub (.int 1))
   (.cons (.aug 4 .Sub (.int 1))
   (.cons (.mut .append (.var 5) (.cons (.p (.tup (.cons (.str "keep") (.cons (.var 3) (.cons (.var 4) .nil))))) .nil))
   .nil)))
   (.cons (.ite (.p (.and (.cmp .Gt (.var 3) (.int 0)) (.cmp .Eq (.bin .Add (.ix (.ix (.var 2) (.bin .Sub (.var 3) (.int 1))) (.var 4)) (.int 1)) (.var 6))))
    (.cons (.aug 3 .Sub (.int 1))
    (.cons (.mut .append (.var 5) (.cons (.p (.tup (.cons (.str "strike") (.cons (.var 3) .nil)))) .nil))
    .nil))
    (.cons (.aug 4 .Sub (.int 1))
    (.cons (.mut .append (.var 5) (.cons (.p (.tup (.cons (.str "put") (.cons (.var 4) .nil)))) .nil))
    .nil)))
   .nil))
  .nil)) (SS a b i j f y6) S) fun o S' => S' = S ∧ ∃ y6, o = .nx (SS a b (one a b i j).2.1 (one a b i j).2.2 (f ++ [enc (one a b i j).1]) y6) := by
  have v2 : ∀ y6, ev Gm1 S (.var 2) (SS a b i j f y6) = some (.ok (.c (.lst (tabD a b (a.length + 1))), .at 2)) := fun y6 => by unfold Ev.ev; rfl
  refine WP.seq (asgD (i := 6) (tab_ix (v2 y6) (varO (i := 3) rfl) (varO (i := 4) rfl) hi hj) (by simp)) ?_
  change WP (runs Gm1 _ (SS a b i j f (.ro (.int (pr a b i j : Nat)))) S) _
  have v2 := v2 (.ro (.int (pr a b i j : Nat)))
  generalize hh : pr a b i j = here at v2
  have v6 : ev Gm1 S (.var 6) (SS a b i j f (.ro (.int (here : Nat)))) = some (.ok (.int (here : Nat), .ro)) := varO rfl
  have g3 := gt0 (S := S) (n := 3) (i := i) (σ := SS a b i j f (.ro (.int (here : Nat)))) rfl
  have g4 := gt0 (S := S) (n := 4) (i := j) (σ := SS a b i j f (.ro (.int (here : Nat)))) rfl
  have c1 : ev Gm1 S (.and (.cmp .Gt (.var 3) (.int 0)) (.and (.cmp .Gt (.var 4) (.int 0)) (.and (.cmp .Eq (.ix (.var 0) (.bin .Sub (.var 3) (.int 1))) (.ix (.var 1) (.bin .Sub (.var 4) (.int 1)))) (.cmp .Eq (.ix (.ix (.var 2) (.bin .Sub (.var 3) (.int 1))) (.bin .Sub (.var 4) (.int 1))) (.var 6))))) (SS a b i j f (.ro (.int (here : Nat)))) = some (.ok (.bl (decide (0 < i ∧ 0 < j ∧ eqAt a b (i - 1) (j - 1) = true ∧ pr a b (i - 1) (j - 1) = here)), .ro)) := by
    cases i with
    | zero => exact andF g3
    | succ i =>
      cases j with
      | zero =>
        have : decide (0 < i + 1 ∧ 0 < 0 ∧ eqAt a b (i + 1 - 1) (0 - 1) = true ∧ pr a b (i + 1 - 1) (0 - 1) = here) = false := by simp
        rw [this]
        exact andT g3 (andF g4)
      | succ j =>
        have s1 := subN (S := S) (i := i) (n := 3) (σ := SS a b (i + 1) (j + 1) f (.ro (.int (here : Nat)))) rfl
        have s2 := subN (S := S) (i := j) (n := 4) (σ := SS a b (i + 1) (j + 1) f (.ro (.int (here : Nat)))) rfl
        have hsame := same_ch (varO (i := 0) rfl) s1 (varO (i := 1) rfl) s2 (show i < a.length by omega) (show j < b.length by omega) ha hb
        have hpr := eqI (tab_ix v2 s1 s2 (by omega) (by omega)) v6
        have e : decide (0 < i + 1 ∧ 0 < j + 1 ∧ eqAt a b (i + 1 - 1) (j + 1 - 1) = true ∧ pr a b (i + 1 - 1) (j + 1 - 1) = here) = (eqAt a b i j && decide (pr a b i j = here)) := by
          cases hq : eqAt a b i j <;> simp [hq]
        rw [e]
        cases he : eqAt a b i j with
        | false =>
          rw [he] at hsame
          exact andT g3 (andT g4 (andF hsame))
        | true =>
          rw [he] at hsame
          exact andT g3 (andT g4 (andT hsame hpr))
  unfold one
  rw [hh]
  refine WP.cons (WP.ite (tstP c1) (fun h => ?_) fun h => ?_)
  · have h := of_decide_eq_true h
    rw [if_pos h]
    obtain ⟨i, rfl⟩ : ∃ i', i = i' + 1 := ⟨i - 1, by omega⟩
    obtain ⟨j, rfl⟩ : ∃ j', j = j' + 1 := ⟨j - 1, by omega⟩
    have e1 : ((i + 1 : Nat) : Int) - 1 = (i : Nat) := by omega
    have e2 : ((j + 1 : Nat) : Int) - 1 = (j : Nat) := by omega
    refine WP.seq (σ' := SS a b i (j + 1) f (.ro (.int (here : Nat)))) (S' := S) (by simp (disch := first | omega | decide) only [mapM_nil, mapM_cons1, List.map_cons, List.map_nil, List.length_cons, List.length_nil, Ev.runs, Ev.run, Ev.evI, Ev.evIs, Ev.ev, Ev.evs, Ev.evo, Ev.evc, Ev.evi, Ev.tstV, Ev.tstI', Ev.asInt, bok, mok, bokS, mokS, upok, Ev.bin, Ev.binI, Ev.cmp, Ev.cmpI, Ev.cmpS, Ev.isNonW, Ev.isiW, Ev.kdOf, vI, vD, vB, vF, setN, putS, setG, setGs, nxO, truth, Ev.sl, Ev.ix, blt, wipeS, W.at, handed, change, setFld, given, fldK, Ev.cellOf, moTy, moC, setIt, setF, srcOk, srcSt, fgtS, Sto.hold, pureOf, belowW, belowC, below, belows, pureI, pureIs, guardP_pos, guardN_pos, Option.map_some, Option.bind_some, Nat.reduceAdd, Nat.reduceSub, Nat.reduceLT, Nat.reduceLeDiff, List.replicate, List.cons_append, List.nil_append, List.getElem?_cons_zero, List.getElem?_cons_succ, List.set_cons_succ, List.set_cons_zero, if_true, if_false, Bool.false_eq_true, Bool.not_true, Bool.not_false, Bool.and_true, Bool.true_and, Bool.or_true, Bool.true_or, reduceCtorEq, eq_self, decide_true, decide_false, decide_not, List.take_succ_cons, List.take_zero, List.length_map, Int.toNat_natCast, addD, e1]) ?_
    refine WP.seq (σ' := SS a b i j f (.ro (.int (here : Nat)))) (S' := S) (by simp (disch := first | omega | decide) only [mapM_nil, mapM_cons1, List.map_cons, List.map_nil, List.length_cons, List.length_nil, Ev.runs, Ev.run, Ev.evI, Ev.evIs, Ev.ev, Ev.evs, Ev.evo, Ev.evc, Ev.evi, Ev.tstV, Ev.tstI', Ev.asInt, bok, mok, bokS, mokS, upok, Ev.bin, Ev.binI, Ev.cmp, Ev.cmpI, Ev.cmpS, Ev.isNonW, Ev.isiW, Ev.kdOf, vI, vD, vB, vF, setN, putS, setG, setGs, nxO, truth, Ev.sl, Ev.ix, blt, wipeS, W.at, handed, change, setFld, given, fldK, Ev.cellOf, moTy, moC, setIt, setF, srcOk, srcSt, fgtS, Sto.hold, pureOf, belowW, belowC, below, belows, pureI, pureIs, guardP_pos, guardN_pos, Option.map_some, Option.bind_some, Nat.reduceAdd, Nat.reduceSub, Nat.reduceLT, Nat.reduceLeDiff, List.replicate, List.cons_append, List.nil_append, List.getElem?_cons_zero, List.getElem?_cons_succ, List.set_cons_succ, List.set_cons_zero, if_true, if_false, Bool.false_eq_true, Bool.not_true, Bool.not_false, Bool.and_true, Bool.true_and, Bool.or_true, Bool.true_or, reduceCtorEq, eq_self, decide_true, decide_false, decide_not, List.take_succ_cons, List.take_zero, List.length_map, Int.toNat_natCast, addD, e2]) ?_
    refine WP.seq (σ' := SS a b i j (f ++ [enc (.keep i j)]) (.ro (.int (here : Nat)))) (S' := S) (by simp (disch := first | omega | decide) only [mapM_nil, mapM_cons1, List.map_cons, List.map_nil, List.length_cons, List.length_nil, Ev.runs, Ev.run, Ev.evI, Ev.evIs, Ev.ev, Ev.evs, Ev.evo, Ev.evc, Ev.evi, Ev.tstV, Ev.tstI', Ev.asInt, bok, mok, bokS, mokS, upok, Ev.bin, Ev.binI, Ev.cmp, Ev.cmpI, Ev.cmpS, Ev.isNonW, Ev.isiW, Ev.kdOf, vI, vD, vB, vF, setN, putS, setG, setGs, nxO, truth, Ev.sl, Ev.ix, blt, wipeS, W.at, handed, change, setFld, given, fldK, Ev.cellOf, moTy, moC, setIt, setF, srcOk, srcSt, fgtS, Sto.hold, pureOf, belowW, belowC, below, belows, pureI, pureIs, guardP_pos, guardN_pos, Option.map_some, Option.bind_some, Nat.reduceAdd, Nat.reduceSub, Nat.reduceLT, Nat.reduceLeDiff, List.replicate, List.cons_append, List.nil_append, List.getElem?_cons_zero, List.getElem?_cons_succ, List.set_cons_succ, List.set_cons_zero, if_true, if_false, Bool.false_eq_true, Bool.not_true, Bool.not_false, Bool.and_true, Bool.true_and, Bool.or_true, Bool.true_or, reduceCtorEq, eq_self, decide_true, decide_false, decide_not, List.take_succ_cons, List.take_zero, List.length_map, Int.toNat_natCast]; rfl) (WP.nil (WP.nil ⟨rfl, _, rfl⟩))
  · have h := of_decide_eq_false h
    rw [if_neg h]
    have c2 : ev Gm1 S (.and (.cmp .Gt (.var 3) (.int 0)) (.cmp .Eq (.bin .Add (.ix (.ix (.var 2) (.bin .Sub (.var 3) (.int 1))) (.var 4)) (.int 1)) (.var 6))) (SS a b i j f (.ro (.int (here : Nat)))) = some (.ok (.bl (decide (0 < i ∧ pr a b (i - 1) j + 1 = here)), .ro)) := by
      cases i with
      | zero => exact andF g3
      | succ i =>
        have s1 := subN (S := S) (i := i) (n := 3) (σ := SS a b (i + 1) j f (.ro (.int (here : Nat)))) rfl
        have t := tab_ix v2 s1 (varO (i := 4) (w := .int (j : Nat)) rfl) (by omega) hj
        have t2 : ev Gm1 S (.bin .Add (.ix (.ix (.var 2) (.bin .Sub (.var 3) (.int 1))) (.var 4)) (.int 1)) (SS a b (i + 1) j f (.ro (.int (here : Nat)))) = some (.ok (.int ((pr a b i j + 1 : Nat) : Int), .ro)) := by
          unfold Ev.ev
          rw [t]
          simp (disch := first | omega | decide) only [mapM_nil, mapM_cons1, List.map_cons, List.map_nil, List.length_cons, List.length_nil, Ev.runs, Ev.run, Ev.evI, Ev.evIs, Ev.ev, Ev.evs, Ev.evo, Ev.evc, Ev.evi, Ev.tstV, Ev.tstI', Ev.asInt, bok, mok, bokS, mokS, upok, Ev.bin, Ev.binI, Ev.cmp, Ev.cmpI, Ev.cmpS, Ev.isNonW, Ev.isiW, Ev.kdOf, vI, vD, vB, vF, setN, putS, setG, setGs, nxO, truth, Ev.sl, Ev.ix, blt, wipeS, W.at, handed, change, setFld, given, fldK, Ev.cellOf, moTy, moC, setIt, setF, srcOk, srcSt, fgtS, Sto.hold, pureOf, belowW, belowC, below, belows, pureI, pureIs, guardP_pos, guardN_pos, Option.map_some, Option.bind_some, Nat.reduceAdd, Nat.reduceSub, Nat.reduceLT, Nat.reduceLeDiff, List.replicate, List.cons_append, List.nil_append, List.getElem?_cons_zero, List.getElem?_cons_succ, List.set_cons_succ, List.set_cons_zero, if_true, if_false, Bool.false_eq_true, Bool.not_true, Bool.not_false, Bool.and_true, Bool.true_and, Bool.or_true, Bool.true_or, reduceCtorEq, eq_self, decide_true, decide_false, decide_not, List.take_succ_cons, List.take_zero, List.length_map, Int.toNat_natCast, Int.natCast_add]
          rfl
        have e : decide (0 < i + 1 ∧ pr a b (i + 1 - 1) j + 1 = here) = decide (pr a b i j + 1 = here) := by simp
        rw [e]
        exact andT g3 (eqI t2 v6)
    refine WP.cons (WP.ite (tstP c2) (fun h2 => ?_) fun h2 => ?_)
    · have h2 := of_decide_eq_true h2
      rw [if_pos h2]
      obtain ⟨i, rfl⟩ : ∃ i', i = i' + 1 := ⟨i - 1, by omega⟩
      have e1 : ((i + 1 : Nat) : Int) - 1 = (i : Nat) := by omega
      refine WP.seq (σ' := SS a b i j f (.ro (.int (here : Nat)))) (S' := S) (by simp (disch := first | omega | decide) only [mapM_nil, mapM_cons1, List.map_cons, List.map_nil, List.length_cons, List.length_nil, Ev.runs, Ev.run, Ev.evI, Ev.evIs, Ev.ev, Ev.evs, Ev.evo, Ev.evc, Ev.evi, Ev.tstV, Ev.tstI', Ev.asInt, bok, mok, bokS, mokS, upok, Ev.bin, Ev.binI, Ev.cmp, Ev.cmpI, Ev.cmpS, Ev.isNonW, Ev.isiW, Ev.kdOf, vI, vD, vB, vF, setN, putS, setG, setGs, nxO, truth, Ev.sl, Ev.ix, blt, wipeS, W.at, handed, change, setFld, given, fldK, Ev.cellOf, moTy, moC, setIt, setF, srcOk, srcSt, fgtS, Sto.hold, pureOf, belowW, belowC, below, belows, pureI, pureIs, guardP_pos, guardN_pos, Option.map_some, Option.bind_some, Nat.reduceAdd, Nat.reduceSub, Nat.reduceLT, Nat.reduceLeDiff, List.replicate, List.cons_append, List.nil_append, List.getElem?_cons_zero, List.getElem?_cons_succ, List.set_cons_succ, List.set_cons_zero, if_true, if_false, Bool.false_eq_true, Bool.not_true, Bool.not_false, Bool.and_true, Bool.true_and, Bool.or_true, Bool.true_or, reduceCtorEq, eq_self, decide_true, decide_false, decide_not, List.take_succ_cons, List.take_zero, List.length_map, Int.toNat_natCast, addD, e1]) ?_
      refine WP.seq (σ' := SS a b i j (f ++ [enc (.strike i)]) (.ro (.int (here : Nat)))) (S' := S) (by simp (disch := first | omega | decide) only [mapM_nil, mapM_cons1, List.map_cons, List.map_nil, List.length_cons, List.length_nil, Ev.runs, Ev.run, Ev.evI, Ev.evIs, Ev.ev, Ev.evs, Ev.evo, Ev.evc, Ev.evi, Ev.tstV, Ev.tstI', Ev.asInt, bok, mok, bokS, mokS, upok, Ev.bin, Ev.binI, Ev.cmp, Ev.cmpI, Ev.cmpS, Ev.isNonW, Ev.isiW, Ev.kdOf, vI, vD, vB, vF, setN, putS, setG, setGs, nxO, truth, Ev.sl, Ev.ix, blt, wipeS, W.at, handed, change, setFld, given, fldK, Ev.cellOf, moTy, moC, setIt, setF, srcOk, srcSt, fgtS, Sto.hold, pureOf, belowW, belowC, below, belows, pureI, pureIs, guardP_pos, guardN_pos, Option.map_some, Option.bind_some, Nat.reduceAdd, Nat.reduceSub, Nat.reduceLT, Nat.reduceLeDiff, List.replicate, List.cons_append, List.nil_append, List.getElem?_cons_zero, List.getElem?_cons_succ, List.set_cons_succ, List.set_cons_zero, if_true, if_false, Bool.false_eq_true, Bool.not_true, Bool.not_false, Bool.and_true, Bool.true_and, Bool.or_true, Bool.true_or, reduceCtorEq, eq_self, decide_true, decide_false, decide_not, List.take_succ_cons, List.take_zero, List.length_map, Int.toNat_natCast]; rfl) (WP.nil (WP.nil (WP.nil ⟨rfl, _, rfl⟩)))
    · have h2 := of_decide_eq_false h2
      rw [if_neg h2]
      obtain ⟨q1, q2⟩ := one_put hp (by rw [hh]; exact h) (by rw [hh]; exact h2)
      obtain ⟨j, rfl⟩ : ∃ j', j = j' + 1 := ⟨j - 1, by omega⟩
      have e2 : ((j + 1 : Nat) : Int) - 1 = (j : Nat) := by omega
      refine WP.seq (σ' := SS a b i j f (.ro (.int (here : Nat)))) (S' := S) (by simp (disch := first | omega | decide) only [mapM_nil, mapM_cons1, List.map_cons, List.map_nil, List.length_cons, List.length_nil, Ev.runs, Ev.run, Ev.evI, Ev.evIs, Ev.ev, Ev.evs, Ev.evo, Ev.evc, Ev.evi, Ev.tstV, Ev.tstI', Ev.asInt, bok, mok, bokS, mokS, upok, Ev.bin, Ev.binI, Ev.cmp, Ev.cmpI, Ev.cmpS, Ev.isNonW, Ev.isiW, Ev.kdOf, vI, vD, vB, vF, setN, putS, setG, setGs, nxO, truth, Ev.sl, Ev.ix, blt, wipeS, W.at, handed, change, setFld, given, fldK, Ev.cellOf, moTy, moC, setIt, setF, srcOk, srcSt, fgtS, Sto.hold, pureOf, belowW, belowC, below, belows, pureI, pureIs, guardP_pos, guardN_pos, Option.map_some, Option.bind_some, Nat.reduceAdd, Nat.reduceSub, Nat.reduceLT, Nat.reduceLeDiff, List.replicate, List.cons_append, List.nil_append, List.getElem?_cons_zero, List.getElem?_cons_succ, List.set_cons_succ, List.set_cons_zero, if_true, if_false, Bool.false_eq_true, Bool.not_true, Bool.not_false, Bool.and_true, Bool.true_and, Bool.or_true, Bool.true_or, reduceCtorEq, eq_self, decide_true, decide_false, decide_not, List.take_succ_cons, List.take_zero, List.length_map, Int.toNat_natCast, addD, e2]) ?_
      refine WP.seq (σ' := SS a b i j (f ++ [enc (.put j)]) (.ro (.int (here : Nat)))) (S' := S) (by simp (disch := first | omega | decide) only [mapM_nil, mapM_cons1, List.map_cons, List.map_nil, List.length_cons, List.length_nil, Ev.runs, Ev.run, Ev.evI, Ev.evIs, Ev.ev, Ev.evs, Ev.evo, Ev.evc, Ev.evi, Ev.tstV, Ev.tstI', Ev.asInt, bok, mok, bokS, mokS, upok, Ev.bin, Ev.binI, Ev.cmp, Ev.cmpI, Ev.cmpS, Ev.isNonW, Ev.isiW, Ev.kdOf, vI, vD, vB, vF, setN, putS, setG, setGs, nxO, truth, Ev.sl, Ev.ix, blt, wipeS, W.at, handed, change, setFld, given, fldK, Ev.cellOf, moTy, moC, setIt, setF, srcOk, srcSt, fgtS, Sto.hold, pureOf, belowW, belowC, below, belows, pureI, pureIs, guardP_pos, guardN_pos, Option.map_some, Option.bind_some, Nat.reduceAdd, Nat.reduceSub, Nat.reduceLT, Nat.reduceLeDiff, List.replicate, List.cons_append, List.nil_append, List.getElem?_cons_zero, List.getElem?_cons_succ, List.set_cons_succ, List.set_cons_zero, if_true, if_false, Bool.false_eq_true, Bool.not_true, Bool.not_false, Bool.and_true, Bool.true_and, Bool.or_true, Bool.true_or, reduceCtorEq, eq_self, decide_true, decide_false, decide_not, List.take_succ_cons, List.take_zero, List.length_map, Int.toNat_natCast]; rfl) (WP.nil (WP.nil (WP.nil ⟨rfl, _, rfl⟩)))
theorem Bk.len {i j : Nat} {l : List Stp} (h : Bk a b i j l) : l.length + i + j ≤ a.length + b.length := by
  induction h with
  | nil => simp
  | go h hp ih =>
    obtain ⟨h1, h2, k, w, hk⟩ := h.way
    obtain ⟨k', w', hk', q1, q2, q3⟩ := way_one h1 h2 hp w hk
    simp only [List.length_cons]
    omega
theorem run_steps (ha : a.length ≤ 1000) (hb : b.length ≤ 1000) : ∃ l, Bk a b 0 0 l ∧ fnG Gm1 2 7 b_steps S [.str (SX.S a), .str (SX.S b)] = some (.ok (.c (.lst (l.map enc))) S) := by
  suffices h : WP (fnRun Gm1 7 b_steps S [.str (SX.S a), .str (SX.S b)]) fun w S' => ∃ l, Bk a b 0 0 l ∧ w = .c (.lst (l.map enc)) ∧ S' = S by
    obtain ⟨w, S', e, l, h1, rfl, rfl⟩ := h
    exact ⟨l, h1, fnG_ok rfl e⟩
  refine WP.fn ?_
  change WP (runs Gm1 _ [Sl.ro (.str (SX.S a)), .ro (.str (SX.S b)), .out, .out, .out, .out, .out] S) _
  unfold b_steps
  refine WP.seq (σ' := [Sl.ro (.str (SX.S a)), .ro (.str (SX.S b)), .own (.c (.lst (tabD a b (a.length + 1)))), .out, .out, .out, .out]) (S' := S) ?_ ?_
  · have e := callOf (Γ := Gm1) (S := S) (σ := [Sl.ro (.str (SX.S a)), .ro (.str (SX.S b)), .out, .out, .out, .out, .out]) lk1_prices (esC (varO (i := 0) rfl) (esC (varO (i := 1) rfl) esN)) (run_prices (S := S.hold) ha hb) (by
      have : ∀ l : List Nat, belows S.cs.length (l.map fun i => D.fl (rowD a b i (b.length + 1))) = true := by
        intro l
        induction l with
        | nil => rfl
        | cons i l ih =>
          have h2 : ∀ m : List Nat, belows S.cs.length (m.map fun j => D.int (pr a b i j : Nat)) = true := by
            intro m
            induction m with
            | nil => rfl
            | cons _ m ih2 => simpa [belows, below] using ih2
          have h3 : belows S.cs.length (rowD a b i (b.length + 1)) = true := h2 _
          simp only [List.map_cons, belows, below, h3, ih, Bool.and_self]
      exact this _)
    unfold Ev.run Ev.evI
    rw [e]
    rfl
  refine WP.seq (σ' := [Sl.ro (.str (SX.S a)), .ro (.str (SX.S b)), .own (.c (.lst (tabD a b (a.length + 1)))), .ro (.int (a.length : Nat)), .out, .out, .out]) (S' := S) (by simp (disch := first | omega | decide) only [mapM_nil, mapM_cons1, List.map_cons, List.map_nil, List.length_cons, List.length_nil, Ev.runs, Ev.run, Ev.evI, Ev.evIs, Ev.ev, Ev.evs, Ev.evo, Ev.evc, Ev.evi, Ev.tstV, Ev.tstI', Ev.asInt, bok, mok, bokS, mokS, upok, Ev.bin, Ev.binI, Ev.cmp, Ev.cmpI, Ev.cmpS, Ev.isNonW, Ev.isiW, Ev.kdOf, vI, vD, vB, vF, setN, putS, setG, setGs, nxO, truth, Ev.sl, Ev.ix, blt, wipeS, W.at, handed, change, setFld, given, fldK, Ev.cellOf, moTy, moC, setIt, setF, srcOk, srcSt, fgtS, Sto.hold, pureOf, belowW, belowC, below, belows, pureI, pureIs, guardP_pos, guardN_pos, Option.map_some, Option.bind_some, Nat.reduceAdd, Nat.reduceSub, Nat.reduceLT, Nat.reduceLeDiff, List.replicate, List.cons_append, List.nil_append, List.getElem?_cons_zero, List.getElem?_cons_succ, List.set_cons_succ, List.set_cons_zero, if_true, if_false, Bool.false_eq_true, Bool.not_true, Bool.not_false, Bool.and_true, Bool.true_and, Bool.or_true, Bool.true_or, reduceCtorEq, eq_self, decide_true, decide_false, decide_not, List.take_succ_cons, List.take_zero, List.length_map, Int.toNat_natCast, SX.S_len]) ?_
  refine WP.seq (σ' := [Sl.ro (.str (SX.S a)), .ro (.str (SX.S b)), .own (.c (.lst (tabD a b (a.length + 1)))), .ro (.int (a.length : Nat)), .ro (.int (b.length : Nat)), .out, .out]) (S' := S) (by simp (disch := first | omega | decide) only [mapM_nil, mapM_cons1, List.map_cons, List.map_nil, List.length_cons, List.length_nil, Ev.runs, Ev.run, Ev.evI, Ev.evIs, Ev.ev, Ev.evs, Ev.evo, Ev.evc, Ev.evi, Ev.tstV, Ev.tstI', Ev.asInt, bok, mok, bokS, mokS, upok, Ev.bin, Ev.binI, Ev.cmp, Ev.cmpI, Ev.cmpS, Ev.isNonW, Ev.isiW, Ev.kdOf, vI, vD, vB, vF, setN, putS, setG, setGs, nxO, truth, Ev.sl, Ev.ix, blt, wipeS, W.at, handed, change, setFld, given, fldK, Ev.cellOf, moTy, moC, setIt, setF, srcOk, srcSt, fgtS, Sto.hold, pureOf, belowW, belowC, below, belows, pureI, pureIs, guardP_pos, guardN_pos, Option.map_some, Option.bind_some, Nat.reduceAdd, Nat.reduceSub, Nat.reduceLT, Nat.reduceLeDiff, List.replicate, List.cons_append, List.nil_append, List.getElem?_cons_zero, List.getElem?_cons_succ, List.set_cons_succ, List.set_cons_zero, if_true, if_false, Bool.false_eq_true, Bool.not_true, Bool.not_false, Bool.and_true, Bool.true_and, Bool.or_true, Bool.true_or, reduceCtorEq, eq_self, decide_true, decide_false, decide_not, List.take_succ_cons, List.take_zero, List.length_map, Int.toNat_natCast, SX.S_len]) ?_
  refine WP.seq (σ' := SS a b a.length b.length [] .out) (S' := S) (by simp (disch := first | omega | decide) only [mapM_nil, mapM_cons1, List.map_cons, List.map_nil, List.length_cons, List.length_nil, Ev.runs, Ev.run, Ev.evI, Ev.evIs, Ev.ev, Ev.evs, Ev.evo, Ev.evc, Ev.evi, Ev.tstV, Ev.tstI', Ev.asInt, bok, mok, bokS, mokS, upok, Ev.bin, Ev.binI, Ev.cmp, Ev.cmpI, Ev.cmpS, Ev.isNonW, Ev.isiW, Ev.kdOf, vI, vD, vB, vF, setN, putS, setG, setGs, nxO, truth, Ev.sl, Ev.ix, blt, wipeS, W.at, handed, change, setFld, given, fldK, Ev.cellOf, moTy, moC, setIt, setF, srcOk, srcSt, fgtS, Sto.hold, pureOf, belowW, belowC, below, belows, pureI, pureIs, guardP_pos, guardN_pos, Option.map_some, Option.bind_some, Nat.reduceAdd, Nat.reduceSub, Nat.reduceLT, Nat.reduceLeDiff, List.replicate, List.cons_append, List.nil_append, List.getElem?_cons_zero, List.getElem?_cons_succ, List.set_cons_succ, List.set_cons_zero, if_true, if_false, Bool.false_eq_true, Bool.not_true, Bool.not_false, Bool.and_true, Bool.true_and, Bool.or_true, Bool.true_or, reduceCtorEq, eq_self, decide_true, decide_false, decide_not, List.take_succ_cons, List.take_zero, List.length_map, Int.toNat_natCast]) ?_
  refine WP.cons (WP.whil (fun σ S' => S = S' ∧ ∃ i j l y6, Bk a b i j l ∧ σ = SS a b i j (l.map enc).reverse y6) (fun σ _ => mS σ) ⟨rfl, _, _, [], _, .nil, rfl⟩ (by rw [mS_SS]; omega) ?_)
  rintro σ _ ⟨rfl, i, j, l, y6, hB, rfl⟩
  obtain ⟨hi, hj, k, w, hk⟩ := hB.way
  have hlen := hB.len
  have g3 := gt0 (S := S) (n := 3) (i := i) (σ := SS a b i j (l.map enc).reverse y6) rfl
  have g4 := gt0 (S := S) (n := 4) (i := j) (σ := SS a b i j (l.map enc).reverse y6) rfl
  have ht : tstV (ev Gm1 S (.or (.cmp .Gt (.var 3) (.int 0)) (.cmp .Gt (.var 4) (.int 0))) (SS a b i j (l.map enc).reverse y6)) = some (.ok (decide (0 < i ∨ 0 < j))) := by
    by_cases h : 0 < i
    · rw [decide_eq_true h] at g3
      rw [decide_eq_true (Or.inl h), orT g3]
      rfl
    · rw [decide_eq_false h] at g3
      rw [orF g3 g4, show decide (0 < i ∨ 0 < j) = decide (0 < j) by simp [h]]
      rfl
  refine ⟨_, ht, fun h => ?_, fun h => ?_⟩
  · have h := of_decide_eq_false h
    have hi0 : i = 0 := by omega
    have hj0 : j = 0 := by omega
    subst hi0 hj0
    refine WP.ret (retL (xs := l.map enc) ?_) ⟨l, hB, rfl, rfl⟩
    unfold Ev.ev
    have v5 : ev Gm1 S (.var 5) (SS a b 0 0 (l.map enc).reverse y6) = some (.ok (.c (.lst (l.map enc).reverse), .at 5)) := by unfold Ev.ev; rfl
    rw [esC v5 esN, bok]
    simp only [List.map_cons, List.map_nil, W.at, spW, List.reverse_reverse]
    rfl
  · have h := of_decide_eq_true h
    refine WP.imp (step_run ha hb hi hj h (by rw [List.length_reverse, List.length_map]; omega)) ?_
    rintro o S' ⟨rfl, y, rfl⟩
    obtain ⟨k', w', hk', q1, q2, q3⟩ := way_one hi hj h w hk
    refine ⟨⟨rfl, _, _, _, y, .go hB h, ?_⟩, by rw [mS_SS, mS_SS]; exact q3⟩
    rw [List.map_cons, List.reverse_cons]
end
end L72
namespace L72
open PySem PySem.Spec
open PyProof.Rows hiding St
open L2 Ev PP
theorem mixed_drawn : b_law_mixed = b_law_drawn := rfl
theorem run_mixed {Γ : Gam} {S : Sto} (a b : Int) : fnG Γ 2 3 b_law_mixed S [.int a, .int b] = some (.ok (.int (drawn a b)) S) := by
  rw [mixed_drawn]
  exact run_drawn a b
theorem run_cell {S : Sto} {ns : List Int} {k : Nat} (hl : ns.length ≤ 63) : ∃ c : Int, fnG Gm3 2 2 b_law_cell_at S [.c (.lst (ns.map D.int)), .int (k : Nat)] = some (.ok (.int c) S) := by
  suffices h : WP (fnRun Gm3 2 b_law_cell_at S [.c (.lst (ns.map D.int)), .int (k : Nat)]) fun w S' => ∃ c : Int, w = .int c ∧ S' = S by
    obtain ⟨w, S', e, c, rfl, rfl⟩ := h
    exact ⟨c, fnG_ok rfl e⟩
  refine WP.fn ?_
  change WP (runs Gm3 _ [Sl.ro (.c (.lst (ns.map D.int))), .ro (.int (k : Nat))] S) _
  unfold b_law_cell_at
  refine WP.cons (WP.ite (k := decide ((k : Int) < ns.length)) (S' := S) (by simp (disch := first | omega | decide) only [mapM_nil, mapM_cons1, List.map_cons, List.map_nil, List.length_cons, List.length_nil, Ev.runs, Ev.run, Ev.evI, Ev.evIs, Ev.ev, Ev.evs, Ev.evo, Ev.evc, Ev.evi, Ev.tstV, Ev.tstI', Ev.asInt, bok, mok, bokS, mokS, upok, Ev.bin, Ev.binI, Ev.cmp, Ev.cmpI, Ev.cmpS, Ev.isNonW, Ev.isiW, Ev.kdOf, vI, vD, vB, vF, setN, putS, setG, setGs, nxO, truth, Ev.sl, Ev.ix, blt, wipeS, W.at, handed, change, setFld, given, fldK, Ev.cellOf, moTy, moC, setIt, setF, srcOk, srcSt, fgtS, Sto.hold, pureOf, belowW, belowC, below, belows, pureI, pureIs, guardP_pos, guardN_pos, Option.map_some, Option.bind_some, Nat.reduceAdd, Nat.reduceSub, Nat.reduceLT, Nat.reduceLeDiff, List.replicate, List.cons_append, List.nil_append, List.getElem?_cons_zero, List.getElem?_cons_succ, List.set_cons_succ, List.set_cons_zero, if_true, if_false, Bool.false_eq_true, Bool.not_true, Bool.not_false, Bool.and_true, Bool.true_and, Bool.or_true, Bool.true_or, reduceCtorEq, eq_self, decide_true, decide_false, decide_not, List.take_succ_cons, List.take_zero, List.length_map, Int.toNat_natCast]) (fun h => ?_) fun _ => WP.nil ?_)
  · have h := of_decide_eq_true h
    have hk : k < ns.length := by omega
    have hat : L2.atI (ns.map D.int) (k : Int) = some (.int ns[k]) := by
      rw [atI_lt (by simpa using hk)]
      simp
    exact WP.ret (retD (ixOf (varO (i := 0) rfl) (varO (i := 1) rfl) (atL hat))) ⟨_, rfl, rfl⟩
  · exact WP.ret (σ' := [Sl.ro (.c (.lst (ns.map D.int))), .ro (.int (k : Nat))]) (w := .int 0) (S' := S) (by simp only [mapM_nil, mapM_cons1, List.map_cons, List.map_nil, List.length_cons, List.length_nil, Ev.runs, Ev.run, Ev.evI, Ev.evIs, Ev.ev, Ev.evs, Ev.evo, Ev.evc, Ev.evi, Ev.tstV, Ev.tstI', Ev.asInt, bok, mok, bokS, mokS, upok, Ev.bin, Ev.binI, Ev.cmp, Ev.cmpI, Ev.cmpS, Ev.isNonW, Ev.isiW, Ev.kdOf, vI, vD, vB, vF, setN, putS, setG, setGs, nxO, truth, Ev.sl, Ev.ix, blt, wipeS, W.at, handed, change, setFld, given, fldK, Ev.cellOf, moTy, moC, setIt, setF, srcOk, srcSt, fgtS, Sto.hold, pureOf, belowW, belowC, below, belows, pureI, pureIs, guardP_pos, guardN_pos, Option.map_some, Option.bind_some, Nat.reduceAdd, Nat.reduceSub, Nat.reduceLT, Nat.reduceLeDiff, List.replicate, List.cons_append, List.nil_append, List.getElem?_cons_zero, List.getElem?_cons_succ, List.set_cons_succ, List.set_cons_zero, if_true, if_false, Bool.false_eq_true, Bool.not_true, Bool.not_false, Bool.and_true, Bool.true_and, Bool.or_true, Bool.true_or, reduceCtorEq, eq_self, decide_true, decide_false, decide_not, List.take_succ_cons, List.take_zero, List.length_map, Int.toNat_natCast]) ⟨0, rfl, rfl⟩
/-- the walk forward is judged right -/
theorem eq_enc (s : Stp) : okD 2 (enc s) = true := by
  have hk : PyData.strOk ("keep" : Str) = true := by decide +kernel
  have hs : PyData.strOk ("strike" : Str) = true := by decide +kernel
  have hp : PyData.strOk ("put" : Str) = true := by decide +kernel
  cases s <;> simp [enc, okD, okDs, hk, hs, hp]
end L72
namespace L72
open PySem PySem.Spec
open PyProof.Rows hiding St
open L2 Ev PP
theorem ne_head {x y : Str} {xs ys : List D} (hx : okD 2 (.tup (.str x :: xs)) = true) (hy : okD 2 (.tup (.str y :: ys)) = true) (h : (x == y) = false) : eqW (.c (.d (.tup (.str x :: xs)))) (.c (.d (.tup (.str y :: ys)))) = some (.ok false) := by
  rw [eqW_D hx hy (by decide)]
  simp only [toPy, toPys, PyData.eqv, PyData.eqvAll, h, Bool.false_and]
theorem eq_same {d : D} (h : okD 2 d = true) : eqW (.c (.d d)) (.c (.d d)) = some (.ok true) := by
  rw [eqW_D h h (by decide), eqv_toPy]
theorem ks : (("keep" : Str) == "strike") = false := by decide +kernel
theorem kp : (("keep" : Str) == "put") = false := by decide +kernel
theorem sk : (("strike" : Str) == "keep") = false := by decide +kernel
theorem sp' : (("strike" : Str) == "put") = false := by decide +kernel
theorem pk : (("put" : Str) == "keep") = false := by decide +kernel
theorem ps : (("put" : Str) == "strike") = false := by decide +kernel
abbrev GS (a b : List Nat) (l : List Stp) (i j k : Nat) (y6 y7 : Sl) : List Sl := [.ro (.str (SX.S a)), .ro (.str (SX.S b)), .ro (.c (.lst (l.map enc))), .ro (.int (i : Nat)), .ro (.int (j : Nat)), .ro (.int (k : Nat)), y6, y7]
theorem cmpEqT {x : List D} {y : W} {b : Bool} (h : eqW (.c (.d (.tup x))) y = some (.ok b)) : Ev.cmp .Eq (.c (.d (.tup x))) y = some (.ok b) := by
  simp only [Ev.cmp, h]
section
variable {S : Sto} {a b : List Nat}
theorem ltLen {σ : List Sl} {n m x : Nat} {t : List Nat} (h1 : σ[n]? = some (.ro (.int (x : Nat)))) (h2 : σ[m]? = some (.ro (.str (SX.S t)))) (ht : t.length ≤ 1000) : ev Gm6 S (.cmp .Lt (.var n) (.blt .len (.cons (.var m) .nil))) σ = some (.ok (.bl (decide (x < t.length)), .ro)) := by
  refine cmpOf (x := (.int (x : Nat), .ro)) (y := (.int (t.length : Nat), .ro)) (varO h1) ?_ ?_
  · unfold Ev.ev
    rw [esC (varO h2) esN, bok]
    simp (disch := first | omega | decide) only [mapM_nil, mapM_cons1, List.map_cons, List.map_nil, List.length_cons, List.length_nil, Ev.runs, Ev.run, Ev.evI, Ev.evIs, Ev.ev, Ev.evs, Ev.evo, Ev.evc, Ev.evi, Ev.tstV, Ev.tstI', Ev.asInt, bok, mok, bokS, mokS, upok, Ev.bin, Ev.binI, Ev.cmp, Ev.cmpI, Ev.cmpS, Ev.isNonW, Ev.isiW, Ev.kdOf, vI, vD, vB, vF, setN, putS, setG, setGs, nxO, truth, Ev.sl, Ev.ix, blt, wipeS, W.at, handed, change, setFld, given, fldK, Ev.cellOf, moTy, moC, setIt, setF, srcOk, srcSt, fgtS, Sto.hold, pureOf, belowW, belowC, below, belows, pureI, pureIs, guardP_pos, guardN_pos, Option.map_some, Option.bind_some, Nat.reduceAdd, Nat.reduceSub, Nat.reduceLT, Nat.reduceLeDiff, List.replicate, List.cons_append, List.nil_append, List.getElem?_cons_zero, List.getElem?_cons_succ, List.set_cons_succ, List.set_cons_zero, if_true, if_false, Bool.false_eq_true, Bool.not_true, Bool.not_false, Bool.and_true, Bool.true_and, Bool.or_true, Bool.true_or, reduceCtorEq, eq_self, decide_true, decide_false, decide_not, List.take_succ_cons, List.take_zero, List.length_map, Int.toNat_natCast, SX.S_len]
  · have : decide ((x : Int) < (t.length : Nat)) = decide (x < t.length) := by simp
    rw [← this]
    rfl
theorem part_ok (s : Stp) (σ : List Sl) (h6 : σ[6]? = some (.ro (.c (.d (enc s))))) (h7 : 7 < σ.length) : ev Gm6 S (.or (.not (.isi (.var 6) .tuple)) (.not (.blt .all (.cons (.lc [("_law_part", 7)] (.nm 7) (.tup (.var 6)) .none (.not (.isi (.var 7) .bool))) .nil)))) σ = some (.ok (.bl false, .ro)) := by
  obtain ⟨xs, hxs, hp⟩ : ∃ xs, enc s = .tup xs ∧ xs.length ≤ 3 ∧ ∀ x ∈ xs, isiW .bool (.c (.d x)) = some false := by
    cases s
    · exact ⟨_, rfl, by simp, by simp [isiW]⟩
    · exact ⟨_, rfl, by simp, by simp [isiW]⟩
    · exact ⟨_, rfl, by simp, by simp [isiW]⟩
  rw [hxs] at h6
  have e1 : ev Gm6 S (.isi (.var 6) .tuple) σ = some (.ok (.bl true, .ro)) := by
    unfold Ev.ev
    rw [varO h6, bok]
    rfl
  have e2 : evi Gm6 S (.tup (.var 6)) σ = some (.ok (xs, [(.c (.d (.tup xs)), .ro)])) := by
    unfold evi
    rw [varO h6, bok]
    rfl
  have e3 : ev Gm6 S (.lc [("_law_part", 7)] (.nm 7) (.tup (.var 6)) .none (.not (.isi (.var 7) .bool))) σ = some (.ok (.c (.lst (xs.map fun _ => D.bl true)), .fr)) := by
    refine ev_lc e2 (by omega) (lcRun_evc _ _ fun x hx => ?_)
    refine ⟨(wipeS σ [7]).set 7 (.ro (.d x)), by simp [setG, putS, wipeS, h7], .ro, ?_⟩
    have g : ((wipeS σ [7]).set 7 (.ro (.d x)))[7]? = some (.ro (.c (.d x))) := by simp [wipeS, h7]
    refine notB (b := false) (k1 := .ro) ?_
    unfold Ev.ev
    rw [varO g, bok]
    simp only [hp.2 x hx]
    rfl
  have e4 : ev Gm6 S (.blt .all (.cons (.lc [("_law_part", 7)] (.nm 7) (.tup (.var 6)) .none (.not (.isi (.var 7) .bool))) .nil)) σ = some (.ok (.bl true, .ro)) := by
    unfold Ev.ev
    rw [esC e3 esN, bok]
    have : ∀ l : List D, boolsD (l.map fun _ => D.bl true) = some (l.map fun _ => true) := by
      intro l
      induction l with
      | nil => rfl
      | cons x l ih => simp [boolsD, ih]
    simp only [List.map_cons, List.map_nil, W.at, blt, this]
    have h2 : (xs.map fun _ => true).all id = true := by simp
    rw [h2]
    rfl
  exact orF (notB e1) (notB e4)
theorem run_goes {l : List Stp} {k : Nat} (hw : Way a b a.length b.length 0 0 l k) (ha : a.length ≤ 1000) (hb : b.length ≤ 1000) : fnG Gm6 3 8 b_law_goes S [.str (SX.S a), .str (SX.S b), .c (.lst (l.map enc))] = some (.ok (.int (k : Nat)) S) := by
  refine fnG_ok rfl (WP.eq (WP.fn ?_))
  change WP (runs Gm6 _ [Sl.ro (.str (SX.S a)), .ro (.str (SX.S b)), .ro (.c (.lst (l.map enc))), .out, .out, .out, .out, .out] S) _
  unfold b_law_goes
  refine WP.seq (σ' := [Sl.ro (.str (SX.S a)), .ro (.str (SX.S b)), .ro (.c (.lst (l.map enc))), .ro (.int (0 : Nat)), .out, .out, .out, .out]) (S' := S) (by simp only [mapM_nil, mapM_cons1, List.map_cons, List.map_nil, List.length_cons, List.length_nil, Ev.runs, Ev.run, Ev.evI, Ev.evIs, Ev.ev, Ev.evs, Ev.evo, Ev.evc, Ev.evi, Ev.tstV, Ev.tstI', Ev.asInt, bok, mok, bokS, mokS, upok, Ev.bin, Ev.binI, Ev.cmp, Ev.cmpI, Ev.cmpS, Ev.isNonW, Ev.isiW, Ev.kdOf, vI, vD, vB, vF, setN, putS, setG, setGs, nxO, truth, Ev.sl, Ev.ix, blt, wipeS, W.at, handed, change, setFld, given, fldK, Ev.cellOf, moTy, moC, setIt, setF, srcOk, srcSt, fgtS, Sto.hold, pureOf, belowW, belowC, below, belows, pureI, pureIs, guardP_pos, guardN_pos, Option.map_some, Option.bind_some, Nat.reduceAdd, Nat.reduceSub, Nat.reduceLT, Nat.reduceLeDiff, List.replicate, List.cons_append, List.nil_append, List.getElem?_cons_zero, List.getElem?_cons_succ, List.set_cons_succ, List.set_cons_zero, if_true, if_false, Bool.false_eq_true, Bool.not_true, Bool.not_false, Bool.and_true, Bool.true_and, Bool.or_true, Bool.true_or, reduceCtorEq, eq_self, decide_true, decide_false, decide_not, List.take_succ_cons, List.take_zero, List.length_map, Int.toNat_natCast]; rfl) ?_
  refine WP.seq (σ' := [Sl.ro (.str (SX.S a)), .ro (.str (SX.S b)), .ro (.c (.lst (l.map enc))), .ro (.int (0 : Nat)), .ro (.int (0 : Nat)), .out, .out, .out]) (S' := S) (by simp only [mapM_nil, mapM_cons1, List.map_cons, List.map_nil, List.length_cons, List.length_nil, Ev.runs, Ev.run, Ev.evI, Ev.evIs, Ev.ev, Ev.evs, Ev.evo, Ev.evc, Ev.evi, Ev.tstV, Ev.tstI', Ev.asInt, bok, mok, bokS, mokS, upok, Ev.bin, Ev.binI, Ev.cmp, Ev.cmpI, Ev.cmpS, Ev.isNonW, Ev.isiW, Ev.kdOf, vI, vD, vB, vF, setN, putS, setG, setGs, nxO, truth, Ev.sl, Ev.ix, blt, wipeS, W.at, handed, change, setFld, given, fldK, Ev.cellOf, moTy, moC, setIt, setF, srcOk, srcSt, fgtS, Sto.hold, pureOf, belowW, belowC, below, belows, pureI, pureIs, guardP_pos, guardN_pos, Option.map_some, Option.bind_some, Nat.reduceAdd, Nat.reduceSub, Nat.reduceLT, Nat.reduceLeDiff, List.replicate, List.cons_append, List.nil_append, List.getElem?_cons_zero, List.getElem?_cons_succ, List.set_cons_succ, List.set_cons_zero, if_true, if_false, Bool.false_eq_true, Bool.not_true, Bool.not_false, Bool.and_true, Bool.true_and, Bool.or_true, Bool.true_or, reduceCtorEq, eq_self, decide_true, decide_false, decide_not, List.take_succ_cons, List.take_zero, List.length_map, Int.toNat_natCast]; rfl) ?_
  refine WP.seq (σ' := GS a b l 0 0 0 .out .out) (S' := S) (by simp only [mapM_nil, mapM_cons1, List.map_cons, List.map_nil, List.length_cons, List.length_nil, Ev.runs, Ev.run, Ev.evI, Ev.evIs, Ev.ev, Ev.evs, Ev.evo, Ev.evc, Ev.evi, Ev.tstV, Ev.tstI', Ev.asInt, bok, mok, bokS, mokS, upok, Ev.bin, Ev.binI, Ev.cmp, Ev.cmpI, Ev.cmpS, Ev.isNonW, Ev.isiW, Ev.kdOf, vI, vD, vB, vF, setN, putS, setG, setGs, nxO, truth, Ev.sl, Ev.ix, blt, wipeS, W.at, handed, change, setFld, given, fldK, Ev.cellOf, moTy, moC, setIt, setF, srcOk, srcSt, fgtS, Sto.hold, pureOf, belowW, belowC, below, belows, pureI, pureIs, guardP_pos, guardN_pos, Option.map_some, Option.bind_some, Nat.reduceAdd, Nat.reduceSub, Nat.reduceLT, Nat.reduceLeDiff, List.replicate, List.cons_append, List.nil_append, List.getElem?_cons_zero, List.getElem?_cons_succ, List.set_cons_succ, List.set_cons_zero, if_true, if_false, Bool.false_eq_true, Bool.not_true, Bool.not_false, Bool.and_true, Bool.true_and, Bool.or_true, Bool.true_or, reduceCtorEq, eq_self, decide_true, decide_false, decide_not, List.take_succ_cons, List.take_zero, List.length_map, Int.toNat_natCast]; rfl) ?_
  refine WP.cons (WP.for_ (xs := l.map enc) (ls := [(.c (.lst (l.map enc)), .ro)]) (fun t σ S' => S = S' ∧ ∃ i j m y6 y7 k', Way a b a.length b.length i j (l.drop t) k' ∧ m + k' = k ∧ σ = GS a b l i j m y6 y7) ?_ rfl ⟨rfl, 0, 0, 0, _, _, k, by simpa using hw, by omega, rfl⟩ ?_ ?_)
  · simp only [mapM_nil, mapM_cons1, List.map_cons, List.map_nil, List.length_cons, List.length_nil, Ev.runs, Ev.run, Ev.evI, Ev.evIs, Ev.ev, Ev.evs, Ev.evo, Ev.evc, Ev.evi, Ev.tstV, Ev.tstI', Ev.asInt, bok, mok, bokS, mokS, upok, Ev.bin, Ev.binI, Ev.cmp, Ev.cmpI, Ev.cmpS, Ev.isNonW, Ev.isiW, Ev.kdOf, vI, vD, vB, vF, setN, putS, setG, setGs, nxO, truth, Ev.sl, Ev.ix, blt, wipeS, W.at, handed, change, setFld, given, fldK, Ev.cellOf, moTy, moC, setIt, setF, srcOk, srcSt, fgtS, Sto.hold, pureOf, belowW, belowC, below, belows, pureI, pureIs, guardP_pos, guardN_pos, Option.map_some, Option.bind_some, Nat.reduceAdd, Nat.reduceSub, Nat.reduceLT, Nat.reduceLeDiff, List.replicate, List.cons_append, List.nil_append, List.getElem?_cons_zero, List.getElem?_cons_succ, List.set_cons_succ, List.set_cons_zero, if_true, if_false, Bool.false_eq_true, Bool.not_true, Bool.not_false, Bool.and_true, Bool.true_and, Bool.or_true, Bool.true_or, reduceCtorEq, eq_self, decide_true, decide_false, decide_not, List.take_succ_cons, List.take_zero, List.length_map, Int.toNat_natCast]
  · rintro t x σ _ hx ⟨rfl, i, j, m, y6, y7, k', hW, hm, rfl⟩
    obtain ⟨ht, hxe⟩ := List.getElem?_eq_some_iff.mp hx
    have ht2 : t < l.length := by simpa using ht
    rw [List.drop_eq_getElem_cons ht2] at hW
    have hxe2 : x = enc l[t] := by rw [← hxe, List.getElem_map]
    subst hxe2
    generalize l[t] = s at hW
    refine ⟨GS a b l i j m (.ro (.c (.d (enc s)))) y7, rfl, ?_⟩
    refine WP.cons (WP.ite (k := false) (S' := S) (tstP (part_ok s _ rfl (by simp))) nofun fun _ => WP.nil ?_)
    have hK := eq_enc (.keep i j)
    have hS := eq_enc (.strike i)
    have hP := eq_enc (.put j)
    have tK : ∀ s, ev Gm6 S (.tup (.cons (.str "keep") (.cons (.var 3) (.cons (.var 4) .nil)))) (GS a b l i j m (.ro (.c (.d (enc s)))) y7) = some (.ok (.c (.d (enc (.keep i j))), .ro)) := fun s => by
      simp (disch := first | omega | decide) only [mapM_nil, mapM_cons1, List.map_cons, List.map_nil, List.length_cons, List.length_nil, Ev.runs, Ev.run, Ev.evI, Ev.evIs, Ev.ev, Ev.evs, Ev.evo, Ev.evc, Ev.evi, Ev.tstV, Ev.tstI', Ev.asInt, bok, mok, bokS, mokS, upok, Ev.bin, Ev.binI, Ev.cmp, Ev.cmpI, Ev.cmpS, Ev.isNonW, Ev.isiW, Ev.kdOf, vI, vD, vB, vF, setN, putS, setG, setGs, nxO, truth, Ev.sl, Ev.ix, blt, wipeS, W.at, handed, change, setFld, given, fldK, Ev.cellOf, moTy, moC, setIt, setF, srcOk, srcSt, fgtS, Sto.hold, pureOf, belowW, belowC, below, belows, pureI, pureIs, guardP_pos, guardN_pos, Option.map_some, Option.bind_some, Nat.reduceAdd, Nat.reduceSub, Nat.reduceLT, Nat.reduceLeDiff, List.replicate, List.cons_append, List.nil_append, List.getElem?_cons_zero, List.getElem?_cons_succ, List.set_cons_succ, List.set_cons_zero, if_true, if_false, Bool.false_eq_true, Bool.not_true, Bool.not_false, Bool.and_true, Bool.true_and, Bool.or_true, Bool.true_or, reduceCtorEq, eq_self, decide_true, decide_false, decide_not, List.take_succ_cons, List.take_zero, List.length_map, Int.toNat_natCast]
      rfl
    have tS : ∀ s, ev Gm6 S (.tup (.cons (.str "strike") (.cons (.var 3) .nil))) (GS a b l i j m (.ro (.c (.d (enc s)))) y7) = some (.ok (.c (.d (enc (.strike i))), .ro)) := fun s => by
      simp (disch := first | omega | decide) only [mapM_nil, mapM_cons1, List.map_cons, List.map_nil, List.length_cons, List.length_nil, Ev.runs, Ev.run, Ev.evI, Ev.evIs, Ev.ev, Ev.evs, Ev.evo, Ev.evc, Ev.evi, Ev.tstV, Ev.tstI', Ev.asInt, bok, mok, bokS, mokS, upok, Ev.bin, Ev.binI, Ev.cmp, Ev.cmpI, Ev.cmpS, Ev.isNonW, Ev.isiW, Ev.kdOf, vI, vD, vB, vF, setN, putS, setG, setGs, nxO, truth, Ev.sl, Ev.ix, blt, wipeS, W.at, handed, change, setFld, given, fldK, Ev.cellOf, moTy, moC, setIt, setF, srcOk, srcSt, fgtS, Sto.hold, pureOf, belowW, belowC, below, belows, pureI, pureIs, guardP_pos, guardN_pos, Option.map_some, Option.bind_some, Nat.reduceAdd, Nat.reduceSub, Nat.reduceLT, Nat.reduceLeDiff, List.replicate, List.cons_append, List.nil_append, List.getElem?_cons_zero, List.getElem?_cons_succ, List.set_cons_succ, List.set_cons_zero, if_true, if_false, Bool.false_eq_true, Bool.not_true, Bool.not_false, Bool.and_true, Bool.true_and, Bool.or_true, Bool.true_or, reduceCtorEq, eq_self, decide_true, decide_false, decide_not, List.take_succ_cons, List.take_zero, List.length_map, Int.toNat_natCast]
      rfl
    have tP : ∀ s, ev Gm6 S (.tup (.cons (.str "put") (.cons (.var 4) .nil))) (GS a b l i j m (.ro (.c (.d (enc s)))) y7) = some (.ok (.c (.d (enc (.put j))), .ro)) := fun s => by
      simp (disch := first | omega | decide) only [mapM_nil, mapM_cons1, List.map_cons, List.map_nil, List.length_cons, List.length_nil, Ev.runs, Ev.run, Ev.evI, Ev.evIs, Ev.ev, Ev.evs, Ev.evo, Ev.evc, Ev.evi, Ev.tstV, Ev.tstI', Ev.asInt, bok, mok, bokS, mokS, upok, Ev.bin, Ev.binI, Ev.cmp, Ev.cmpI, Ev.cmpS, Ev.isNonW, Ev.isiW, Ev.kdOf, vI, vD, vB, vF, setN, putS, setG, setGs, nxO, truth, Ev.sl, Ev.ix, blt, wipeS, W.at, handed, change, setFld, given, fldK, Ev.cellOf, moTy, moC, setIt, setF, srcOk, srcSt, fgtS, Sto.hold, pureOf, belowW, belowC, below, belows, pureI, pureIs, guardP_pos, guardN_pos, Option.map_some, Option.bind_some, Nat.reduceAdd, Nat.reduceSub, Nat.reduceLT, Nat.reduceLeDiff, List.replicate, List.cons_append, List.nil_append, List.getElem?_cons_zero, List.getElem?_cons_succ, List.set_cons_succ, List.set_cons_zero, if_true, if_false, Bool.false_eq_true, Bool.not_true, Bool.not_false, Bool.and_true, Bool.true_and, Bool.or_true, Bool.true_or, reduceCtorEq, eq_self, decide_true, decide_false, decide_not, List.take_succ_cons, List.take_zero, List.length_map, Int.toNat_natCast]
      rfl
    have cN : ((i : Int) + 1) = ((i + 1 : Nat) : Int) ∧ ((j : Int) + 1) = ((j + 1 : Nat) : Int) ∧ ((m : Int) + 1) = ((m + 1 : Nat) : Int) := by omega
    cases hW with
    | @keep _ _ _ k2 hi hj he w =>
      have hc := cmpOf (Γ := Gm6) (S := S) (o := .Eq) (x := (.c (.d (enc (.keep i j))), .ro)) (varO (i := 6) rfl) (tK (.keep i j)) (cmpEqT (eq_same hK))
      have hl1 := ltLen (S := S) (σ := GS a b l i j m (.ro (.c (.d (enc (.keep i j))))) y7) (n := 3) (m := 0) rfl rfl ha
      have hl2 := ltLen (S := S) (σ := GS a b l i j m (.ro (.c (.d (enc (.keep i j))))) y7) (n := 4) (m := 1) rfl rfl hb
      have hsm := same_ch (Γ := Gm6) (S := S) (σ := GS a b l i j m (.ro (.c (.d (enc (.keep i j))))) y7) (varO (i := 0) rfl) (varO (i := 3) rfl) (varO (i := 1) rfl) (varO (i := 4) rfl) hi hj ha hb
      rw [decide_eq_true hi] at hl1
      rw [decide_eq_true hj] at hl2
      rw [he] at hsm
      refine WP.cons (WP.ite (k := true) (S' := S) (tstP (andT hc (andT hl1 (andT hl2 hsm)))) (fun _ => ?_) nofun)
      refine WP.seq (σ' := GS a b l (i + 1) j m (.ro (.c (.d (enc (.keep i j))))) y7) (S' := S) (by simp (disch := first | omega | decide) only [mapM_nil, mapM_cons1, List.map_cons, List.map_nil, List.length_cons, List.length_nil, Ev.runs, Ev.run, Ev.evI, Ev.evIs, Ev.ev, Ev.evs, Ev.evo, Ev.evc, Ev.evi, Ev.tstV, Ev.tstI', Ev.asInt, bok, mok, bokS, mokS, upok, Ev.bin, Ev.binI, Ev.cmp, Ev.cmpI, Ev.cmpS, Ev.isNonW, Ev.isiW, Ev.kdOf, vI, vD, vB, vF, setN, putS, setG, setGs, nxO, truth, Ev.sl, Ev.ix, blt, wipeS, W.at, handed, change, setFld, given, fldK, Ev.cellOf, moTy, moC, setIt, setF, srcOk, srcSt, fgtS, Sto.hold, pureOf, belowW, belowC, below, belows, pureI, pureIs, guardP_pos, guardN_pos, Option.map_some, Option.bind_some, Nat.reduceAdd, Nat.reduceSub, Nat.reduceLT, Nat.reduceLeDiff, List.replicate, List.cons_append, List.nil_append, List.getElem?_cons_zero, List.getElem?_cons_succ, List.set_cons_succ, List.set_cons_zero, if_true, if_false, Bool.false_eq_true, Bool.not_true, Bool.not_false, Bool.and_true, Bool.true_and, Bool.or_true, Bool.true_or, reduceCtorEq, eq_self, decide_true, decide_false, decide_not, List.take_succ_cons, List.take_zero, List.length_map, Int.toNat_natCast, cN.1]) ?_
      refine WP.seq (σ' := GS a b l (i + 1) (j + 1) m (.ro (.c (.d (enc (.keep i j))))) y7) (S' := S) (by simp (disch := first | omega | decide) only [mapM_nil, mapM_cons1, List.map_cons, List.map_nil, List.length_cons, List.length_nil, Ev.runs, Ev.run, Ev.evI, Ev.evIs, Ev.ev, Ev.evs, Ev.evo, Ev.evc, Ev.evi, Ev.tstV, Ev.tstI', Ev.asInt, bok, mok, bokS, mokS, upok, Ev.bin, Ev.binI, Ev.cmp, Ev.cmpI, Ev.cmpS, Ev.isNonW, Ev.isiW, Ev.kdOf, vI, vD, vB, vF, setN, putS, setG, setGs, nxO, truth, Ev.sl, Ev.ix, blt, wipeS, W.at, handed, change, setFld, given, fldK, Ev.cellOf, moTy, moC, setIt, setF, srcOk, srcSt, fgtS, Sto.hold, pureOf, belowW, belowC, below, belows, pureI, pureIs, guardP_pos, guardN_pos, Option.map_some, Option.bind_some, Nat.reduceAdd, Nat.reduceSub, Nat.reduceLT, Nat.reduceLeDiff, List.replicate, List.cons_append, List.nil_append, List.getElem?_cons_zero, List.getElem?_cons_succ, List.set_cons_succ, List.set_cons_zero, if_true, if_false, Bool.false_eq_true, Bool.not_true, Bool.not_false, Bool.and_true, Bool.true_and, Bool.or_true, Bool.true_or, reduceCtorEq, eq_self, decide_true, decide_false, decide_not, List.take_succ_cons, List.take_zero, List.length_map, Int.toNat_natCast, cN.2.1]) (WP.nil (WP.nil ⟨rfl, _, _, _, _, _, k', w, hm, rfl⟩))
    | @strike _ _ _ k2 hi w =>
      have hc := cmpOf (Γ := Gm6) (S := S) (o := .Eq) (x := (.c (.d (enc (.strike i))), .ro)) (varO (i := 6) rfl) (tK (.strike i)) (cmpEqT (ne_head hS hK sk))
      have hc2 := cmpOf (Γ := Gm6) (S := S) (o := .Eq) (x := (.c (.d (enc (.strike i))), .ro)) (varO (i := 6) rfl) (tS (.strike i)) (cmpEqT (eq_same hS))
      have hl1 := ltLen (S := S) (σ := GS a b l i j m (.ro (.c (.d (enc (.strike i))))) y7) (n := 3) (m := 0) rfl rfl ha
      rw [decide_eq_true hi] at hl1
      refine WP.cons (WP.ite (k := false) (S' := S) (tstP (andF hc)) nofun fun _ => ?_)
      refine WP.cons (WP.ite (k := true) (S' := S) (tstP (andT hc2 hl1)) (fun _ => ?_) nofun)
      refine WP.seq (σ' := GS a b l (i + 1) j m (.ro (.c (.d (enc (.strike i))))) y7) (S' := S) (by simp (disch := first | omega | decide) only [mapM_nil, mapM_cons1, List.map_cons, List.map_nil, List.length_cons, List.length_nil, Ev.runs, Ev.run, Ev.evI, Ev.evIs, Ev.ev, Ev.evs, Ev.evo, Ev.evc, Ev.evi, Ev.tstV, Ev.tstI', Ev.asInt, bok, mok, bokS, mokS, upok, Ev.bin, Ev.binI, Ev.cmp, Ev.cmpI, Ev.cmpS, Ev.isNonW, Ev.isiW, Ev.kdOf, vI, vD, vB, vF, setN, putS, setG, setGs, nxO, truth, Ev.sl, Ev.ix, blt, wipeS, W.at, handed, change, setFld, given, fldK, Ev.cellOf, moTy, moC, setIt, setF, srcOk, srcSt, fgtS, Sto.hold, pureOf, belowW, belowC, below, belows, pureI, pureIs, guardP_pos, guardN_pos, Option.map_some, Option.bind_some, Nat.reduceAdd, Nat.reduceSub, Nat.reduceLT, Nat.reduceLeDiff, List.replicate, List.cons_append, List.nil_append, List.getElem?_cons_zero, List.getElem?_cons_succ, List.set_cons_succ, List.set_cons_zero, if_true, if_false, Bool.false_eq_true, Bool.not_true, Bool.not_false, Bool.and_true, Bool.true_and, Bool.or_true, Bool.true_or, reduceCtorEq, eq_self, decide_true, decide_false, decide_not, List.take_succ_cons, List.take_zero, List.length_map, Int.toNat_natCast, cN.1]) ?_
      refine WP.seq (σ' := GS a b l (i + 1) j (m + 1) (.ro (.c (.d (enc (.strike i))))) y7) (S' := S) (by simp (disch := first | omega | decide) only [mapM_nil, mapM_cons1, List.map_cons, List.map_nil, List.length_cons, List.length_nil, Ev.runs, Ev.run, Ev.evI, Ev.evIs, Ev.ev, Ev.evs, Ev.evo, Ev.evc, Ev.evi, Ev.tstV, Ev.tstI', Ev.asInt, bok, mok, bokS, mokS, upok, Ev.bin, Ev.binI, Ev.cmp, Ev.cmpI, Ev.cmpS, Ev.isNonW, Ev.isiW, Ev.kdOf, vI, vD, vB, vF, setN, putS, setG, setGs, nxO, truth, Ev.sl, Ev.ix, blt, wipeS, W.at, handed, change, setFld, given, fldK, Ev.cellOf, moTy, moC, setIt, setF, srcOk, srcSt, fgtS, Sto.hold, pureOf, belowW, belowC, below, belows, pureI, pureIs, guardP_pos, guardN_pos, Option.map_some, Option.bind_some, Nat.reduceAdd, Nat.reduceSub, Nat.reduceLT, Nat.reduceLeDiff, List.replicate, List.cons_append, List.nil_append, List.getElem?_cons_zero, List.getElem?_cons_succ, List.set_cons_succ, List.set_cons_zero, if_true, if_false, Bool.false_eq_true, Bool.not_true, Bool.not_false, Bool.and_true, Bool.true_and, Bool.or_true, Bool.true_or, reduceCtorEq, eq_self, decide_true, decide_false, decide_not, List.take_succ_cons, List.take_zero, List.length_map, Int.toNat_natCast, cN.2.2]) (WP.nil (WP.nil (WP.nil ⟨rfl, _, _, _, _, _, k2, w, by omega, rfl⟩)))
    | @put _ _ _ k2 hj w =>
      have hc := cmpOf (Γ := Gm6) (S := S) (o := .Eq) (x := (.c (.d (enc (.put j))), .ro)) (varO (i := 6) rfl) (tK (.put j)) (cmpEqT (ne_head hP hK pk))
      have hc2 := cmpOf (Γ := Gm6) (S := S) (o := .Eq) (x := (.c (.d (enc (.put j))), .ro)) (varO (i := 6) rfl) (tS (.put j)) (cmpEqT (ne_head hP hS ps))
      have hc3 := cmpOf (Γ := Gm6) (S := S) (o := .Eq) (x := (.c (.d (enc (.put j))), .ro)) (varO (i := 6) rfl) (tP (.put j)) (cmpEqT (eq_same hP))
      have hl2 := ltLen (S := S) (σ := GS a b l i j m (.ro (.c (.d (enc (.put j))))) y7) (n := 4) (m := 1) rfl rfl hb
      rw [decide_eq_true hj] at hl2
      refine WP.cons (WP.ite (k := false) (S' := S) (tstP (andF hc)) nofun fun _ => ?_)
      refine WP.cons (WP.ite (k := false) (S' := S) (tstP (andF hc2)) nofun fun _ => ?_)
      refine WP.cons (WP.ite (k := true) (S' := S) (tstP (andT hc3 hl2)) (fun _ => ?_) nofun)
      refine WP.seq (σ' := GS a b l i (j + 1) m (.ro (.c (.d (enc (.put j))))) y7) (S' := S) (by simp (disch := first | omega | decide) only [mapM_nil, mapM_cons1, List.map_cons, List.map_nil, List.length_cons, List.length_nil, Ev.runs, Ev.run, Ev.evI, Ev.evIs, Ev.ev, Ev.evs, Ev.evo, Ev.evc, Ev.evi, Ev.tstV, Ev.tstI', Ev.asInt, bok, mok, bokS, mokS, upok, Ev.bin, Ev.binI, Ev.cmp, Ev.cmpI, Ev.cmpS, Ev.isNonW, Ev.isiW, Ev.kdOf, vI, vD, vB, vF, setN, putS, setG, setGs, nxO, truth, Ev.sl, Ev.ix, blt, wipeS, W.at, handed, change, setFld, given, fldK, Ev.cellOf, moTy, moC, setIt, setF, srcOk, srcSt, fgtS, Sto.hold, pureOf, belowW, belowC, below, belows, pureI, pureIs, guardP_pos, guardN_pos, Option.map_some, Option.bind_some, Nat.reduceAdd, Nat.reduceSub, Nat.reduceLT, Nat.reduceLeDiff, List.replicate, List.cons_append, List.nil_append, List.getElem?_cons_zero, List.getElem?_cons_succ, List.set_cons_succ, List.set_cons_zero, if_true, if_false, Bool.false_eq_true, Bool.not_true, Bool.not_false, Bool.and_true, Bool.true_and, Bool.or_true, Bool.true_or, reduceCtorEq, eq_self, decide_true, decide_false, decide_not, List.take_succ_cons, List.take_zero, List.length_map, Int.toNat_natCast, cN.2.1]) ?_
      refine WP.seq (σ' := GS a b l i (j + 1) (m + 1) (.ro (.c (.d (enc (.put j))))) y7) (S' := S) (by simp (disch := first | omega | decide) only [mapM_nil, mapM_cons1, List.map_cons, List.map_nil, List.length_cons, List.length_nil, Ev.runs, Ev.run, Ev.evI, Ev.evIs, Ev.ev, Ev.evs, Ev.evo, Ev.evc, Ev.evi, Ev.tstV, Ev.tstI', Ev.asInt, bok, mok, bokS, mokS, upok, Ev.bin, Ev.binI, Ev.cmp, Ev.cmpI, Ev.cmpS, Ev.isNonW, Ev.isiW, Ev.kdOf, vI, vD, vB, vF, setN, putS, setG, setGs, nxO, truth, Ev.sl, Ev.ix, blt, wipeS, W.at, handed, change, setFld, given, fldK, Ev.cellOf, moTy, moC, setIt, setF, srcOk, srcSt, fgtS, Sto.hold, pureOf, belowW, belowC, below, belows, pureI, pureIs, guardP_pos, guardN_pos, Option.map_some, Option.bind_some, Nat.reduceAdd, Nat.reduceSub, Nat.reduceLT, Nat.reduceLeDiff, List.replicate, List.cons_append, List.nil_append, List.getElem?_cons_zero, List.getElem?_cons_succ, List.set_cons_succ, List.set_cons_zero, if_true, if_false, Bool.false_eq_true, Bool.not_true, Bool.not_false, Bool.and_true, Bool.true_and, Bool.or_true, Bool.true_or, reduceCtorEq, eq_self, decide_true, decide_false, decide_not, List.take_succ_cons, List.take_zero, List.length_map, Int.toNat_natCast, cN.2.2]) (WP.nil (WP.nil (WP.nil (WP.nil ⟨rfl, _, _, _, _, _, k2, w, by omega, rfl⟩))))
  · rintro σ _ ⟨rfl, i, j, m, y6, y7, k', hW, hm, rfl⟩
    rw [List.length_map, List.drop_length] at hW
    cases hW
    have hm : m = k := by omega
    subst hm
    refine WP.cons (WP.ite (k := false) (S' := S) ?_ nofun fun _ => WP.nil ?_)
    · simp (disch := first | omega | decide) only [mapM_nil, mapM_cons1, List.map_cons, List.map_nil, List.length_cons, List.length_nil, Ev.runs, Ev.run, Ev.evI, Ev.evIs, Ev.ev, Ev.evs, Ev.evo, Ev.evc, Ev.evi, Ev.tstV, Ev.tstI', Ev.asInt, bok, mok, bokS, mokS, upok, Ev.bin, Ev.binI, Ev.cmp, Ev.cmpI, Ev.cmpS, Ev.isNonW, Ev.isiW, Ev.kdOf, vI, vD, vB, vF, setN, putS, setG, setGs, nxO, truth, Ev.sl, Ev.ix, blt, wipeS, W.at, handed, change, setFld, given, fldK, Ev.cellOf, moTy, moC, setIt, setF, srcOk, srcSt, fgtS, Sto.hold, pureOf, belowW, belowC, below, belows, pureI, pureIs, guardP_pos, guardN_pos, Option.map_some, Option.bind_some, Nat.reduceAdd, Nat.reduceSub, Nat.reduceLT, Nat.reduceLeDiff, List.replicate, List.cons_append, List.nil_append, List.getElem?_cons_zero, List.getElem?_cons_succ, List.set_cons_succ, List.set_cons_zero, if_true, if_false, Bool.false_eq_true, Bool.not_true, Bool.not_false, Bool.and_true, Bool.true_and, Bool.or_true, Bool.true_or, reduceCtorEq, eq_self, decide_true, decide_false, decide_not, List.take_succ_cons, List.take_zero, List.length_map, Int.toNat_natCast, SX.S_len]
    · exact WP.ret (retD (varO (i := 5) rfl)) ⟨rfl, rfl⟩
end
end L72
namespace L72
open PySem PySem.Spec
open PyProof.Rows hiding St
open L2 Ev PP
def okT (l : List Nat) : Prop := l.length ≤ 60 ∧ ∀ c ∈ l, c < 128
theorem menu_S : ∃ m : List Nat, (" !\"#$&'()*+,-./0123456789:;<=>?@ABCDEFGHIJKLMNOPQRSTUVWXYZ[\\]^_`" : Str) ++ ("abcdefghijklmnopqrstuvwxyz{|}~\n" : Str) = SX.S m ∧ m.length = 95 ∧ ∀ c ∈ m, c < 128 := by
  refine ⟨((" !\"#$&'()*+,-./0123456789:;<=>?@ABCDEFGHIJKLMNOPQRSTUVWXYZ[\\]^_`" : Str) ++ ("abcdefghijklmnopqrstuvwxyz{|}~\n" : Str)).cps.toList, (SX.S_tl _).symm, ?_⟩
  decide +kernel
theorem four {x1 x2 x3 x4 i : Int} {P : Int → Prop} (h1 : P x1) (h2 : P x2) (h3 : P x3) (h4 : P x4) (h0 : 0 ≤ i) (hi : i < 4) : ∃ n, P n ∧ L2.atI [D.int x1, .int x2, .int x3, .int x4] i = some (.int n) := by
  have : i = 0 ∨ i = 1 ∨ i = 2 ∨ i = 3 := by omega
  rcases this with rfl | rfl | rfl | rfl
  · exact ⟨x1, h1, rfl⟩
  · exact ⟨x2, h2, rfl⟩
  · exact ⟨x3, h3, rfl⟩
  · exact ⟨x4, h4, rfl⟩
theorem three {x1 x2 x3 i : Int} {P : Int → Prop} (h1 : P x1) (h2 : P x2) (h3 : P x3) (h0 : 0 ≤ i) (hi : i < 3) : ∃ n, P n ∧ L2.atI [D.int x1, .int x2, .int x3] i = some (.int n) := by
  have : i = 0 ∨ i = 1 ∨ i = 2 := by omega
  rcases this with rfl | rfl | rfl
  · exact ⟨x1, h1, rfl⟩
  · exact ⟨x2, h2, rfl⟩
  · exact ⟨x3, h3, rfl⟩
theorem run_text {S : Sto} (c : Int) : ∃ l, okT l ∧ fnG Gm4 1 7 b_law_text S [.int c] = some (.ok (.str (SX.S l)) S) := by
  obtain ⟨m, hm, hml, hmo⟩ := menu_S
  suffices h : WP (fnRun Gm4 7 b_law_text S [.int c]) fun w S' => ∃ l, okT l ∧ w = .str (SX.S l) ∧ S' = S by
    obtain ⟨w, S', e, l, h1, rfl, rfl⟩ := h
    exact ⟨l, h1, fnG_ok rfl e⟩
  refine WP.fn ?_
  change WP (runs Gm4 _ [Sl.ro (.int c), .out, .out, .out, .out, .out, .out] S) _
  unfold b_law_text
  have q1 : ((" !\"#$&'()*+,-./0123456789:;<=>?@ABCDEFGHIJKLMNOPQRSTUVWXYZ[\\]^_`" : Str).length + ("abcdefghijklmnopqrstuvwxyz{|}~\n" : Str).length) ≤ 16777216 := by decide +kernel
  refine WP.seq (σ' := [Sl.ro (.int c), .ro (.str " !\"#$&'()*+,-./0123456789:;<=>?@ABCDEFGHIJKLMNOPQRSTUVWXYZ[\\]^_`"), .out, .out, .out, .out, .out]) (S' := S) (by simp (disch := first | omega | decide) only [mapM_nil, mapM_cons1, List.map_cons, List.map_nil, List.length_cons, List.length_nil, Ev.runs, Ev.run, Ev.evI, Ev.evIs, Ev.ev, Ev.evs, Ev.evo, Ev.evc, Ev.evi, Ev.tstV, Ev.tstI', Ev.asInt, bok, mok, bokS, mokS, upok, Ev.bin, Ev.binI, Ev.cmp, Ev.cmpI, Ev.cmpS, Ev.isNonW, Ev.isiW, Ev.kdOf, vI, vD, vB, vF, setN, putS, setG, setGs, nxO, truth, Ev.sl, Ev.ix, blt, wipeS, W.at, handed, change, setFld, given, fldK, Ev.cellOf, moTy, moC, setIt, setF, srcOk, srcSt, fgtS, Sto.hold, pureOf, belowW, belowC, below, belows, pureI, pureIs, guardP_pos, guardN_pos, Option.map_some, Option.bind_some, Nat.reduceAdd, Nat.reduceSub, Nat.reduceLT, Nat.reduceLeDiff, List.replicate, List.cons_append, List.nil_append, List.getElem?_cons_zero, List.getElem?_cons_succ, List.set_cons_succ, List.set_cons_zero, if_true, if_false, Bool.false_eq_true, Bool.not_true, Bool.not_false, Bool.and_true, Bool.true_and, Bool.or_true, Bool.true_or, reduceCtorEq, eq_self, decide_true, decide_false, decide_not, List.take_succ_cons, List.take_zero, List.length_map, Int.toNat_natCast]) ?_
  refine WP.seq (σ' := [Sl.ro (.int c), .ro (.str (SX.S m)), .out, .out, .out, .out, .out]) (S' := S) (by rw [← hm]; simp (disch := assumption) only [mapM_nil, mapM_cons1, List.map_cons, List.map_nil, List.length_cons, List.length_nil, Ev.runs, Ev.run, Ev.evI, Ev.evIs, Ev.ev, Ev.evs, Ev.evo, Ev.evc, Ev.evi, Ev.tstV, Ev.tstI', Ev.asInt, bok, mok, bokS, mokS, upok, Ev.bin, Ev.binI, Ev.cmp, Ev.cmpI, Ev.cmpS, Ev.isNonW, Ev.isiW, Ev.kdOf, vI, vD, vB, vF, setN, putS, setG, setGs, nxO, truth, Ev.sl, Ev.ix, blt, wipeS, W.at, handed, change, setFld, given, fldK, Ev.cellOf, moTy, moC, setIt, setF, srcOk, srcSt, fgtS, Sto.hold, pureOf, belowW, belowC, below, belows, pureI, pureIs, guardP_pos, guardN_pos, Option.map_some, Option.bind_some, Nat.reduceAdd, Nat.reduceSub, Nat.reduceLT, Nat.reduceLeDiff, List.replicate, List.cons_append, List.nil_append, List.getElem?_cons_zero, List.getElem?_cons_succ, List.set_cons_succ, List.set_cons_zero, if_true, if_false, Bool.false_eq_true, Bool.not_true, Bool.not_false, Bool.and_true, Bool.true_and, Bool.or_true, Bool.true_or, reduceCtorEq, eq_self, decide_true, decide_false, decide_not, List.take_succ_cons, List.take_zero, List.length_map, Int.toNat_natCast]) ?_
  have f0 := drawn_pos c 1
  have f1 := drawn_lt c 1
  refine WP.seq (σ' := [Sl.ro (.int c), .ro (.str (SX.S m)), .ro (.int (drawn c 1)), .out, .out, .out, .out]) (S' := S) (by simp (disch := first | omega | decide) only [mapM_nil, mapM_cons1, List.map_cons, List.map_nil, List.length_cons, List.length_nil, Ev.runs, Ev.run, Ev.evI, Ev.evIs, Ev.ev, Ev.evs, Ev.evo, Ev.evc, Ev.evi, Ev.tstV, Ev.tstI', Ev.asInt, bok, mok, bokS, mokS, upok, Ev.bin, Ev.binI, Ev.cmp, Ev.cmpI, Ev.cmpS, Ev.isNonW, Ev.isiW, Ev.kdOf, vI, vD, vB, vF, setN, putS, setG, setGs, nxO, truth, Ev.sl, Ev.ix, blt, wipeS, W.at, handed, change, setFld, given, fldK, Ev.cellOf, moTy, moC, setIt, setF, srcOk, srcSt, fgtS, Sto.hold, pureOf, belowW, belowC, below, belows, pureI, pureIs, guardP_pos, guardN_pos, Option.map_some, Option.bind_some, Nat.reduceAdd, Nat.reduceSub, Nat.reduceLT, Nat.reduceLeDiff, List.replicate, List.cons_append, List.nil_append, List.getElem?_cons_zero, List.getElem?_cons_succ, List.set_cons_succ, List.set_cons_zero, if_true, if_false, Bool.false_eq_true, Bool.not_true, Bool.not_false, Bool.and_true, Bool.true_and, Bool.or_true, Bool.true_or, reduceCtorEq, eq_self, decide_true, decide_false, decide_not, List.take_succ_cons, List.take_zero, List.length_map, Int.toNat_natCast, lk4_law_mixed, run_mixed]) ?_
  generalize drawn c 1 = f at f0 f1
  obtain ⟨x3, ⟨x30, x31⟩, hife⟩ : ∃ x3 : Int, (0 ≤ x3 ∧ x3 ≤ 60) ∧ ev Gm4 S (.ife (.cmp .Eq (.bin .Mod (.bin .FloorDiv (.var 2) (.int 300)) (.int 2)) (.int 0)) (.bin .Mod (.bin .FloorDiv (.var 2) (.int 4)) (.int 61)) (.int 5)) [Sl.ro (.int c), .ro (.str (SX.S m)), .ro (.int f), .out, .out, .out, .out] = some (.ok (.int x3, .ro)) := by
    by_cases h : f / 300 % 2 = 0
    · exact ⟨f / 4 % 61, ⟨by omega, by omega⟩, by simp (disch := first | omega | decide) only [mapM_nil, mapM_cons1, List.map_cons, List.map_nil, List.length_cons, List.length_nil, Ev.runs, Ev.run, Ev.evI, Ev.evIs, Ev.ev, Ev.evs, Ev.evo, Ev.evc, Ev.evi, Ev.tstV, Ev.tstI', Ev.asInt, bok, mok, bokS, mokS, upok, Ev.bin, Ev.binI, Ev.cmp, Ev.cmpI, Ev.cmpS, Ev.isNonW, Ev.isiW, Ev.kdOf, vI, vD, vB, vF, setN, putS, setG, setGs, nxO, truth, Ev.sl, Ev.ix, blt, wipeS, W.at, handed, change, setFld, given, fldK, Ev.cellOf, moTy, moC, setIt, setF, srcOk, srcSt, fgtS, Sto.hold, pureOf, belowW, belowC, below, belows, pureI, pureIs, guardP_pos, guardN_pos, Option.map_some, Option.bind_some, Nat.reduceAdd, Nat.reduceSub, Nat.reduceLT, Nat.reduceLeDiff, List.replicate, List.cons_append, List.nil_append, List.getElem?_cons_zero, List.getElem?_cons_succ, List.set_cons_succ, List.set_cons_zero, if_true, if_false, Bool.false_eq_true, Bool.not_true, Bool.not_false, Bool.and_true, Bool.true_and, Bool.or_true, Bool.true_or, reduceCtorEq, eq_self, decide_true, decide_false, decide_not, List.take_succ_cons, List.take_zero, List.length_map, Int.toNat_natCast, h]⟩
    · exact ⟨5, ⟨by omega, by omega⟩, by simp (disch := first | omega | decide) only [mapM_nil, mapM_cons1, List.map_cons, List.map_nil, List.length_cons, List.length_nil, Ev.runs, Ev.run, Ev.evI, Ev.evIs, Ev.ev, Ev.evs, Ev.evo, Ev.evc, Ev.evi, Ev.tstV, Ev.tstI', Ev.asInt, bok, mok, bokS, mokS, upok, Ev.bin, Ev.binI, Ev.cmp, Ev.cmpI, Ev.cmpS, Ev.isNonW, Ev.isiW, Ev.kdOf, vI, vD, vB, vF, setN, putS, setG, setGs, nxO, truth, Ev.sl, Ev.ix, blt, wipeS, W.at, handed, change, setFld, given, fldK, Ev.cellOf, moTy, moC, setIt, setF, srcOk, srcSt, fgtS, Sto.hold, pureOf, belowW, belowC, below, belows, pureI, pureIs, guardP_pos, guardN_pos, Option.map_some, Option.bind_some, Nat.reduceAdd, Nat.reduceSub, Nat.reduceLT, Nat.reduceLeDiff, List.replicate, List.cons_append, List.nil_append, List.getElem?_cons_zero, List.getElem?_cons_succ, List.set_cons_succ, List.set_cons_zero, if_true, if_false, Bool.false_eq_true, Bool.not_true, Bool.not_false, Bool.and_true, Bool.true_and, Bool.or_true, Bool.true_or, reduceCtorEq, eq_self, decide_true, decide_false, decide_not, List.take_succ_cons, List.take_zero, List.length_map, Int.toNat_natCast, h]⟩
  obtain ⟨n, ⟨n0, n1⟩, hn⟩ := four (P := fun x => 0 ≤ x ∧ x ≤ 60) (x1 := f / 4 % 25) (x2 := f / 4 % 9) (x3 := x3) (x4 := f / 4 % 3) (i := f % 4) ⟨by omega, by omega⟩ ⟨by omega, by omega⟩ ⟨x30, x31⟩ ⟨by omega, by omega⟩ (by omega) (by omega)
  have hlst : ev Gm4 S (.lst (.cons (.bin .Mod (.bin .FloorDiv (.var 2) (.int 4)) (.int 25)) (.cons (.bin .Mod (.bin .FloorDiv (.var 2) (.int 4)) (.int 9)) (.cons (.ife (.cmp .Eq (.bin .Mod (.bin .FloorDiv (.var 2) (.int 300)) (.int 2)) (.int 0)) (.bin .Mod (.bin .FloorDiv (.var 2) (.int 4)) (.int 61)) (.int 5)) (.cons (.bin .Mod (.bin .FloorDiv (.var 2) (.int 4)) (.int 3)) .nil))))) [Sl.ro (.int c), .ro (.str (SX.S m)), .ro (.int f), .out, .out, .out, .out] = some (.ok (.c (.lst [.int (f / 4 % 25), .int (f / 4 % 9), .int x3, .int (f / 4 % 3)]), .fr)) := by
    have a1 : ev Gm4 S (.bin .Mod (.bin .FloorDiv (.var 2) (.int 4)) (.int 25)) [Sl.ro (.int c), .ro (.str (SX.S m)), .ro (.int f), .out, .out, .out, .out] = some (.ok (.int (f / 4 % 25), .ro)) := by simp (disch := first | omega | decide) only [mapM_nil, mapM_cons1, List.map_cons, List.map_nil, List.length_cons, List.length_nil, Ev.runs, Ev.run, Ev.evI, Ev.evIs, Ev.ev, Ev.evs, Ev.evo, Ev.evc, Ev.evi, Ev.tstV, Ev.tstI', Ev.asInt, bok, mok, bokS, mokS, upok, Ev.bin, Ev.binI, Ev.cmp, Ev.cmpI, Ev.cmpS, Ev.isNonW, Ev.isiW, Ev.kdOf, vI, vD, vB, vF, setN, putS, setG, setGs, nxO, truth, Ev.sl, Ev.ix, blt, wipeS, W.at, handed, change, setFld, given, fldK, Ev.cellOf, moTy, moC, setIt, setF, srcOk, srcSt, fgtS, Sto.hold, pureOf, belowW, belowC, below, belows, pureI, pureIs, guardP_pos, guardN_pos, Option.map_some, Option.bind_some, Nat.reduceAdd, Nat.reduceSub, Nat.reduceLT, Nat.reduceLeDiff, List.replicate, List.cons_append, List.nil_append, List.getElem?_cons_zero, List.getElem?_cons_succ, List.set_cons_succ, List.set_cons_zero, if_true, if_false, Bool.false_eq_true, Bool.not_true, Bool.not_false, Bool.and_true, Bool.true_and, Bool.or_true, Bool.true_or, reduceCtorEq, eq_self, decide_true, decide_false, decide_not, List.take_succ_cons, List.take_zero, List.length_map, Int.toNat_natCast]
    have a2 : ev Gm4 S (.bin .Mod (.bin .FloorDiv (.var 2) (.int 4)) (.int 9)) [Sl.ro (.int c), .ro (.str (SX.S m)), .ro (.int f), .out, .out, .out, .out] = some (.ok (.int (f / 4 % 9), .ro)) := by simp (disch := first | omega | decide) only [mapM_nil, mapM_cons1, List.map_cons, List.map_nil, List.length_cons, List.length_nil, Ev.runs, Ev.run, Ev.evI, Ev.evIs, Ev.ev, Ev.evs, Ev.evo, Ev.evc, Ev.evi, Ev.tstV, Ev.tstI', Ev.asInt, bok, mok, bokS, mokS, upok, Ev.bin, Ev.binI, Ev.cmp, Ev.cmpI, Ev.cmpS, Ev.isNonW, Ev.isiW, Ev.kdOf, vI, vD, vB, vF, setN, putS, setG, setGs, nxO, truth, Ev.sl, Ev.ix, blt, wipeS, W.at, handed, change, setFld, given, fldK, Ev.cellOf, moTy, moC, setIt, setF, srcOk, srcSt, fgtS, Sto.hold, pureOf, belowW, belowC, below, belows, pureI, pureIs, guardP_pos, guardN_pos, Option.map_some, Option.bind_some, Nat.reduceAdd, Nat.reduceSub, Nat.reduceLT, Nat.reduceLeDiff, List.replicate, List.cons_append, List.nil_append, List.getElem?_cons_zero, List.getElem?_cons_succ, List.set_cons_succ, List.set_cons_zero, if_true, if_false, Bool.false_eq_true, Bool.not_true, Bool.not_false, Bool.and_true, Bool.true_and, Bool.or_true, Bool.true_or, reduceCtorEq, eq_self, decide_true, decide_false, decide_not, List.take_succ_cons, List.take_zero, List.length_map, Int.toNat_natCast]
    have a4 : ev Gm4 S (.bin .Mod (.bin .FloorDiv (.var 2) (.int 4)) (.int 3)) [Sl.ro (.int c), .ro (.str (SX.S m)), .ro (.int f), .out, .out, .out, .out] = some (.ok (.int (f / 4 % 3), .ro)) := by simp (disch := first | omega | decide) only [mapM_nil, mapM_cons1, List.map_cons, List.map_nil, List.length_cons, List.length_nil, Ev.runs, Ev.run, Ev.evI, Ev.evIs, Ev.ev, Ev.evs, Ev.evo, Ev.evc, Ev.evi, Ev.tstV, Ev.tstI', Ev.asInt, bok, mok, bokS, mokS, upok, Ev.bin, Ev.binI, Ev.cmp, Ev.cmpI, Ev.cmpS, Ev.isNonW, Ev.isiW, Ev.kdOf, vI, vD, vB, vF, setN, putS, setG, setGs, nxO, truth, Ev.sl, Ev.ix, blt, wipeS, W.at, handed, change, setFld, given, fldK, Ev.cellOf, moTy, moC, setIt, setF, srcOk, srcSt, fgtS, Sto.hold, pureOf, belowW, belowC, below, belows, pureI, pureIs, guardP_pos, guardN_pos, Option.map_some, Option.bind_some, Nat.reduceAdd, Nat.reduceSub, Nat.reduceLT, Nat.reduceLeDiff, List.replicate, List.cons_append, List.nil_append, List.getElem?_cons_zero, List.getElem?_cons_succ, List.set_cons_succ, List.set_cons_zero, if_true, if_false, Bool.false_eq_true, Bool.not_true, Bool.not_false, Bool.and_true, Bool.true_and, Bool.or_true, Bool.true_or, reduceCtorEq, eq_self, decide_true, decide_false, decide_not, List.take_succ_cons, List.take_zero, List.length_map, Int.toNat_natCast]
    unfold Ev.ev
    rw [esC a1 (esC a2 (esC hife (esC a4 esN))), bok]
    simp (disch := first | omega | decide) only [mapM_cons1, mapM_nil, Option.map_some, List.length_cons, List.length_nil, guardN_pos, vF, mok, Nat.reduceAdd, Nat.reduceLeDiff]
  refine WP.seq (asgD (i := 3) (ixOf hlst (show ev Gm4 S (.bin .Mod (.var 2) (.int 4)) [Sl.ro (.int c), .ro (.str (SX.S m)), .ro (.int f), .out, .out, .out, .out] = some (.ok (.int (f % 4), .ro)) by simp (disch := first | omega | decide) only [mapM_nil, mapM_cons1, List.map_cons, List.map_nil, List.length_cons, List.length_nil, Ev.runs, Ev.run, Ev.evI, Ev.evIs, Ev.ev, Ev.evs, Ev.evo, Ev.evc, Ev.evi, Ev.tstV, Ev.tstI', Ev.asInt, bok, mok, bokS, mokS, upok, Ev.bin, Ev.binI, Ev.cmp, Ev.cmpI, Ev.cmpS, Ev.isNonW, Ev.isiW, Ev.kdOf, vI, vD, vB, vF, setN, putS, setG, setGs, nxO, truth, Ev.sl, Ev.ix, blt, wipeS, W.at, handed, change, setFld, given, fldK, Ev.cellOf, moTy, moC, setIt, setF, srcOk, srcSt, fgtS, Sto.hold, pureOf, belowW, belowC, below, belows, pureI, pureIs, guardP_pos, guardN_pos, Option.map_some, Option.bind_some, Nat.reduceAdd, Nat.reduceSub, Nat.reduceLT, Nat.reduceLeDiff, List.replicate, List.cons_append, List.nil_append, List.getElem?_cons_zero, List.getElem?_cons_succ, List.set_cons_succ, List.set_cons_zero, if_true, if_false, Bool.false_eq_true, Bool.not_true, Bool.not_false, Bool.and_true, Bool.true_and, Bool.or_true, Bool.true_or, reduceCtorEq, eq_self, decide_true, decide_false, decide_not, List.take_succ_cons, List.take_zero, List.length_map, Int.toNat_natCast]) (atL hn)) (by simp)) ?_
  change WP (runs Gm4 _ [Sl.ro (.int c), .ro (.str (SX.S m)), .ro (.int f), .ro (.int n), .out, .out, .out] S) _
  obtain ⟨w, hw, hwa⟩ := three (P := fun x => 0 < x) (x1 := 95) (x2 := 2) (x3 := 3) (i := drawn c 2 % 3) (by decide) (by decide) (by decide) (Int.emod_nonneg _ (by decide)) (Int.emod_lt_of_pos _ (by decide))
  refine WP.seq (σ' := [Sl.ro (.int c), .ro (.str (SX.S m)), .ro (.int f), .ro (.int n), .ro (.int w), .out, .out]) (S' := S) (by simp (disch := first | omega | decide) only [mapM_nil, mapM_cons1, List.map_cons, List.map_nil, List.length_cons, List.length_nil, Ev.runs, Ev.run, Ev.evI, Ev.evIs, Ev.ev, Ev.evs, Ev.evo, Ev.evc, Ev.evi, Ev.tstV, Ev.tstI', Ev.asInt, bok, mok, bokS, mokS, upok, Ev.bin, Ev.binI, Ev.cmp, Ev.cmpI, Ev.cmpS, Ev.isNonW, Ev.isiW, Ev.kdOf, vI, vD, vB, vF, setN, putS, setG, setGs, nxO, truth, Ev.sl, Ev.ix, blt, wipeS, W.at, handed, change, setFld, given, fldK, Ev.cellOf, moTy, moC, setIt, setF, srcOk, srcSt, fgtS, Sto.hold, pureOf, belowW, belowC, below, belows, pureI, pureIs, guardP_pos, guardN_pos, Option.map_some, Option.bind_some, Nat.reduceAdd, Nat.reduceSub, Nat.reduceLT, Nat.reduceLeDiff, List.replicate, List.cons_append, List.nil_append, List.getElem?_cons_zero, List.getElem?_cons_succ, List.set_cons_succ, List.set_cons_zero, if_true, if_false, Bool.false_eq_true, Bool.not_true, Bool.not_false, Bool.and_true, Bool.true_and, Bool.or_true, Bool.true_or, reduceCtorEq, eq_self, decide_true, decide_false, decide_not, List.take_succ_cons, List.take_zero, List.length_map, Int.toNat_natCast, lk4_law_mixed, run_mixed, hwa]) ?_
  refine WP.seq (σ' := [Sl.ro (.int c), .ro (.str (SX.S m)), .ro (.int f), .ro (.int n), .ro (.int w), .ro (.int (drawn c 3 % 95)), .out]) (S' := S) (by simp (disch := first | omega | decide) only [mapM_nil, mapM_cons1, List.map_cons, List.map_nil, List.length_cons, List.length_nil, Ev.runs, Ev.run, Ev.evI, Ev.evIs, Ev.ev, Ev.evs, Ev.evo, Ev.evc, Ev.evi, Ev.tstV, Ev.tstI', Ev.asInt, bok, mok, bokS, mokS, upok, Ev.bin, Ev.binI, Ev.cmp, Ev.cmpI, Ev.cmpS, Ev.isNonW, Ev.isiW, Ev.kdOf, vI, vD, vB, vF, setN, putS, setG, setGs, nxO, truth, Ev.sl, Ev.ix, blt, wipeS, W.at, handed, change, setFld, given, fldK, Ev.cellOf, moTy, moC, setIt, setF, srcOk, srcSt, fgtS, Sto.hold, pureOf, belowW, belowC, below, belows, pureI, pureIs, guardP_pos, guardN_pos, Option.map_some, Option.bind_some, Nat.reduceAdd, Nat.reduceSub, Nat.reduceLT, Nat.reduceLeDiff, List.replicate, List.cons_append, List.nil_append, List.getElem?_cons_zero, List.getElem?_cons_succ, List.set_cons_succ, List.set_cons_zero, if_true, if_false, Bool.false_eq_true, Bool.not_true, Bool.not_false, Bool.and_true, Bool.true_and, Bool.or_true, Bool.true_or, reduceCtorEq, eq_self, decide_true, decide_false, decide_not, List.take_succ_cons, List.take_zero, List.length_map, Int.toNat_natCast, lk4_law_mixed, run_mixed]) ?_
  generalize drawn c 3 % 95 = s0
  have hp : ∀ i : Nat, i < n.toNat → ∃ σ' z, setG (.nm 6) (.int (0 + (i : Int))) (wipeS [Sl.ro (.int c), .ro (.str (SX.S m)), .ro (.int f), .ro (.int n), .ro (.int w), .ro (.int s0), .out] ([(("_law_k" : Str), 6)].map (·.2))) = some σ' ∧ z ∈ m ∧ ∃ k, ev Gm4 S (.ix (.var 1) (.bin .Mod (.bin .Add (.var 5) (.bin .Mod (.call "_law_mixed" (.cons (.var 0) (.cons (.bin .Add (.int 4) (.var 6)) .nil))) (.var 4))) (.int 95))) σ' = some (.ok (.str (SX.S [z]), k)) := fun i hi => by
    obtain ⟨z, hz, k, e⟩ := ix_pick (Γ := Gm4) (S := S) (σ := [Sl.ro (.int c), .ro (.str (SX.S m)), .ro (.int f), .ro (.int n), .ro (.int w), .ro (.int s0), .ro (.int (0 + (i : Int)))]) (a := .var 1) (b := .bin .Mod (.bin .Add (.var 5) (.bin .Mod (.call "_law_mixed" (.cons (.var 0) (.cons (.bin .Add (.int 4) (.var 6)) .nil))) (.var 4))) (.int 95)) (m := m) (i := (s0 + drawn c (4 + (0 + (i : Int))) % w) % 95) (k2 := .ro) (varO rfl) (by simp (disch := first | assumption | omega | decide) only [mapM_nil, mapM_cons1, List.map_cons, List.map_nil, List.length_cons, List.length_nil, Ev.runs, Ev.run, Ev.evI, Ev.evIs, Ev.ev, Ev.evs, Ev.evo, Ev.evc, Ev.evi, Ev.tstV, Ev.tstI', Ev.asInt, bok, mok, bokS, mokS, upok, Ev.bin, Ev.binI, Ev.cmp, Ev.cmpI, Ev.cmpS, Ev.isNonW, Ev.isiW, Ev.kdOf, vI, vD, vB, vF, setN, putS, setG, setGs, nxO, truth, Ev.sl, Ev.ix, blt, wipeS, W.at, handed, change, setFld, given, fldK, Ev.cellOf, moTy, moC, setIt, setF, srcOk, srcSt, fgtS, Sto.hold, pureOf, belowW, belowC, below, belows, pureI, pureIs, guardP_pos, guardN_pos, Option.map_some, Option.bind_some, Nat.reduceAdd, Nat.reduceSub, Nat.reduceLT, Nat.reduceLeDiff, List.replicate, List.cons_append, List.nil_append, List.getElem?_cons_zero, List.getElem?_cons_succ, List.set_cons_succ, List.set_cons_zero, if_true, if_false, Bool.false_eq_true, Bool.not_true, Bool.not_false, Bool.and_true, Bool.true_and, Bool.or_true, Bool.true_or, reduceCtorEq, eq_self, decide_true, decide_false, decide_not, List.take_succ_cons, List.take_zero, List.length_map, Int.toNat_natCast, lk4_law_mixed, run_mixed]) (by omega) (Int.emod_nonneg _ (by omega)) (by rw [hml]; exact Int.emod_lt_of_pos _ (by omega))
    exact ⟨_, z, rfl, hz, k, e⟩
  obtain ⟨l, h1, h2, h3⟩ := lc_pick (Γ := Gm4) (S := S) (σ := [Sl.ro (.int c), .ro (.str (SX.S m)), .ro (.int f), .ro (.int n), .ro (.int w), .ro (.int s0), .out]) (own := [("_law_k", 6)]) (g := .nm 6) (it := .rng1 (.var 3)) (m := m) (n := n.toNat) (ls := []) (by simp (disch := first | omega | decide) only [mapM_nil, mapM_cons1, List.map_cons, List.map_nil, List.length_cons, List.length_nil, Ev.runs, Ev.run, Ev.evI, Ev.evIs, Ev.ev, Ev.evs, Ev.evo, Ev.evc, Ev.evi, Ev.tstV, Ev.tstI', Ev.asInt, bok, mok, bokS, mokS, upok, Ev.bin, Ev.binI, Ev.cmp, Ev.cmpI, Ev.cmpS, Ev.isNonW, Ev.isiW, Ev.kdOf, vI, vD, vB, vF, setN, putS, setG, setGs, nxO, truth, Ev.sl, Ev.ix, blt, wipeS, W.at, handed, change, setFld, given, fldK, Ev.cellOf, moTy, moC, setIt, setF, srcOk, srcSt, fgtS, Sto.hold, pureOf, belowW, belowC, below, belows, pureI, pureIs, guardP_pos, guardN_pos, Option.map_some, Option.bind_some, Nat.reduceAdd, Nat.reduceSub, Nat.reduceLT, Nat.reduceLeDiff, List.replicate, List.cons_append, List.nil_append, List.getElem?_cons_zero, List.getElem?_cons_succ, List.set_cons_succ, List.set_cons_zero, if_true, if_false, Bool.false_eq_true, Bool.not_true, Bool.not_false, Bool.and_true, Bool.true_and, Bool.or_true, Bool.true_or, reduceCtorEq, eq_self, decide_true, decide_false, decide_not, List.take_succ_cons, List.take_zero, List.length_map, Int.toNat_natCast]) (by omega) hp
  exact WP.ret (retD (join_pick h3 (by omega))) ⟨l, ⟨by omega, fun c hc => hmo c (h1 c hc)⟩, rfl, rfl⟩
end L72
namespace L72
open PySem PySem.Spec
open PyProof.Rows hiding St
open L2 Ev PP
theorem slT {Γ : Gam} {S : Sto} {σ : List Sl} {a : E} {lo hi : Eo} {z : Str} {k1 : Kd} {l h : Option Int} (h1 : ev Γ S a σ = some (.ok (.str z, k1))) (h2 : evo Γ S lo σ = some (.ok l)) (h3 : evo Γ S hi σ = some (.ok h)) (hz : z.length ≤ 16777216) : ev Γ S (.sl a lo hi) σ = some (.ok (.str (cutS z l h), .ro)) := by
  unfold Ev.ev
  rw [h1, h2, h3]
  simp (disch := assumption) only [bok, W.at, Ev.sl, guardN_pos, vD, mok]
theorem idx_len (k : Int) (n : Nat) : (Builtin.Str.strSliceIndices none none k n).length ≤ n := by
  unfold Builtin.Str.strSliceIndices
  refine sliceRange_length_le _ _ _ _ (fun h => ?_) fun h => ?_
  · simp [h]
  · simp [h]
theorem stepT_ok {l : List Nat} {k : Int} (h : okT l) : ∃ l', okT l' ∧ stepT (SX.S l) k = SX.S l' := by
  unfold stepT
  split
  · exact ⟨l, h, rfl⟩
  · refine ⟨(Builtin.Str.strSliceIndices none none k (SX.S l).length).filterMap (l[·]?), ⟨?_, fun c hc => ?_⟩, ?_⟩
    · have := idx_len k (SX.S l).length
      have h2 := List.length_filterMap_le (l[·]?) (Builtin.Str.strSliceIndices none none k (SX.S l).length)
      rw [SX.S_len] at *
      have := h.1
      omega
    · obtain ⟨i, _, e⟩ := List.mem_filterMap.mp hc
      exact h.2 c (List.mem_of_getElem? e)
    · congr 2
      refine congrFun (congrArg List.filterMap (funext fun i => ?_)) _
      simp
theorem two {x1 x2 i : Int} (h0 : 0 ≤ i) (hi : i < 2) : ∃ n, (n = x1 ∨ n = x2) ∧ L2.atI [D.int x1, .int x2] i = some (.int n) := by
  have : i = 0 ∨ i = 1 := by omega
  rcases this with rfl | rfl
  · exact ⟨x1, .inl rfl, rfl⟩
  · exact ⟨x2, .inr rfl, rfl⟩
theorem run_other {S : Sto} {a : List Nat} (c : Int) (ha : okT a) : ∃ l, okT l ∧ fnG Gm5 2 6 b_law_other S [.str (SX.S a), .int c] = some (.ok (.str (SX.S l)) S) := by
  suffices h : WP (fnRun Gm5 6 b_law_other S [.str (SX.S a), .int c]) fun w S' => ∃ l, okT l ∧ w = .str (SX.S l) ∧ S' = S by
    obtain ⟨w, S', e, l, h1, rfl, rfl⟩ := h
    exact ⟨l, h1, fnG_ok rfl e⟩
  refine WP.fn ?_
  change WP (runs Gm5 _ [Sl.ro (.str (SX.S a)), .ro (.int c), .out, .out, .out, .out] S) _
  unfold b_law_other
  have f0 := drawn_pos c 70
  refine WP.seq (σ' := [Sl.ro (.str (SX.S a)), .ro (.int c), .ro (.int (drawn c 70)), .out, .out, .out]) (S' := S) (by simp (disch := first | omega | decide) only [mapM_nil, mapM_cons1, List.map_cons, List.map_nil, List.length_cons, List.length_nil, Ev.runs, Ev.run, Ev.evI, Ev.evIs, Ev.ev, Ev.evs, Ev.evo, Ev.evc, Ev.evi, Ev.tstV, Ev.tstI', Ev.asInt, bok, mok, bokS, mokS, upok, Ev.bin, Ev.binI, Ev.cmp, Ev.cmpI, Ev.cmpS, Ev.isNonW, Ev.isiW, Ev.kdOf, vI, vD, vB, vF, setN, putS, setG, setGs, nxO, truth, Ev.sl, Ev.ix, blt, wipeS, W.at, handed, change, setFld, given, fldK, Ev.cellOf, moTy, moC, setIt, setF, srcOk, srcSt, fgtS, Sto.hold, pureOf, belowW, belowC, below, belows, pureI, pureIs, guardP_pos, guardN_pos, Option.map_some, Option.bind_some, Nat.reduceAdd, Nat.reduceSub, Nat.reduceLT, Nat.reduceLeDiff, List.replicate, List.cons_append, List.nil_append, List.getElem?_cons_zero, List.getElem?_cons_succ, List.set_cons_succ, List.set_cons_zero, if_true, if_false, Bool.false_eq_true, Bool.not_true, Bool.not_false, Bool.and_true, Bool.true_and, Bool.or_true, Bool.true_or, reduceCtorEq, eq_self, decide_true, decide_false, decide_not, List.take_succ_cons, List.take_zero, List.length_map, Int.toNat_natCast, lk5_law_mixed, run_mixed]) ?_
  generalize drawn c 70 = f at f0
  refine WP.cons (WP.ite (k := decide (f % 6 = 0)) (S' := S) (by simp (disch := first | omega | decide) only [mapM_nil, mapM_cons1, List.map_cons, List.map_nil, List.length_cons, List.length_nil, Ev.runs, Ev.run, Ev.evI, Ev.evIs, Ev.ev, Ev.evs, Ev.evo, Ev.evc, Ev.evi, Ev.tstV, Ev.tstI', Ev.asInt, bok, mok, bokS, mokS, upok, Ev.bin, Ev.binI, Ev.cmp, Ev.cmpI, Ev.cmpS, Ev.isNonW, Ev.isiW, Ev.kdOf, vI, vD, vB, vF, setN, putS, setG, setGs, nxO, truth, Ev.sl, Ev.ix, blt, wipeS, W.at, handed, change, setFld, given, fldK, Ev.cellOf, moTy, moC, setIt, setF, srcOk, srcSt, fgtS, Sto.hold, pureOf, belowW, belowC, below, belows, pureI, pureIs, guardP_pos, guardN_pos, Option.map_some, Option.bind_some, Nat.reduceAdd, Nat.reduceSub, Nat.reduceLT, Nat.reduceLeDiff, List.replicate, List.cons_append, List.nil_append, List.getElem?_cons_zero, List.getElem?_cons_succ, List.set_cons_succ, List.set_cons_zero, if_true, if_false, Bool.false_eq_true, Bool.not_true, Bool.not_false, Bool.and_true, Bool.true_and, Bool.or_true, Bool.true_or, reduceCtorEq, eq_self, decide_true, decide_false, decide_not, List.take_succ_cons, List.take_zero, List.length_map, Int.toNat_natCast]) (fun _ => ?_) fun _ => WP.nil ?_)
  · obtain ⟨l, hl, he⟩ := run_text (S := S.hold) (c / 7 + 13)
    exact WP.ret (retD (callOf lk5_law_text (ws := [.int (c / 7 + 13)]) (by simp (disch := first | omega | decide) only [mapM_nil, mapM_cons1, List.map_cons, List.map_nil, List.length_cons, List.length_nil, Ev.runs, Ev.run, Ev.evI, Ev.evIs, Ev.ev, Ev.evs, Ev.evo, Ev.evc, Ev.evi, Ev.tstV, Ev.tstI', Ev.asInt, bok, mok, bokS, mokS, upok, Ev.bin, Ev.binI, Ev.cmp, Ev.cmpI, Ev.cmpS, Ev.isNonW, Ev.isiW, Ev.kdOf, vI, vD, vB, vF, setN, putS, setG, setGs, nxO, truth, Ev.sl, Ev.ix, blt, wipeS, W.at, handed, change, setFld, given, fldK, Ev.cellOf, moTy, moC, setIt, setF, srcOk, srcSt, fgtS, Sto.hold, pureOf, belowW, belowC, below, belows, pureI, pureIs, guardP_pos, guardN_pos, Option.map_some, Option.bind_some, Nat.reduceAdd, Nat.reduceSub, Nat.reduceLT, Nat.reduceLeDiff, List.replicate, List.cons_append, List.nil_append, List.getElem?_cons_zero, List.getElem?_cons_succ, List.set_cons_succ, List.set_cons_zero, if_true, if_false, Bool.false_eq_true, Bool.not_true, Bool.not_false, Bool.and_true, Bool.true_and, Bool.or_true, Bool.true_or, reduceCtorEq, eq_self, decide_true, decide_false, decide_not, List.take_succ_cons, List.take_zero, List.length_map, Int.toNat_natCast]) he rfl)) ⟨l, hl, rfl, rfl⟩
  refine WP.cons (WP.ite (k := decide (f % 6 = 1)) (S' := S) (by simp (disch := first | omega | decide) only [mapM_nil, mapM_cons1, List.map_cons, List.map_nil, List.length_cons, List.length_nil, Ev.runs, Ev.run, Ev.evI, Ev.evIs, Ev.ev, Ev.evs, Ev.evo, Ev.evc, Ev.evi, Ev.tstV, Ev.tstI', Ev.asInt, bok, mok, bokS, mokS, upok, Ev.bin, Ev.binI, Ev.cmp, Ev.cmpI, Ev.cmpS, Ev.isNonW, Ev.isiW, Ev.kdOf, vI, vD, vB, vF, setN, putS, setG, setGs, nxO, truth, Ev.sl, Ev.ix, blt, wipeS, W.at, handed, change, setFld, given, fldK, Ev.cellOf, moTy, moC, setIt, setF, srcOk, srcSt, fgtS, Sto.hold, pureOf, belowW, belowC, below, belows, pureI, pureIs, guardP_pos, guardN_pos, Option.map_some, Option.bind_some, Nat.reduceAdd, Nat.reduceSub, Nat.reduceLT, Nat.reduceLeDiff, List.replicate, List.cons_append, List.nil_append, List.getElem?_cons_zero, List.getElem?_cons_succ, List.set_cons_succ, List.set_cons_zero, if_true, if_false, Bool.false_eq_true, Bool.not_true, Bool.not_false, Bool.and_true, Bool.true_and, Bool.or_true, Bool.true_or, reduceCtorEq, eq_self, decide_true, decide_false, decide_not, List.take_succ_cons, List.take_zero, List.length_map, Int.toNat_natCast]) (fun _ => ?_) fun _ => WP.nil ?_)
  · obtain ⟨n, hn, hna⟩ := two (x1 := 1) (x2 := -1) (i := f / 6 % 2) (by omega) (by omega)
    obtain ⟨l, hl, hst⟩ := stepT_ok (k := n) ha
    have hg : n ≠ 0 ∧ (SX.S l).length ≤ sizeLine := ⟨by omega, by rw [SX.S_len, sizeLine_eq]; have := hl.1; omega⟩
    refine WP.ret (retD (d := .str (SX.S l)) (k1 := .ro) ?_) ⟨l, hl, rfl, rfl⟩
    have e : ev Gm5 S (.ix (.lst (.cons (.int 1) (.cons (.neg (.int 1)) .nil))) (.bin .Mod (.bin .FloorDiv (.var 2) (.int 6)) (.int 2))) [Sl.ro (.str (SX.S a)), .ro (.int c), .ro (.int f), .out, .out, .out] = some (.ok (.int n, .ro)) :=
      ixOf (x := (.c (.lst [.int 1, .int (-1)]), .fr)) (y := (.int (f / 6 % 2), .ro)) (by simp (disch := first | omega | decide) only [mapM_nil, mapM_cons1, List.map_cons, List.map_nil, List.length_cons, List.length_nil, Ev.runs, Ev.run, Ev.evI, Ev.evIs, Ev.ev, Ev.evs, Ev.evo, Ev.evc, Ev.evi, Ev.tstV, Ev.tstI', Ev.asInt, bok, mok, bokS, mokS, upok, Ev.bin, Ev.binI, Ev.cmp, Ev.cmpI, Ev.cmpS, Ev.isNonW, Ev.isiW, Ev.kdOf, vI, vD, vB, vF, setN, putS, setG, setGs, nxO, truth, Ev.sl, Ev.ix, blt, wipeS, W.at, handed, change, setFld, given, fldK, Ev.cellOf, moTy, moC, setIt, setF, srcOk, srcSt, fgtS, Sto.hold, pureOf, belowW, belowC, below, belows, pureI, pureIs, guardP_pos, guardN_pos, Option.map_some, Option.bind_some, Nat.reduceAdd, Nat.reduceSub, Nat.reduceLT, Nat.reduceLeDiff, List.replicate, List.cons_append, List.nil_append, List.getElem?_cons_zero, List.getElem?_cons_succ, List.set_cons_succ, List.set_cons_zero, if_true, if_false, Bool.false_eq_true, Bool.not_true, Bool.not_false, Bool.and_true, Bool.true_and, Bool.or_true, Bool.true_or, reduceCtorEq, eq_self, decide_true, decide_false, decide_not, List.take_succ_cons, List.take_zero, List.length_map, Int.toNat_natCast]) (by simp (disch := first | omega | decide) only [mapM_nil, mapM_cons1, List.map_cons, List.map_nil, List.length_cons, List.length_nil, Ev.runs, Ev.run, Ev.evI, Ev.evIs, Ev.ev, Ev.evs, Ev.evo, Ev.evc, Ev.evi, Ev.tstV, Ev.tstI', Ev.asInt, bok, mok, bokS, mokS, upok, Ev.bin, Ev.binI, Ev.cmp, Ev.cmpI, Ev.cmpS, Ev.isNonW, Ev.isiW, Ev.kdOf, vI, vD, vB, vF, setN, putS, setG, setGs, nxO, truth, Ev.sl, Ev.ix, blt, wipeS, W.at, handed, change, setFld, given, fldK, Ev.cellOf, moTy, moC, setIt, setF, srcOk, srcSt, fgtS, Sto.hold, pureOf, belowW, belowC, below, belows, pureI, pureIs, guardP_pos, guardN_pos, Option.map_some, Option.bind_some, Nat.reduceAdd, Nat.reduceSub, Nat.reduceLT, Nat.reduceLeDiff, List.replicate, List.cons_append, List.nil_append, List.getElem?_cons_zero, List.getElem?_cons_succ, List.set_cons_succ, List.set_cons_zero, if_true, if_false, Bool.false_eq_true, Bool.not_true, Bool.not_false, Bool.and_true, Bool.true_and, Bool.or_true, Bool.true_or, reduceCtorEq, eq_self, decide_true, decide_false, decide_not, List.take_succ_cons, List.take_zero, List.length_map, Int.toNat_natCast]) (atL hna)
    unfold Ev.ev
    rw [esC (varO (i := 0) rfl) (esC e esN), bok]
    simp (disch := exact hg) only [List.map_cons, List.map_nil, W.at, spW, guardP_pos, hst, vD, mok]
  refine WP.cons (WP.for_ (xs := rngD 0 (f / 12 % 9).toNat) (ls := []) (fun i σ S' => S = S' ∧ ∃ l y3 y4 y5, okT l ∧ σ = [Sl.ro (.str (SX.S l)), .ro (.int c), .ro (.int f), y3, y4, y5]) ?_ rfl ⟨rfl, a, _, _, _, ha, rfl⟩ ?_ ?_)
  · simp (disch := first | omega | decide) only [mapM_nil, mapM_cons1, List.map_cons, List.map_nil, List.length_cons, List.length_nil, Ev.runs, Ev.run, Ev.evI, Ev.evIs, Ev.ev, Ev.evs, Ev.evo, Ev.evc, Ev.evi, Ev.tstV, Ev.tstI', Ev.asInt, bok, mok, bokS, mokS, upok, Ev.bin, Ev.binI, Ev.cmp, Ev.cmpI, Ev.cmpS, Ev.isNonW, Ev.isiW, Ev.kdOf, vI, vD, vB, vF, setN, putS, setG, setGs, nxO, truth, Ev.sl, Ev.ix, blt, wipeS, W.at, handed, change, setFld, given, fldK, Ev.cellOf, moTy, moC, setIt, setF, srcOk, srcSt, fgtS, Sto.hold, pureOf, belowW, belowC, below, belows, pureI, pureIs, guardP_pos, guardN_pos, Option.map_some, Option.bind_some, Nat.reduceAdd, Nat.reduceSub, Nat.reduceLT, Nat.reduceLeDiff, List.replicate, List.cons_append, List.nil_append, List.getElem?_cons_zero, List.getElem?_cons_succ, List.set_cons_succ, List.set_cons_zero, if_true, if_false, Bool.false_eq_true, Bool.not_true, Bool.not_false, Bool.and_true, Bool.true_and, Bool.or_true, Bool.true_or, reduceCtorEq, eq_self, decide_true, decide_false, decide_not, List.take_succ_cons, List.take_zero, List.length_map, Int.toNat_natCast]
  · rintro i x σ _ hx ⟨rfl, l, y3, y4, y5, hl, rfl⟩
    obtain ⟨hi, rfl⟩ := rngD_get hx
    have ez : (0 : Int) + (i : Int) = (i : Int) := by omega
    rw [ez]
    have hll := hl.1
    refine ⟨[Sl.ro (.str (SX.S l)), .ro (.int c), .ro (.int f), .ro (.int (i : Int)), y4, y5], rfl, ?_⟩
    have t0 := drawn_pos c (71 + (i : Int))
    refine WP.seq (σ' := [Sl.ro (.str (SX.S l)), .ro (.int c), .ro (.int f), .ro (.int (i : Int)), .ro (.int (drawn c (71 + (i : Int)))), y5]) (S' := S) (by simp (disch := first | omega | decide) only [mapM_nil, mapM_cons1, List.map_cons, List.map_nil, List.length_cons, List.length_nil, Ev.runs, Ev.run, Ev.evI, Ev.evIs, Ev.ev, Ev.evs, Ev.evo, Ev.evc, Ev.evi, Ev.tstV, Ev.tstI', Ev.asInt, bok, mok, bokS, mokS, upok, Ev.bin, Ev.binI, Ev.cmp, Ev.cmpI, Ev.cmpS, Ev.isNonW, Ev.isiW, Ev.kdOf, vI, vD, vB, vF, setN, putS, setG, setGs, nxO, truth, Ev.sl, Ev.ix, blt, wipeS, W.at, handed, change, setFld, given, fldK, Ev.cellOf, moTy, moC, setIt, setF, srcOk, srcSt, fgtS, Sto.hold, pureOf, belowW, belowC, below, belows, pureI, pureIs, guardP_pos, guardN_pos, Option.map_some, Option.bind_some, Nat.reduceAdd, Nat.reduceSub, Nat.reduceLT, Nat.reduceLeDiff, List.replicate, List.cons_append, List.nil_append, List.getElem?_cons_zero, List.getElem?_cons_succ, List.set_cons_succ, List.set_cons_zero, if_true, if_false, Bool.false_eq_true, Bool.not_true, Bool.not_false, Bool.and_true, Bool.true_and, Bool.or_true, Bool.true_or, reduceCtorEq, eq_self, decide_true, decide_false, decide_not, List.take_succ_cons, List.take_zero, List.length_map, Int.toNat_natCast, lk5_law_mixed, run_mixed]) ?_
    generalize drawn c (71 + (i : Int)) = t at t0
    have p0 : 0 ≤ t / 2 % ((l.length : Int) + 1) := Int.emod_nonneg _ (by omega)
    have p1 : t / 2 % ((l.length : Int) + 1) < (l.length : Int) + 1 := Int.emod_lt_of_pos _ (by omega)
    refine WP.seq (σ' := [Sl.ro (.str (SX.S l)), .ro (.int c), .ro (.int f), .ro (.int (i : Int)), .ro (.int t), .ro (.int (t / 2 % ((l.length : Int) + 1)))]) (S' := S) (by simp (disch := first | omega | decide) only [mapM_nil, mapM_cons1, List.map_cons, List.map_nil, List.length_cons, List.length_nil, Ev.runs, Ev.run, Ev.evI, Ev.evIs, Ev.ev, Ev.evs, Ev.evo, Ev.evc, Ev.evi, Ev.tstV, Ev.tstI', Ev.asInt, bok, mok, bokS, mokS, upok, Ev.bin, Ev.binI, Ev.cmp, Ev.cmpI, Ev.cmpS, Ev.isNonW, Ev.isiW, Ev.kdOf, vI, vD, vB, vF, setN, putS, setG, setGs, nxO, truth, Ev.sl, Ev.ix, blt, wipeS, W.at, handed, change, setFld, given, fldK, Ev.cellOf, moTy, moC, setIt, setF, srcOk, srcSt, fgtS, Sto.hold, pureOf, belowW, belowC, below, belows, pureI, pureIs, guardP_pos, guardN_pos, Option.map_some, Option.bind_some, Nat.reduceAdd, Nat.reduceSub, Nat.reduceLT, Nat.reduceLeDiff, List.replicate, List.cons_append, List.nil_append, List.getElem?_cons_zero, List.getElem?_cons_succ, List.set_cons_succ, List.set_cons_zero, if_true, if_false, Bool.false_eq_true, Bool.not_true, Bool.not_false, Bool.and_true, Bool.true_and, Bool.or_true, Bool.true_or, reduceCtorEq, eq_self, decide_true, decide_false, decide_not, List.take_succ_cons, List.take_zero, List.length_map, Int.toNat_natCast, SX.S_len]) ?_
    generalize t / 2 % ((l.length : Int) + 1) = p at p0 p1
    have v0 : ev Gm5 S (.var 0) [Sl.ro (.str (SX.S l)), .ro (.int c), .ro (.int f), .ro (.int (i : Int)), .ro (.int t), .ro (.int p)] = some (.ok (.str (SX.S l), .ro)) := varO rfl
    have v5 : ev Gm5 S (.var 5) [Sl.ro (.str (SX.S l)), .ro (.int c), .ro (.int f), .ro (.int (i : Int)), .ro (.int t), .ro (.int p)] = some (.ok (.int p, .ro)) := varO rfl
    have s1 := slT v0 evoN (evoV v5) (by rw [SX.S_len]; omega)
    rw [cutS_to p0] at s1
    have htest : tstI' (evI Gm5 (.p (.and (.cmp .Eq (.bin .Mod (.var 4) (.int 2)) (.int 0)) (.cmp .Lt (.blt .len (.cons (.var 0) .nil)) (.int 60)))) [Sl.ro (.str (SX.S l)), .ro (.int c), .ro (.int f), .ro (.int (i : Int)), .ro (.int t), .ro (.int p)] S) = some (.ok (decide (t % 2 = 0) && decide ((l.length : Int) < 60)) S) := by
      by_cases h : t % 2 = 0
      · simp (disch := first | omega | decide) only [mapM_nil, mapM_cons1, List.map_cons, List.map_nil, List.length_cons, List.length_nil, Ev.runs, Ev.run, Ev.evI, Ev.evIs, Ev.ev, Ev.evs, Ev.evo, Ev.evc, Ev.evi, Ev.tstV, Ev.tstI', Ev.asInt, bok, mok, bokS, mokS, upok, Ev.bin, Ev.binI, Ev.cmp, Ev.cmpI, Ev.cmpS, Ev.isNonW, Ev.isiW, Ev.kdOf, vI, vD, vB, vF, setN, putS, setG, setGs, nxO, truth, Ev.sl, Ev.ix, blt, wipeS, W.at, handed, change, setFld, given, fldK, Ev.cellOf, moTy, moC, setIt, setF, srcOk, srcSt, fgtS, Sto.hold, pureOf, belowW, belowC, below, belows, pureI, pureIs, guardP_pos, guardN_pos, Option.map_some, Option.bind_some, Nat.reduceAdd, Nat.reduceSub, Nat.reduceLT, Nat.reduceLeDiff, List.replicate, List.cons_append, List.nil_append, List.getElem?_cons_zero, List.getElem?_cons_succ, List.set_cons_succ, List.set_cons_zero, if_true, if_false, Bool.false_eq_true, Bool.not_true, Bool.not_false, Bool.and_true, Bool.true_and, Bool.or_true, Bool.true_or, reduceCtorEq, eq_self, decide_true, decide_false, decide_not, List.take_succ_cons, List.take_zero, List.length_map, Int.toNat_natCast, SX.S_len, h]
      · simp (disch := first | omega | decide) only [mapM_nil, mapM_cons1, List.map_cons, List.map_nil, List.length_cons, List.length_nil, Ev.runs, Ev.run, Ev.evI, Ev.evIs, Ev.ev, Ev.evs, Ev.evo, Ev.evc, Ev.evi, Ev.tstV, Ev.tstI', Ev.asInt, bok, mok, bokS, mokS, upok, Ev.bin, Ev.binI, Ev.cmp, Ev.cmpI, Ev.cmpS, Ev.isNonW, Ev.isiW, Ev.kdOf, vI, vD, vB, vF, setN, putS, setG, setGs, nxO, truth, Ev.sl, Ev.ix, blt, wipeS, W.at, handed, change, setFld, given, fldK, Ev.cellOf, moTy, moC, setIt, setF, srcOk, srcSt, fgtS, Sto.hold, pureOf, belowW, belowC, below, belows, pureI, pureIs, guardP_pos, guardN_pos, Option.map_some, Option.bind_some, Nat.reduceAdd, Nat.reduceSub, Nat.reduceLT, Nat.reduceLeDiff, List.replicate, List.cons_append, List.nil_append, List.getElem?_cons_zero, List.getElem?_cons_succ, List.set_cons_succ, List.set_cons_zero, if_true, if_false, Bool.false_eq_true, Bool.not_true, Bool.not_false, Bool.and_true, Bool.true_and, Bool.or_true, Bool.true_or, reduceCtorEq, eq_self, decide_true, decide_false, decide_not, List.take_succ_cons, List.take_zero, List.length_map, Int.toNat_natCast, SX.S_len, h, Bool.false_and]
    refine WP.cons (WP.ite htest (fun h => ?_) fun _ => ?_)
    · simp only [Bool.and_eq_true, decide_eq_true_eq] at h
      have xS : ("x" : Str) = SX.S [120] := by decide +kernel
      have g : (SX.S l).length + (SX.S [120]).length ≤ 16777216 := by rw [SX.S_len, SX.S_len]; simp; omega
      have e1 : ev Gm5 S (.bin .Add (.var 0) (.str "x")) [Sl.ro (.str (SX.S l)), .ro (.int c), .ro (.int f), .ro (.int (i : Int)), .ro (.int t), .ro (.int p)] = some (.ok (.str (SX.S (l ++ [120])), .ro)) :=
        binS v0 (show ev Gm5 S (.str "x") _ = some (.ok (.str (SX.S [120]), .ro)) by rw [← xS]; unfold Ev.ev; rfl) (by simp; omega)
      have q0 : 0 ≤ t / 200 % ((l.length : Int) + 1) := Int.emod_nonneg _ (by omega)
      have q1 : t / 200 % ((l.length : Int) + 1) < (l.length : Int) + 1 := Int.emod_lt_of_pos _ (by omega)
      obtain ⟨z, hz, k, e2⟩ := ix_pick e1 (show ev Gm5 S (.bin .Mod (.bin .FloorDiv (.var 4) (.int 200)) (.bin .Add (.blt .len (.cons (.var 0) .nil)) (.int 1))) [Sl.ro (.str (SX.S l)), .ro (.int c), .ro (.int f), .ro (.int (i : Int)), .ro (.int t), .ro (.int p)] = some (.ok (.int (t / 200 % ((l.length : Int) + 1)), .ro)) by simp (disch := first | omega | decide) only [mapM_nil, mapM_cons1, List.map_cons, List.map_nil, List.length_cons, List.length_nil, Ev.runs, Ev.run, Ev.evI, Ev.evIs, Ev.ev, Ev.evs, Ev.evo, Ev.evc, Ev.evi, Ev.tstV, Ev.tstI', Ev.asInt, bok, mok, bokS, mokS, upok, Ev.bin, Ev.binI, Ev.cmp, Ev.cmpI, Ev.cmpS, Ev.isNonW, Ev.isiW, Ev.kdOf, vI, vD, vB, vF, setN, putS, setG, setGs, nxO, truth, Ev.sl, Ev.ix, blt, wipeS, W.at, handed, change, setFld, given, fldK, Ev.cellOf, moTy, moC, setIt, setF, srcOk, srcSt, fgtS, Sto.hold, pureOf, belowW, belowC, below, belows, pureI, pureIs, guardP_pos, guardN_pos, Option.map_some, Option.bind_some, Nat.reduceAdd, Nat.reduceSub, Nat.reduceLT, Nat.reduceLeDiff, List.replicate, List.cons_append, List.nil_append, List.getElem?_cons_zero, List.getElem?_cons_succ, List.set_cons_succ, List.set_cons_zero, if_true, if_false, Bool.false_eq_true, Bool.not_true, Bool.not_false, Bool.and_true, Bool.true_and, Bool.or_true, Bool.true_or, reduceCtorEq, eq_self, decide_true, decide_false, decide_not, List.take_succ_cons, List.take_zero, List.length_map, Int.toNat_natCast, SX.S_len]) (by simp; omega) q0 (by simp; omega)
      have hz2 : z < 128 := by
        rcases List.mem_append.mp hz with hz | hz
        · exact hl.2 z hz
        · have : z = 120 := by simpa using hz
          omega
      have s2 := slT v0 (evoV v5) evoN (by rw [SX.S_len]; omega)
      rw [cutS_from p0] at s2
      refine WP.seq (asgD (i := 0) (binS (binS s1 e2 (by rw [List.length_take]; simp; omega)) s2 (by rw [List.length_append, List.length_take, List.length_drop]; simp; omega)) (by simp)) (WP.nil (WP.nil ⟨rfl, l.take p.toNat ++ [z] ++ l.drop p.toNat, .ro (.int (i : Int)), .ro (.int t), .ro (.int p), ⟨?_, fun d hd => ?_⟩, rfl⟩))
      · rw [List.length_append, List.length_append, List.length_take, List.length_drop]
        simp
        omega
      · rcases List.mem_append.mp hd with hd | hd
        · rcases List.mem_append.mp hd with hd | hd
          · exact hl.2 d (List.mem_of_mem_take hd)
          · have : d = z := by simpa using hd
            omega
        · exact hl.2 d (List.mem_of_mem_drop hd)
    · have s3 := slT v0 (evoV (show ev Gm5 S (.bin .Add (.var 5) (.int 1)) [Sl.ro (.str (SX.S l)), .ro (.int c), .ro (.int f), .ro (.int (i : Int)), .ro (.int t), .ro (.int p)] = some (.ok (.int (p + 1), .ro)) by simp (disch := first | omega | decide) only [mapM_nil, mapM_cons1, List.map_cons, List.map_nil, List.length_cons, List.length_nil, Ev.runs, Ev.run, Ev.evI, Ev.evIs, Ev.ev, Ev.evs, Ev.evo, Ev.evc, Ev.evi, Ev.tstV, Ev.tstI', Ev.asInt, bok, mok, bokS, mokS, upok, Ev.bin, Ev.binI, Ev.cmp, Ev.cmpI, Ev.cmpS, Ev.isNonW, Ev.isiW, Ev.kdOf, vI, vD, vB, vF, setN, putS, setG, setGs, nxO, truth, Ev.sl, Ev.ix, blt, wipeS, W.at, handed, change, setFld, given, fldK, Ev.cellOf, moTy, moC, setIt, setF, srcOk, srcSt, fgtS, Sto.hold, pureOf, belowW, belowC, below, belows, pureI, pureIs, guardP_pos, guardN_pos, Option.map_some, Option.bind_some, Nat.reduceAdd, Nat.reduceSub, Nat.reduceLT, Nat.reduceLeDiff, List.replicate, List.cons_append, List.nil_append, List.getElem?_cons_zero, List.getElem?_cons_succ, List.set_cons_succ, List.set_cons_zero, if_true, if_false, Bool.false_eq_true, Bool.not_true, Bool.not_false, Bool.and_true, Bool.true_and, Bool.or_true, Bool.true_or, reduceCtorEq, eq_self, decide_true, decide_false, decide_not, List.take_succ_cons, List.take_zero, List.length_map, Int.toNat_natCast])) evoN (by rw [SX.S_len]; omega)
      rw [cutS_from (by omega)] at s3
      refine WP.seq (asgD (i := 0) (binS s1 s3 (by rw [List.length_take, List.length_drop]; omega)) (by simp)) (WP.nil (WP.nil ⟨rfl, l.take p.toNat ++ l.drop (p + 1).toNat, .ro (.int (i : Int)), .ro (.int t), .ro (.int p), ⟨?_, fun d hd => ?_⟩, rfl⟩))
      · rw [List.length_append, List.length_take, List.length_drop]
        omega
      · rcases List.mem_append.mp hd with hd | hd
        · exact hl.2 d (List.mem_of_mem_take hd)
        · exact hl.2 d (List.mem_of_mem_drop hd)
  · rintro σ _ ⟨rfl, l, y3, y4, y5, hl, rfl⟩
    exact WP.ret (retD (varO (i := 0) rfl)) ⟨l, hl, rfl, rfl⟩
end L72
namespace L72
open PySem PySem.Spec
open PyProof.Rows hiding St
open L2 Ev PP
theorem tab_below {n : Nat} (a b : List Nat) (k : Nat) : belows n (tabD a b k) = true := by
  have h2 : ∀ (i : Nat) (m : List Nat), belows n (m.map fun j => D.int (pr a b i j : Nat)) = true := by
    intro i m
    induction m with
    | nil => rfl
    | cons _ m ih2 => simpa [belows, below] using ih2
  have : ∀ l : List Nat, belows n (l.map fun i => D.fl (rowD a b i (b.length + 1))) = true := by
    intro l
    induction l with
    | nil => rfl
    | cons i l ih =>
      have h3 : belows n (rowD a b i (b.length + 1)) = true := h2 i _
      simp only [List.map_cons, belows, below, h3, ih, Bool.and_self]
  exact this _
theorem enc_below {n : Nat} (l : List Stp) : belows n (l.map enc) = true := by
  induction l with
  | nil => rfl
  | cons s l ih => cases s <;> simpa [belows, below, enc] using ih
theorem okDs_enc (l : List Stp) : okDs 2 (l.map enc) = true := okDs_all.mpr fun x hx => by
  obtain ⟨s, _, rfl⟩ := List.mem_map.mp hx
  exact eq_enc s
theorem run_law {ns : List Int} (hl : ns.length ≤ 63) : ∃ S', fnG Gm7 1 6 b_law ⟨[], 0⟩ [.lst (ns.map D.int)] = some (.ok (.bl true) S') := by
  suffices h : WP (fnG Gm7 1 6 b_law ⟨[], 0⟩ [.lst (ns.map D.int)]) fun w _ => w = .bl true by
    obtain ⟨w, S', e, rfl⟩ := h
    exact ⟨S', e⟩
  refine WP.fnG rfl (WP.fn ?_)
  change WP (runs Gm7 _ [Sl.ro (.c (.lst (ns.map D.int))), .out, .out, .out, .out, .out] ⟨[], 0⟩) _
  unfold b_law
  obtain ⟨c0, h0⟩ := run_cell (S := (⟨[], 0⟩ : Sto).hold) (k := 0) hl
  obtain ⟨c1, h1⟩ := run_cell (S := (⟨[], 0⟩ : Sto).hold) (k := 1) hl
  have cell : ∀ (k : Nat) (c : Int) (σ : List Sl), σ[0]? = some (Sl.ro (.c (.lst (ns.map D.int)))) → fnG Gm3 2 2 b_law_cell_at (⟨[], 0⟩ : Sto).hold [.c (.lst (ns.map D.int)), .int (k : Nat)] = some (.ok (.int c) (⟨[], 0⟩ : Sto).hold) → ev Gm7 ⟨[], 0⟩ (.call "_law_cell_at" (.cons (.var 0) (.cons (.int (k : Nat)) .nil))) σ = some (.ok (.int c, .ro)) := fun k c σ h hr => callOf lk7_law_cell_at (esC (varO h) (esC (by unfold Ev.ev; rfl) esN)) hr rfl
  obtain ⟨a, ha, hta⟩ := run_text (S := (⟨[], 0⟩ : Sto).hold) c0
  refine WP.seq (asgD (i := 1) (callOf lk7_law_text (esC (cell 0 c0 _ rfl h0) esN) hta rfl) (by simp)) ?_
  obtain ⟨b, hb, htb⟩ := run_other (S := (⟨[], 0⟩ : Sto).hold) c1 ha
  refine WP.seq (asgD (i := 2) (callOf lk7_law_other (esC (varO (i := 1) (w := .str (SX.S a)) rfl) (esC (cell 1 c1 _ rfl h1) esN)) htb rfl) (by simp)) ?_
  change WP (runs Gm7 _ [Sl.ro (.c (.lst (ns.map D.int))), .ro (.str (SX.S a)), .ro (.str (SX.S b)), .out, .out, .out] ⟨[], 0⟩) _
  have ha1 := ha.1
  have hb1 := hb.1
  obtain ⟨l, hB, hs⟩ := run_steps (S := (⟨[], 0⟩ : Sto).hold) (a := a) (b := b) (by omega) (by omega)
  refine WP.seq (asgL (i := 3) (callOf lk7_steps (esC (varO (i := 1) (w := .str (SX.S a)) rfl) (esC (varO (i := 2) (w := .str (SX.S b)) rfl) esN)) hs (enc_below l)) (by simp)) ?_
  change WP (runs Gm7 _ [Sl.ro (.c (.lst (ns.map D.int))), .ro (.str (SX.S a)), .ro (.str (SX.S b)), .own (.c (.lst (l.map enc))), .out, .out] ⟨[], 0⟩) _
  have lenOf : ∀ (σ : List Sl) (i : Nat) (t : List Nat), σ[i]? = some (Sl.ro (.str (SX.S t))) → t.length ≤ 60 → ev Gm7 ⟨[], 0⟩ (.blt .len (.cons (.var i) .nil)) σ = some (.ok (.int (t.length : Nat), .ro)) := fun σ i t h ht => by
    unfold Ev.ev
    rw [esC (varO h) esN, bok]
    simp (disch := first | omega | decide) only [mapM_nil, mapM_cons1, List.map_cons, List.map_nil, List.length_cons, List.length_nil, Ev.runs, Ev.run, Ev.evI, Ev.evIs, Ev.ev, Ev.evs, Ev.evo, Ev.evc, Ev.evi, Ev.tstV, Ev.tstI', Ev.asInt, bok, mok, bokS, mokS, upok, Ev.bin, Ev.binI, Ev.cmp, Ev.cmpI, Ev.cmpS, Ev.isNonW, Ev.isiW, Ev.kdOf, vI, vD, vB, vF, setN, putS, setG, setGs, nxO, truth, Ev.sl, Ev.ix, blt, wipeS, W.at, handed, change, setFld, given, fldK, Ev.cellOf, moTy, moC, setIt, setF, srcOk, srcSt, fgtS, Sto.hold, pureOf, belowW, belowC, below, belows, pureI, pureIs, guardP_pos, guardN_pos, Option.map_some, Option.bind_some, Nat.reduceAdd, Nat.reduceSub, Nat.reduceLT, Nat.reduceLeDiff, List.replicate, List.cons_append, List.nil_append, List.getElem?_cons_zero, List.getElem?_cons_succ, List.set_cons_succ, List.set_cons_zero, if_true, if_false, Bool.false_eq_true, Bool.not_true, Bool.not_false, Bool.and_true, Bool.true_and, Bool.or_true, Bool.true_or, reduceCtorEq, eq_self, decide_true, decide_false, decide_not, List.take_succ_cons, List.take_zero, List.length_map, Int.toNat_natCast, SX.S_len]
  refine WP.seq (asgD (i := 4) (ixOf (ixOf (callOf lk7_prices (esC (varO (i := 1) (w := .str (SX.S a)) rfl) (esC (varO (i := 2) (w := .str (SX.S b)) rfl) esN)) (run_prices (S := (⟨[], 0⟩ : Sto).hold) (a := a) (b := b) (by omega) (by omega)) (tab_below a b _)) (lenOf _ 1 a rfl ha1) (atL (tabD_at (Nat.lt_succ_self _)))) (lenOf _ 2 b rfl hb1) (atL (rowD_at (Nat.lt_succ_self _)))) (by simp)) ?_
  generalize hP : pr a b a.length b.length = p
  change WP (runs Gm7 _ [Sl.ro (.c (.lst (ns.map D.int))), .ro (.str (SX.S a)), .ro (.str (SX.S b)), .own (.c (.lst (l.map enc))), .ro (.int (p : Nat)), .out] ⟨[], 0⟩) _
  obtain ⟨_, _, k, hw, hk⟩ := hB.way
  have hk2 : k = p := by
    rw [← hP]
    have : pr a b 0 0 = 0 := rfl
    omega
  subst hk2
  have hg := run_goes (S := (⟨[], 0⟩ : Sto).hold) hw (by omega) (by omega)
  have v3 : ev Gm7 ⟨[], 0⟩ (.var 3) [Sl.ro (.c (.lst (ns.map D.int))), .ro (.str (SX.S a)), .ro (.str (SX.S b)), .own (.c (.lst (l.map enc))), .ro (.int (k : Nat)), .out] = some (.ok (.c (.lst (l.map enc)), .at 3)) := by unfold Ev.ev; rfl
  have hisi : ev Gm7 ⟨[], 0⟩ (.isi (.var 3) .list) [Sl.ro (.c (.lst (ns.map D.int))), .ro (.str (SX.S a)), .ro (.str (SX.S b)), .own (.c (.lst (l.map enc))), .ro (.int (k : Nat)), .out] = some (.ok (.bl true, .ro)) := by
    unfold Ev.ev
    rw [v3, bok]
    rfl
  have hgo := callOf (Γ := Gm7) (S := ⟨[], 0⟩) (σ := [Sl.ro (.c (.lst (ns.map D.int))), .ro (.str (SX.S a)), .ro (.str (SX.S b)), .own (.c (.lst (l.map enc))), .ro (.int (k : Nat)), .out]) lk7_law_goes (esC (varO (i := 1) (w := .str (SX.S a)) rfl) (esC (varO (i := 2) (w := .str (SX.S b)) rfl) (esC v3 esN))) hg rfl
  have hne : ev Gm7 ⟨[], 0⟩ (.cmp .NotEq (.call "_law_goes" (.cons (.var 1) (.cons (.var 2) (.cons (.var 3) .nil)))) (.var 4)) [Sl.ro (.c (.lst (ns.map D.int))), .ro (.str (SX.S a)), .ro (.str (SX.S b)), .own (.c (.lst (l.map enc))), .ro (.int (k : Nat)), .out] = some (.ok (.bl false, .ro)) := by
    refine cmpOf hgo (varO (i := 4) (w := .int (k : Nat)) rfl) ?_
    simp only [Ev.cmp, Ev.cmpI, Option.map_some, mok, decide_true, Bool.not_true]
  refine WP.cons (WP.ite (k := false) (S' := ⟨[], 0⟩) (tstP (orF (notB hisi) hne)) nofun fun _ => WP.nil ?_)
  obtain ⟨l2, hB2, hs2⟩ := run_steps (S := (⟨[], 0⟩ : Sto).hold) (a := a) (b := a) (by omega) (by omega)
  obtain ⟨_, _, hd⟩ := hB2.diag
  have st2 := callOf (Γ := Gm7) (S := ⟨[], 0⟩) (σ := [Sl.ro (.c (.lst (ns.map D.int))), .ro (.str (SX.S a)), .ro (.str (SX.S b)), .own (.c (.lst (l.map enc))), .ro (.int (k : Nat)), .out]) lk7_steps (esC (varO (i := 1) (w := .str (SX.S a)) rfl) (esC (varO (i := 1) (w := .str (SX.S a)) rfl) esN)) hs2 (enc_below l2)
  have hlc : ev Gm7 ⟨[], 0⟩ (.lc [("_law_k", 5)] (.nm 5) (.rng1 (.blt .len (.cons (.var 1) .nil))) .none (.tup (.cons (.str "keep") (.cons (.var 5) (.cons (.var 5) .nil))))) [Sl.ro (.c (.lst (ns.map D.int))), .ro (.str (SX.S a)), .ro (.str (SX.S b)), .own (.c (.lst (l.map enc))), .ro (.int (k : Nat)), .out] = some (.ok (.c (.lst (l2.map enc)), .fr)) := by
    have e1 : evi Gm7 ⟨[], 0⟩ (.rng1 (.blt .len (.cons (.var 1) .nil))) [Sl.ro (.c (.lst (ns.map D.int))), .ro (.str (SX.S a)), .ro (.str (SX.S b)), .own (.c (.lst (l.map enc))), .ro (.int (k : Nat)), .out] = some (.ok (rngD 0 a.length, [])) := by
      simp (disch := first | omega | decide) only [mapM_nil, mapM_cons1, List.map_cons, List.map_nil, List.length_cons, List.length_nil, Ev.runs, Ev.run, Ev.evI, Ev.evIs, Ev.ev, Ev.evs, Ev.evo, Ev.evc, Ev.evi, Ev.tstV, Ev.tstI', Ev.asInt, bok, mok, bokS, mokS, upok, Ev.bin, Ev.binI, Ev.cmp, Ev.cmpI, Ev.cmpS, Ev.isNonW, Ev.isiW, Ev.kdOf, vI, vD, vB, vF, setN, putS, setG, setGs, nxO, truth, Ev.sl, Ev.ix, blt, wipeS, W.at, handed, change, setFld, given, fldK, Ev.cellOf, moTy, moC, setIt, setF, srcOk, srcSt, fgtS, Sto.hold, pureOf, belowW, belowC, below, belows, pureI, pureIs, guardP_pos, guardN_pos, Option.map_some, Option.bind_some, Nat.reduceAdd, Nat.reduceSub, Nat.reduceLT, Nat.reduceLeDiff, List.replicate, List.cons_append, List.nil_append, List.getElem?_cons_zero, List.getElem?_cons_succ, List.set_cons_succ, List.set_cons_zero, if_true, if_false, Bool.false_eq_true, Bool.not_true, Bool.not_false, Bool.and_true, Bool.true_and, Bool.or_true, Bool.true_or, reduceCtorEq, eq_self, decide_true, decide_false, decide_not, List.take_succ_cons, List.take_zero, List.length_map, Int.toNat_natCast, SX.S_len]
    refine ev_lc e1 (by rw [rngD_length]; omega) ?_
    have e2 : l2.map enc = (rngD 0 a.length).map fun x => D.tup [.str "keep", x, x] := by
      rw [hd, Nat.sub_zero, ← List.range_eq_range', rngD, List.map_map, List.map_map]
      refine List.map_congr_left fun i _ => ?_
      simp [enc]
    rw [e2]
    refine lcRun_evc _ _ fun x hx => ?_
    obtain ⟨i, hi, rfl⟩ := rngD_mem hx
    exact ⟨_, rfl, .ro, by simp (disch := first | omega | decide) only [mapM_nil, mapM_cons1, List.map_cons, List.map_nil, List.length_cons, List.length_nil, Ev.runs, Ev.run, Ev.evI, Ev.evIs, Ev.ev, Ev.evs, Ev.evo, Ev.evc, Ev.evi, Ev.tstV, Ev.tstI', Ev.asInt, bok, mok, bokS, mokS, upok, Ev.bin, Ev.binI, Ev.cmp, Ev.cmpI, Ev.cmpS, Ev.isNonW, Ev.isiW, Ev.kdOf, vI, vD, vB, vF, setN, putS, setG, setGs, nxO, truth, Ev.sl, Ev.ix, blt, wipeS, W.at, handed, change, setFld, given, fldK, Ev.cellOf, moTy, moC, setIt, setF, srcOk, srcSt, fgtS, Sto.hold, pureOf, belowW, belowC, below, belows, pureI, pureIs, guardP_pos, guardN_pos, Option.map_some, Option.bind_some, Nat.reduceAdd, Nat.reduceSub, Nat.reduceLT, Nat.reduceLeDiff, List.replicate, List.cons_append, List.nil_append, List.getElem?_cons_zero, List.getElem?_cons_succ, List.set_cons_succ, List.set_cons_zero, if_true, if_false, Bool.false_eq_true, Bool.not_true, Bool.not_false, Bool.and_true, Bool.true_and, Bool.or_true, Bool.true_or, reduceCtorEq, eq_self, decide_true, decide_false, decide_not, List.take_succ_cons, List.take_zero, List.length_map, Int.toNat_natCast]⟩
  refine WP.ret (retD (cmpOf st2 hlc (eqL (b := true) ?_))) rfl
  rw [eqW_L (okDs_enc l2) (okDs_enc l2) (by decide), eqvAll_toPys]
end L72
namespace L72
open PySem PySem.Spec
open PyProof.Rows hiding St
open L2 Ev PP
theorem all_mk {l : PySem.W.OpenLaw} {w : World} {K : PySem.W.Frag} {h : Heap} {mg : Str → Option Value} {fa f1 f2 f3 f4 f5 f6 f7 f8 : Addr} (X : K.In h) (G : h.Ns mainGlobals mg) (hfa : mg "law" = some (.ref fa))
    {od1 an1 od2 an2 od3 an3 od4 an4 od5 an5 od6 an6 od7 an7 od8 an8 : Option Addr} {sl1 sl2 sl3 sl4 sl5 sl6 sl7 sl8 : Array (Option Value)} {oc1 kV1 dc1 pm1 cd1 ct1 oc2 kV2 dc2 pm2 cd2 ct2 oc3 kV3 dc3 pm3 cd3 ct3 oc4 kV4 dc4 pm4 cd4 ct4 oc5 kV5 dc5 pm5 cd5 ct5 oc6 kV6 dc6 pm6 cd6 ct6 oc7 kV7 dc7 pm7 cd7 ct7 oc8 kV8 dc8 pm8 cd8 ct8 : Value}
    (a1 : PySem.W.nsIn K mainGlobals "prices" = some (some (.ref f1)))
    (l1 : K.lookup f1 = some ⟨oc1, od1, .func (PySem.W.fnOf "prices" "prices" (defArgs s_prices) (defBody s_prices) (defScope s_prices) .none kV1 dc1 pm1 an1 cd1 ct1), sl1⟩)
    (c1 : PySem.W.codeIn K cd1 "prices" = true)
    (k1 : PySem.W.keepIn K (.ref f1) = true)
    (a2 : PySem.W.nsIn K mainGlobals "steps" = some (some (.ref f2)))
    (l2 : K.lookup f2 = some ⟨oc2, od2, .func (PySem.W.fnOf "steps" "steps" (defArgs s_steps) (defBody s_steps) (defScope s_steps) .none kV2 dc2 pm2 an2 cd2 ct2), sl2⟩)
    (c2 : PySem.W.codeIn K cd2 "steps" = true)
    (k2 : PySem.W.keepIn K (.ref f2) = true)
    (a3 : PySem.W.nsIn K mainGlobals "_law_mixed" = some (some (.ref f3)))
    (l3 : K.lookup f3 = some ⟨oc3, od3, .func (PySem.W.fnOf "_law_mixed" "_law_mixed" (defArgs s_law_mixed) (defBody s_law_mixed) (defScope s_law_mixed) .none kV3 dc3 pm3 an3 cd3 ct3), sl3⟩)
    (c3 : PySem.W.codeIn K cd3 "_law_mixed" = true)
    (k3 : PySem.W.keepIn K (.ref f3) = true)
    (a4 : PySem.W.nsIn K mainGlobals "_law_cell_at" = some (some (.ref f4)))
    (l4 : K.lookup f4 = some ⟨oc4, od4, .func (PySem.W.fnOf "_law_cell_at" "_law_cell_at" (defArgs s_law_cell_at) (defBody s_law_cell_at) (defScope s_law_cell_at) .none kV4 dc4 pm4 an4 cd4 ct4), sl4⟩)
    (c4 : PySem.W.codeIn K cd4 "_law_cell_at" = true)
    (k4 : PySem.W.keepIn K (.ref f4) = true)
    (a5 : PySem.W.nsIn K mainGlobals "_law_text" = some (some (.ref f5)))
    (l5 : K.lookup f5 = some ⟨oc5, od5, .func (PySem.W.fnOf "_law_text" "_law_text" (defArgs s_law_text) (defBody s_law_text) (defScope s_law_text) .none kV5 dc5 pm5 an5 cd5 ct5), sl5⟩)
    (c5 : PySem.W.codeIn K cd5 "_law_text" = true)
    (k5 : PySem.W.keepIn K (.ref f5) = true)
    (a6 : PySem.W.nsIn K mainGlobals "_law_other" = some (some (.ref f6)))
    (l6 : K.lookup f6 = some ⟨oc6, od6, .func (PySem.W.fnOf "_law_other" "_law_other" (defArgs s_law_other) (defBody s_law_other) (defScope s_law_other) .none kV6 dc6 pm6 an6 cd6 ct6), sl6⟩)
    (c6 : PySem.W.codeIn K cd6 "_law_other" = true)
    (k6 : PySem.W.keepIn K (.ref f6) = true)
    (a7 : PySem.W.nsIn K mainGlobals "_law_goes" = some (some (.ref f7)))
    (l7 : K.lookup f7 = some ⟨oc7, od7, .func (PySem.W.fnOf "_law_goes" "_law_goes" (defArgs s_law_goes) (defBody s_law_goes) (defScope s_law_goes) .none kV7 dc7 pm7 an7 cd7 ct7), sl7⟩)
    (c7 : PySem.W.codeIn K cd7 "_law_goes" = true)
    (k7 : PySem.W.keepIn K (.ref f7) = true)
    (a8 : PySem.W.nsIn K mainGlobals "law" = some (some (.ref f8)))
    (l8 : K.lookup f8 = some ⟨oc8, od8, .func (PySem.W.fnOf "law" "law" (defArgs s_law) (defBody s_law) (defScope s_law) .none kV8 dc8 pm8 an8 cd8 ct8), sl8⟩)
    (c8 : PySem.W.codeIn K cd8 "law" = true)
    (k8 : PySem.W.keepIn K (.ref f8) = true)
    (z1 : PySem.W.nsIn K mainGlobals "all" = some none)
    (z2 : PySem.W.nsIn K mainGlobals "bool" = some none)
    (z3 : PySem.W.nsIn K mainGlobals "isinstance" = some none)
    (z4 : PySem.W.nsIn K mainGlobals "len" = some none)
    (z5 : PySem.W.nsIn K mainGlobals "list" = some none)
    (z6 : PySem.W.nsIn K mainGlobals "min" = some none)
    (z7 : PySem.W.nsIn K mainGlobals "range" = some none)
    (z8 : PySem.W.nsIn K mainGlobals "reversed" = some none)
    (z9 : PySem.W.nsIn K mainGlobals "tuple" = some none)
    : ∃ fd : FuncData, (∀ (s : Shared) (v : Value), BindsTo s fd ⟨[v], []⟩ [("_law_script", v)]) ∧ ∀ base : Heap, K.In base → base.Ns mainGlobals mg → L2.FnOk l.prog w K mg base (L2.CX l.prog w) 8 fa fd ["_law_script"] (spA K (fnG Gm7 1 6 b_law)) := by
  have e := hfa.symm.trans (PySem.W.mg_of X G a8)
  cases e
  have F1 := L2.fun_mk (st := s_prices) l1 c1 k1
  have b1 := F1.binds (ps := ["one", "other"]) fun _ _ _ _ _ _ us hl => match us, hl with | [_, _], _ => rfl
  have F2 := L2.fun_mk (st := s_steps) l2 c2 k2
  have b2 := F2.binds (ps := ["one", "other"]) fun _ _ _ _ _ _ us hl => match us, hl with | [_, _], _ => rfl
  have F3 := L2.fun_mk (st := s_law_mixed) l3 c3 k3
  have b3 := F3.binds (ps := ["_law_cell", "_law_k"]) fun _ _ _ _ _ _ us hl => match us, hl with | [_, _], _ => rfl
  have F4 := L2.fun_mk (st := s_law_cell_at) l4 c4 k4
  have b4 := F4.binds (ps := ["_law_script", "_law_k"]) fun _ _ _ _ _ _ us hl => match us, hl with | [_, _], _ => rfl
  have F5 := L2.fun_mk (st := s_law_text) l5 c5 k5
  have b5 := F5.binds (ps := ["_law_cell"]) fun _ _ _ _ _ _ us hl => match us, hl with | [_], _ => rfl
  have F6 := L2.fun_mk (st := s_law_other) l6 c6 k6
  have b6 := F6.binds (ps := ["_law_one", "_law_cell"]) fun _ _ _ _ _ _ us hl => match us, hl with | [_, _], _ => rfl
  have F7 := L2.fun_mk (st := s_law_goes) l7 c7 k7
  have b7 := F7.binds (ps := ["_law_one", "_law_other_here", "_law_walk"]) fun _ _ _ _ _ _ us hl => match us, hl with | [_, _, _], _ => rfl
  have F8 := L2.fun_mk (st := s_law) l8 c8 k8
  have b8 := F8.binds (ps := ["_law_script"]) fun _ _ _ _ _ _ us hl => match us, hl with | [_], _ => rfl
  have hb : ∀ y ∈ bl, mg y = none := by
    intro y hy
    simp only [bl, List.mem_cons, List.not_mem_nil, or_false] at hy
    rcases hy with rfl | rfl | rfl | rfl | rfl | rfl | rfl | rfl | rfl
    · exact PySem.W.mg_none_of X G z1
    · exact PySem.W.mg_none_of X G z2
    · exact PySem.W.mg_none_of X G z3
    · exact PySem.W.mg_none_of X G z4
    · exact PySem.W.mg_none_of X G z5
    · exact PySem.W.mg_none_of X G z6
    · exact PySem.W.mg_none_of X G z7
    · exact PySem.W.mg_none_of X G z8
    · exact PySem.W.mg_none_of X G z9
  refine ⟨PySem.W.fnOf "law" "law" (defArgs s_law) (defBody s_law) (defScope s_law) .none kV8 dc8 pm8 an8 cd8 ct8, fun s v => .of_eq rfl, fun base _ _ => ?_⟩
  have E0 : EnvOk l.prog w K mg base (ccOf []) 0 Gm0 := EnvOk.zero
  have P1 := fn_ok F1 sc_prices b_prices (fnG Gm0 2 8 b_prices) ck_prices hb E0 fnG_hg
  have E1 : EnvOk l.prog w K mg base (ccOf []) 1 Gm1 := E0.fn P1 (by decide) (PySem.W.mg_of X G a1) k1 b1
  have P2 := fn_ok F2 sc_steps b_steps (fnG Gm1 2 7 b_steps) ck_steps hb E1 fnG_hg
  have E2 : EnvOk l.prog w K mg base (ccOf []) 2 Gm2 := E1.fn P2 (by decide) (PySem.W.mg_of X G a2) k2 b2
  have P3 := fn_ok F3 sc_law_mixed b_law_mixed (fnG Gm2 2 3 b_law_mixed) ck_law_mixed hb E2 fnG_hg
  have E3 : EnvOk l.prog w K mg base (ccOf []) 3 Gm3 := E2.fn P3 (by decide) (PySem.W.mg_of X G a3) k3 b3
  have P4 := fn_ok F4 sc_law_cell_at b_law_cell_at (fnG Gm3 2 2 b_law_cell_at) ck_law_cell_at hb E3 fnG_hg
  have E4 : EnvOk l.prog w K mg base (ccOf []) 4 Gm4 := E3.fn P4 (by decide) (PySem.W.mg_of X G a4) k4 b4
  have P5 := fn_ok F5 sc_law_text b_law_text (fnG Gm4 1 7 b_law_text) ck_law_text hb E4 fnG_hg
  have E5 : EnvOk l.prog w K mg base (ccOf []) 5 Gm5 := E4.fn P5 (by decide) (PySem.W.mg_of X G a5) k5 b5
  have P6 := fn_ok F6 sc_law_other b_law_other (fnG Gm5 2 6 b_law_other) ck_law_other hb E5 fnG_hg
  have E6 : EnvOk l.prog w K mg base (ccOf []) 6 Gm6 := E5.fn P6 (by decide) (PySem.W.mg_of X G a6) k6 b6
  have P7 := fn_ok F7 sc_law_goes b_law_goes (fnG Gm6 3 8 b_law_goes) ck_law_goes hb E6 fnG_hg
  have E7 : EnvOk l.prog w K mg base (ccOf []) 7 Gm7 := E6.fn P7 (by decide) (PySem.W.mg_of X G a7) k7 b7
  have P8 := fn_ok F8 sc_law b_law (fnG Gm7 1 6 b_law) ck_law hb E7 fnG_hg
  exact fn_any P8
end L72
open PySem PySem.W PyProof.Rows
set_option maxHeartbeats 0 in
theorem PySem.Challenge.cw_redquill_k72_steps_told_holds : PySem.Challenge.rw_redquill_k72_steps_told.Holds := by
  w_on; o_law; k_head; (case hw => w_witness2)
  k_fill
  refine L2.walk_of (l := PySem.Challenge.rw_redquill_k72_steps_told) (n := 63) (k := 8) (x := "_law_script") (CX := fun w => L2.CX PySem.Challenge.rw_redquill_k72_steps_told.prog w) (sp := fun w => Ev.spA _ (Ev.fnG L72.Gm7 1 6 L72.b_law)) rfl (by decide) rfl ⟨rfl, by decide, by decide⟩ (fun w h Y => PySem.W.kIn_of Y) ?F (fun w H a ns hl _ hS => let ⟨_, h⟩ := L72.run_law hl; Ev.law_start hS h) (fun _ _ _ _ _ h => Ev.law_nope h)
  case F =>
    intro w mg fa h KX G hmg
    refine' L72.all_mk KX G hmg ?a1 ?l1 ?c1 ?k1 ?a2 ?l2 ?c2 ?k2 ?a3 ?l3 ?c3 ?k3 ?a4 ?l4 ?c4 ?k4 ?a5 ?l5 ?c5 ?k5 ?a6 ?l6 ?c6 ?k6 ?a7 ?l7 ?c7 ?k7 ?a8 ?l8 ?c8 ?k8 ?z1 ?z2 ?z3 ?z4 ?z5 ?z6 ?z7 ?z8 ?z9
    (case a1 => k_is); (case l1 => k_is); (case c1 => k_is); (case k1 => k_is); (case a2 => k_is); (case l2 => k_is); (case c2 => k_is); (case k2 => k_is); (case a3 => k_is); (case l3 => k_is); (case c3 => k_is); (case k3 => k_is); (case a4 => k_is); (case l4 => k_is); (case c4 => k_is); (case k4 => k_is); (case a5 => k_is); (case l5 => k_is); (case c5 => k_is); (case k5 => k_is); (case a6 => k_is); (case l6 => k_is); (case c6 => k_is); (case k6 => k_is); (case a7 => k_is); (case l7 => k_is); (case c7 => k_is); (case k7 => k_is); (case a8 => k_is); (case l8 => k_is); (case c8 => k_is); (case k8 => k_is); (case z1 => k_is); (case z2 => k_is); (case z3 => k_is); (case z4 => k_is); (case z5 => k_is); (case z6 => k_is); (case z7 => k_is); (case z8 => k_is); (case z9 => k_is)
