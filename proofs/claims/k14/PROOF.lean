import PyProof.Rows.All
import Wide.All
import OpenK.AllK
import Wide.FinOn
import HandS.ForMost
import HandS.Exc
import HandS.TryOnly
import HandS.ExcOwn
import HandS.WordsExc
import HandS.Wide
import HandS.Flow
import HandS.Rev
import HandS.RevTup
import PyProof.ListStr
import HandS.Style
import HandS.Text
import HandS.IsInst
import HandS.Deep
import HandS.TupAny
import HandS.ExcInit
import HandS.ExcField
import HandS.ExcIs
import HandS.ClsMeth
import HandS.CallSlots
import KE.KExcIs
import PyProof.StrOps2
import PyProof.P3In
import HandS.Conv
import HandS.Codes
import HandS.Small
import HandS.Defaults
import PySem.Challenge.RW_redquill_k14_out_of_place
set_option Elab.async false
set_option linter.all false
set_option maxRecDepth 100000
set_option maxHeartbeats 4000000
/-! Hv0: data (D), cells (C), the store (a list of cells), how they lie in the abstract heap. -/
namespace Hv
open PySem PySem.Spec PyProof.Rows L2

/-- data: tup a tuple made in the run, kt one of the written part, fl a list that never changes, ref a cell -/
inductive D where
  | non | bl (b : Bool) | int (i : Int) | str (x : Str) | tup (xs : List D) | kt (xs : List D) | fl (xs : List D) | ref (n : Nat)
/-- what stands in a cell; lkK, lkT: a dict that is walked -/
inductive C where
  | lst (xs : List D) | dK (kvs : List (Key × D)) | dT (kvs : List (List Key × D)) | lkK (kvs : List (Key × D)) | lkT (kvs : List (List Key × D)) | obj (c : Nat) (fs : List (Str × D)) | dead
abbrev Sto := List C

/-- where the classes and the cells stand -/
structure Am where
  c : Nat → Addr
  i : List Addr
mutual
def RepD (K : PySem.W.Frag) (ca : Am) (H : Hp) : D → V → Prop
  | .non, v => v = .non
  | .bl b, v => v = .bl b
  | .int i, v => v = .int i
  | .str x, v => v = .str x
  | .tup xs, v => ∃ a vs, v = .ref a ∧ H a = some (.tup vs) ∧ RepDs K ca H xs vs
  | .kt xs, v => ∃ a vs, v = .ref a ∧ SqT K (fun _ => none) a vs ∧ RepDs K ca H xs vs
  | .fl xs, v => ∃ a vs, v = .ref a ∧ ((∃ o, H a = some (.frz o (.lst vs))) ∨ SqL K (fun _ => none) a vs) ∧ RepDs K ca H xs vs
  | .ref n, v => ∃ a, ca.i[n]? = some a ∧ v = .ref a
def RepDs (K : PySem.W.Frag) (ca : Am) (H : Hp) : List D → List V → Prop
  | [], vs => vs = []
  | x :: xs, vs => ∃ v r, vs = v :: r ∧ RepD K ca H x v ∧ RepDs K ca H xs r
end
/-- tuples stand, what is frozen too -/
structure TK (H H' : Hp) : Prop where
  t : ∀ a xs, H a = some (.tup xs) → H' a = some (.tup xs)
  f : ∀ a o xs, H a = some (.frz o (.lst xs)) → H' a = some (.frz o (.lst xs))
theorem TK.refl {H : Hp} : TK H H := ⟨fun _ _ h => h, fun _ _ _ h => h⟩
theorem TK.trans {H H' H'' : Hp} (a : TK H H') (b : TK H' H'') : TK H H'' := ⟨fun c xs h => b.t c xs (a.t c xs h), fun c o u h => b.f c o u (a.f c o u h)⟩
theorem TK.of_same {H H' : Hp} (s : Same H H') : TK H H' := ⟨fun a xs h => s _ _ h, fun a o u h => s _ _ h⟩
/-- more cells -/
def Am.le (a b : Am) : Prop := a.c = b.c ∧ ∀ (n : Nat) (x : Addr), a.i[n]? = some x → b.i[n]? = some x
theorem Am.le.refl {a : Am} : a.le a := ⟨rfl, fun _ _ h => h⟩
theorem Am.le.trans {a b c : Am} (x : a.le b) (y : b.le c) : a.le c := ⟨x.1.trans y.1, fun n z h => y.2 n z (x.2 n z h)⟩
section
variable {K : PySem.W.Frag} {ca ca' : Am} {H H' : Hp}
mutual
theorem RepD.mono (t : TK H H') (g : ca.le ca') : ∀ {x : D} {v : V}, RepD K ca H x v → RepD K ca' H' x v
  | .non, _, h => h
  | .bl _, _, h => h
  | .int _, _, h => h
  | .str _, _, h => h
  | .tup xs, v, h => by
    unfold RepD at h ⊢
    obtain ⟨a, vs, e, q, r⟩ := h
    exact ⟨a, vs, e, t.t a vs q, RepDs.mono t g r⟩
  | .kt xs, v, h => by
    unfold RepD at h ⊢
    obtain ⟨a, vs, e, q, r⟩ := h
    exact ⟨a, vs, e, q, RepDs.mono t g r⟩
  | .fl xs, v, h => by
    unfold RepD at h ⊢
    obtain ⟨a, vs, e, q, r⟩ := h
    exact ⟨a, vs, e, q.imp (fun ⟨o, z⟩ => ⟨o, t.f a o _ z⟩) id, RepDs.mono t g r⟩
  | .ref n, v, h => by
    unfold RepD at h ⊢
    obtain ⟨a, e, q⟩ := h
    exact ⟨a, g.2 n a e, q⟩
theorem RepDs.mono (t : TK H H') (g : ca.le ca') : ∀ {xs : List D} {vs : List V}, RepDs K ca H xs vs → RepDs K ca' H' xs vs
  | [], _, h => h
  | x :: xs, vs, h => by
    unfold RepDs at h ⊢
    obtain ⟨v, r, e, h1, h2⟩ := h
    exact ⟨v, r, e, RepD.mono t g h1, RepDs.mono t g h2⟩
end
theorem RepDs.length : ∀ {xs : List D} {vs : List V}, RepDs K ca H xs vs → vs.length = xs.length
  | [], _, h => by unfold RepDs at h; subst h; rfl
  | x :: xs, vs, h => by
    unfold RepDs at h
    obtain ⟨v, r, e, h1, h2⟩ := h
    subst e
    simp [RepDs.length h2]
theorem RepDs.nil : RepDs K ca H [] [] := by unfold RepDs; rfl
theorem RepDs.cons {x v xs vs} (h : RepD K ca H x v) (r : RepDs K ca H xs vs) : RepDs K ca H (x :: xs) (v :: vs) := by
  unfold RepDs; exact ⟨v, vs, rfl, h, r⟩
theorem RepDs.app : ∀ {xs ys : List D} {vs ws : List V}, RepDs K ca H xs vs → RepDs K ca H ys ws → RepDs K ca H (xs ++ ys) (vs ++ ws)
  | [], _, _, _, h, q => by unfold RepDs at h; subst h; exact q
  | x :: xs, _, _, _, h, q => by
    unfold RepDs at h
    obtain ⟨v, r, e, h1, h2⟩ := h
    subst e
    exact .cons h1 (RepDs.app h2 q)
theorem RepDs.get : ∀ {xs : List D} {vs : List V} {i : Nat} {x : D}, RepDs K ca H xs vs → xs[i]? = some x → ∃ v, vs[i]? = some v ∧ RepD K ca H x v
  | [], _, _, _, _, e => by simp at e
  | y :: xs, _, 0, x, h, e => by
    unfold RepDs at h
    obtain ⟨v, r, e1, h1, h2⟩ := h
    subst e1
    simp at e; subst e
    exact ⟨v, rfl, h1⟩
  | y :: xs, _, i + 1, x, h, e => by
    unfold RepDs at h
    obtain ⟨v, r, e1, h1, h2⟩ := h
    subst e1
    obtain ⟨w, q1, q2⟩ := RepDs.get (i := i) h2 (by simpa using e)
    exact ⟨w, by simpa using q1, q2⟩
theorem RepDs.take : ∀ {xs : List D} {vs : List V} (n : Nat), RepDs K ca H xs vs → RepDs K ca H (xs.take n) (vs.take n)
  | _, _, 0, _ => by simp only [List.take_zero]; exact .nil
  | [], _, n + 1, h => by unfold RepDs at h; subst h; exact .nil
  | x :: xs, _, n + 1, h => by
    unfold RepDs at h
    obtain ⟨v, r, e1, h1, h2⟩ := h
    subst e1
    exact .cons h1 (RepDs.take n h2)
theorem RepDs.drop : ∀ {xs : List D} {vs : List V} (n : Nat), RepDs K ca H xs vs → RepDs K ca H (xs.drop n) (vs.drop n)
  | _, _, 0, h => h
  | [], _, n + 1, h => by unfold RepDs at h; subst h; exact .nil
  | x :: xs, _, n + 1, h => by
    unfold RepDs at h
    obtain ⟨v, r, e1, h1, h2⟩ := h
    subst e1
    exact RepDs.drop n h2
theorem RepDs.set {x : D} {v : V} : ∀ {xs : List D} {vs : List V} (n : Nat), RepDs K ca H xs vs → RepD K ca H x v → RepDs K ca H (xs.set n x) (vs.set n v)
  | [], _, _, h, _ => by unfold RepDs at h; subst h; exact .nil
  | y :: xs, _, 0, h, r => by
    unfold RepDs at h
    obtain ⟨v, q, e, h1, h2⟩ := h
    subst e
    exact .cons r h2
  | y :: xs, _, n + 1, h, r => by
    unfold RepDs at h
    obtain ⟨v, q, e, h1, h2⟩ := h
    subst e
    exact .cons h1 (RepDs.set n h2 r)
theorem RepDs.rev : ∀ {xs : List D} {vs : List V}, RepDs K ca H xs vs → RepDs K ca H xs.reverse vs.reverse
  | [], _, h => by unfold RepDs at h; subst h; exact .nil
  | x :: xs, _, h => by
    unfold RepDs at h
    obtain ⟨v, r, e, h1, h2⟩ := h
    subst e
    rw [List.reverse_cons, List.reverse_cons]
    exact RepDs.app (RepDs.rev h2) (.cons h1 .nil)
theorem RepDs.pick {xs : List D} {vs : List V} (h : RepDs K ca H xs vs) : ∀ is : List Nat, RepDs K ca H (is.filterMap (xs[·]?)) (is.filterMap (vs[·]?))
  | [] => .nil
  | i :: is => by
    have ih := RepDs.pick h is
    rw [List.filterMap_cons, List.filterMap_cons]
    by_cases c : i < xs.length
    · have e : xs[i]? = some xs[i] := List.getElem?_eq_getElem c
      obtain ⟨u, hu, ru⟩ := h.get e
      rw [e, hu]
      exact .cons ru ih
    · have h2 : ¬ i < vs.length := by rw [h.length]; exact c
      rw [List.getElem?_eq_none (by omega), List.getElem?_eq_none (by omega)]
      exact ih
end
theorem Same.upd {H : Hp} {a : Addr} {o : HO} (h : H a = none) : Same H (upd H a o) := fun b x e => by
  rw [upd_ne (ne_of_none e h)]
  exact e

/-! ### the data as PyData, for == -/
mutual
def toPy : D → PyData
  | .non => .none
  | .bl b => .bool b
  | .int i => .int i
  | .str x => .str x
  | .tup xs => .tuple (toPys xs)
  | .kt xs => .tuple (toPys xs)
  | .fl xs => .list (toPys xs)
  | .ref _ => .none
def toPys : List D → List PyData
  | [] => []
  | x :: xs => toPy x :: toPys xs
end
mutual
/-- the data, with the lists that it names -/
def pyS (S : Sto) : D → Option PyData
  | .non => some .none
  | .bl b => some (.bool b)
  | .int i => some (.int i)
  | .str x => some (.str x)
  | .tup xs => (pySs S xs).map .tuple
  | .kt xs => (pySs S xs).map .tuple
  | .fl xs => (pySs S xs).map .list
  | .ref _ => none
def pySs (S : Sto) : List D → Option (List PyData)
  | [] => some []
  | x :: xs => (pyS S x).bind fun y => (pySs S xs).map (y :: ·)
end

/-! ### cells -/
def RepKs {κ : Type} (K : PySem.W.Frag) (ca : Am) (H : Hp) (kvs : List (κ × D)) (vs : List (κ × V)) : Prop := kvs.map (·.1) = vs.map (·.1) ∧ RepDs K ca H (kvs.map (·.2)) (vs.map (·.2))
def RepF (K : PySem.W.Frag) (ca : Am) (H : Hp) (fs' : List (Str × V)) (o : Option D) (f : Str) : Prop :=
  match o with
  | some x => ∃ v, fs'.lookup f = some v ∧ RepD K ca H x v
  | none => fs'.lookup f = none
def CRep (K : PySem.W.Frag) (ca : Am) (H : Hp) (a : Addr) : C → Prop
  | .lst xs => ∃ vs, H a = some (.lst vs) ∧ RepDs K ca H xs vs
  | .dK kvs => ∃ vs, H a = some (.dK vs) ∧ RepKs K ca H kvs vs
  | .dT kvs => ∃ vs, H a = some (.dT vs) ∧ RepKs K ca H kvs vs
  | .lkK kvs => ∃ o vs, H a = some (.frz o (.dK vs)) ∧ RepKs K ca H kvs vs
  | .lkT kvs => ∃ o vs, H a = some (.frz o (.dT vs)) ∧ RepKs K ca H kvs vs
  | .obj c fs => ∃ dx fs', H a = some (.ins (ca.c c) dx fs') ∧ fs'.length = fs.length ∧ ∀ f, RepF K ca H fs' (fs.lookup f) f
  | .dead => ∃ o vs, H a = some (.frz o (.lst vs))
/-- the store lies in the heap -/
structure Rp (K : PySem.W.Frag) (ca : Am) (S : Sto) (H : Hp) : Prop where
  len : S.length = ca.i.length
  nd : ca.i.Nodup
  cel : ∀ (n : Nat) (c : C) (a : Addr), S[n]? = some c → ca.i[n]? = some a → CRep K ca H a c
/-- what is not in a cell stands; new cells were free places -/
structure Fr (ca : Am) (H : Hp) (ca' : Am) (H' : Hp) : Prop where
  le : ca.le ca'
  new : ∀ a ∈ ca'.i, a ∈ ca.i ∨ H a = none
  tk : TK H H'
  st : ∀ a u, H a = some u → a ∉ ca.i → H' a = some u
  al : ∀ a, H' a = none → H a = none
section
variable {K : PySem.W.Frag} {ca ca' ca'' : Am} {S S' : Sto} {H H' H'' : Hp}
theorem Fr.refl : Fr ca H ca H := ⟨.refl, fun _ h => .inl h, .refl, fun _ _ h _ => h, fun _ h => h⟩
theorem Fr.trans (x : Fr ca H ca' H') (y : Fr ca' H' ca'' H'') : Fr ca H ca'' H'' := ⟨x.le.trans y.le, fun a h => (y.new a h).elim (x.new a) fun z => .inr (x.al a z), x.tk.trans y.tk, fun a u z n => y.st a u (x.st a u z n) fun m => (x.new a m).elim n fun w => (by rw [z] at w; cases w), fun a z => x.al a (y.al a z)⟩
theorem RepD.fr (f : Fr ca H ca' H') {d : D} {v : V} (r : RepD K ca H d v) : RepD K ca' H' d v := r.mono f.tk f.le
theorem RepDs.fr (f : Fr ca H ca' H') {d : List D} {v : List V} (r : RepDs K ca H d v) : RepDs K ca' H' d v := r.mono f.tk f.le
theorem RepKs.mono {κ : Type} {kvs : List (κ × D)} {vs : List (κ × V)} (r : RepKs K ca H kvs vs) (t : TK H H') (g : ca.le ca') : RepKs K ca' H' kvs vs := ⟨r.1, r.2.mono t g⟩
theorem RepF.mono {fs' : List (Str × V)} {o : Option D} {f : Str} (r : RepF K ca H fs' o f) (t : TK H H') (g : ca.le ca') : RepF K ca' H' fs' o f := by
  cases o with
  | none => exact r
  | some x => obtain ⟨v, e, q⟩ := r; exact ⟨v, e, q.mono t g⟩
theorem CRep.mono {a : Addr} {c : C} (r : CRep K ca H a c) (t : TK H H') (g : ca.le ca') (k : ∀ u, H a = some u → H' a = some u) : CRep K ca' H' a c := by
  cases c with
  | lst xs => obtain ⟨vs, e, q⟩ := r; exact ⟨vs, k _ e, q.mono t g⟩
  | dK xs => obtain ⟨vs, e, q⟩ := r; exact ⟨vs, k _ e, q.mono t g⟩
  | dT xs => obtain ⟨vs, e, q⟩ := r; exact ⟨vs, k _ e, q.mono t g⟩
  | lkK xs => obtain ⟨o, vs, e, q⟩ := r; exact ⟨o, vs, k _ e, q.mono t g⟩
  | lkT xs => obtain ⟨o, vs, e, q⟩ := r; exact ⟨o, vs, k _ e, q.mono t g⟩
  | obj c fs => obtain ⟨dx, fs', e, l, q⟩ := r; exact ⟨dx, fs', by rw [← g.1]; exact k _ e, l, fun f => (q f).mono t g⟩
  | dead => obtain ⟨o, vs, e⟩ := r; exact ⟨o, vs, k _ e⟩
theorem CRep.some {a : Addr} {c : C} (r : CRep K ca H a c) : ∃ o, H a = some o := by
  cases c with
  | lst xs => obtain ⟨vs, e, q⟩ := r; exact ⟨_, e⟩
  | dK xs => obtain ⟨vs, e, q⟩ := r; exact ⟨_, e⟩
  | dT xs => obtain ⟨vs, e, q⟩ := r; exact ⟨_, e⟩
  | lkK xs => obtain ⟨o, vs, e, q⟩ := r; exact ⟨_, e⟩
  | lkT xs => obtain ⟨o, vs, e, q⟩ := r; exact ⟨_, e⟩
  | obj c fs => obtain ⟨dx, fs', e, l, q⟩ := r; exact ⟨_, e⟩
  | dead => obtain ⟨o, vs, e⟩ := r; exact ⟨_, e⟩
theorem Rp.at (R : Rp K ca S H) {n : Nat} {c : C} (e : S[n]? = some c) : ∃ a, ca.i[n]? = some a ∧ CRep K ca H a c := by
  have hn : n < ca.i.length := by rw [← R.len]; exact (List.getElem?_eq_some_iff.mp e).1
  have e2 : ca.i[n]? = some ca.i[n] := List.getElem?_eq_getElem hn
  exact ⟨_, e2, R.cel n c _ e e2⟩
theorem Rp.has (R : Rp K ca S H) {a : Addr} (h : a ∈ ca.i) : ∃ o, H a = some o := by
  obtain ⟨n, e⟩ := List.getElem?_of_mem h
  have hn : n < S.length := by rw [R.len]; exact (List.getElem?_eq_some_iff.mp e).1
  exact (R.cel n _ a (List.getElem?_eq_getElem hn) e).some
theorem Rp.free (R : Rp K ca S H) {a : Addr} (h : H a = none) : a ∉ ca.i := fun z => by
  obtain ⟨o, e⟩ := R.has z
  rw [h] at e; cases e
theorem upd_al {a : Addr} {o : HO} : ∀ b, upd H a o b = none → H b = none := fun b z => by
  by_cases e : b = a
  · subst e; rw [upd_same] at z; cases z
  · rwa [upd_ne e] at z
/-- the heap grew by something that no cell is -/
theorem Fr.same (R : Rp K ca S H) (s : Same H H') (al : ∀ a, H' a = none → H a = none) : Fr ca H ca H' := ⟨.refl, fun _ h => .inl h, .of_same s, fun a u z _ => s a u z, al⟩
theorem Rp.same (R : Rp K ca S H) (s : Same H H') : Rp K ca S H' := ⟨R.len, R.nd, fun n c a e1 e2 => (R.cel n c a e1 e2).mono (.of_same s) .refl fun u z => s a u z⟩
/-- a new cell -/
def Am.more (ca : Am) (p : Addr) : Am := ⟨ca.c, ca.i ++ [p]⟩
theorem Am.le_more {p : Addr} : ca.le (ca.more p) := ⟨rfl, fun n x e => by
  show (ca.i ++ [p])[n]? = some x
  rw [List.getElem?_append_left (List.getElem?_eq_some_iff.mp e).1]
  exact e⟩
theorem Rp.new {p : Addr} {o : HO} {c : C} (R : Rp K ca S H) (np : H p = none) (r : CRep K (ca.more p) (upd H p o) p c) : Rp K (ca.more p) (S ++ [c]) (upd H p o) ∧ Fr ca H (ca.more p) (upd H p o) := by
  have s : Same H (upd H p o) := Same.upd np
  refine ⟨⟨by simp [Am.more, R.len], ?_, fun n c' a e1 e2 => ?_⟩, ⟨Am.le_more, fun a h => ?_, .of_same s, fun a u z _ => s a u z, upd_al⟩⟩
  · show (ca.i ++ [p]).Nodup
    rw [List.nodup_append]
    exact ⟨R.nd, by simp, fun a ha b hb z => by
      have : b = p := by simpa using hb
      subst this; subst z
      exact R.free np ha⟩
  · have e2' : (ca.i ++ [p])[n]? = some a := e2
    by_cases hn : n < S.length
    · rw [List.getElem?_append_left hn] at e1
      rw [List.getElem?_append_left (by rw [← R.len]; exact hn)] at e2'
      exact (R.cel n c' a e1 e2').mono (.of_same s) Am.le_more fun u z => s a u z
    · have hl := (List.getElem?_eq_some_iff.mp e1).1
      have : n = S.length := by simp at hl; omega
      subst this
      have e3 : c = c' := by simpa using e1
      have e4 : p = a := by rw [R.len] at e2'; simpa using e2'
      subst e3 e4
      exact r
  · have h' : a ∈ ca.i ++ [p] := h
    rcases List.mem_append.mp h' with h' | h'
    · exact .inl h'
    · have : a = p := by simpa using h'
      subst this; exact .inr np
theorem Rp.new_at {p : Addr} {o : HO} (R : Rp K ca S H) : RepD K (ca.more p) (upd H p o) (.ref S.length) (.ref p) := by
  unfold RepD
  refine ⟨p, ?_, rfl⟩
  show (ca.i ++ [p])[S.length]? = Option.some p
  rw [R.len]; simp
theorem tk_upd {H : Hp} {a : Addr} {u o : HO} (hu : H a = Option.some u) (ht : ∀ xs, u ≠ .tup xs) (hf : ∀ o xs, u ≠ .frz o (.lst xs)) : TK H (upd H a o) := ⟨fun b xs z => by
    have : b ≠ a := fun e => by subst e; rw [hu] at z; cases z; exact ht _ rfl
    rw [upd_ne this]; exact z, fun b o xs z => by
    have : b ≠ a := fun e => by subst e; rw [hu] at z; cases z; exact hf _ _ rfl
    rw [upd_ne this]; exact z⟩
/-- a cell is changed -/
theorem Rp.put {n : Nat} {a : Addr} {u o : HO} {c : C} (R : Rp K ca S H) (ea : ca.i[n]? = Option.some a) (hu : H a = Option.some u) (ht : ∀ xs, u ≠ .tup xs) (hf : ∀ o xs, u ≠ .frz o (.lst xs)) (r : CRep K ca (upd H a o) a c) : Rp K ca (S.set n c) (upd H a o) ∧ Fr ca H ca (upd H a o) := by
  have ma : a ∈ ca.i := List.mem_of_getElem? ea
  have tk : TK H (upd H a o) := ⟨fun b xs z => by
    have : b ≠ a := fun e => by subst e; rw [hu] at z; cases z; exact ht _ rfl
    rw [upd_ne this]; exact z, fun b o xs z => by
    have : b ≠ a := fun e => by subst e; rw [hu] at z; cases z; exact hf _ _ rfl
    rw [upd_ne this]; exact z⟩
  refine ⟨⟨by simp [R.len], R.nd, fun m c' b e1 e2 => ?_⟩, ⟨.refl, fun _ h => .inl h, tk, fun b w z nb => ?_, upd_al⟩⟩
  · by_cases hm : m = n
    · subst hm
      rw [ea] at e2; cases e2
      have hl : m < S.length := by rw [R.len]; exact (List.getElem?_eq_some_iff.mp ea).1
      rw [List.getElem?_set_self hl] at e1
      cases e1
      exact r
    · rw [List.getElem?_set_ne (Ne.symm hm)] at e1
      have hb : b ≠ a := fun z => hm (by
        subst z
        exact (List.getElem?_inj (List.getElem?_eq_some_iff.mp e2).1 R.nd).mp (e2.trans ea.symm))
      exact (R.cel m c' b e1 e2).mono tk .refl fun w z => by rw [upd_ne hb]; exact z
  · have : b ≠ a := fun e => by subst e; exact nb ma
    rw [upd_ne this]; exact z
end

/-! ### what names no cell from n on; what may be forgotten -/
mutual
def cl (n : Nat) : D → Prop
  | .tup xs => cls n xs
  | .kt xs => cls n xs
  | .fl xs => cls n xs
  | .ref m => m < n
  | _ => True
def cls (n : Nat) : List D → Prop
  | [] => True
  | x :: xs => cl n x ∧ cls n xs
end
theorem cls_iff {n : Nat} : ∀ {xs : List D}, cls n xs ↔ ∀ x ∈ xs, cl n x
  | [] => by simp [cls]
  | x :: xs => by simp [cls, cls_iff (xs := xs)]
def clC (n : Nat) : C → Prop
  | .lst xs => ∀ x ∈ xs, cl n x
  | .dK kvs => ∀ p ∈ kvs, cl n p.2
  | .dT kvs => ∀ p ∈ kvs, cl n p.2
  | .lkK kvs => ∀ p ∈ kvs, cl n p.2
  | .lkT kvs => ∀ p ∈ kvs, cl n p.2
  | .obj _ fs => ∀ f x, fs.lookup f = some x → cl n x
  | .dead => True
section
variable {K : PySem.W.Frag} {ca ca' : Am} {H : Hp} {n : Nat}
mutual
theorem RepD.cl : ∀ {x : D} {v : V}, RepD K ca H x v → cl ca.i.length x
  | .non, _, _ => trivial
  | .bl _, _, _ => trivial
  | .int _, _, _ => trivial
  | .str _, _, _ => trivial
  | .tup xs, v, h => by
    unfold RepD at h
    obtain ⟨a, vs, e, q, r⟩ := h
    exact RepDs.cl r
  | .kt xs, v, h => by
    unfold RepD at h
    obtain ⟨a, vs, e, q, r⟩ := h
    exact RepDs.cl r
  | .fl xs, v, h => by
    unfold RepD at h
    obtain ⟨a, vs, e, q, r⟩ := h
    exact RepDs.cl r
  | .ref n, v, h => by
    unfold RepD at h
    obtain ⟨a, e, q⟩ := h
    exact (List.getElem?_eq_some_iff.mp e).1
theorem RepDs.cl : ∀ {xs : List D} {vs : List V}, RepDs K ca H xs vs → cls ca.i.length xs
  | [], _, _ => trivial
  | x :: xs, vs, h => by
    unfold RepDs at h
    obtain ⟨v, r, e, h1, h2⟩ := h
    exact ⟨RepD.cl h1, RepDs.cl h2⟩
end
mutual
theorem RepD.less (g : ca.le ca') (hn : n ≤ ca.i.length) : ∀ {x : D} {v : V}, Hv.cl n x → RepD K ca' H x v → RepD K ca H x v
  | .non, _, _, h => h
  | .bl _, _, _, h => h
  | .int _, _, _, h => h
  | .str _, _, _, h => h
  | .tup xs, v, b, h => by
    unfold RepD at h ⊢
    obtain ⟨a, vs, e, q, r⟩ := h
    exact ⟨a, vs, e, q, RepDs.less g hn b r⟩
  | .kt xs, v, b, h => by
    unfold RepD at h ⊢
    obtain ⟨a, vs, e, q, r⟩ := h
    exact ⟨a, vs, e, q, RepDs.less g hn b r⟩
  | .fl xs, v, b, h => by
    unfold RepD at h ⊢
    obtain ⟨a, vs, e, q, r⟩ := h
    exact ⟨a, vs, e, q, RepDs.less g hn b r⟩
  | .ref m, v, b, h => by
    unfold RepD at h ⊢
    obtain ⟨a, e, q⟩ := h
    have hm : m < n := b
    have e2 : ca.i[m]? = some ca.i[m] := List.getElem?_eq_getElem (by omega)
    have e3 := g.2 m _ e2
    rw [e] at e3
    cases e3
    exact ⟨_, e2, q⟩
theorem RepDs.less (g : ca.le ca') (hn : n ≤ ca.i.length) : ∀ {xs : List D} {vs : List V}, cls n xs → RepDs K ca' H xs vs → RepDs K ca H xs vs
  | [], _, _, h => h
  | x :: xs, vs, b, h => by
    unfold RepDs at h ⊢
    obtain ⟨v, r, e, h1, h2⟩ := h
    exact ⟨v, r, e, RepD.less g hn b.1 h1, RepDs.less g hn b.2 h2⟩
end
theorem RepKs.less {κ : Type} {kvs : List (κ × D)} {vs : List (κ × V)} (g : ca.le ca') (hn : n ≤ ca.i.length) (b : ∀ p ∈ kvs, Hv.cl n p.2) (r : RepKs K ca' H kvs vs) : RepKs K ca H kvs vs :=
  ⟨r.1, r.2.less g hn (cls_iff.mpr fun x hx => by
    obtain ⟨p, hp, e⟩ := List.mem_map.mp hx
    subst e; exact b p hp)⟩
theorem RepKs.cl {κ : Type} {kvs : List (κ × D)} {vs : List (κ × V)} (r : RepKs K ca H kvs vs) : ∀ p ∈ kvs, Hv.cl ca.i.length p.2 := fun p hp => cls_iff.mp r.2.cl _ (List.mem_map_of_mem hp)
theorem lookup_mem {α : Type} {f : Str} {x : α} : ∀ {fs : List (Str × α)}, fs.lookup f = some x → (f, x) ∈ fs
  | [], h => by simp at h
  | (g, y) :: r, h => by
    rw [List.lookup_cons] at h
    split at h
    · rename_i e
      have e' : f = g := by simpa using e
      cases h; subst e'; exact List.mem_cons_self
    · exact List.mem_cons_of_mem _ (lookup_mem h)
theorem CRep.less {a : Addr} {c : C} (g : ca.le ca') (hn : n ≤ ca.i.length) (b : clC n c) (r : CRep K ca' H a c) : CRep K ca H a c := by
  cases c with
  | lst xs => obtain ⟨vs, e, q⟩ := r; exact ⟨vs, e, q.less g hn (cls_iff.mpr b)⟩
  | dK xs => obtain ⟨vs, e, q⟩ := r; exact ⟨vs, e, q.less g hn b⟩
  | dT xs => obtain ⟨vs, e, q⟩ := r; exact ⟨vs, e, q.less g hn b⟩
  | lkK xs => obtain ⟨o, vs, e, q⟩ := r; exact ⟨o, vs, e, q.less g hn b⟩
  | lkT xs => obtain ⟨o, vs, e, q⟩ := r; exact ⟨o, vs, e, q.less g hn b⟩
  | obj c fs =>
    obtain ⟨dx, fs', e, l, q⟩ := r
    refine ⟨dx, fs', by rw [g.1]; exact e, l, fun f => ?_⟩
    have qf := q f
    unfold RepF at qf ⊢
    split
    · rename_i x ex
      rw [ex] at qf
      obtain ⟨v, l, z⟩ := qf
      exact ⟨v, l, z.less g hn (b _ _ ex)⟩
    · rename_i ex
      rw [ex] at qf
      exact qf
  | dead => exact r
/-- the cells but for those from n on: each stood so, or names none of them -/
def Kept (S S' : Sto) : Prop := ∀ i c, i < S.length → S'[i]? = some c → S[i]? = some c ∨ clC S.length c
open Classical in
/-- what no one names any more is forgotten -/
noncomputable def gcv (S : Sto) (d : D) (S' : Sto) : D × Sto :=
  if cl S.length d ∧ S.length ≤ S'.length ∧ Kept S S' then (d, S'.take S.length)
  else match d with
    | .ref m => match S'[m]? with
      | some c => if S.length ≤ m ∧ clC S.length c ∧ Kept S S' then (.ref S.length, S'.take S.length ++ [c]) else (d, S')
      | none => (d, S')
    | _ => (d, S')
theorem Rp.cut {S S' : Sto} {H' : Hp} (R : Rp K ca S H) (f : Fr ca H ca' H') (R' : Rp K ca' S' H') (hl : S.length ≤ S'.length) (k : Kept S S') : Fr ca H ca H' ∧ Rp K ca (S'.take S.length) H' := by
  refine ⟨⟨.refl, fun _ h => .inl h, f.tk, f.st, f.al⟩, ⟨by simp [← R.len]; omega, R.nd, fun n c a e1 e2 => ?_⟩⟩
  have hn : n < S.length := by rw [R.len]; exact (List.getElem?_eq_some_iff.mp e2).1
  rw [List.getElem?_take_of_lt hn] at e1
  have r1 := R'.cel n c a e1 (f.le.2 n a e2)
  refine r1.less f.le (n := S.length) (Nat.le_of_eq R.len) ?_
  rcases k n c hn e1 with z | z
  · have r0 := R.cel n c a z e2
    rw [R.len]
    cases c with
    | lst xs => obtain ⟨vs, e, q⟩ := r0; exact cls_iff.mp q.cl
    | dK xs => obtain ⟨vs, e, q⟩ := r0; exact q.cl
    | dT xs => obtain ⟨vs, e, q⟩ := r0; exact q.cl
    | lkK xs => obtain ⟨o, vs, e, q⟩ := r0; exact q.cl
    | lkT xs => obtain ⟨o, vs, e, q⟩ := r0; exact q.cl
    | obj c fs => 
      intro f x hx
      obtain ⟨dx, fs', e, l, q⟩ := r0
      have qf := q f
      rw [hx] at qf
      obtain ⟨v, l, z⟩ := qf
      exact z.cl
    | dead => trivial
  · exact z
/-- forgetting is sound -/
theorem gc_ok {S S' S2 : Sto} {H' : Hp} {d d2 : D} {v : V} (R : Rp K ca S H) (f : Fr ca H ca' H') (R' : Rp K ca' S' H') (r : RepD K ca' H' d v) (e : gcv S d S' = (d2, S2)) : ∃ ca2, Fr ca H ca2 H' ∧ Rp K ca2 S2 H' ∧ RepD K ca2 H' d2 v := by
  unfold gcv at e
  split at e
  · rename_i h
    cases e
    obtain ⟨f2, R2⟩ := R.cut f R' h.2.1 h.2.2
    exact ⟨ca, f2, R2, r.less f.le (n := S.length) (Nat.le_of_eq R.len) h.1⟩
  · split at e
    · rename_i m hno
      split at e
      · rename_i c ec
        split at e
        · rename_i h
          cases e
          have hl : S.length ≤ S'.length := Nat.le_trans h.1 (Nat.le_of_lt (List.getElem?_eq_some_iff.mp ec).1)
          obtain ⟨f2, R2⟩ := R.cut f R' hl h.2.2
          unfold RepD at r
          obtain ⟨a, ea, ev⟩ := r
          have na : a ∉ ca.i := fun z => by
            obtain ⟨k, ek⟩ := List.getElem?_of_mem z
            have ek2 := f.le.2 k a ek
            have : k = m := (List.getElem?_inj (List.getElem?_eq_some_iff.mp ek2).1 R'.nd).mp (ek2.trans ea.symm)
            subst this
            have := (List.getElem?_eq_some_iff.mp ek).1
            rw [← R.len] at this
            omega
          have hn : H a = none := (f.new a (List.mem_of_getElem? ea)).elim (fun z => absurd z na) id
          have rc := (R'.cel m c a ec ea).less f.le (n := S.length) (Nat.le_of_eq R.len) h.2.1
          refine ⟨ca.more a, ⟨Am.le_more, fun b hb => ?_, f.tk, f.st, f.al⟩, ⟨by simp [Am.more, ← R.len]; omega, ?_, fun n c' b e1 e2 => ?_⟩, ?_⟩
          · have h' : b ∈ ca.i ++ [a] := hb
            rcases List.mem_append.mp h' with h' | h'
            · exact .inl h'
            · have : b = a := by simpa using h'
              subst this; exact .inr hn
          · show (ca.i ++ [a]).Nodup
            rw [List.nodup_append]
            exact ⟨R.nd, by simp, fun x hx y hy z => by
              have : y = a := by simpa using hy
              subst this; subst z; exact na hx⟩
          · have e2' : (ca.i ++ [a])[n]? = some b := e2
            have tl : (S'.take S.length).length = S.length := by rw [List.length_take]; omega
            by_cases hn : n < S.length
            · rw [List.getElem?_append_left (by rw [tl]; exact hn)] at e1
              rw [List.getElem?_append_left (by rw [← R.len]; exact hn)] at e2'
              exact (R2.cel n c' b e1 e2').mono .refl Am.le_more fun _ z => z
            · have hl2 := (List.getElem?_eq_some_iff.mp e1).1
              have : n = S.length := by simp at hl2; omega
              subst this
              have e3 : c = c' := by rw [List.getElem?_append_right (by rw [tl]; exact Nat.le_refl _), tl] at e1; simpa using e1
              have e4 : a = b := by rw [R.len] at e2'; simpa using e2'
              subst e3 e4
              exact rc.mono .refl Am.le_more fun _ z => z
          · unfold RepD
            refine ⟨a, ?_, ev⟩
            show (ca.i ++ [a])[S.length]? = some a
            rw [R.len]; simp
        · cases e; exact ⟨ca', f, R', r⟩
      · cases e; exact ⟨ca', f, R', r⟩
    · cases e; exact ⟨ca', f, R', r⟩
/-! what forgetting does, where one knows -/
theorem Kept.app {S T : Sto} : Kept S (S ++ T) := fun i c hi e => .inl (by rwa [List.getElem?_append_left hi] at e)
theorem Kept.refl {S : Sto} : Kept S S := fun i c hi e => .inl e
theorem gcv_app {S T : Sto} {d : D} (h : cl S.length d) : gcv S d (S ++ T) = (d, S) := by
  unfold gcv
  rw [if_pos ⟨h, by simp, Kept.app⟩]
  simp
theorem gcv_self {S : Sto} {d : D} (h : cl S.length d) : gcv S d S = (d, S) := by
  unfold gcv
  rw [if_pos ⟨h, Nat.le_refl _, Kept.refl⟩]
  simp
theorem gcv_ref {S T : Sto} {m : Nat} {c : C} (hm : S.length ≤ m) (e : (S ++ T)[m]? = some c) (h : clC S.length c) : gcv S (.ref m) (S ++ T) = (.ref S.length, S ++ [c]) := by
  unfold gcv
  rw [if_neg fun z => by have : m < S.length := z.1; omega]
  simp only [e]
  rw [if_pos ⟨hm, h, Kept.app⟩]
  simp
/-- the cells up to there, changed -/
theorem gcv_to {S S1 T : Sto} {d : D} (hl : S1.length = S.length) (h : cl S.length d) (k : Kept S S1) : gcv S d (S1 ++ T) = (d, S1) := by
  unfold gcv
  rw [if_pos ⟨h, by simp [hl], fun i c hi e => k i c hi (by rwa [List.getElem?_append_left (by omega)] at e)⟩]
  simp [← hl]
theorem Kept.set {S S1 : Sto} {n : Nat} {c : C} (k : Kept S S1) (h : clC S.length c) : Kept S (S1.set n c) := fun i c' hi e => by
  by_cases hn : n = i
  · subst hn
    by_cases hl : n < S1.length
    · rw [List.getElem?_set_self hl] at e; cases e; exact .inr h
    · rw [List.getElem?_eq_none (by simpa using hl)] at e; cases e
  · rw [List.getElem?_set_ne hn] at e; exact k i c' hi e
end
end Hv
/-! XRev: list(reversed(x)), x a list. -/
namespace RT
open PySem PySem.Spec PyProof.Rows
section
variable {prog : Program} {w : World} {A : Around} {E : Value → Shared → Prop} {s : Shared}
theorem extend_rev {R : Result → Shared → Prop} {it l : Addr} {items : Array Value} (hh : A.handled = none) (S : Addr) (res : Value) (c₀ : Nat) (hS : s.heap.get? S = some { cls := .type "list", data := .seq #[] c₀ })
    (hit : s.heap.IsRevIter it l ((items.size : Int) - 1)) (hl : s.heap.IsList l items) (hne : l ≠ it) (hSi : S ≠ it) (hSl : S ≠ l) (hn : items.size ≤ sizeLine)
    (hR : ∀ h' tk acc' c', (∀ b o, b ≠ S → b ≠ it → s.heap.get? b = some o → h'.get? b = some o) → h'.get? S = some { cls := .type "list", dict := none, data := .seq acc' c', slots := #[] } →
      ItemsOf (fun i v => items[items.size - 1 - i]? = some v) acc' items.size → R (.ok (.ret res)) { s with heap := h', toks := tk }) :
    wpAny (model prog w) A.in1 (Builtin.List.listExtendWith (.ref S) (.ref it) res)
      (fun fin s' => match fin with | .done f => R (.ok f) s' | .again c' => c'.quiet = true ∧ codeAny (model prog w) A c' R s') (fun e s' => R (.error e) s') s := by
  have W := (Walks.listRev (prog := prog) (w := w) (A := A.in1) hh it l hne items).toS
  have hSf : S ∉ [it, l] := by simp only [List.mem_cons, List.not_mem_nil, or_false, not_or]; exact ⟨hSi, hSl⟩
  have hT : s.TypeIs (.ref it) "list_reverseiterator" := hit.typeIs
  have h1 : Builtin.List.listSameRef (.ref S) (.ref it) = false := by simp [Builtin.List.listSameRef, hSi]
  unfold Builtin.List.listExtendWith
  refine wpAny_bind (wpAny_typeOf hT ?_)
  rw [if_neg (by rw [h1]; decide)]
  refine wpAny_bind (wpAny_pyIter_revIter hit ?_)
  refine wpAny_bind (wpAny_holding ?_)
  unfold Builtin.List.listLengthHint
  refine wpAny_bind (wpAny_specialOf hT nolen_lri ?_)
  show wpAny _ A.in1 (specialOf (Value.ref it) (Str.ofString "__length_hint__") >>= _) _ _ _
  refine wpAny_bind (wpAny_specialOf hT hint_lri ?_)
  generalize hid : ("list_reverseiterator.__length_hint__" : String) = id0
  wp_delta
  rw [show splitId id0 = some ("list_reverseiterator", "__length_hint__") from by subst hid; decide +kernel]
  subst hid
  refine wpAny_bind (wpAny_isInstance (b := true) hT (by rw [isSubtype_type]; kernel_rfl) ?_)
  refine wpAny_pure ?_
  rw [if_neg (by decide)]
  have e0 : ((items.size : Nat) : Int) - 1 - ((0 : Nat) : Int) = (items.size : Int) - 1 := by omega
  refine wpAny_pure ⟨plainId_quiet F.plain_extend_loop _, codeAny_extend_loopS W hn _ hSf _ items.size 0 _ _ _ rfl (Nat.zero_le _) ⟨Nat.zero_le _, by rw [e0]; exact hit, hl⟩ hS (ItemsOf.nil _) fun s' acc' c' hm hS' hacc => ?_⟩
  rw [Moved.eq_with hm]
  refine hR s'.heap s'.toks acc' c' (fun b o hb hb2 e => hm.heap b o (fun hmem => ?_) e) hS' hacc
  rcases List.mem_cons.mp hmem with e' | hmem
  · exact hb e'
  · exact hb2 (List.mem_singleton.mp hmem)
theorem init_rev {R : Result → Shared → Prop} {it l : Addr} {items : Array Value} (hh : A.handled = none) (S : Addr) (hS : s.heap.get? S = some { cls := .type "list", data := .seq #[] })
    (hit : s.heap.IsRevIter it l ((items.size : Int) - 1)) (hl : s.heap.IsList l items) (hne : l ≠ it) (hSi : S ≠ it) (hSl : S ≠ l) (hn : items.size ≤ sizeLine)
    (hR : ∀ h' tk acc' c', (∀ b o, b ≠ S → b ≠ it → s.heap.get? b = some o → h'.get? b = some o) → h'.get? S = some { cls := .type "list", dict := none, data := .seq acc' c', slots := #[] } →
      ItemsOf (fun i v => items[items.size - 1 - i]? = some v) acc' items.size → R (.ok (.ret .none)) { s with heap := h', toks := tk }) :
    wpAny (model prog w) A.in1 (Builtin.«list.__init__» ⟨[.ref S, .ref it], []⟩)
      (fun fin s' => match fin with | .done f => R (.ok f) s' | .again c' => c'.quiet = true ∧ codeAny (model prog w) A c' R s') (fun e s' => R (.error e) s') s := by
  show wpAny _ _ (do let old ← Builtin.List.listItems (.ref S); Builtin.List.listUpdate (.ref S) (fun _ => #[]); letGo old.toList.reverse; Builtin.List.listExtendWith (.ref S) (.ref it) .none) _ _ s
  refine wpAny_bind ?_
  unfold Builtin.List.listItems
  refine wpAny_bind (wpAny_seqItems hS rfl (wpAny_pure ?_))
  show wpAny _ _ (updateSeq S (fun _ => #[]) >>= fun _ => letGo (#[] : Array Value).toList.reverse >>= fun _ => Builtin.List.listExtendWith (.ref S) (.ref it) .none) _ _ s
  refine wpAny_bind (wpAny_updateSeq hS rfl ?_)
  have hS₂ := Heap.get?_update_self (Obj.mapSeq (fun _ => (#[] : Array Value))) hS rfl
  have oth : ∀ b o, b ≠ S → s.heap.get? b = some o → (s.heap.update S (Obj.mapSeq (fun _ => (#[] : Array Value)))).get? b = some o :=
    fun b o hb e => (Heap.get?_update_other _ _ (Ne.symm hb)).trans e
  refine wpAny_bind (wpAny_letGo ?_)
  obtain ⟨ol, hol, r1, n1, r2⟩ := id hl
  refine extend_rev (s := { s with heap := s.heap.update S (Obj.mapSeq (fun _ => (#[] : Array Value))) }) hh S .none _ hS₂ (hit.at fun o e => oth it o (Ne.symm hSi) e) ⟨ol, oth l ol (Ne.symm hSl) hol, r1, n1, r2⟩ hne hSi hSl hn fun h' tk acc' c' hk hS' hacc => ?_
  exact hR h' tk acc' c' (fun b o hb hb2 e => hk b o hb hb2 (oth b o hb e)) hS' hacc
theorem call_list_rev {it l : Addr} {items : Array Value} {Q : Value → Shared → Prop} (hh : A.handled = none) (hit : s.heap.IsRevIter it l ((items.size : Int) - 1)) (hl : s.heap.IsList l items) (hne : l ≠ it) (hn : items.size ≤ sizeLine)
    (hQ : ∀ h' tk acc' c', (∀ b o, b ≠ it → s.heap.get? b = some o → h'.get? b = some o) →
      h'.get? s.heap.objs.size = some { cls := .type "list", dict := none, data := .seq acc' c', slots := #[] } → ItemsOf (fun i v => items[items.size - 1 - i]? = some v) acc' items.size → Q (.ref s.heap.objs.size) { s with heap := h', toks := tk }) :
    wpAny (model prog w) A (call (.type "list") [.ref it]) Q E s := by
  refine callType_codes (Q₁ := fun obj s₁ => obj = .ref s.heap.objs.size ∧ s₁ = { s with heap := s.heap.push { cls := .type "list", data := .seq #[] } }) F.called_list (F.typeCall_list_1 _) F.entry_list_init
    (code_list_new _ ⟨rfl, rfl⟩) fun obj s₁ h₁ => ?_
  obtain ⟨rfl, rfl⟩ := h₁
  have hS : (s.heap.push { cls := .type "list", data := .seq #[] }).get? s.heap.objs.size = some { cls := .type "list", data := .seq #[] } := Heap.get?_push_size _ rfl
  obtain ⟨oi, hoi, _⟩ := id hit
  obtain ⟨ol, hol, _⟩ := id hl
  refine ⟨⟨_, hS, rfl⟩, F.args_list_init_2 _ _, init_rev (A := A.in1) (s := { s with heap := s.heap.push { cls := .type "list", data := .seq #[] } }) hh _ hS (hit.at fun o e => Heap.get?_push_of_some _ e) (hl.push _) hne (Nat.ne_of_gt (Heap.lt_size hoi)) (Nat.ne_of_gt (Heap.lt_size hol)) hn fun h' tk acc' c' hk hS' hacc => ?_⟩
  exact ⟨rfl, hQ h' tk acc' c' (fun b o hb e => hk b o (Nat.ne_of_lt (Heap.lt_size e)) hb (Heap.get?_push_of_some _ e)) hS' hacc⟩
end
end RT
namespace L2
open PySem PySem.Spec PyProof.Rows
section
variable {X : Cx}
theorem pe_listRev {e : Expr} {te : TE} {p p2 pos pos2 : Pos} (hc : X.calm = true) (hg : Gl X "list") (hm : X.mg "list" = none) (hg2 : Gl X "reversed") (hm2 : X.mg "reversed" = none) (he : PE X e te)
    (hs : starEach [e] X.env = (false, eval e X.env) :: starEach [] X.env := by rfl)
    (hs2 : starEach [.Call (.Name "reversed" p2) [e] [] pos2] X.env = (false, eval (.Call (.Name "reversed" p2) [e] [] pos2) X.env) :: starEach [] X.env := by rfl) :
    PE X (.Call (.Name "list" p) [.Call (.Name "reversed" p2) [e] [] pos2] [] pos) (tRevL X.K te) := by
  refine ⟨fun pins s σ H Q I h => ?_⟩
  refine Call_ (ld_blt I hg hm boot_list (PyProof.Rows.callWith_type1 (args_cons (Call_ (ld_blt I hg2 hm2 PyProof.Rows.boot_reversed (PyProof.Rows.callWith_type1 (args_cons (thn (he.run pins s σ H _ I h) fun u s1 ⟨v, H1, I1, r1, q1⟩ => args_nil ?_) hs) hs rfl))) hs2) hs2 rfl))
  obtain ⟨a, xs, ev, hq, q⟩ := q1
  subst ev
  obtain rfl : u = Value.ref a := r1
  obtain ⟨its, rv, p', hz⟩ := I1.list hq
  refine call_reversed_list p'.isList (args_nil ?_)
  have k0 : ∀ b o, s1.heap.get? b = some o → (s1.heap.push (revObj a ((its.toArray.size : Int) - 1))).get? b = some o := fun b o e => Heap.get?_push_of_some _ e
  have I2 : Inv X pins σ H1 { s1 with heap := s1.heap.push (revObj a ((its.toArray.size : Int) - 1)) } := I1.kept (t' := s1.toks) k0
  have hf := I1.fpOk (H' := H1) (b := s1.heap.objs.size) (Nat.le_refl _) (I1.hok.fresh (Nat.le_refl _))
  have hl := p'.isList
  obtain ⟨ol, hol, _⟩ := id hl
  have hne : a ≠ s1.heap.objs.size := Nat.ne_of_lt (Heap.lt_size hol)
  have hn : its.toArray.size ≤ sizeLine := by rw [List.size_toArray, ← rv.length]; exact hz
  refine RT.call_list_rev (s := { s1 with heap := s1.heap.push (revObj a ((its.toArray.size : Int) - 1)) }) (I1.ok.hd hc) ⟨_, Heap.get?_push_size _ rfl, rfl, rfl⟩ (hl.push _) hne hn fun h' tk acc c' hk hS hi => ?_
  refine ⟨.ref _, _, I2.turnedNew (t' := tk) (ch := [s1.heap.objs.size]) (ob := .lst xs.reverse) (fun b o hb e => hk b o (fun z => hb (by rw [z]; exact List.mem_singleton_self _)) e) (fun b hb => ?_) (Nat.le_refl _) ?_, rfl, q _ (I2.hok.fresh (Nat.le_refl _))⟩
  · rw [List.mem_singleton.mp hb]
    exact hf
  · refine ⟨by rw [List.length_reverse]; exact hz, acc.toList, c', RT.vals_rev rv hi, ?_⟩
    rw [Array.toArray_toList]
    exact hS
end
end L2
/-! XStep: x[::k], x a text or a list. -/
namespace L2
open PySem PySem.Spec PyProof.Rows
def stepT (z : Str) (k : Int) : Str := if (k == 1 && (Builtin.Str.strSliceIndices none none k z.length).length == z.length) = true then z else ⟨((Builtin.Str.strSliceIndices none none k z.length).filterMap (z.cps[·]?)).toArray⟩
def stepIx (n : Nat) (k : Int) : List Nat := Builtin.Str.strSliceIndices none none k n
def stepQ (K : PySem.W.Frag) (Q : VK) (x : V) (o : Option Int) (H : Hp) : Prop := ∃ k : Int, o = some k ∧ k ≠ 0 ∧ ((∃ z, x = .str z ∧ (stepT z k).length ≤ sizeLine ∧ Q (.str (stepT z k)) H) ∨
  ∃ a xs, x = .ref a ∧ SqL K H a xs ∧ ∀ p, H p = none → Q (.ref p) (upd H p (.lst ((stepIx xs.length k).filterMap (xs[·]?)))))
def tStep (K : PySem.W.Frag) (te tk : TE) : TE := fun σ H Q => te σ H fun x H1 => tPart tk σ H1 fun o H2 => stepQ K Q x o H2
theorem vals_pick {xs : List V} {its : List Value} (r : Vals xs its) : ∀ is : List Nat, Vals (is.filterMap (xs[·]?)) (is.filterMap (its[·]?))
  | [] => .nil
  | i :: is => by
    have ih := vals_pick r is
    rw [List.filterMap_cons, List.filterMap_cons]
    by_cases h : i < xs.length
    · have e : xs[i]? = some xs[i] := List.getElem?_eq_getElem h
      obtain ⟨u, hu, ru⟩ := r.get e
      rw [e, hu]
      exact .cons ru ih
    · have h2 : ¬ i < its.length := by rw [← r.length]; exact h
      rw [List.getElem?_eq_none (by omega), List.getElem?_eq_none (by omega)]
      exact ih
section
variable {X : Cx}
theorem pe_step {e ek : Expr} {te tk : TE} {p3 pos : Pos} (he : PE X e te) (hk : PE X ek tk) : PE X (.Subscript e (.Slice none none (some ek) p3) pos) (tStep X.K te tk) := by
  refine ⟨fun pins s σ H Q I h => ?_⟩
  refine Subscript_ (thn (he.run pins s σ H _ I h) fun v s1 ⟨x, H1, I1, r1, q1⟩ => ?_)
  have hst : PO X (some ek) (tPart tk) := po_some hk
  refine wpAny_Slice (thn (po_none.run pins s1 σ H1 (fun o H2 => o = none ∧ H2 = H1) I1 ⟨rfl, rfl⟩) fun vl s2 ⟨l, H2, I2, pl, el, e2⟩ => ?_)
  subst el e2
  refine thn (po_none.run pins s2 σ H2 (fun o H3 => o = none ∧ H3 = H2) I2 ⟨rfl, rfl⟩) fun vu s3 ⟨u, H3, I3, pu, eu, e3⟩ => ?_
  subst eu e3
  refine thn (hst.run pins s3 σ H3 _ I3 q1) fun vs s4 ⟨o, H4, I4, ps, k, eo, h0, q⟩ => ?_
  subst eo
  have I5 : Inv X pins σ H4 { s4 with heap := s4.heap.push { cls := .type "slice", data := .fields #[vl, vu, vs] } } := I4.kept (t' := s4.toks) fun b ob q => Heap.get?_push_of_some _ q
  rcases q with ⟨z, ex, hz, q⟩ | ⟨a, xs, ex, hx, q⟩
  · subst ex
    obtain ⟨t, rfl⟩ := r1
    obtain ⟨l, rfl, hl⟩ := IsPart.raw pl
    obtain ⟨u, rfl, hu⟩ := IsPart.raw pu
    obtain ⟨st, rfl, hs⟩ := IsPart.raw ps
    show wpAny (model X.prog X.w) X.A (subscriptTail e (.Slice none none (some ek) p3) (.str z t) (.ref s4.heap.objs.size)) (EP X pins σ Q) X.xe _
    refine tail_any (ops := [.ref s4.heap.objs.size]) (PySem.typeIs_str _ z t) F.slot_str_getitem.lookup ?_ (by with_unfolding_all rfl)
    refine wpAny_getItem_str_slice (l := l) (u := u) (st := st) ⟨_, Heap.get?_push_size _ rfl, rfl, rfl⟩ (by rw [hs]; simpa using h0) ?_
    unfold sliceMade slicePicked
    rw [hl, hu, hs]
    show Made.post (if (k == 1 && (Builtin.Str.strSliceIndices none none k z.length).length == z.length) = true then Made.val (.str z t) else Made.str ⟨((Builtin.Str.strSliceIndices none none k z.length).filterMap (z.cps[·]?)).toArray⟩) (EP X pins σ Q) _
    unfold stepT at hz q
    by_cases c : (k == 1 && (Builtin.Str.strSliceIndices none none k z.length).length == z.length) = true
    · rw [if_pos c] at q ⊢
      exact ⟨.str z, H4, I5, ⟨t, rfl⟩, q⟩
    · rw [if_neg c] at q hz ⊢
      exact ⟨hz, .str _, H4, I5.tok _, ⟨_, rfl⟩, q⟩
  · subst ex
    obtain rfl : v = Value.ref a := r1
    obtain ⟨its, r, ht, hz⟩ := I5.list hx
    have hlen := r.length
    show wpAny (model X.prog X.w) X.A (subscriptTail e (.Slice none none (some ek) p3) (.ref a) (.ref s4.heap.objs.size)) (EP X pins σ Q) X.xe _
    refine tail_any (ops := [.ref a, .ref s4.heap.objs.size]) ht.isList.typeIs (PySem.slot_list_getitem.lookup) ?_ (by with_unfolding_all rfl)
    refine wpAny_getItem_list_slice ht.isList (Heap.IsSliceOf.new _ vl vu vs) pl pu ps (by simpa using h0) ?_ (by rw [List.size_toArray]; omega)
    have hix : (sliceRange (sliceBounds none none (some k) its.toArray.size).1 (sliceBounds none none (some k) its.toArray.size).2.1 (sliceBounds none none (some k) its.toArray.size).2.2) = stepIx xs.length k := by
      rw [List.size_toArray, ← hlen]
      rfl
    have hle := slicePick_size_le its.toArray none none (some k)
    have e : slicePick its.toArray none none (some k) = ((stepIx xs.length k).filterMap (its[·]?)).toArray := by
      unfold slicePick
      rw [hix]
      simp
    rw [e, List.size_toArray, List.size_toArray] at hle
    rw [e]
    have rv := vals_pick r (stepIx xs.length k)
    refine ⟨.ref _, _, I5.laid (t' := s4.toks) (o := .lst ((stepIx xs.length k).filterMap (xs[·]?))) (fun b ob q => Heap.get?_push_of_some _ q) (Nat.le_refl _) ?_, rfl, q _ (I5.hok.fresh (Nat.le_refl _))⟩
    exact ⟨by rw [rv.length]; omega, _, 0, rv, Heap.get?_push_size _ rfl⟩
end
end L2
/-! Hv1: the small language, how it is tied to the text, what it means over data and cells. -/
namespace Hv
open PySem PySem.Spec PyProof.Rows L2

/-! ### the language -/
/-- a target: a name's slot, or a row of targets -/
inductive G where
  | nm (i : Nat) | tup (gs : List Nat)
/-- built-in types named in isinstance -/
inductive Ty where
  | int | bool | str | list | tuple | dict
  deriving DecidableEq
/-- built-in operations over operands -/
inductive Op where
  | tup | lst | bin (o : Operator) | neg | ix | sl (lo hi : Bool) | step
  | len | list | tupleOf | sum | int | str | ord | min2 | max2 | all | any | listRev | isi (t : Ty)
  | join | dnewK | dnewT | get2 | append | clear
  | setdef | pop0 | pop1 | pop2 | values | valuesL | itemsL | sorted | sortedItems | sortedSet | lenSet | dictOf | update
  | partition | rpartition | split1 | split2 | replace | startswith | index | count | reverse | strip
  deriving DecidableEq
mutual
inductive E where
  | var (i : Nat) | non | bl (b : Bool) | int (i : Int) | str (x : Str)
  | op (k : Op) (es : Es)
  | cmp (o : CmpOp) (a b : E) | cmp2 (o o' : CmpOp) (a b c : E) | cmp3 (o o' o2 : CmpOp) (a b c d : E)
  | and (a b : E) | or (a b : E) | not (a : E) | ife (c a b : E)
  | call (f : Str) (es : Es)
  | fld (e : E) (f : Str) | mcall (e : E) (m : Str) (es : Es) | qcall (x m : Str) (es : Es)
  | frz (e : E) | gc (e : E) | glob (x : Str)
  | isc (e : E) (x : Str) (c : Nat) | xfld (i : Nat) (f : Str) | xis (i : Nat) (x : Str) (c : Option Nat)
  | sortBy (e : E) (f : Str)
  | lc (own : List (Str × Nat)) (g : G) (it : It) (cs : Eo) (e : E)
inductive Es where
  | nil | cons (e : E) (es : Es)
inductive Eo where
  | none | some (e : E)
inductive It where
  | e (e : E) | rng1 (a : E) | rng2 (a b : E) | enum (a : E) | str (a : E) | tup (a : E) | rev (a : E) | zip (a b : E) | items (a : E) | keys (a : E)
end
mutual
inductive T where
  | asg (g : G) (a : E)
  | aug (i : Nat) (o : Operator) (e : E)
  | setI (b k : E) (a : E)
  | fset (b : E) (f : Str) (a : E)
  | faug (b : E) (f : Str) (o : Operator) (e : E)
  | expr (a : E)
  | ret (a : E) | retN
  | ite (c : E) (a b : Ts)
  | for_ (g : G) (it : It) (b : Ts)
  | whil (n : Nat) (c : E) (b : Ts)
  | brk | cnt | pass
  | nev
  | raise (x : Str) (c : Nat) (f : Option Str) (es : Es)
  | tri (b : Ts) (hs : Hs)
  | fgt (is : List Nat)
inductive Ts where
  | nil | cons (t : T) (ts : Ts)
/-- except clauses: the class's name, its number, the name's slot, the suite -/
inductive Hs where
  | nil | cons (x : Str) (c : Nat) (i : Option Nat) (b : Ts) (hs : Hs)
end

def Ty.name : Ty → Str
  | .int => "int" | .bool => "bool" | .str => "str" | .list => "list" | .tuple => "tuple" | .dict => "dict"

/-! ### the tie to the text -/
def visB (sc : Scope) (x : Str) : Bool := match sc.names.lookup x with
  | some .local => true | some .cell => true | some .free => true | _ => false
def locB (sc : Scope) (x : Str) : Bool := match sc.names.lookup x with
  | some .local => true | some .cell => true | _ => false
def glB (sc : Scope) (x : Str) : Bool := match sc.names.lookup x with
  | some .globalImplicit => true | _ => false
def plainName (x : Str) : Bool := !(x == ("__debug__" : Str)) && !(x == ("__classdict__" : Str)) && !(x == ("__name__" : Str))
/-- the head of an attribute is no super() -/
def baseOk : Expr → Bool
  | .Call (.Name y _) _ _ _ => !(y == ("super" : Str))
  | _ => true
/-- f(..), f a built-in -/
def bM (bl : List Str) (sc : Scope) (f : Str) (n : Nat) : Expr → Option (List Expr)
  | .Call (.Name x _) l [] _ => if decide (x = f) && glB sc x && bl.contains x && decide (l.length = n) then some l else none
  | _ => none
/-- x.m(..) -/
def mM (m : Str) (n : Nat) : Expr → Option (List Expr)
  | .Call (.Attribute x a p) l [] q => if decide (a = m) && baseOk x && (p.endLine == q.line) && decide (l.length = n) then some (x :: l) else none
  | _ => none
/-- f(x.m()) -/
def bmM (bl : List Str) (sc : Scope) (f m : Str) (x : Expr) : Option (List Expr) := match bM bl sc f 1 x with
  | some [y] => mM m 0 y
  | _ => none
/-- f(g(x)) -/
def bbM (bl : List Str) (sc : Scope) (f g : Str) (x : Expr) : Option (List Expr) := match bM bl sc f 1 x with
  | some [y] => bM bl sc g 1 y
  | _ => none
/-- the operands of a built-in operation -/
def opM (bl : List Str) (sc : Scope) (k : Op) (x : Expr) : Option (List Expr) := match k with
  | .tup => match x with | .Tuple l _ _ => some l | _ => none
  | .lst => match x with | .List l _ => some l | _ => none
  | .bin o => match x with | .BinOp a p b _ => if o = p then some [a, b] else none | _ => none
  | .neg => match x with | .UnaryOp .USub a _ => some [a] | _ => none
  | .ix => match x with | .Subscript _ (.Slice ..) _ => none | .Subscript a b _ => some [a, b] | _ => none
  | .sl lo hi => match x with
    | .Subscript a (.Slice l h none _) _ => match lo, hi, l, h with
      | false, false, none, none => some [a]
      | true, false, some l, none => some [a, l]
      | false, true, none, some h => some [a, h]
      | true, true, some l, some h => some [a, l, h]
      | _, _, _, _ => none
    | _ => none
  | .step => match x with | .Subscript a (.Slice none none (some k) _) _ => some [a, k] | _ => none
  | .len => bM bl sc "len" 1 x
  | .list => bM bl sc "list" 1 x
  | .tupleOf => bM bl sc "tuple" 1 x
  | .sum => bM bl sc "sum" 1 x
  | .int => bM bl sc "int" 1 x
  | .min2 => bM bl sc "min" 2 x
  | .max2 => bM bl sc "max" 2 x
  | .all => bM bl sc "all" 1 x
  | .any => bM bl sc "any" 1 x
  | .listRev => bbM bl sc "list" "reversed" x
  | .isi t => match bM bl sc "isinstance" 2 x with
    | some [y, .Name z _] => if decide (z = t.name) && glB sc z && bl.contains z then some [y] else none
    | _ => none
  | .join => mM "join" 1 x
  | .dnewK => match x with | .Dict [] [] _ => some [] | _ => none
  | .dnewT => match x with | .Dict [] [] _ => some [] | _ => none
  | .get2 => mM "get" 2 x
  | .append => mM "append" 1 x
  | .clear => mM "clear" 0 x
  | _ => none
/-- what wants that no error is handled meanwhile -/
def calmK : Op → Bool
  | .tup => false | .lst => false | .bin _ => false | .neg => false | .ix => false | .len => false | .int => false | .isi _ => false | .str => false
  | _ => true
/-- isinstance(a, z) -/
def iscM (bl : List Str) (sc : Scope) (x : Expr) : Option (Expr × Str) := match bM bl sc "isinstance" 2 x with
  | some [a, .Name z _] => some (a, z)
  | _ => none
def xisM (bl : List Str) (sc : Scope) (x : Expr) : Option (Str × Str) := match iscM bl sc x with
  | some (.Name n _, z) => some (n, z)
  | _ => none
def veOk (bl : List Str) (c : Option Nat) (z : Str) : Bool := match c with
  | some _ => true
  | none => decide (z = "ValueError") && bl.contains z
def xfM : Expr → Option (Str × Str)
  | .Attribute (.Name x _) a _ => some (x, a)
  | _ => none
/-- an expression of a plain kind -/
def okX : Expr → Bool
  | .Starred .. => false
  | .Slice .. => false
  | .Set .. => false
  | .SetComp .. => false
  | .DictComp .. => false
  | .GeneratorExp .. => false
  | _ => true
/-- an expression of no kind of its own as a test -/
def noT : Expr → Bool
  | .UnaryOp .Not _ _ => false
  | .BoolOp .. => false
  | .IfExp .. => false
  | .Compare .. => false
  | _ => true
def isLc : E → Bool
  | .lc .. => true
  | .frz e => isLc e
  | .gc e => isLc e
  | _ => false
def nmOk (str : Bool) (N : List Str) (sc : Scope) (i : Nat) : Expr → Bool
  | .Name x _ => decide (N[i]? = some x) && (if str then decide (sc.names.lookup x = some .local) else locB sc x)
  | _ => false
def nmsOk (str : Bool) (N : List Str) (sc : Scope) : List Nat → List Expr → Bool
  | [], [] => true
  | i :: is, e :: es => nmOk str N sc i e && nmsOk str N sc is es
  | _, _ => false
def chkG (str : Bool) (N : List Str) (sc : Scope) : G → Expr → Bool
  | .nm i, e => nmOk str N sc i e
  | .tup is, .Tuple es _ _ => nmsOk str N sc is es
  | _, _ => false
def gSlots : G → List Nat
  | .nm i => [i]
  | .tup is => is
def tgOk : It → G → Bool
  | .enum _, .nm _ => false
  | .zip _ _, .nm _ => false
  | .items _, .nm _ => false
  | _, _ => true
/-- a comprehension's only clause -/
def oneGen : List Comprehension → Option (Expr × Expr × List Expr)
  | [⟨tg, iter, ifs, asy⟩] => if asy = 0 then some (tg, iter, ifs) else none
  | _ => none
/-- what may stand as a test -/
def tstOk : E → Bool
  | .ife _ _ _ => false
  | .and a b => tstOk a && tstOk b
  | .or a b => tstOk a && tstOk b
  | .not a => tstOk a
  | .frz _ => false
  | .gc e => tstOk e
  | _ => true
mutual
/-- hot: an error is handled -/
def chk (bl : List Str) (hot : Bool) (N : List Str) (sc : Scope) : E → Expr → Bool
  | .var i, .Name x _ => decide (N[i]? = some x) && visB sc x && plainName x
  | .non, .Constant .none _ _ => true
  | .bl b, .Constant (.bool c) _ _ => b == c
  | .int i, .Constant (.int j) _ _ => decide (i = j)
  | .str x, .Constant (.str y) _ _ => decide (x = y)
  | .op k es, x => (!hot || !calmK k) && noT x && okX x && match opM bl sc k x with
      | some ys => chks bl hot N sc es ys
      | none => false
  | .cmp o a b, .Compare x [p] [y] _ => decide (o = p) && chk bl hot N sc a x && chk bl hot N sc b y && okX y
  | .cmp2 o o' a b c, .Compare x [p, p'] [y, z] _ => decide (o = p) && decide (o' = p') && chk bl hot N sc a x && chk bl hot N sc b y && chk bl hot N sc c z && okX z
  | .cmp3 o o' o2 a b c d, .Compare x [p, p', p2] [y, z, t] _ => decide (o = p) && decide (o' = p') && decide (o2 = p2) && chk bl hot N sc a x && chk bl hot N sc b y && chk bl hot N sc c z && chk bl hot N sc d t && okX t
  | .and a b, .BoolOp .And (x :: y :: r) p => chk bl hot N sc a x && (match r with
      | [] => chk bl hot N sc b y
      | z :: r => chk bl hot N sc b (.BoolOp .And (y :: z :: r) p))
  | .or a b, .BoolOp .Or (x :: y :: r) p => chk bl hot N sc a x && (match r with
      | [] => chk bl hot N sc b y
      | z :: r => chk bl hot N sc b (.BoolOp .Or (y :: z :: r) p))
  | .not a, .UnaryOp .Not x _ => chk bl hot N sc a x
  | .ife c a b, .IfExp x y z _ => tstOk c && chk bl hot N sc c x && chk bl hot N sc a y && chk bl hot N sc b z
  | .call f es, .Call (.Name x _) l [] _ => !hot && decide (f = x) && glB sc x && plainName x && chks bl hot N sc es l
  | .fld e f, .Attribute x a _ => decide (f = a) && baseOk x && chk bl hot N sc e x
  | .mcall e m es, .Call (.Attribute x a p) l [] q => !hot && decide (m = a) && baseOk x && (p.endLine == q.line) && decide (l.length < 28) && chk bl hot N sc e x && chks bl hot N sc es l
  | .qcall y m es, .Call (.Attribute (.Name x p1) a p) l [] q => !hot && decide (m = a) && decide (y = x) && glB sc x && plainName x && (p.endLine == q.line) && decide (0 < l.length) && decide (l.length < 28) && chks bl hot N sc es l
  | .frz e, x => chk bl hot N sc e x
  | .gc e, x => chk bl hot N sc e x
  | .glob x, .Name y _ => !hot && decide (x = y) && glB sc x && plainName x
  | .isc e y c, x => !hot && match iscM bl sc x with
      | some (a, z) => decide (z = y) && glB sc z && plainName z && chk bl hot N sc e a && okX a
      | none => false
  | .xfld i f, x => hot && match xfM x with
      | some (y, a) => decide (f = a) && decide (N[i]? = some y) && visB sc y && plainName y
      | none => false
  | .xis i z c, x => hot && match xisM bl sc x with
      | some (n, y) => decide (z = y) && glB sc y && plainName y && decide (N[i]? = some n) && visB sc n && plainName n && veOk bl c z
      | none => false
  | .lc own g it cs e, .ListComp elt gens scope _ => !hot && match oneGen gens with
      | some (tg, iter, ifs) => chki bl N sc it iter && okX iter && tgOk it g && blkC N sc scope own && chkG true N (relS scope sc) g tg && (gSlots g).all (fun i => (own.map (·.2)).contains i) &&
          (own.map (·.2)).all (fun i => decide (i < N.length)) && chk bl false N (relS scope sc) e elt && chkc bl N (relS scope sc) cs ifs
      | none => false
  | .sortBy e f, .Call (.Name x _) [y] [⟨some k, .Name z _, _⟩] _ => !hot && decide (x = "sorted") && decide (k = "key") && glB sc x && bl.contains x && decide (z = f) && glB sc z && plainName z && chk bl hot N sc e y
  | _, _ => false
def chks (bl : List Str) (hot : Bool) (N : List Str) (sc : Scope) : Es → List Expr → Bool
  | .nil, [] => true
  | .cons e es, x :: l => chk bl hot N sc e x && okX x && chks bl hot N sc es l
  | _, _ => false
def chkc (bl : List Str) (N : List Str) (sc : Scope) : Eo → List Expr → Bool
  | .none, [] => true
  | .some e, [x] => tstOk e && chk bl false N sc e x
  | _, _ => false
def chki (bl : List Str) (N : List Str) (sc : Scope) : It → Expr → Bool
  | .e e, x => chk bl false N sc e x && okX x
  | .tup e, x => chk bl false N sc e x && okX x
  | .str e, x => chk bl false N sc e x && okX x
  | .rng1 a, x => match bM bl sc "range" 1 x with | some [y] => chk bl false N sc a y && okX y | _ => false
  | .rng2 a b, x => match bM bl sc "range" 2 x with | some [y, z] => chk bl false N sc a y && okX y && chk bl false N sc b z && okX z | _ => false
  | .enum a, x => match bM bl sc "enumerate" 1 x with | some [y] => chk bl false N sc a y && okX y | _ => false
  | .rev a, x => match bM bl sc "reversed" 1 x with | some [y] => chk bl false N sc a y && okX y | _ => false
  | .zip a b, x => match bM bl sc "zip" 2 x with | some [y, z] => chk bl false N sc a y && okX y && chk bl false N sc b z && okX z | _ => false
  | .items a, x => match mM "items" 0 x with | some [y] => chk bl false N sc a y && okX y | _ => false
  | .keys a, x => match mM "keys" 0 x with | some [y] => chk bl false N sc a y && okX y | _ => false
end

/-- a row of names is given no row that is written out (their stores would be swapped) -/
def noSwap : Expr → Expr → Bool
  | .Tuple .., .Tuple .. => false
  | _, _ => true
/-- a comprehension given to a name stands on one line, the name a local one that the comprehension has not -/
def lcLine (sc : Scope) : Expr → Expr → Bool
  | .Name y py, .ListComp _ _ scope q => (py.line == q.line) && decide (sc.names.lookup y = some .local) && !(scope.names.any fun (n, k) => n == y && (k == .local || k == .cell))
  | _, _ => false
/-- a plain name -/
def gName1 : G → Bool
  | .nm _ => true
  | _ => false
/-- an except clause's name -/
def chkN (N : List Str) (sc : Scope) : Option Nat → Option Str → Bool
  | some i, some n => decide (N[i]? = some n) && decide (sc.names.lookup n = some .local)
  | none, none => true
  | _, _ => false
mutual
def chkT (bl : List Str) (hot : Bool) (N : List Str) (sc : Scope) : T → Stmt → Bool
  | .asg g a, .Assign [t] x p => chkG false N sc g t && chk bl hot N sc a x && noSwap t x && (!isLc a || lcLine sc t x) && (!hot || gName1 g)
  | .aug i o e, .AugAssign (.Name x _) p y _ => decide (N[i]? = some x) && locB sc x && decide (o = p) && chk bl hot N sc e y
  | .setI b k a, .Assign [.Subscript x y _] z _ => !hot && chk bl hot N sc b x && chk bl hot N sc k y && chk bl hot N sc a z && okX y
  | .fset b f a, .Assign [.Attribute x y _] z _ => !hot && decide (f = y) && baseOk x && chk bl hot N sc b x && chk bl hot N sc a z
  | .faug b f o e, .AugAssign (.Attribute x y _) p z _ => !hot && decide (f = y) && baseOk x && decide (o = p) && chk bl hot N sc b x && chk bl hot N sc e z
  | .expr a, .Expr x _ => chk bl hot N sc a x && !isLc a
  | .ret a, .Return (some x) _ => chk bl hot N sc a x
  | .retN, .Return none _ => true
  | .ite c a b, .If x l r _ => tstOk c && chk bl hot N sc c x && chkTs bl hot N sc a l && chkTs bl hot N sc b r
  | .for_ g it b, .For t x l [] _ => !hot && tgOk it g && chkG false N sc g t && chki bl N sc it x && okX x && chkTs bl hot N sc b l
  | .whil _ c b, .While x l [] _ => !hot && tstOk c && chk bl hot N sc c x && chkTs bl hot N sc b l
  | .brk, .Break _ => true
  | .cnt, .Continue _ => true
  | .pass, .Pass _ => true
  | .nev, _ => true
  | .raise z _ f es, .Raise (some (.Call (.Name x _) l [] _)) none _ => !hot && decide (z = x) && glB sc x && plainName x && chks bl hot N sc es l && decide (l.length = 1) 
  | .tri b hs, .Try body handlers [] [] _ => !hot && chkTs bl hot N sc b body && chkHs bl N sc hs handlers
  | _, _ => false
def chkTs (bl : List Str) (hot : Bool) (N : List Str) (sc : Scope) : Ts → List Stmt → Bool
  | .nil, [] => true
  | .cons t ts, l => match t with
      | .fgt _ => chkTs bl hot N sc ts l
      | t => match l with
          | s :: ss => chkT bl hot N sc t s && chkTs bl hot N sc ts ss
          | [] => false
  | _, _ => false
def chkHs (bl : List Str) (N : List Str) (sc : Scope) : Hs → List ExceptHandler → Bool
  | .cons z _ i b .nil, [.ExceptHandler (some (.Name x _)) n (s :: ss) _] => decide (z = x) && glB sc x && plainName x && chkN N sc i n && chkTs bl true N sc b (s :: ss)
  | .cons z _ i b (.cons z2 c2 i2 b2 hs), .ExceptHandler (some (.Name x _)) n (s :: ss) _ :: l => decide (z = x) && glB sc x && plainName x && chkN N sc i n && chkTs bl true N sc b (s :: ss) && chkHs bl N sc (.cons z2 c2 i2 b2 hs) l
  | _, _ => false
end

/-! ### what it means -/
noncomputable section
/-- an exception: its class, its fields -/
structure Xc where
  c : Nat
  fs : List (Str × D)
inductive Sl where
  | v (d : D) | x (e : Xc) | out
inductive Rs (α : Type) where
  | ok (a : α) (S : Sto) | exc (e : Xc) (S : Sto)
abbrev M (α : Type) := Option (Rs α)
def M.ok {α : Type} (a : α) (S : Sto) : M α := some (.ok a S)
def M.bind {α β : Type} (x : M α) (f : α → Sto → M β) : M β := match x with
  | some (.ok a S) => f a S
  | some (.exc e S) => some (.exc e S)
  | none => none
open Classical in
def gP {α : Type} (p : Prop) (k : Option α) : Option α := if p then k else none
abbrev DS := Option (D × Sto)
def val (d : D) (S : Sto) : DS := some (d, S)
def new (c : C) (S : Sto) : DS := some (.ref S.length, S ++ [c])
/-- a list's items -/
def seqS (S : Sto) : D → Option (List D)
  | .fl xs => some xs
  | .ref n => match S[n]? with
    | some (.lst xs) => some xs
    | _ => none
  | _ => none
/-- a tuple's items -/
def tupD : D → Option (List D)
  | .tup xs => some xs
  | .kt xs => some xs
  | _ => none
mutual
/-- the data, with the lists that stand in cells -/
def pyD (S : Sto) : D → Option PyData
  | .non => some .none
  | .bl b => some (.bool b)
  | .int i => some (.int i)
  | .str x => some (.str x)
  | .tup xs => (pyDs S xs).map .tuple
  | .kt xs => (pyDs S xs).map .tuple
  | .fl xs => (pyDs S xs).map .list
  | .ref n => match S[n]? with
    | some (.lst xs) => (pySs S xs).map .list
    | _ => none
def pyDs (S : Sto) : List D → Option (List PyData)
  | [] => some []
  | x :: xs => (pyD S x).bind fun y => (pyDs S xs).map (y :: ·)
end
def truth (S : Sto) : D → Option Bool
  | .non => some false
  | .bl b => some b
  | .int i => some (i != 0)
  | .str x => gP (x.length ≤ sizeLine) (some ((x.length : Int) != 0))
  | .tup xs => some (!xs.isEmpty)
  | .kt xs => some (!xs.isEmpty)
  | .fl xs => some (!xs.isEmpty)
  | .ref n => match S[n]? with
    | some (.lst xs) => some (!xs.isEmpty)
    | some (.dK kvs) => some (!kvs.isEmpty)
    | _ => none
def binI (o : Operator) (i j : Int) : Option D := match o with
  | .Add => some (.int (i + j))
  | .Sub => some (.int (i - j))
  | .Mult => gP ((-18446744073709551616 < i ∧ i < 18446744073709551616) ∨ (-18446744073709551616 < j ∧ j < 18446744073709551616)) (some (.int (i * j)))
  | .FloorDiv => gP (0 < j ∧ j < 1073741824) (some (.int (i / j)))
  | .Mod => gP (0 < j) (some (.int (i % j)))
  | .Pow => gP (0 ≤ j ∧ j ≤ 1000000 ∧ i.natAbs < 18446744073709551616) (some (.int (i ^ j.toNat)))
  | .LShift => gP (0 ≤ j ∧ j ≤ 1000000 ∧ i.natAbs < 18446744073709551616) (some (.int (i * 2 ^ j.toNat)))
  | .RShift => gP (0 ≤ j) (some (.int (i / 2 ^ j.toNat)))
  | .BitAnd => some (.int (Builtin.bitAnd i j))
  | .BitOr => some (.int (Builtin.bitOr i j))
  | _ => none
def strRep (x : Str) : Nat → Str
  | 0 => ""
  | n + 1 => x ++ strRep x n
def binW (o : Operator) (a b : D) (S : Sto) : DS := match a, b with
  | .int i, .int j => (binI o i j).map fun d => (d, S)
  | .str x, .str y => if o = .Add then gP (x.length + y.length ≤ sizeLine) (val (.str (x ++ y)) S) else none
  | .str x, .int k => if o = .Mult then gP (-4611686018427387904 ≤ k ∧ k < 4611686018427387904 ∧ x.length * k.toNat ≤ sizeLine) (val (.str (strRep x k.toNat)) S) else none
  | a, b => if o = .Add then (match seqS S a, seqS S b with
      | some xs, some ys => gP (xs.length + ys.length ≤ sizeLine) (new (.lst (xs ++ ys)) S)
      | _, _ => none) else none
def cmpI (o : CmpOp) (i j : Int) : Option Bool := match o with
  | .Lt => some (decide (i < j))
  | .LtE => some (decide (i ≤ j))
  | .Gt => some (decide (j < i))
  | .GtE => some (decide (j ≤ i))
  | .Eq => some (decide (i = j))
  | .NotEq => some (!decide (i = j))
  | _ => none
def strLt (x y : Str) : Bool := decide (x.cps.toList < y.cps.toList)
def cmpS (o : CmpOp) (x y : Str) : Option Bool := match o with
  | .Eq => some (decide (x = y))
  | .NotEq => some (!decide (x = y))
  | .Lt => some (strLt x y)
  | .LtE => some (!strLt y x)
  | .Gt => some (strLt y x)
  | .GtE => some (!strLt x y)
  | _ => none
def isNonD : D → Bool
  | .non => true
  | _ => false
def eqD (S : Sto) (a b : D) : Option Bool := match pyD S a, pyD S b with
  | some x, some y => gP (SeqAt.shaped x = true ∧ SeqAt.shaped y = true) (some (PyData.eqv x y))
  | _, _ => none
def keyD : D → Option Key
  | .int i => some (.inl i)
  | .str x => some (.inr x)
  | _ => none
def keyDs : List D → Option (List Key)
  | [] => some []
  | x :: xs => (keyD x).bind fun k => (keyDs xs).map (k :: ·)
def keyT : D → Option (List Key)
  | .tup xs => keyDs xs
  | _ => none
def lookK {κ α : Type} [DecidableEq κ] (kvs : List (κ × α)) (k : κ) : Option α := (kvs.find? fun p => decide (p.1 = k)).map (·.2)
def putL {κ α : Type} [DecidableEq κ] (kvs : List (κ × α)) (k : κ) (v : α) : List (κ × α) := if kvs.any (fun p => decide (p.1 = k)) then kvs.map (fun p => if p.1 = k then (p.1, v) else p) else kvs ++ [(k, v)]
def dropL {κ α : Type} [DecidableEq κ] (kvs : List (κ × α)) (k : κ) : List (κ × α) := kvs.filter fun p => decide (p.1 ≠ k)
/-- a dict asked for a key -/
def dget (S : Sto) (d k : D) : Option (Option D) := match d with
  | .ref n => match S[n]? with
    | some (.dK kvs) => (keyD k).map (lookK kvs)
    | some (.dT kvs) => (keyT k).map (lookK kvs)
    | some (.lkK kvs) => (keyD k).map (lookK kvs)
    | some (.lkT kvs) => (keyT k).map (lookK kvs)
    | _ => none
  | _ => none
/-- .. given a value -/
def dput (S : Sto) (d k v : D) : Option Sto := match d with
  | .ref n => match S[n]? with
    | some (.dK kvs) => gP (kvs.length < sizeLine) ((keyD k).map fun k => S.set n (.dK (putL kvs k v)))
    | some (.dT kvs) => gP (kvs.length < sizeLine) ((keyT k).map fun k => S.set n (.dT (putL kvs k v)))
    | _ => none
  | _ => none
/-- in -/
def inW (S : Sto) (a b : D) : Option Bool := match b with
  | .str z => match a with
    | .str c => match c.cps.toList with
      | [c] => some (decide (c ∈ z.cps.toList))
      | _ => none
    | _ => none
  | b => match dget S b a with
    | some o => some o.isSome
    | none => match pyD S a, seqS S b with
      | some x, some ys => match pyDs S ys with
        | some ds => gP (SeqAt.shaped x = true ∧ SeqAt.shaped (.list ds) = true) (some (ds.any fun z => PyData.eqv z x))
        | none => none
      | some x, none => match tupD b with
        | some ys => match pyDs S ys with
          | some ds => gP (SeqAt.shaped x = true ∧ SeqAt.shaped (.tuple ds) = true) (some (ds.any fun z => PyData.eqv z x))
          | none => none
        | none => none
      | _, _ => none
def cmpG (S : Sto) (o : CmpOp) (a b : D) : Option Bool := match a, b with
  | .int i, .int j => cmpI o i j
  | .str x, .str y => cmpS o x y
  | a, b => match o with
    | .Eq => eqD S a b
    | .NotEq => (eqD S a b).map (!·)
    | _ => none
def cmpW (S : Sto) (o : CmpOp) (a b : D) : Option Bool := match o with
  | .Is => match b with | .non => some (isNonD a) | _ => none
  | .IsNot => match b with | .non => some (!isNonD a) | _ => none
  | .In => inW S a b
  | .NotIn => (inW S a b).map (!·)
  | o => cmpG S o a b
def ixW (a b : D) (S : Sto) : DS := match a with
  | .str z => match b with
    | .int i => gP (z.length ≤ sizeLine) ((atI z.cps.toList i).map fun c => (.str ⟨#[c]⟩, S))
    | _ => none
  | a => match tupD a with
    | some xs => match b with
      | .int i => (atI xs i).map fun x => (x, S)
      | _ => none
    | none => match seqS S a with
      | some xs => match b with
        | .int i => (atI xs i).map fun x => (x, S)
        | _ => none
      | none => match dget S a b with
        | some (some v) => val v S
        | _ => none
def cutD (xs : List D) (lo hi : Option Int) : List D := (xs.drop (HT.sIx xs.length 0 lo)).take (HT.sIx xs.length xs.length hi - HT.sIx xs.length 0 lo)
def slW (a : D) (lo hi : Option Int) (S : Sto) : DS := match a with
  | .str z => gP (z.length ≤ sizeLine) (val (.str (cutS z lo hi)) S)
  | .tup xs => val (.tup (cutD xs lo hi)) S
  | a => match seqS S a with
    | some xs => new (.lst (cutD xs lo hi)) S
    | none => none
def asInt : D → Option Int
  | .int i => some i
  | _ => none
def intsD : List D → Option (List Int)
  | [] => some []
  | .int i :: r => (intsD r).map (i :: ·)
  | _ => none
def strsD : List D → Option (List Str)
  | [] => some []
  | .str i :: r => (strsD r).map (i :: ·)
  | _ => none
def boolsD : List D → Option (List Bool)
  | [] => some []
  | .bl i :: r => (boolsD r).map (i :: ·)
  | _ => none
def isiW (S : Sto) (t : Ty) : D → Option Bool
  | .non => some false
  | .bl _ => some (t == .int || t == .bool)
  | .int _ => some (t == .int)
  | .str _ => some (t == .str)
  | .tup _ => some (t == .tuple)
  | .kt _ => some (t == .tuple)
  | .fl _ => some (t == .list)
  | .ref n => match S[n]? with
    | some (.lst _) => some (t == .list)
    | _ => none
/-- what must hold of operand number n ahead of the others -/
def isStrD : D → Bool
  | .str _ => true
  | _ => false
def isIntD : D → Bool
  | .int _ => true
  | _ => false
def isDct (S : Sto) : D → Bool
  | .ref n => match S[n]? with
    | some (.dK _) => true
    | some (.dT _) => true
    | _ => false
  | _ => false
def isLstD (S : Sto) (d : D) : Bool := (seqS S d).isSome
def preW (k : Op) (n : Nat) (S : Sto) (d : D) : Bool := match k with
  | .append => n != 0 || isLstD S d
  | .clear => isLstD S d
  | .get2 => n != 0 || isDct S d
  | .join => n != 0 || isStrD d
  | .sl _ _ => n == 0 || isIntD d
  | _ => true
def appW (a b : D) (S : Sto) : DS := match a with
  | .ref n => match S[n]? with
    | some (.lst xs) => gP (xs.length < sizeLine) (some (.non, S.set n (.lst (xs ++ [b]))))
    | _ => none
  | _ => none
def clearW (a : D) (S : Sto) : DS := match a with
  | .ref n => match S[n]? with
    | some (.lst xs) => some (.non, S.set n (.lst []))
    | _ => none
  | _ => none
def stepW (a b : D) (S : Sto) : DS := match b with
  | .int k => match a with
    | .str z => gP (k ≠ 0 ∧ (L2.stepT z k).length ≤ sizeLine) (val (.str (L2.stepT z k)) S)
    | a => match seqS S a with
      | some xs => gP (k ≠ 0) (new (.lst ((L2.stepIx xs.length k).filterMap (xs[·]?))) S)
      | none => none
  | _ => none
def lenW (a : D) (S : Sto) : DS := match a with
  | .str z => gP (z.length ≤ sizeLine) (val (.int z.length) S)
  | a => match tupD a with
    | some xs => val (.int xs.length) S
    | none => match seqS S a with
      | some xs => val (.int xs.length) S
      | none => match a with
        | .ref n => match S[n]? with
          | some (.dK kvs) => val (.int kvs.length) S
          | _ => none
        | _ => none
def listW (a : D) (S : Sto) : DS := match tupD a with
  | some xs => new (.lst xs) S
  | none => match seqS S a with
    | some xs => new (.lst xs) S
    | none => none
def tupleW (a : D) (S : Sto) : DS := match a with
  | .tup xs => val (.tup xs) S
  | a => match seqS S a with
    | some xs => val (.tup xs) S
    | none => none
def op0 (f : Sto → DS) : List D → Sto → DS
  | [], S => f S
  | _, _ => none
def op1 (f : D → Sto → DS) : List D → Sto → DS
  | [a], S => f a S
  | _, _ => none
def op2 (f : D → D → Sto → DS) : List D → Sto → DS
  | [a, b], S => f a b S
  | _, _ => none
def op3 (f : D → D → D → Sto → DS) : List D → Sto → DS
  | [a, b, c], S => f a b c S
  | _, _ => none
def negW (a : D) (S : Sto) : DS := match a with | .int i => val (.int (-i)) S | _ => none
def slW2 (lo hi : Bool) (ds : List D) (S : Sto) : DS := match lo, hi with
  | false, false => op1 (fun a S => slW a none none S) ds S
  | true, false => op2 (fun a l S => match l with | .int l => slW a (some l) none S | _ => none) ds S
  | false, true => op2 (fun a h S => match h with | .int h => slW a none (some h) S | _ => none) ds S
  | true, true => op3 (fun a l h S => match l with | .int l => (match h with | .int h => slW a (some l) (some h) S | _ => none) | _ => none) ds S
def sumW (a : D) (S : Sto) : DS := ((seqS S a).bind intsD).bind fun ns => val (.int ns.sum) S
def allW (a : D) (S : Sto) : DS := ((seqS S a).bind boolsD).bind fun ns => val (.bl (ns.all id)) S
def anyW (a : D) (S : Sto) : DS := ((seqS S a).bind boolsD).bind fun ns => val (.bl (ns.any id)) S
def intW (a : D) (S : Sto) : DS := match a with
  | .int i => val (.int i) S
  | .bl b => val (.int (b2i b)) S
  | _ => none
def minW (a b : D) (S : Sto) : DS := match a with
  | .int i => match b with | .int j => val (.int (if j < i then j else i)) S | _ => none
  | _ => none
def maxW (a b : D) (S : Sto) : DS := match a with
  | .int i => match b with | .int j => val (.int (if i < j then j else i)) S | _ => none
  | _ => none
def revW (a : D) (S : Sto) : DS := (seqS S a).bind fun xs => new (.lst xs.reverse) S
def joinW (a b : D) (S : Sto) : DS := match a with
  | .str z => ((seqS S b).bind strsD).bind fun ys => gP (z.length * ys.length + (ys.map (·.length)).sum ≤ sizeLine) (val (.str (Txt.join z ys)) S)
  | _ => none
def getW (d k x : D) (S : Sto) : DS := (dget S d k).bind fun o => val (o.getD x) S
/-- a built-in operation -/
def opW (k : Op) (ds : List D) (S : Sto) : DS := match k with
  | .tup => gP (ds.length ≤ sizeLine) (val (.tup ds) S)
  | .lst => gP (ds.length ≤ sizeLine) (new (.lst ds) S)
  | .bin o => op2 (binW o) ds S
  | .neg => op1 negW ds S
  | .ix => op2 ixW ds S
  | .sl lo hi => slW2 lo hi ds S
  | .step => op2 stepW ds S
  | .len => op1 lenW ds S
  | .list => op1 listW ds S
  | .tupleOf => op1 tupleW ds S
  | .sum => op1 sumW ds S
  | .all => op1 allW ds S
  | .any => op1 anyW ds S
  | .int => op1 intW ds S
  | .min2 => op2 minW ds S
  | .max2 => op2 maxW ds S
  | .listRev => op1 revW ds S
  | .isi t => op1 (fun a S => (isiW S t a).bind fun b => val (.bl b) S) ds S
  | .join => op2 joinW ds S
  | .dnewK => op0 (new (.dK [])) ds S
  | .dnewT => op0 (new (.dT [])) ds S
  | .get2 => op3 getW ds S
  | .append => op2 appW ds S
  | .clear => op1 clearW ds S
  | _ => none

/-- a slot is stored -/
def putS (σ : List Sl) (i : Nat) (s : Sl) : Option (List Sl) := if i < σ.length then some (σ.set i s) else none
def setGs : List Nat → List D → List Sl → Option (List Sl)
  | [], [], σ => some σ
  | i :: is, x :: xs, σ => (putS σ i (.v x)).bind fun σ' => setGs is xs σ'
  | _, _, _ => none
def setG (g : G) (x : D) (σ : List Sl) : Option (List Sl) := match g with
  | .nm i => putS σ i (.v x)
  | .tup is => match tupD x with
      | some xs => setGs is xs σ
      | none => none
def wipeS (σ : List Sl) : List Nat → List Sl
  | [] => σ
  | v :: vs => (wipeS σ vs).set v .out
def rngD (lo : Int) (n : Nat) : List D := (List.range n).map fun (k : Nat) => .int (lo + (k : Int))
def enumD (n : Nat) : List D → List D
  | [] => []
  | x :: xs => .tup [.int n, x] :: enumD (n + 1) xs
def strD (z : Str) : List D := z.cps.toList.map fun c => .str ⟨#[c]⟩
/-- the cells that are walked stand -/
abbrev Src := List (Nat × C)
def stands (S : Sto) : Src → Prop
  | [] => True
  | (n, c) :: r => S[n]? = some c ∧ stands S r
def srcOf (S : Sto) : D → Src
  | .ref n => match S[n]? with
    | some c => [(n, c)]
    | none => []
  | _ => []
/-- a run that raises nothing -/
def okv {α : Type} (x : M α) : Option (α × Sto) := match x with
  | some (.ok a S) => some (a, S)
  | _ => none
/-- the comprehension's turns -/
def lcRun (src : Src) (bind : D → Option (List Sl)) (test : List Sl → Sto → M Bool) (elt : List Sl → Sto → M D) : List D → Sto → Option (List D × Sto)
  | [], S => some ([], S)
  | x :: xs, S => (bind x).bind fun σ => (okv (test σ S)).bind fun p => if p.1 then (okv (elt σ p.2)).bind fun q => gP (stands q.2 src) ((lcRun src bind test elt xs q.2).map fun r => (q.1 :: r.1, r.2))
          else gP (stands p.2 src) (lcRun src bind test elt xs p.2)
/-- without errors' names -/
def noX (σ : List Sl) : List Sl := σ.map fun s => match s with
  | .x _ => .out
  | s => s
/-- what the names of the text are worth -/
inductive Nm where
  | fn (f : Str) | fld (c : Nat) (f : Str) | me (c : Nat) (m : Str) | glb (x : Str) | qc (x m : Str) | exc (x : Str) (c : Nat) (f : Option Str) | cls (x : Str) (c : Nat) | sub (c c' : Nat) | subV (c : Nat) | xf (c : Nat) (f : Str) | inst (c c' : Nat)
  deriving DecidableEq
abbrev Gv := Sto → List D → M D
abbrev Gam := Nm → Option Gv
def lift {α : Type} (x : Option (α × Sto)) : M α := match x with
  | some (d, S) => .ok d S
  | none => none
def pur (x : Option D) (S : Sto) : M D := match x with
  | some d => .ok d S
  | none => none
def tru (d : D) (S : Sto) : M Bool := match truth S d with
  | some b => .ok b S
  | none => none
/-- a yes or no told by the table -/
def tel (Γ : Gam) (n : Nm) : Option Bool := match Γ n with
  | some g => match g [] [] with
    | some (.ok (.bl b) _) => some b
    | _ => none
  | none => none
def xisV (Γ : Gam) (e : Xc) (x : Str) (c : Option Nat) : Option Bool := match c with
  | some c => match Γ (.cls x c) with
    | some _ => tel Γ (.sub e.c c)
    | none => none
  | none => tel Γ (.subV e.c)
/-- a list is frozen; anything else stays -/
def frzV (x : D) (S : Sto) : M D := match x with
  | .ref n => match S[n]? with
    | some (.lst xs) => .ok (.fl xs) (S.set n .dead)
    | _ => .ok x S
  | _ => .ok x S
mutual
def ev (Γ : Gam) : E → List Sl → Sto → M D
  | .var i, σ, S => match σ[i]? with
      | some (.v d) => .ok d S
      | _ => none
  | .non, _, S => .ok .non S
  | .bl b, _, S => .ok (.bl b) S
  | .int i, _, S => .ok (.int i) S
  | .str x, _, S => .ok (.str x) S
  | .op k es, σ, S => (evos Γ k 0 es σ S).bind fun ds S => lift (opW k ds S)
  | .cmp o a b, σ, S => (ev Γ a σ S).bind fun x S => (ev Γ b σ S).bind fun y S => pur ((cmpW S o x y).map .bl) S
  | .cmp2 o o' a b c, σ, S => (ev Γ a σ S).bind fun x S => (ev Γ b σ S).bind fun y S => match cmpW S o x y with
      | some true => (ev Γ c σ S).bind fun z S => pur ((cmpW S o' y z).map .bl) S
      | some false => .ok (.bl false) S
      | none => none
  | .cmp3 o o' o2 a b c d, σ, S => (ev Γ a σ S).bind fun x S => (ev Γ b σ S).bind fun y S => match cmpW S o x y with
      | some true => (ev Γ c σ S).bind fun z S => (match cmpW S o' y z with
          | some true => (ev Γ d σ S).bind fun t S => pur ((cmpW S o2 z t).map .bl) S
          | some false => .ok (.bl false) S
          | none => none)
      | some false => .ok (.bl false) S
      | none => none
  | .and a b, σ, S => (ev Γ a σ S).bind fun x S => match truth S x with
      | some true => ev Γ b σ S
      | some false => .ok x S
      | none => none
  | .or a b, σ, S => (ev Γ a σ S).bind fun x S => match truth S x with
      | some true => .ok x S
      | some false => ev Γ b σ S
      | none => none
  | .not a, σ, S => (ev Γ a σ S).bind fun x S => match truth S x with
      | some b => .ok (.bl (!b)) S
      | none => none
  | .ife c a b, σ, S => (ev Γ c σ S).bind fun x S => match truth S x with
      | some true => ev Γ a σ S
      | some false => ev Γ b σ S
      | none => none
  | .call f es, σ, S => match Γ (.fn f) with
      | some g => (evs Γ es σ S).bind fun ds S => g S ds
      | none => none
  | .fld e f, σ, S => (ev Γ e σ S).bind fun x S => match x with
      | .ref n => (match S[n]? with
          | some (.obj c fs) => (match Γ (.fld c f), fs.lookup f with
              | some _, some d => .ok d S
              | _, _ => none)
          | _ => none)
      | _ => none
  | .mcall e m es, σ, S => match ev Γ e σ S with
      | some (.ok x S) => (match x with
        | .ref n => (match S[n]? with
          | some (.obj c fs) => (match Γ (.me c m), fs.lookup m with
              | some g, none => (evs Γ es σ S).bind fun ds S => g S (x :: ds)
              | _, _ => none)
          | _ => none)
        | _ => none)
      | _ => none
  | .qcall x m es, σ, S => match Γ (.qc x m) with
      | some g => (evs Γ es σ S).bind fun ds S => g S ds
      | none => none
  | .frz e, σ, S => (ev Γ e σ S).bind fun x S => frzV x S
  | .gc e, σ, S => (ev Γ e σ S).bind fun d S1 => .ok (gcv S d S1).1 (gcv S d S1).2
  | .glob x, _, S => match Γ (.glb x) with
      | some g => (match g [] [] with
          | some (.ok d _) => .ok d S
          | _ => none)
      | none => none
  | .isc e x c, σ, S => (ev Γ e σ S).bind fun d S => match d with
      | .ref n => (match S[n]? with
          | some (.obj c' _) => (match Γ (.cls x c), tel Γ (.inst c' c) with
              | some _, some b => .ok (.bl b) S
              | _, _ => none)
          | _ => none)
      | _ => none
  | .xfld i f, σ, S => match σ[i]? with
      | some (.x e) => (match Γ (.xf e.c f), e.fs.lookup f with
          | some _, some d => .ok d S
          | _, _ => none)
      | _ => none
  | .xis i x c, σ, S => match σ[i]? with
      | some (.x e) => pur ((xisV Γ e x c).map .bl) S
      | _ => none
  | .sortBy _ _, _, _ => none
  | .lc own g it cs e, σ, S => (evi Γ it σ S).bind fun xs S1 => gP (xs.1.length ≤ sizeLine) (lift ((lcRun xs.2 (fun x => setG g x (wipeS (noX σ) (own.map (·.2)))) (evc Γ cs) (ev Γ e) xs.1 S1).bind fun p => new (.lst p.1) p.2))
def evs (Γ : Gam) : Es → List Sl → Sto → M (List D)
  | .nil, _, S => .ok [] S
  | .cons e es, σ, S => (ev Γ e σ S).bind fun x S => (evs Γ es σ S).bind fun ws S => .ok (x :: ws) S
def evos (Γ : Gam) (k : Op) : Nat → Es → List Sl → Sto → M (List D)
  | _, .nil, _, S => .ok [] S
  | n, .cons e es, σ, S => (ev Γ e σ S).bind fun x S => if preW k n S x then (evos Γ k (n + 1) es σ S).bind fun ws S => .ok (x :: ws) S else none
def evc (Γ : Gam) : Eo → List Sl → Sto → M Bool
  | .none, _, S => .ok true S
  | .some e, σ, S => (ev Γ e σ S).bind fun x S => tru x S
def evi (Γ : Gam) : It → List Sl → Sto → M (List D × Src)
  | .e e, σ, S => (ev Γ e σ S).bind fun x S => match seqS S x with
      | some xs => .ok (xs, srcOf S x) S
      | none => none
  | .rev e, σ, S => (ev Γ e σ S).bind fun x S => match seqS S x with
      | some xs => .ok (xs.reverse, srcOf S x) S
      | none => none
  | .tup e, σ, S => (ev Γ e σ S).bind fun x S => match tupD x with
      | some xs => .ok (xs, []) S
      | none => none
  | .str e, σ, S => (ev Γ e σ S).bind fun x S => match x with
      | .str z => .ok (strD z, []) S
      | _ => none
  | .rng1 a, σ, S => (ev Γ a σ S).bind fun x S => match x with
      | .int j => gP (-4611686018427387904 ≤ j ∧ j < 4611686018427387904) (M.ok (rngD 0 j.toNat, []) S)
      | _ => none
  | .rng2 a b, σ, S => (ev Γ a σ S).bind fun x S => (ev Γ b σ S).bind fun y S => match x, y with
      | .int i, .int j => gP (-4611686018427387904 ≤ i ∧ i < 4611686018427387904 ∧ -4611686018427387904 ≤ j ∧ j < 4611686018427387904) (M.ok (rngD i (j - i).toNat, []) S)
      | _, _ => none
  | .enum a, σ, S => (ev Γ a σ S).bind fun x S => match seqS S x with
      | some xs => .ok (enumD 0 xs, srcOf S x) S
      | none => none
  | .zip _ _, _, _ => none
  | .items _, _, _ => none
  | .keys _, _, _ => none
end
/-! ### statements -/
inductive Out where
  | nx (σ : List Sl) | ret (d : D) | brk (σ : List Sl) | cnt (σ : List Sl)
inductive RO where
  | ok (o : Out) (S : Sto) | exc (e : Xc) (σ : List Sl) (S : Sto)
abbrev MO := Option RO
def MO.ok (o : Out) (S : Sto) : MO := some (.ok o S)
/-- behind an expression -/
def M.go {α : Type} (x : M α) (σ : List Sl) (f : α → Sto → MO) : MO := match x with
  | some (.ok a S) => f a S
  | some (.exc e S) => some (.exc e σ S)
  | none => none
def nxO (o : Option (List Sl)) (S : Sto) : MO := match o with
  | some σ => .ok (.nx σ) S
  | none => none
def MO.then (x : MO) (f : List Sl → Sto → MO) : MO := match x with
  | some (.ok (.nx σ) S) => f σ S
  | r => r
def setF (f : Str) (x : D) : List (Str × D) → List (Str × D)
  | [] => [(f, x)]
  | (g, y) :: r => if g = f then (g, x) :: r else (g, y) :: setF f x r
/-- x[k] = d -/
def setIt (x k d : D) (S : Sto) : Option Sto := match x with
  | .ref n => match S[n]? with
    | some (.lst xs) => match k with
      | .int j => match ixN xs.length j with
        | some i => some (S.set n (.lst (xs.set i d)))
        | none => none
      | _ => none
    | _ => dput S x k d
  | _ => none
/-- a field is set -/
def setFld (Γ : Gam) (x : D) (f : Str) (d : D) (S : Sto) : Option Sto := match x with
  | .ref n => match S[n]? with
    | some (.obj c fs) => match Γ (.fld c f) with
      | some _ => gP (fs.length < 1000) (some (S.set n (.obj c (setF f d fs))))
      | none => none
    | _ => none
  | _ => none
def addW (o : Operator) (x y : D) : Option D := match o, x, y with
  | .Add, .int i, .int j => some (.int (i + j))
  | .Sub, .int i, .int j => some (.int (i - j))
  | .Add, .str i, .str j => gP (i.length + j.length ≤ sizeLine) (some (.str (i ++ j)))
  | _, _, _ => none
def forRun (src : Src) (bind : D → List Sl → Option (List Sl)) (body : List Sl → Sto → MO) : List D → List Sl → Sto → MO
  | [], σ, S => .ok (.nx σ) S
  | x :: xs, σ, S => match bind x σ with
      | none => none
      | some σ1 => match body σ1 S with
          | some (.ok (.nx σ2) S2) => gP (stands S2 src) (forRun src bind body xs σ2 S2)
          | some (.ok (.cnt σ2) S2) => gP (stands S2 src) (forRun src bind body xs σ2 S2)
          | some (.ok (.brk σ2) S2) => .ok (.nx σ2) S2
          | r => r
def whilRun (test : List Sl → Sto → M Bool) (body : List Sl → Sto → MO) : Nat → List Sl → Sto → MO
  | 0, _, _ => none
  | n + 1, σ, S => (test σ S).go σ fun b S => if b then (match body σ S with
          | some (.ok (.nx σ2) S2) => whilRun test body n σ2 S2
          | some (.ok (.cnt σ2) S2) => whilRun test body n σ2 S2
          | some (.ok (.brk σ2) S2) => .ok (.nx σ2) S2
          | r => r) else .ok (.nx σ) S
def tstV (x : M D) : M Bool := x.bind fun v S => tru v S
def fgtS (σ : List Sl) : List Nat → List Sl
  | [] => σ
  | v :: vs => (fgtS σ vs).set v .out
/-- behind an except suite its name is gone -/
def outI (i : Option Nat) (σ : List Sl) : List Sl := match i with
  | some i => σ.set i .out
  | none => σ
def outO (i : Option Nat) (r : MO) : MO := match r with
  | some (.ok (.nx σ) S) => .ok (.nx (outI i (noX σ))) S
  | some (.ok (.brk σ) S) => .ok (.brk (outI i (noX σ))) S
  | some (.ok (.cnt σ) S) => .ok (.cnt (outI i (noX σ))) S
  | some (.ok (.ret d) S) => .ok (.ret d) S
  | _ => none
/-- the error that is raised -/
def excOf (c : Nat) (f : Option Str) (ds : List D) : Option Xc := match f with
  | some f => match ds with
    | [d] => some ⟨c, [(f, d)]⟩
    | _ => none
  | none => match ds with
    | [.str _] => some ⟨c, []⟩
    | _ => none
/-- every except clause's class is known -/
def knH (Γ : Gam) : Hs → Bool
  | .nil => true
  | .cons x c _ _ hs => (Γ (.cls x c)).isSome && knH Γ hs
/-- the slot of an except clause's name -/
def inI (i : Option Nat) (e : Xc) (σ : List Sl) : Option (List Sl) := match i with
  | some i => putS σ i (.x e)
  | none => some σ
mutual
def run (Γ : Gam) : T → List Sl → Sto → MO
  | .asg g a, σ, S => (ev Γ a σ S).go σ fun x S => nxO (setG g x σ) S
  | .aug i o e, σ, S => match σ[i]? with
      | some (.v x) => (ev Γ e σ S).go σ fun y S => (match addW o x y with
          | some z => nxO (putS σ i (.v z)) S
          | none => none)
      | _ => none
  | .setI b k a, σ, S => (ev Γ a σ S).go σ fun y S => (ev Γ b σ S).go σ fun x S => (ev Γ k σ S).go σ fun j S => match setIt x j y S with
      | some S => .ok (.nx σ) S
      | none => none
  | .fset b f a, σ, S => (ev Γ a σ S).go σ fun y S => (ev Γ b σ S).go σ fun x S => match setFld Γ x f y S with
      | some S => .ok (.nx σ) S
      | none => none
  | .faug b f o e, σ, S => (ev Γ b σ S).go σ fun x S => match x with
      | .ref n => (match S[n]? with
          | some (.obj c fs) => (match Γ (.fld c f), fs.lookup f with
              | some _, some d => (ev Γ e σ S).go σ fun y S => (match addW o d y, S[n]? with
                  | some z, some (.obj c' _) => if c' = c then (match setFld Γ (.ref n) f z S with
                      | some S => .ok (.nx σ) S
                      | none => none) else none
                  | _, _ => none)
              | _, _ => none)
          | _ => none)
      | _ => none
  | .expr a, σ, S => (ev Γ a σ S).go σ fun _ S => .ok (.nx σ) S
  | .ret a, σ, S => (ev Γ a σ S).go σ fun x S => .ok (.ret x) S
  | .retN, _, S => .ok (.ret .non) S
  | .ite c a b, σ, S => (tstV (ev Γ c σ S)).go σ fun k S => if k then runs Γ a σ S else runs Γ b σ S
  | .for_ g it b, σ, S => (evi Γ it σ S).go σ fun p S => forRun p.2 (fun x σ => setG g x σ) (runs Γ b) p.1 σ S
  | .whil n c b, σ, S => whilRun (fun σ S => tstV (ev Γ c σ S)) (runs Γ b) n σ S
  | .brk, σ, S => .ok (.brk σ) S
  | .cnt, σ, S => .ok (.cnt σ) S
  | .pass, σ, S => .ok (.nx σ) S
  | .nev, _, _ => none
  | .raise x c f es, σ, S => match Γ (.exc x c f) with
      | some _ => (evs Γ es σ S).go σ fun ds S => (match excOf c f ds with
          | some e => some (.exc e σ S)
          | none => none)
      | none => none
  | .tri b hs, σ, S => if knH Γ hs then (match runs Γ b (noX σ) S with
      | some (.exc e σ S) => runHs Γ hs e (noX σ) S
      | r => outO none r) else none
  | .fgt is, σ, S => .ok (.nx (fgtS σ is)) S
def runs (Γ : Gam) : Ts → List Sl → Sto → MO
  | .nil, σ, S => .ok (.nx σ) S
  | .cons t ts, σ, S => (run Γ t σ S).then fun σ S => runs Γ ts σ S
def runHs (Γ : Gam) : Hs → Xc → List Sl → Sto → MO
  | .nil, e, σ, S => some (.exc e σ S)
  | .cons x c i b hs, e, σ, S => match xisV Γ e x (some c) with
      | some true => (match inI i e σ with
          | some σ => outO i (runs Γ b σ S)
          | none => none)
      | some false => runHs Γ hs e σ S
      | none => none
end
open Classical in
/-- what a call leaves, and what is forgotten -/
def gcR (S : Sto) : M D → M D
  | some (.ok d S1) => .ok (gcv S d S1).1 (gcv S d S1).2
  | some (.exc e S1) => if (∀ p ∈ e.fs, cl S.length p.2) ∧ S.length ≤ S1.length ∧ Kept S S1 then some (.exc e (S1.take S.length)) else some (.exc e S1)
  | none => none
/-- a def's value at its arguments -/
def fnRun (Γ : Gam) (n : Nat) (b : Ts) (S : Sto) (ws : List D) : M D := match runs Γ b (ws.map Sl.v ++ List.replicate (n - ws.length) Sl.out) S with
  | some (.ok (.ret d) S1) => .ok d S1
  | some (.ok (.nx _) S1) => .ok .non S1
  | some (.exc e _ S1) => some (.exc e S1)
  | _ => none
open Classical in
def fnG (Γ : Gam) (m n : Nat) (b : Ts) (S : Sto) (ws : List D) : M D := if ws.length = m then gcR S (fnRun Γ n b S ws) else none
/-- a class's value: a new object, made by __init__ -/
def mkOf (c : Nat) (gi : Gv) (S : Sto) (ws : List D) : M D := match gi (S ++ [.obj c []]) (.ref S.length :: ws) with
  | some (.ok .non S') => .ok (.ref S.length) S'
  | _ => none
end
end Hv
/-! Hv2: what the evaluator tells holds of the run: the words of it. -/
namespace Hv
open PySem PySem.Spec
open PyProof.Rows hiding St
open L2

/-! ### the greatest readings -/
def wpE (X : Cx) (e : Expr) : TE := fun σ H Q => ∀ (pins : List (Addr × Obj)) (s : Shared), Inv X pins σ H s → wpAny (model X.prog X.w) X.A (eval e X.env) (EP X pins σ Q) X.xe s
theorem pe_wp {X : Cx} {e : Expr} : PE X e (wpE X e) := ⟨fun pins s _ _ _ I h => h pins s I⟩
theorem wp_of {X : Cx} {e : Expr} {t : TE} {σ : St} {H : Hp} {Q : VK} (p : PE X e t) (h : t σ H Q) : wpE X e σ H Q := fun pins s I => p.run pins s σ H Q I h
def wpA (X : Cx) (es : List Expr) : TA := fun σ H Q => ∀ (pos : Pos) (pins : List (Addr × Obj)) (s : Shared), Inv X pins σ H s → wpAny (model X.prog X.w) X.A (spliced (backTo pos (starEach es X.env))) (AP X pins σ Q) X.xe s
theorem pa_wp {X : Cx} {es : List Expr} : PA X es (wpA X es) := ⟨fun pos pins s _ _ _ I h => h pos pins s I⟩
theorem wpa_of {X : Cx} {es : List Expr} {t : TA} {σ : St} {H : Hp} {Q : List V → Hp → Prop} (p : PA X es t) (h : t σ H Q) : wpA X es σ H Q := fun pos pins s I => p.run pos pins s σ H Q I h
def wpT (X : Cx) (e : Expr) : TT := fun σ H Q => ∀ (pins : List (Addr × Obj)) (s : Shared), Inv X pins σ H s → wpAny (model X.prog X.w) X.A (isTrue e X.env (eval e X.env)) (TP X pins σ Q) X.xe s
theorem pt_wp {X : Cx} {e : Expr} : PT X e (wpT X e) := ⟨fun pins s _ _ _ I h => h pins s I⟩
theorem wpt_of {X : Cx} {e : Expr} {t : TT} {σ : St} {H : Hp} {Q : Bool → Hp → Prop} (p : PT X e t) (h : t σ H Q) : wpT X e σ H Q := fun pins s I => p.run pins s σ H Q I h
def wpS (X : Cx) (st : Stmt) : TS := fun D σ H => ∀ (pins : List (Addr × Obj)) (s : Shared), Inv X pins σ H s → wpAny (model X.prog X.w) X.A (exec st X.env) (SP X pins D) X.xe s
theorem ps_wp {X : Cx} {st : Stmt} : PS X st (wpS X st) := ⟨fun pins s _ _ _ I h => h pins s I⟩
theorem wps_of {X : Cx} {st : Stmt} {t : TS} {D : Ends} {σ : St} {H : Hp} (p : PS X st t) (h : t D σ H) : wpS X st D σ H := fun pins s I => p.run pins s σ H D I h
def wpSs (X : Cx) (st : List Stmt) : TS := fun D σ H => ∀ (pins : List (Addr × Obj)) (s : Shared), Inv X pins σ H s → wpAny (model X.prog X.w) X.A (execs st X.env) (SP X pins D) X.xe s
theorem pss_wp {X : Cx} {st : List Stmt} : PSs X st (wpSs X st) := ⟨fun pins s _ _ _ I h => h pins s I⟩
theorem wpss_of {X : Cx} {st : List Stmt} {t : TS} {D : Ends} {σ : St} {H : Hp} (p : PSs X st t) (h : t D σ H) : wpSs X st D σ H := fun pins s I => p.run pins s σ H D I h

/-! ### slots, exceptions -/
section
variable {K : PySem.W.Frag} {ca ca' : Am} {S S' : Sto} {H H' : Hp}
def XFs (K : PySem.W.Frag) (ca : Am) (H : Hp) (e : Xc) (dd : Option Addr) : Prop := match e.fs with
  | [] => dd = none
  | p :: r => ∃ d fs', dd = some d ∧ H d = some (.xd fs') ∧ ∀ f, RepF K ca H fs' ((p :: r).lookup f) f
def XRep (K : PySem.W.Frag) (ca : Am) (H : Hp) (e : Xc) (cls : Value) (dd : Option Addr) : Prop := cls = .ref (ca.c e.c) ∧ XFs K ca H e dd
theorem Rp.xd (R : Rp K ca S H) {d : Addr} {fs : List (Str × V)} (e : H d = some (.xd fs)) : d ∉ ca.i := fun z => by
  obtain ⟨n, en⟩ := List.getElem?_of_mem z
  have hn : n < S.length := by rw [R.len]; exact (List.getElem?_eq_some_iff.mp en).1
  have r := R.cel n _ d (List.getElem?_eq_getElem hn) en
  cases ec : S[n] with
  | lst xs => rw [ec] at r; obtain ⟨_, q, _⟩ := r; rw [e] at q; cases q
  | dK xs => rw [ec] at r; obtain ⟨_, q, _⟩ := r; rw [e] at q; cases q
  | dT xs => rw [ec] at r; obtain ⟨_, q, _⟩ := r; rw [e] at q; cases q
  | lkK xs => rw [ec] at r; obtain ⟨_, _, q, _⟩ := r; rw [e] at q; cases q
  | lkT xs => rw [ec] at r; obtain ⟨_, _, q, _⟩ := r; rw [e] at q; cases q
  | obj c fs => rw [ec] at r; obtain ⟨_, _, q, _⟩ := r; rw [e] at q; cases q
  | dead => rw [ec] at r; obtain ⟨_, _, q⟩ := r; rw [e] at q; cases q
theorem XFs.fr {e : Xc} {dd : Option Addr} (R : Rp K ca S H) (f : Fr ca H ca' H') (x : XFs K ca H e dd) : XFs K ca' H' e dd := by
  obtain ⟨c, fs⟩ := e
  cases fs with
  | nil => exact x
  | cons p r =>
    obtain ⟨d, fs', e1, e2, q⟩ := x
    exact ⟨d, fs', e1, f.st _ _ e2 (R.xd e2), fun g => (q g).mono f.tk f.le⟩
theorem XRep.fr {e : Xc} {cls : Value} {dd : Option Addr} (R : Rp K ca S H) (f : Fr ca H ca' H') (x : XRep K ca H e cls dd) : XRep K ca' H' e cls dd := ⟨by rw [← f.le.1]; exact x.1, x.2.fr R f⟩
def SlRep (pn : List (Addr × Obj)) (K : PySem.W.Frag) (ca : Am) (H : Hp) (s : Sl) (o : Option (Option V)) : Prop := match s with
  | .v d => ∃ v, o = some (some v) ∧ RepD K ca H d v
  | .x e => ∃ a oe dd, o = some (some (.ref a)) ∧ (a, oe) ∈ pn ∧ Zc (.ref (ca.c e.c)) dd oe ∧ (∃ vs, oe.data = .fields vs) ∧ XFs K ca H e dd
  | .out => True
theorem SlRep.fr {pn : List (Addr × Obj)} {s : Sl} {o : Option (Option V)} (R : Rp K ca S H) (f : Fr ca H ca' H') (x : SlRep pn K ca H s o) : SlRep pn K ca' H' s o := by
  cases s with
  | v d => obtain ⟨v, e, r⟩ := x; exact ⟨v, e, r.fr f⟩
  | x e => obtain ⟨a, oe, dd, e1, e2, e3, e4, e5⟩ := x; exact ⟨a, oe, dd, e1, e2, by rw [← f.le.1]; exact e3, e4, e5.fr R f⟩
  | out => trivial
/-- the slots -/
structure Sls (pn : List (Addr × Obj)) (K : PySem.W.Frag) (ca : Am) (H : Hp) (σ : List Sl) (ρ : St) : Prop where
  len : σ.length = ρ.length
  sl : ∀ (i : Nat) (s : Sl), σ[i]? = some s → SlRep pn K ca H s ρ[i]?
theorem Sls.fr {pn : List (Addr × Obj)} {σ : List Sl} {ρ : St} (R : Rp K ca S H) (f : Fr ca H ca' H') (x : Sls pn K ca H σ ρ) : Sls pn K ca' H' σ ρ := ⟨x.len, fun i s e => (x.sl i s e).fr R f⟩
/-- what stands behind an expression or a call -/
def Post (K : PySem.W.Frag) (ca : Am) (H : Hp) (r : Rs D) (Q : VK) (E : XK) : Prop := match r with
  | .ok d S' => ∀ v ca' H', Fr ca H ca' H' → Rp K ca' S' H' → RepD K ca' H' d v → Q v H'
  | .exc e S' => ∀ cls dd ca' H', Fr ca H ca' H' → Rp K ca' S' H' → XRep K ca' H' e cls dd → E cls dd H'
/-- .. its part about errors -/
def XPost {α : Type} (K : PySem.W.Frag) (ca : Am) (H : Hp) (r : Rs α) (E : XK) : Prop := match r with
  | .exc e S' => ∀ cls dd ca' H', Fr ca H ca' H' → Rp K ca' S' H' → XRep K ca' H' e cls dd → E cls dd H'
  | _ => True
theorem XPost.after {α : Type} {r : Rs α} {E : XK} (x : XPost K ca H r E) (f : Fr ca H ca' H') : XPost K ca' H' r E := by
  cases r with
  | ok _ _ => trivial
  | exc e S' => exact fun cls dd ca2 H2 f2 => x cls dd ca2 H2 (f.trans f2)
theorem Post.x {r : Rs D} {Q : VK} {E : XK} (x : Post K ca H r Q E) : XPost K ca H r E := by
  cases r with
  | ok _ _ => trivial
  | exc e S' => exact x
theorem Post.of {r : Rs D} {Q : VK} {E : XK} (x : XPost K ca H r E) (q : ∀ d S', r = .ok d S' → ∀ v ca' H', Fr ca H ca' H' → Rp K ca' S' H' → RepD K ca' H' d v → Q v H') : Post K ca H r Q E := by
  cases r with
  | ok d S' => exact q d S' rfl
  | exc e S' => exact x
theorem Post.mono {r : Rs D} {Q Q' : VK} {E : XK} (x : Post K ca H r Q E) (q : ∀ v H', Q v H' → Q' v H') : Post K ca H r Q' E := by
  cases r with
  | ok d S' => exact fun v ca' H' f R r => q v H' (x v ca' H' f R r)
  | exc e S' => exact x
theorem Post.after {r : Rs D} {Q : VK} {E : XK} (x : Post K ca H r Q E) (f : Fr ca H ca' H') : Post K ca' H' r Q E := by
  cases r with
  | ok d S' => exact fun v ca2 H2 f2 => x v ca2 H2 (f.trans f2)
  | exc e S' => exact fun cls dd ca2 H2 f2 => x cls dd ca2 H2 (f.trans f2)
end
/-- a def's promise -/
def spI (K : PySem.W.Frag) (cc : Nat → Addr) (g : Gv) : Sp := fun vs H Q E => ∃ ca S ds r, ca.c = cc ∧ Rp K ca S H ∧ RepDs K ca H ds vs ∧ g S ds = some r ∧ Post K ca H r Q E

/-! ### contexts -/
/-- what an expression's context must bear -/
structure Cok (bl : List Str) (hot : Bool) (sc : Scope) (X : Cx) : Prop where
  scope : X.env.scope = sc
  nd : X.N.Nodup
  calm : hot = false → X.calm = true
  un : X.A.units + 130 < cLine
  bln : ∀ x ∈ bl, X.mg x = none
  kd : X.env.scope.kind = .function
/-- a call by a name: how it is read -/
def CallOk (X : Cx) (f : Str) (sp : Sp) : Prop := ∀ (W : WX), Takes X W → Gl X f → (f == ("__debug__" : Str)) = false →
  (∀ p pos, PE X (.Call (.Name f p) [] [] pos) (fun σ H Q => sp [] H Q (WE W σ))) ∧
    ∀ (e : Expr) (es : List Expr) (p pos : Pos) (t : TA), PA X (e :: es) t → starEach (e :: es) X.env = (false, eval e X.env) :: starEach es X.env → (backTo pos (starEach es X.env)).any (·.1) = false →
      PE X (.Call (.Name f p) (e :: es) [] pos) (fun σ H Q => t σ H fun vs H1 => sp vs H1 Q (WE W σ))
/-- a method's call -/
def MethOk (X : Cx) (C : Addr) (m : Str) (sp : Sp) : Prop := ∀ (W : WX), Takes X W →
  (∀ (o : Expr) (ap pos : Pos) (ta : TE), PE X o ta → baseOk o = true → (ap.endLine == pos.line) = true → PE X (.Call (.Attribute o m ap) [] [] pos) (fun σ H Q => ta σ H fun x H1 => ∃ a dx fs, x = .ref a ∧ H1 a = some (.ins C dx fs) ∧ fs.lookup m = none ∧ sp [x] H1 Q (WE W σ))) ∧
    ∀ (o e : Expr) (es : List Expr) (ap pos : Pos) (ta : TE) (t : TA), PE X o ta → PA X (e :: es) t → baseOk o = true → (ap.endLine == pos.line) = true → (e :: es).length < 28 → starEach (e :: es) X.env = (false, eval e X.env) :: starEach es X.env →
      (backTo pos (starEach (e :: es) X.env)).any (·.1) = false → (backTo pos (starEach es X.env)).any (·.1) = false →
      PE X (.Call (.Attribute o m ap) (e :: es) [] pos) (fun σ H Q => ta σ H fun x H1 => ∃ a dx fs, x = .ref a ∧ H1 a = some (.ins C dx fs) ∧ fs.lookup m = none ∧ t σ H1 fun vs H2 => sp (x :: vs) H2 Q (WE W σ))
/-- a base class's method by the class's name -/
def QcOk (X : Cx) (x m : Str) (sp : Sp) : Prop := ∀ (W : WX), Takes X W → Gl X x → (x == ("__debug__" : Str)) = false → ∀ (e : Expr) (es : List Expr) (p1 p2 pos : Pos) (ta : TA), PA X (e :: es) ta → (p2.endLine == pos.line) = true → (e :: es).length < 28 →
    starEach (e :: es) X.env = (false, eval e X.env) :: starEach es X.env → (backTo pos (starEach (e :: es) X.env)).any (·.1) = false → (backTo pos (starEach es X.env)).any (·.1) = false →
    PE X (.Call (.Attribute (.Name x p1) m p2) (e :: es) [] pos) (fun σ H Q => ta σ H fun vs H1 => sp vs H1 Q (WE W σ))
/-- raise X(e) -/
def RaiseOk (X : Cx) (x : Str) (C : Addr) (f : Option Str) : Prop := ∀ (W : WX), Takes X W → X.calm = true → Gl X x → (x == ("__debug__" : Str)) = false → ∀ (e : Expr) (p pos pos2 : Pos) (ta : TA), PA X [e] ta →
    starEach [e] X.env = [(false, eval e X.env)] → PS X (.Raise (some (.Call (.Name x p) [e] [] pos)) none pos2) (fun _ σ H => ta σ H fun vs H1 => ∃ v, vs = [v] ∧ match f with
      | some f => ∀ d H2, H1 d = none → H2 d = some (.xd [(f, v)]) → Same H1 H2 → (∀ a, H2 a = none → H1 a = none) → W (.ref C) (some d) σ H2
      | none => (∃ z, v = .str z) ∧ W (.ref C) none σ H1)
/-- what a name is worth, in a context -/
def EntOk (X : Cx) (cc : Nat → Addr) : Nm → Gv → Prop
  | .fn f, g => CallOk X f (spI X.K cc g)
  | .me c m, g => MethOk X (cc c) m (spI X.K cc g)
  | .glb x, g => ∃ d v, (∀ S ds, g S ds = some (.ok d S)) ∧ (∀ ca H, RepD X.K ca H d v) ∧ ∀ p, Gl X x → (x == ("__debug__" : Str)) = false → PE X (.Name x p) (tC v)
  | .qc x m, g => QcOk X x m (spI X.K cc g)
  | .exc x c f, _ => RaiseOk X x (cc c) f
  | _, _ => True
/-- isinstance(e, c), e the error that the suite holds -/
structure IsX (K : PySem.W.Frag) (D : Addr) : Prop where
  cl : (PySem.W.clsIn K D).isSome = true
  ga : PySem.W.findIn K (.ref D) "__getattribute__" = some (some (.builtin "BaseException.__getattribute__"))
  gt : PySem.W.findIn K (.ref D) "__getattr__" = some none
  sb : PySem.W.subIn K (.ref D) (.type "BaseException") = some true
  fc : PySem.W.findIn K (.ref D) "__class__" = some (some (.builtin "object.__class__"))
  sp : PySem.W.specialIn K (.builtin "object.__class__") "__get__" = some (some (.builtin "getset_descriptor.__get__"))
  tk : PySem.W.takesIn K (.builtin "object.__class__") = some true
  mr : PySem.W.mroIn K D (.type "object") = some true
/-- isinstance(x, c), x an instance of the own class at C -/
structure InsX (K : PySem.W.Frag) (C : Addr) : Prop where
  cl : Cls K C
  ha : PySem.W.findIn K (.ref C) "__class__" = some (some (.builtin "object.__class__"))
  hn : PySem.W.specialIn K (.builtin "object.__class__") "__get__" = some (some (.builtin "getset_descriptor.__get__"))
  htk : PySem.W.takesIn K (.builtin "object.__class__") = some true
  hm : PySem.W.mroIn K C (.type "object") = some true
/-- .. whatever frame runs -/
def KEnt (K : PySem.W.Frag) (mg : Str → Option Value) (cc : Nat → Addr) : Nm → Gv → Prop
  | .fld c x, _ => Cls K (cc c) ∧ NoAttr K (cc c) x
  | .cls x c, _ => mg x = some (.ref (cc c)) ∧ PySem.W.keepIn K (.ref (cc c)) = true
  | .sub c c', g => ∃ b, (∀ S ds, g S ds = some (.ok (.bl b) S)) ∧ PySem.W.exmOne K (.ref (cc c)) (.ref (cc c')) = some b ∧ PySem.W.kitOne K (.ref (cc c)) (.ref (cc c')) = some b ∧ IsX K (cc c)
  | .subV c, g => ∃ b, (∀ S ds, g S ds = some (.ok (.bl b) S)) ∧ PySem.W.kitOne K (.ref (cc c)) (.type "ValueError") = some b ∧ IsX K (cc c)
  | .inst c c', g => ∃ b, (∀ S ds, g S ds = some (.ok (.bl b) S)) ∧ InsX K (cc c) ∧ PySem.W.kitOne K (.ref (cc c)) (.ref (cc c')) = some b
  | .xf c f, _ => XfC K (cc c) ∧ PySem.W.findIn K (.ref (cc c)) f = some none
  | _, _ => True
def FnsOk (X : Cx) (cc : Nat → Addr) (Γ : Gam) : Prop := ∀ Y : Cx, Y.prog = X.prog → Y.w = X.w → Y.K = X.K → Y.mg = X.mg → Y.base = X.base → Y.A = X.A → ∀ n g, Γ n = some g → EntOk Y cc n g
/-- the state of an expression: evaluator's slots σ, the run's slots ρ -/
structure Ctx (bl : List Str) (hot : Bool) (sc : Scope) (X : Cx) (Γ : Gam) (W : WX) (ca : Am) (S : Sto) (σ : List Sl) (ρ : L2.St) (H : Hp) : Prop where
  ok : Cok bl hot sc X
  fns : hot = false → FnsOk X ca.c Γ
  kf : ∀ n g, Γ n = some g → KEnt X.K X.mg ca.c n g
  rp : Rp X.K ca S H
  sl : Sls X.pn X.K ca H σ ρ
  ln : ρ.length = X.N.length
  tk : Takes X W
section
variable {bl : List Str} {hot : Bool} {sc : Scope} {X : Cx} {Γ : Gam} {W : WX} {ca ca' : Am} {S S' : Sto} {σ : List Sl} {ρ : L2.St} {H H' : Hp}
theorem Ctx.step (C : Ctx bl hot sc X Γ W ca S σ ρ H) (f : Fr ca H ca' H') (R : Rp X.K ca' S' H') : Ctx bl hot sc X Γ W ca' S' σ ρ H' :=
  ⟨C.ok, fun h => by rw [← f.le.1]; exact C.fns h, fun n g e => by rw [← f.le.1]; exact C.kf n g e, R, C.sl.fr C.rp f, C.ln, C.tk⟩
theorem un64 (C : Cok bl hot sc X) : X.A.units + 64 < cLine := by have := C.un; omega
theorem un65 (C : Cok bl hot sc X) : X.A.units + 65 < cLine := by have := C.un; omega
theorem un1 (C : Cok bl hot sc X) : X.A.units + 1 < cLine := by have := C.un; omega
theorem gl_of {x : Str} (hs : X.env.scope = sc) (h : glB sc x = true) : Gl X x := by
  unfold glB at h
  unfold Gl Env.kindOf
  rw [hs]
  split at h <;> first | assumption | cases h
theorem vis_of {x : Str} (hs : X.env.scope = sc) (h : visB sc x = true) : Vis X.env.scope x := by
  unfold visB at h
  rw [hs]
  unfold Vis
  split at h <;> first | exact .inl (by assumption) | exact .inr (.inl (by assumption)) | exact .inr (.inr (by assumption)) | cases h
theorem loc_of {x : Str} (hs : X.env.scope = sc) (h : locB sc x = true) : L2.Loc X.env.scope x := by
  unfold locB at h
  rw [hs]
  unfold L2.Loc
  split at h <;> first | exact .inl (by assumption) | exact .inr (by assumption) | cases h
theorem bln_of {x : Str} (hb : ∀ y ∈ bl, X.mg y = none) (h : bl.contains x = true) : X.mg x = none := hb x (by simpa using h)

/-! ### the monad -/
theorem bind_some {α β : Type} {x : M α} {f : α → Sto → M β} {r : Rs β} (h : M.bind x f = some r) : (∃ a S1, x = some (.ok a S1) ∧ f a S1 = some r) ∨ ∃ e S1, x = some (.exc e S1) ∧ r = .exc e S1 := by
  unfold M.bind at h
  split at h
  · exact .inl ⟨_, _, rfl, h⟩
  · cases h; exact .inr ⟨_, _, rfl, rfl⟩
  · cases h
theorem ok_inj {α : Type} {a : α} {S1 : Sto} {r : Rs α} (h : M.ok a S1 = some r) : r = .ok a S1 := by unfold M.ok at h; cases h; rfl
theorem gP_ok {α : Type} {p : Prop} {k : Option α} {b : α} (h : gP p k = some b) : p ∧ k = some b := by
  unfold gP at h
  split at h
  · exact ⟨by assumption, h⟩
  · cases h
/-- an expression's claim -/
def SndE (bl : List Str) (Γ : Gam) (e : E) : Prop := ∀ (x : Expr) (hot : Bool) (sc : Scope) (X : Cx) (W : WX) (ca : Am) (S : Sto) (σ : List Sl) (ρ : L2.St) (H : Hp), chk bl hot X.N sc e x = true → Ctx bl hot sc X Γ W ca S σ ρ H →
  ∀ r, ev Γ e σ S = some r → ∀ Q, Post X.K ca H r Q (WE W ρ) → wpE X x ρ H Q
def SndEs (bl : List Str) (Γ : Gam) (es : Es) : Prop := ∀ (x : List Expr) (hot : Bool) (sc : Scope) (X : Cx) (W : WX) (ca : Am) (S : Sto) (σ : List Sl) (ρ : L2.St) (H : Hp), chks bl hot X.N sc es x = true → Ctx bl hot sc X Γ W ca S σ ρ H →
  ∀ r, evs Γ es σ S = some r → ∀ Q : List V → Hp → Prop, XPost X.K ca H r (WE W ρ) → (∀ ds S', r = .ok ds S' → ∀ vs ca' H', Fr ca H ca' H' → Rp X.K ca' S' H' → RepDs X.K ca' H' ds vs → Q vs H') → wpA X x ρ H Q
/-- an expression, then what follows -/
theorem snd_bind {e : E} (Se : SndE bl Γ e) {x : Expr} (hc : chk bl hot X.N sc e x = true) (C : Ctx bl hot sc X Γ W ca S σ ρ H) {β : Type} {f : D → Sto → M β} {r : Rs β} (he : (ev Γ e σ S).bind f = some r) (hx : XPost X.K ca H r (WE W ρ)) {Q : VK}
    (k : ∀ d S1, f d S1 = some r → ∀ v ca1 H1, Fr ca H ca1 H1 → Rp X.K ca1 S1 H1 → RepD X.K ca1 H1 d v → Q v H1) : wpE X x ρ H Q := by
  rcases bind_some he with ⟨d, S1, e1, e2⟩ | ⟨xc, S1, e1, rfl⟩
  · exact Se x hot sc X W ca S σ ρ H hc C _ e1 Q fun v ca1 H1 f R r => k d S1 e2 v ca1 H1 f R r
  · exact Se x hot sc X W ca S σ ρ H hc C _ e1 Q hx
theorem snd_binds {es : Es} (Se : SndEs bl Γ es) {x : List Expr} (hc : chks bl hot X.N sc es x = true) (C : Ctx bl hot sc X Γ W ca S σ ρ H) {β : Type} {f : List D → Sto → M β} {r : Rs β} (he : (evs Γ es σ S).bind f = some r) (hx : XPost X.K ca H r (WE W ρ)) {Q : List V → Hp → Prop}
    (k : ∀ d S1, f d S1 = some r → ∀ v ca1 H1, Fr ca H ca1 H1 → Rp X.K ca1 S1 H1 → RepDs X.K ca1 H1 d v → Q v H1) : wpA X x ρ H Q := by
  rcases bind_some he with ⟨d, S1, e1, e2⟩ | ⟨xc, S1, e1, rfl⟩
  · exact Se x hot sc X W ca S σ ρ H hc C _ e1 Q trivial fun ds S' e v ca1 H1 f R r => by cases e; exact k d S1 e2 v ca1 H1 f R r
  · exact Se x hot sc X W ca S σ ρ H hc C _ e1 Q hx fun ds S' e => by cases e
end
/-! ### from the tie -/
section
variable {bl : List Str} {hot : Bool} {N : List Str} {sc : Scope}
theorem star_ok {x : Expr} (h : okX x = true) (es : List Expr) (env : Env) : starEach (x :: es) env = (false, eval x env) :: starEach es env := by
  cases x <;> first | rfl | cases h
theorem plainIx_ok {x : Expr} (h : okX x = true) : PlainIx x := by
  intro o i
  cases x <;> first | rfl | cases h
theorem noSl_ok {x : Expr} (h : okX x = true) : NoSl x := by
  intro a b
  cases x <;> first | rfl | cases h
theorem fold_ok {x : Expr} (h : okX x = true) (env : Env) (v : Value) : foldedSetIterable x env v = pure v := by
  cases x <;> first | rfl | cases h
theorem mark_ok {x : Expr} (h : okX x = true) (o : CmpOp) : behindInMarks o x = false := by
  cases x <;> first | rfl | cases h | (cases o <;> rfl)
theorem chks_ok : ∀ {es : Es} {l : List Expr}, chks bl hot N sc es l = true → ∀ x ∈ l, okX x = true
  | .nil, [], _, _, h => by cases h
  | .nil, _ :: _, h, _, _ => by simp [chks] at h
  | .cons _ _, [], h, _, _ => by simp [chks] at h
  | .cons e es, x :: l, h, y, hy => by
    have h' : (chk bl hot N sc e x = true ∧ okX x = true) ∧ chks bl hot N sc es l = true := by simpa [chks] using h
    rcases List.mem_cons.mp hy with rfl | hy
    · exact h'.1.2
    · exact chks_ok h'.2 y hy
theorem noback_ok : ∀ {l : List Expr}, (∀ x ∈ l, okX x = true) → ∀ (pos : Pos) (env : Env), (backTo pos (starEach l env)).any (·.1) = false
  | [], _, _, _ => rfl
  | x :: l, h, pos, env => by
    rw [star_ok (h x List.mem_cons_self)]
    show (false || (backTo pos (starEach l env)).any (·.1)) = false
    rw [noback_ok (fun y hy => h y (List.mem_cons_of_mem _ hy))]
    rfl
theorem attr_base {x : Expr} {a : Str} (env : Env) (h : baseOk x = true) : attributeBase x a env (eval x env) = eval x env := by
  unfold attributeBase
  split
  · rename_i id p pos
    have e1 : (id != ("super" : Str)) = true := by
      have : (!(id == ("super" : Str))) = true := h
      simpa [bne] using this
    simp [e1]
  · rfl
theorem meth_eval {o : Expr} {m : Str} {apos pos : Pos} {es : List Expr} {env : Env} (h : baseOk o = true) (hl : (apos.endLine == pos.line) = true) (hb : (backTo pos (starEach es env)).any (·.1) = false) (hn : es.length < 28) :
    eval (.Call (.Attribute o m apos) es [] pos) env = (do let ov ← eval o env; standAt apos.atName; let (f, first) ← holding [ov] (getMethod ov m (do return (← importBound o env).getD true)); callWith pos f first (backTo pos (starEach es env)) (backToKw pos (keywordEach [] env))) := by
  have hall : (backTo pos (starEach es env)).all (fun x => !x.1) = true := by
    rw [List.all_eq_true]
    intro x hx
    have := List.any_eq_false.mp hb x hx
    simpa using this
  have hk : backToKw pos (keywordEach [] env) = [] := rfl
  have hf : methodCallForm (es.length + ([] : List Keyword).length) (backTo pos (starEach es env)) (backToKw pos (keywordEach [] env)) = true := by
    unfold methodCallForm
    rw [hall, hk]
    simp
    omega
  rw [arm_eval_Call, attr_base _ h]
  unfold methodCall calleeOf methodCallPos
  rw [hf, hl]
  rfl
theorem isTrue_of {x : Expr} (env : Env) (h : noT x = true) (whole : Sem Value) : isTrue x env whole = (do let v ← whole; standAt x.pos; holding [v] (truthy v)) := by
  cases x with
  | UnaryOp o y p => cases o <;> first | rfl | cases h
  | BoolOp o l p => cases h
  | IfExp a b c p => cases h
  | Compare a b c p => cases h
  | _ => rfl
theorem bM_some {f : Str} {n : Nat} {x : Expr} {l : List Expr} (h : bM bl sc f n x = some l) : ∃ p pos, x = .Call (.Name f p) l [] pos ∧ glB sc f = true ∧ bl.contains f = true ∧ l.length = n := by
  unfold bM at h
  split at h
  · split at h
    · rename_i hcond
      cases h
      simp only [Bool.and_eq_true, decide_eq_true_eq] at hcond
      obtain ⟨⟨⟨h1, h2⟩, h3⟩, h4⟩ := hcond
      subst h1
      exact ⟨_, _, rfl, h2, h3, h4⟩
    · cases h
  · cases h
theorem mM_some {m : Str} {n : Nat} {x : Expr} {l : List Expr} (h : mM m n x = some l) : ∃ o es p pos, x = .Call (.Attribute o m p) es [] pos ∧ l = o :: es ∧ baseOk o = true ∧ (p.endLine == pos.line) = true ∧ es.length = n := by
  unfold mM at h
  split at h
  · split at h
    · rename_i hcond
      cases h
      simp only [Bool.and_eq_true, decide_eq_true_eq] at hcond
      obtain ⟨⟨⟨h1, h2⟩, h3⟩, h4⟩ := hcond
      subst h1
      exact ⟨_, _, _, _, rfl, rfl, h2, h3, h4⟩
    · cases h
  · cases h
end
end Hv
/-! Hv3: operators, comparisons, subscripts, slices over data. -/
namespace Hv
open PySem PySem.Spec
open PyProof.Rows hiding St
open L2

/-! ### reading -/
section
variable {K : PySem.W.Frag} {ca : Am} {S : Sto} {H : Hp}
theorem RepD.intv {i : Int} {v : V} (r : RepD K ca H (.int i) v) : v = .int i := r
theorem RepD.strv {z : Str} {v : V} (r : RepD K ca H (.str z) v) : v = .str z := r
theorem RepD.blv {z : Bool} {v : V} (r : RepD K ca H (.bl z) v) : v = .bl z := r
theorem RepD.nonv {v : V} (r : RepD K ca H .non v) : v = .non := r
theorem SqL.free {a : Addr} {vs : List V} (h : SqL K (fun _ => none) a vs) : SqL K H a vs := by
  rcases h with (h | ⟨o, h⟩) | h
  · cases h
  · cases h
  · exact .inr h
theorem SqT.free {a : Addr} {vs : List V} (h : SqT K (fun _ => none) a vs) : SqT K H a vs := by
  rcases h with (h | ⟨o, h⟩) | h
  · cases h
  · cases h
  · exact .inr h
theorem RepD.tupv {xs : List D} {v : V} (r : RepD K ca H (.tup xs) v) : ∃ a vs, v = .ref a ∧ H a = some (.tup vs) ∧ RepDs K ca H xs vs := r
theorem RepD.flv {xs : List D} {v : V} (r : RepD K ca H (.fl xs) v) : ∃ a vs, v = .ref a ∧ SqL K H a vs ∧ RepDs K ca H xs vs := by
  obtain ⟨a, vs, e, q, r⟩ : ∃ a vs, v = .ref a ∧ ((∃ o, H a = some (.frz o (.lst vs))) ∨ SqL K (fun _ => none) a vs) ∧ RepDs K ca H xs vs := r
  exact ⟨a, vs, e, q.elim (fun z => .inl (.inr z)) SqL.free, r⟩
/-- a tuple read -/
theorem tup_rd {d : D} {xs : List D} {v : V} (r : RepD K ca H d v) (h : tupD d = some xs) : ∃ a vs, v = .ref a ∧ SqT K H a vs ∧ RepDs K ca H xs vs := by
  unfold tupD at h
  split at h
  · cases h
    obtain ⟨a, vs, e, q, r⟩ := r.tupv
    exact ⟨a, vs, e, .inl (.inl q), r⟩
  · cases h
    obtain ⟨a, vs, e, q, r⟩ : ∃ a vs, v = .ref a ∧ SqT K (fun _ => none) a vs ∧ RepDs K ca H _ vs := r
    exact ⟨a, vs, e, SqT.free q, r⟩
  · cases h
/-- a cell read -/
theorem cell_rd (R : Rp K ca S H) {n : Nat} {c : C} {v : V} (r : RepD K ca H (.ref n) v) (e : S[n]? = some c) : ∃ a, v = .ref a ∧ ca.i[n]? = some a ∧ CRep K ca H a c := by
  obtain ⟨a, ea, ev⟩ : ∃ a, ca.i[n]? = some a ∧ v = .ref a := r
  exact ⟨a, ev, ea, R.cel n c a e ea⟩
/-- a list read -/
theorem seq_rd (R : Rp K ca S H) {d : D} {xs : List D} {v : V} (r : RepD K ca H d v) (h : seqS S d = some xs) : ∃ a vs, v = .ref a ∧ SqL K H a vs ∧ RepDs K ca H xs vs := by
  unfold seqS at h
  split at h
  · cases h; exact r.flv
  · split at h
    · rename_i e
      cases h
      obtain ⟨a, ev, ea, vs, q, rs⟩ := cell_rd R r e
      exact ⟨a, vs, ev, SqL.of q, rs⟩
    · cases h
  · cases h
mutual
theorem dps_of : ∀ {d : D} {v : V} {x : PyData}, RepD K ca H d v → pyS S d = some x → Dp K H v x
  | .non, v, x, r, h => by cases h; rw [r.nonv]; exact .non
  | .bl b, v, x, r, h => by cases h; rw [r.blv]; exact .bl _
  | .int i, v, x, r, h => by cases h; rw [r.intv]; exact .int _
  | .str z, v, x, r, h => by cases h; rw [r.strv]; exact .str _
  | .tup xs, v, x, r, h => by
    unfold pyS at h
    obtain ⟨ys, e, rfl⟩ := Option.map_eq_some_iff.mp h
    obtain ⟨a, vs, rfl, q, r⟩ := tup_rd r rfl
    exact .tup q (dpss_of r e)
  | .kt xs, v, x, r, h => by
    unfold pyS at h
    obtain ⟨ys, e, rfl⟩ := Option.map_eq_some_iff.mp h
    obtain ⟨a, vs, rfl, q, r⟩ := tup_rd r rfl
    exact .tup q (dpss_of r e)
  | .fl xs, v, x, r, h => by
    unfold pyS at h
    obtain ⟨ys, e, rfl⟩ := Option.map_eq_some_iff.mp h
    obtain ⟨a, vs, rfl, q, r⟩ := r.flv
    exact .lst q (dpss_of r e)
  | .ref n, v, x, r, h => by unfold pyS at h; cases h
theorem dpss_of : ∀ {d : List D} {v : List V} {x : List PyData}, RepDs K ca H d v → pySs S d = some x → DpAll K H v x
  | [], v, x, r, h => by unfold RepDs at r; subst r; unfold pySs at h; cases h; exact .nil
  | d :: ds, v, x, r, h => by
    unfold RepDs at r
    obtain ⟨u, w, rfl, r1, r2⟩ := r
    unfold pySs at h
    obtain ⟨y, e1, h⟩ := Option.bind_eq_some_iff.mp h
    obtain ⟨ys, e2, rfl⟩ := Option.map_eq_some_iff.mp h
    exact .cons (dps_of r1 e1) (dpss_of r2 e2)
end
mutual
theorem dp_of (R : Rp K ca S H) : ∀ {d : D} {v : V} {x : PyData}, RepD K ca H d v → pyD S d = some x → Dp K H v x
  | .non, v, x, r, h => by cases h; rw [r.nonv]; exact .non
  | .bl b, v, x, r, h => by cases h; rw [r.blv]; exact .bl _
  | .int i, v, x, r, h => by cases h; rw [r.intv]; exact .int _
  | .str z, v, x, r, h => by cases h; rw [r.strv]; exact .str _
  | .tup xs, v, x, r, h => by
    unfold pyD at h
    obtain ⟨ys, e, rfl⟩ := Option.map_eq_some_iff.mp h
    obtain ⟨a, vs, rfl, q, r⟩ := tup_rd r rfl
    exact .tup q (dpD_of R r e)
  | .kt xs, v, x, r, h => by
    unfold pyD at h
    obtain ⟨ys, e, rfl⟩ := Option.map_eq_some_iff.mp h
    obtain ⟨a, vs, rfl, q, r⟩ := tup_rd r rfl
    exact .tup q (dpD_of R r e)
  | .fl xs, v, x, r, h => by
    unfold pyD at h
    obtain ⟨ys, e, rfl⟩ := Option.map_eq_some_iff.mp h
    obtain ⟨a, vs, rfl, q, r⟩ := r.flv
    exact .lst q (dpD_of R r e)
  | .ref n, v, x, r, h => by
    unfold pyD at h
    split at h
    · rename_i xs e0
      obtain ⟨ys, e, rfl⟩ := Option.map_eq_some_iff.mp h
      obtain ⟨a, rfl, ea, vs, q, rs⟩ := cell_rd R r e0
      exact .lst (SqL.of q) (dpss_of rs e)
    · cases h
theorem dpD_of (R : Rp K ca S H) : ∀ {d : List D} {v : List V} {x : List PyData}, RepDs K ca H d v → pyDs S d = some x → DpAll K H v x
  | [], v, x, r, h => by unfold RepDs at r; subst r; unfold pyDs at h; cases h; exact .nil
  | d :: ds, v, x, r, h => by
    unfold RepDs at r
    obtain ⟨u, w, rfl, r1, r2⟩ := r
    unfold pyDs at h
    obtain ⟨y, e1, h⟩ := Option.bind_eq_some_iff.mp h
    obtain ⟨ys, e2, rfl⟩ := Option.map_eq_some_iff.mp h
    exact .cons (dp_of R r1 e1) (dpD_of R r2 e2)
end
/-! ### truth -/
theorem isEmpty_rep {α β : Type} {xs : List α} {vs : List β} (h : vs.length = xs.length) : (!vs.isEmpty) = !xs.isEmpty := by
  cases xs <;> cases vs <;> simp_all
theorem tru_of (R : Rp K ca S H) {d : D} {v : V} {k : Bool} (r : RepD K ca H d v) (h : truth S d = some k) : TruV K v H k := by
  cases d with
  | non => rw [r.nonv]; exact (Option.some.inj h).symm
  | bl b => rw [r.blv]; exact (Option.some.inj h).symm
  | int i => rw [r.intv]; exact (Option.some.inj h).symm
  | str z =>
    rw [r.strv]
    obtain ⟨h1, h2⟩ := gP_ok h
    exact ⟨h1, (Option.some.inj h2).symm⟩
  | tup xs =>
    obtain ⟨a, vs, rfl, q, rs⟩ := tup_rd r rfl
    exact .inr (.inl ⟨vs, q, by rw [isEmpty_rep rs.length]; exact (Option.some.inj h).symm⟩)
  | kt xs =>
    obtain ⟨a, vs, rfl, q, rs⟩ := tup_rd r rfl
    exact .inr (.inl ⟨vs, q, by rw [isEmpty_rep rs.length]; exact (Option.some.inj h).symm⟩)
  | fl xs =>
    obtain ⟨a, vs, rfl, q, rs⟩ := r.flv
    exact .inl ⟨vs, q, by rw [isEmpty_rep rs.length]; exact (Option.some.inj h).symm⟩
  | ref n =>
    change (match S[n]? with | some (.lst xs) => some (!xs.isEmpty) | some (.dK kvs) => some (!kvs.isEmpty) | _ => none) = some k at h
    split at h
    · rename_i xs e
      obtain ⟨a, rfl, ea, vs, q, rs⟩ := cell_rd R r e
      exact .inl ⟨vs, SqL.of q, by rw [isEmpty_rep rs.length]; exact (Option.some.inj h).symm⟩
    · rename_i kvs e
      obtain ⟨a, rfl, ea, vs, q, rs⟩ := cell_rd R r e
      refine .inr (.inr ⟨vs, q, ?_⟩)
      rw [isEmpty_rep (xs := kvs) (by have := congrArg List.length rs.1; simpa using this.symm)]
      exact (Option.some.inj h).symm
    · cases h
/-- what an operation leaves is right -/
def Fin (K : PySem.W.Frag) (ca : Am) (H : Hp) (d : D) (S' : Sto) (Q : VK) : Prop := ∀ v ca' H', Fr ca H ca' H' → Rp K ca' S' H' → RepD K ca' H' d v → Q v H'
theorem Fin.self {d : D} {Q : VK} (R : Rp K ca S H) (q : Fin K ca H d S Q) {v : V} (r : RepD K ca H d v) : Q v H := q v ca H .refl R r
theorem Fin.tup {xs : List D} {vs : List V} {Q : VK} (R : Rp K ca S H) (q : Fin K ca H (.tup xs) S Q) (r : RepDs K ca H xs vs) {p : Addr} (np : H p = none) : Q (.ref p) (upd H p (.tup vs)) :=
  q _ ca _ (.same R (Same.upd np) upd_al) (R.same (Same.upd np)) ⟨p, vs, rfl, upd_same, r.mono (.of_same (Same.upd np)) .refl⟩
theorem Fin.lst {xs : List D} {vs : List V} {Q : VK} (R : Rp K ca S H) (q : Fin K ca H (.ref S.length) (S ++ [.lst xs]) Q) (r : RepDs K ca H xs vs) {p : Addr} (np : H p = none) : Q (.ref p) (upd H p (.lst vs)) := by
  obtain ⟨R2, f⟩ := R.new (c := .lst xs) np ⟨vs, upd_same, r.mono (.of_same (Same.upd np)) Am.le_more⟩
  exact q _ _ _ f R2 R.new_at
theorem Fin.put {n : Nat} {a : Addr} {u o : HO} {c : C} {Q : VK} {d : D} (R : Rp K ca S H) (q : Fin K ca H d (S.set n c) Q) (ea : ca.i[n]? = some a) (hu : H a = some u) (ht : ∀ xs, u ≠ .tup xs) (hf : ∀ o xs, u ≠ .frz o (.lst xs))
    (r : CRep K ca (upd H a o) a c) {v : V} (hv : ∀ H', TK H H' → RepD K ca H' d v) : Q v (upd H a o) := by
  obtain ⟨R2, f⟩ := R.put ea hu ht hf r
  exact q v ca _ f R2 (hv _ f.tk)
end

/-! ### operators over values -/
section
variable {X : Cx} {ca : Am} {S : Sto} {H : Hp}
/-- a cat of lists that may be read -/
def rCatS (K : PySem.W.Frag) : R2 := fun x y H Q => ∃ l b xs zs, x = .ref l ∧ y = .ref b ∧ SqL K H l xs ∧ SqL K H b zs ∧ xs.length + zs.length ≤ sizeLine ∧ ∀ p, H p = none → Q (.ref p) (upd H p (.lst (xs ++ zs)))
theorem op_catS : OpR X (binaryOp .Add) (rCatS X.K) := by
  intro pins s σ H x y v u Q I rx ry h
  obtain ⟨l, b, xs, zs, rfl, rfl, h1, h2, hz, q⟩ := h
  cases rx
  cases ry
  obtain ⟨its, r, p1, _⟩ := I.list h1
  obtain ⟨its2, r2, p2, _⟩ := I.list h2
  obtain ⟨⟨cls, dd, data, sl⟩, ho, hc, n, hd⟩ := p1.isList
  obtain ⟨⟨cls2, dd2, data2, sl2⟩, ho2, hc2, n2, hd2⟩ := p2.isList
  simp only at hc hd hc2 hd2
  subst hc hd hc2 hd2
  have hl := r.length
  have hl2 := r2.length
  have e : its.toArray ++ its2.toArray = (its ++ its2).toArray := by simp
  refine concat_meets ⟨_, ho, rfl⟩ ⟨_, ho2, rfl⟩ noFill_list_add seq_list_add PySem.F.slot_list_add PySem.F.entry_list_add (PySem.F.args_list_add_2 _ _) (list_addW l b its.toArray its2.toArray n n2 dd dd2 sl sl2 (by simp; omega)) ⟨ho, ho2, ?_⟩
  rw [e]
  exact ⟨.ref _, _, I.lnew (t' := s.toks) (r.append r2) (by rw [List.length_append]; omega), rfl, q _ I.fresh⟩
theorem notLong {n : Nat} (h : n ≤ sizeLine) : Builtin.Str.tooLong n = false := by
  have : ¬ n > 2 ^ 24 := by rw [sizeLine_eq] at h; omega
  simpa [Builtin.Str.tooLong, sizeLine] using this
/-- a text so many times -/
theorem strRep_eq (z : Str) (n : Nat) : (⟨(List.replicate n z.cps).foldl (· ++ ·) #[]⟩ : Str) = strRep z n := by
  have key : ∀ (n : Nat) (a : Array Nat), (List.replicate n z.cps).foldl (· ++ ·) a = a ++ (strRep z n).cps := by
    intro n
    induction n with
    | zero => intro a; show a = a ++ (#[] : Array Nat); simp
    | succ n ih =>
      intro a
      rw [List.replicate_succ, List.foldl_cons, ih]
      show a ++ z.cps ++ (strRep z n).cps = a ++ (z.cps ++ (strRep z n).cps)
      rw [Array.append_assoc]
  have := key n #[]
  rw [Array.empty_append] at this
  rw [this]
def rMulS : R2 := fun x y H Q => ∃ z k, x = .str z ∧ y = .int k ∧ (-4611686018427387904 ≤ k ∧ k < 4611686018427387904) ∧ z.length * k.toNat ≤ sizeLine ∧ Q (.str (strRep z k.toNat)) H
theorem op_mul_str : OpR X (binaryOp .Mult) rMulS := by
  intro pins s σ H x y v u Q I rx ry h
  obtain ⟨z, k, rfl, rfl, ⟨k1, k2⟩, hz, q⟩ := h
  obtain ⟨t, rfl⟩ := rx
  obtain ⟨t', rfl⟩ := ry
  have hl : (sizeLine : Nat) = 16777216 := sizeLine_eq
  have fin : ∀ (z' : Str) (tk tk' : Nat), z' = strRep z k.toNat → EP X pins σ Q (.str z' tk) { s with toks := tk' } := fun z' tk tk' e => by
    subst e
    exact ⟨.str (strRep z k.toNat), H, I.tok _, ⟨_, rfl⟩, q⟩
  refine PySem.P.mul_str (by rw [decide_eq_false (by omega), decide_eq_false (by omega)]; rfl) (fun h1 h2 => ?_) (fun h1 h2 => ?_) ?_
  · have hk : 0 < k := by omega
    have h3 : ((z.length : Int)) * k ≤ 16777216 := by
      have : (z.length * k.toNat : Nat) ≤ 16777216 := by omega
      have e : ((z.length * k.toNat : Nat) : Int) = (z.length : Int) * k := by
        rw [Int.natCast_mul, Int.toNat_of_nonneg (by omega)]
      omega
    have h4 : (z.length : Int) ≤ (2 ^ 63 - 1) / k := by
      rw [Int.le_ediv_iff_mul_le hk]
      omega
    omega
  · exact notLong hz
  · by_cases h1 : k < 1
    · rw [if_pos h1]
      have e : k.toNat = 0 := by omega
      exact ⟨by decide, fin _ _ _ (by rw [e]; rfl)⟩
    · rw [if_neg h1]
      by_cases h2 : (k == 1 || z.length == 0) = true
      · rw [if_pos h2]
        rw [Bool.or_eq_true] at h2
        refine fin _ _ _ ?_
        have hcs : ∀ a b : Str, a.cps = b.cps → a = b := fun a b h => by cases a; cases b; simpa using h
        rcases h2 with h2 | h2
        · have : k = 1 := by simpa using h2
          subst this
          refine hcs _ _ ?_
          show z.cps = z.cps ++ #[]
          simp
        · have hz0 : z.cps = #[] := by
            have h3 : z.length = 0 := by simpa using h2
            have : z.cps.size = 0 := h3
            simpa using this
          have key : ∀ n, (strRep z n).cps = #[] := by
            intro n
            induction n with
            | zero => rfl
            | succ n ih => show z.cps ++ (strRep z n).cps = #[]; rw [ih, hz0]; rfl
          exact hcs _ _ (by rw [key, hz0])
      · rw [if_neg h2]
        exact ⟨PySem.fits_reps (notLong hz), fin _ _ _ (strRep_eq z _)⟩
/-- two values are joined: what the wish must bear -/
def rBin (o : Operator) (K : PySem.W.Frag) : R2 := match o with
  | .Add => fun x y H Q => rI0 (fun i j => .int (i + j)) x y H Q ∨ ((∃ i j, x = .str i ∧ y = .str j ∧ i.length + j.length ≤ sizeLine ∧ Q (.str (i ++ j)) H) ∨ rCatS K x y H Q)
  | .Sub => rI0 fun i j => .int (i - j)
  | .Mult => fun x y H Q => rI CMul (fun i j => .int (i * j)) x y H Q ∨ rMulS x y H Q
  | .FloorDiv => rI CDiv fun i j => .int (i / j)
  | .Mod => rI (fun _ j => 0 < j) fun i j => .int (i % j)
  | .Pow => rI CPow fun i j => .int (i ^ j.toNat)
  | .LShift => rI CPow fun i j => .int (i * 2 ^ j.toNat)
  | .RShift => rI (fun _ j => 0 ≤ j) fun i j => .int (i / 2 ^ j.toNat)
  | .BitAnd => rI0 fun i j => .int (Builtin.bitAnd i j)
  | .BitOr => rI0 fun i j => .int (Builtin.bitOr i j)
  | _ => fun _ _ _ _ => False
theorem op_bin (o : Operator) : OpR X (binaryOp o) (rBin o X.K) := by
  cases o with
  | Add => exact OpR.or op_add (OpR.or op_add_str op_catS)
  | Sub => exact op_sub
  | Mult => exact OpR.or op_mul op_mul_str
  | FloorDiv => exact op_fdiv
  | Mod => exact op_mod
  | Pow => exact op_pow
  | LShift => exact op_shl
  | RShift => exact op_shr
  | BitAnd => exact op_and
  | BitOr => exact op_or
  | _ => intro pins s σ H x y v u Q I rx ry h; exact False.elim h
theorem pow62 : (2 : Int) ^ 62 = 4611686018427387904 := by decide
theorem pow64 : (2 : Int) ^ 64 = 18446744073709551616 := by decide
theorem bin_ok {o : Operator} {a b d : D} {S' : Sto} {x y : V} {Q : VK} (R : Rp X.K ca S H) (ra : RepD X.K ca H a x) (rb : RepD X.K ca H b y) (h : binW o a b S = some (d, S')) (q : Fin X.K ca H d S' Q) : rBin o X.K x y H Q := by
  unfold binW at h
  split at h
  · rename_i i j
    have ex := ra.intv
    have ey := rb.intv
    subst ex ey
    obtain ⟨d0, e0, h⟩ := Option.map_eq_some_iff.mp h
    cases h
    have fin : ∀ n : Int, some (D.int n) = some d → Q (.int n) H := fun n e => by cases e; exact q.self R rfl
    unfold binI at e0
    split at e0
    · exact .inl ⟨i, j, rfl, rfl, fin _ e0⟩
    · exact ⟨i, j, rfl, rfl, fin _ e0⟩
    · obtain ⟨c, h⟩ := gP_ok e0
      exact .inl ⟨i, j, rfl, rfl, by unfold CMul; rw [pow64]; exact c, fin _ h⟩
    · obtain ⟨c, h⟩ := gP_ok e0
      exact ⟨i, j, rfl, rfl, c, fin _ h⟩
    · obtain ⟨c, h⟩ := gP_ok e0
      exact ⟨i, j, rfl, rfl, c, fin _ h⟩
    · obtain ⟨c, h⟩ := gP_ok e0
      exact ⟨i, j, rfl, rfl, ⟨c.1, c.2.1, c.2.2⟩, fin _ h⟩
    · obtain ⟨c, h⟩ := gP_ok e0
      exact ⟨i, j, rfl, rfl, ⟨c.1, c.2.1, c.2.2⟩, fin _ h⟩
    · obtain ⟨c, h⟩ := gP_ok e0
      exact ⟨i, j, rfl, rfl, c, fin _ h⟩
    · exact ⟨i, j, rfl, rfl, fin _ e0⟩
    · exact ⟨i, j, rfl, rfl, fin _ e0⟩
    · cases e0
  · rename_i i j
    have ex := ra.strv
    have ey := rb.strv
    subst ex ey
    split at h
    · rename_i eo
      subst eo
      obtain ⟨c, h⟩ := gP_ok h
      cases h
      exact .inr (.inl ⟨i, j, rfl, rfl, c, q.self R rfl⟩)
    · cases h
  · rename_i z k0
    have ex := ra.strv
    have ey := rb.intv
    subst ex ey
    split at h
    · rename_i eo
      subst eo
      obtain ⟨⟨c1, c2, c3⟩, h⟩ := gP_ok h
      cases h
      exact .inr ⟨z, k0, rfl, rfl, ⟨c1, c2⟩, c3, q.self R rfl⟩
    · cases h
  · split at h
    · rename_i eo
      subst eo
      split at h
      · rename_i xs ys ea eb
        obtain ⟨c, h⟩ := gP_ok h
        cases h
        obtain ⟨l, vs, e1, h1, r1⟩ := seq_rd R ra ea
        obtain ⟨m, us, e2, h2, r2⟩ := seq_rd R rb eb
        subst e1 e2
        exact .inr (.inr ⟨l, m, vs, us, rfl, rfl, h1, h2, by rw [r1.length, r2.length]; exact c, fun p np => q.lst R (r1.app r2) np⟩)
      · cases h
    · cases h
/-! ### comparisons -/
def rInTD (K : PySem.W.Frag) (neg : Bool) : R2 := fun x y H Q => ∃ d ds, Dp K H x d ∧ Dp K H y (.tuple ds) ∧ SeqAt.shaped d = true ∧ SeqAt.shaped (.tuple ds) = true ∧ Q (.bl (if neg then !ds.any fun z => PyData.eqv z d else ds.any fun z => PyData.eqv z d)) H
theorem op_inTD (hu : X.A.units + 65 < cLine) : OpR X (compareOp .In) (rInTD X.K false) := by
  intro pins s σ H x y v u Q I rx ry h
  obtain ⟨d, ds, hd, he, sd, se, q⟩ := h
  obtain ⟨as, r1⟩ := Dp.reads I d x v hd rx
  obtain ⟨bs, r2⟩ := Dp.reads I (.tuple ds) y u he ry
  exact SeqAt.in_tuple_reads r2 r1 (SeqAt.canLay_of_shaped se) (SeqAt.canLay_of_shaped sd) (room_in_shaped sd hu) ⟨.bl _, H, I, rfl, q⟩
theorem op_notInTD (hu : X.A.units + 65 < cLine) : OpR X (compareOp .NotIn) (rInTD X.K true) := by
  intro pins s σ H x y v u Q I rx ry h
  obtain ⟨d, ds, hd, he, sd, se, q⟩ := h
  obtain ⟨as, r1⟩ := Dp.reads I d x v hd rx
  obtain ⟨bs, r2⟩ := Dp.reads I (.tuple ds) y u he ry
  exact SeqAt.notIn_tuple_reads r2 r1 (SeqAt.canLay_of_shaped se) (SeqAt.canLay_of_shaped sd) (room_in_shaped sd hu) ⟨.bl _, H, I, rfl, q⟩
def rInDc (neg : Bool) : R2 := fun x y H Q => ∃ a o, y = .ref a ∧ DGet H a x o ∧ Q (.bl (if neg then !o.isSome else o.isSome)) H
theorem op_inDc (hu : X.A.units + 65 < cLine) : OpR X (compareOp .In) (rInDc false) := by
  intro pins s σ H x y v u Q I rx ry h
  obtain ⟨a, o, rfl, g, q⟩ := h
  obtain rfl : u = Value.ref a := ry
  exact d_in (by omega) I g rx fun s3 I3 => ⟨.bl o.isSome, H, I3, rfl, q⟩
theorem op_notInDc (hu : X.A.units + 65 < cLine) : OpR X (compareOp .NotIn) (rInDc true) := by
  intro pins s σ H x y v u Q I rx ry h
  obtain ⟨a, o, rfl, g, q⟩ := h
  obtain rfl : u = Value.ref a := ry
  exact d_notIn (by omega) I g rx fun s3 I3 => ⟨.bl (!o.isSome), H, I3, rfl, q⟩
def rStrC (p : List Nat → List Nat → Bool) : R2 := fun x y H Q => ∃ i j, x = .str i ∧ y = .str j ∧ Q (.bl (p i.cps.toList j.cps.toList)) H
def rCmp (o : CmpOp) (K : PySem.W.Frag) : R2 := match o with
  | .Eq => fun x y H Q => rEq x y H Q ∨ rEqD K x y H Q
  | .NotEq => fun x y H Q => rNe x y H Q ∨ rNeD K x y H Q
  | .Lt => fun x y H Q => rI0 (fun i j => .bl (decide (i < j))) x y H Q ∨ rStrC (fun i j => decide (i < j)) x y H Q
  | .LtE => fun x y H Q => rI0 (fun i j => .bl (decide (i ≤ j))) x y H Q ∨ rStrC (fun i j => !decide (j < i)) x y H Q
  | .Gt => fun x y H Q => rI0 (fun i j => .bl (decide (j < i))) x y H Q ∨ rStrC (fun i j => decide (j < i)) x y H Q
  | .GtE => fun x y H Q => rI0 (fun i j => .bl (decide (j ≤ i))) x y H Q ∨ rStrC (fun i j => !decide (i < j)) x y H Q
  | .Is => fun x y H Q => y = .non ∧ Q (.bl (decide (x = .non))) H
  | .IsNot => fun x y H Q => y = .non ∧ Q (.bl (!decide (x = .non))) H
  | .In => fun x y H Q => (∃ (c : Nat) (z : Str), x = .str ⟨#[c]⟩ ∧ y = .str z ∧ Q (.bl (decide (c ∈ z.cps.toList))) H) ∨ rInDc false x y H Q ∨ rInD K x y H Q ∨ rInTD K false x y H Q
  | .NotIn => fun x y H Q => (∃ (c : Nat) (z : Str), x = .str ⟨#[c]⟩ ∧ y = .str z ∧ Q (.bl (!decide (c ∈ z.cps.toList))) H) ∨ rInDc true x y H Q ∨ rNotInD K x y H Q ∨ rInTD K true x y H Q
theorem op_cmp (hu : X.A.units + 65 < cLine) (o : CmpOp) : OpR X (compareOp o) (rCmp o X.K) := by
  have hu' : X.A.units + 64 < cLine := by omega
  cases o with
  | Eq => exact OpR.or op_eq (op_eqD hu')
  | NotEq => exact OpR.or op_ne (op_neD hu')
  | Lt => exact OpR.or op_lt op_lt_str
  | LtE => exact OpR.or op_le op_le_str
  | Gt => exact OpR.or op_gt op_gt_str
  | GtE => exact OpR.or op_ge op_ge_str
  | Is => exact op_isN
  | IsNot => exact op_notN
  | In => exact OpR.or op_in_sign (OpR.or (op_inDc hu) (OpR.or (op_inD hu) (op_inTD hu)))
  | NotIn => exact OpR.or op_notIn_sign (OpR.or (op_notInDc hu) (OpR.or (op_notInD hu) (op_notInTD hu)))
theorem isNon_rep {a : D} {v : V} (r : RepD X.K ca H a v) : decide (v = .non) = isNonD a := by
  cases a with
  | non => rw [r.nonv]; rfl
  | bl b => rw [r.blv]; rfl
  | int b => rw [r.intv]; rfl
  | str b => rw [r.strv]; rfl
  | tup xs => obtain ⟨a, vs, e, _⟩ := r.tupv; subst e; rfl
  | kt xs => obtain ⟨a, vs, e, _⟩ := tup_rd r rfl; subst e; rfl
  | fl xs => obtain ⟨a, vs, e, _⟩ := r.flv; subst e; rfl
  | ref n => 
    obtain ⟨a, _, e⟩ : ∃ a, ca.i[n]? = some a ∧ v = .ref a := r
    subst e; rfl
theorem eqD_ok {a b : D} {u v : V} {k : Bool} (R : Rp X.K ca S H) (ra : RepD X.K ca H a u) (rb : RepD X.K ca H b v) (h : eqD S a b = some k) : ∃ d e, Dp X.K H u d ∧ Dp X.K H v e ∧ SeqAt.shaped d = true ∧ SeqAt.shaped e = true ∧ PyData.eqv d e = k := by
  unfold eqD at h
  split at h
  · rename_i x y ex ey
    obtain ⟨⟨c1, c2⟩, h⟩ := gP_ok h
    exact ⟨x, y, dp_of R ra ex, dp_of R rb ey, c1, c2, Option.some.inj h⟩
  · cases h
/-- a key of ints and texts -/
theorem key_rd {k : D} {κ : Key} {v : V} (r : RepD X.K ca H k v) (h : keyD k = some κ) : v = kV κ := by
  unfold keyD at h
  split at h
  · cases h; exact r.intv
  · cases h; exact r.strv
  · cases h
theorem keys_rd : ∀ {k : List D} {κ : List Key} {v : List V}, RepDs X.K ca H k v → keyDs k = some κ → v = κ.map kV
  | [], κ, v, r, h => by unfold RepDs at r; unfold keyDs at h; cases h; exact r
  | d :: ds, κ, v, r, h => by
    unfold RepDs at r
    obtain ⟨u, w, rfl, r1, r2⟩ := r
    unfold keyDs at h
    obtain ⟨y, e1, h⟩ := Option.bind_eq_some_iff.mp h
    obtain ⟨ys, e2, rfl⟩ := Option.map_eq_some_iff.mp h
    rw [key_rd r1 e1, keys_rd r2 e2]
    rfl
theorem keyT_rd {k : D} {κ : List Key} {v : V} (r : RepD X.K ca H k v) (h : keyT k = some κ) : ∃ b, v = .ref b ∧ H b = some (.tup (κ.map kV)) := by
  unfold keyT at h
  split at h
  · obtain ⟨a, vs, e, q, rs⟩ := r.tupv
    rw [keys_rd rs h] at q
    exact ⟨a, e, q⟩
  · cases h
def ORep (K : PySem.W.Frag) (ca : Am) (H : Hp) (o : Option D) (o' : Option V) : Prop := match o with
    | some d => ∃ v, o' = some v ∧ RepD K ca H d v
    | none => o' = none
theorem look_rep {κ : Type} [DecidableEq κ] {kvs : List (κ × D)} {vs : List (κ × V)} (r : RepKs X.K ca H kvs vs) (k : κ) : ORep X.K ca H (lookK kvs k) (valV vs k) := by
  obtain ⟨r1, r2⟩ := r
  induction kvs generalizing vs with
  | nil => cases vs with
    | nil => rfl
    | cons _ _ => cases r1
  | cons p kvs ih => cases vs with
    | nil => cases r1
    | cons q vs =>
      have e1 : p.1 = q.1 ∧ kvs.map (·.1) = vs.map (·.1) := by simpa using r1
      unfold RepDs at r2
      obtain ⟨v, w, e2, h1, h2⟩ := r2
      have e3 : v = q.2 ∧ w = vs.map (·.2) := by simp at e2; exact ⟨e2.1.symm, e2.2.symm⟩
      obtain ⟨rfl, rfl⟩ := e3
      by_cases hk : p.1 = k
      · have : lookK (p :: kvs) k = some p.2 := by simp [lookK, List.find?_cons, hk]
        rw [this]
        exact ⟨q.2, valV_pos (e1.1 ▸ hk), h1⟩
      · have : lookK (p :: kvs) k = lookK kvs k := by simp [lookK, List.find?_cons, hk]
        rw [this, valV_neg (fun z => hk (e1.1.trans z))]
        exact ih e1.2 h2
/-- a dict asked -/
theorem dget_ok {d k : D} {o : Option D} {x y : V} (R : Rp X.K ca S H) (rd : RepD X.K ca H d x) (rk : RepD X.K ca H k y) (h : dget S d k = some o) : ∃ a o', x = .ref a ∧ DGet H a y o' ∧ ORep X.K ca H o o' := by
  cases d with
  | ref n =>
    have h0 : (match S[n]? with
      | some (.dK kvs) => (keyD k).map (lookK kvs)
      | some (.dT kvs) => (keyT k).map (lookK kvs)
      | some (.lkK kvs) => (keyD k).map (lookK kvs)
      | some (.lkT kvs) => (keyT k).map (lookK kvs)
      | _ => none) = some o := h
    clear h
    split at h0
    · rename_i kvs e
      obtain ⟨κ, ek, h⟩ := Option.map_eq_some_iff.mp h0
      obtain ⟨a, ev, ea, vs, q, rs⟩ := cell_rd R rd e
      have l := look_rep (X := X) rs κ
      rw [h] at l
      refine ⟨a, valV vs κ, ev, by rw [key_rd rk ek]; exact .k q, l⟩
    · rename_i kvs e
      obtain ⟨κ, ek, h⟩ := Option.map_eq_some_iff.mp h0
      obtain ⟨a, ev, ea, vs, q, rs⟩ := cell_rd R rd e
      have l := look_rep (X := X) rs κ
      rw [h] at l
      obtain ⟨b, eb, hb⟩ := keyT_rd rk ek
      refine ⟨a, valV vs κ, ev, by rw [eb]; exact .t q hb, l⟩
    · rename_i kvs e
      obtain ⟨κ, ek, h⟩ := Option.map_eq_some_iff.mp h0
      obtain ⟨a, ev, ea, ob, vs, q, rs⟩ := cell_rd R rd e
      have l := look_rep (X := X) rs κ
      rw [h] at l
      exact ⟨a, valV vs κ, ev, .inl ⟨vs, κ, .inr ⟨ob, q⟩, key_rd rk ek, rfl⟩, l⟩
    · rename_i kvs e
      obtain ⟨κ, ek, h⟩ := Option.map_eq_some_iff.mp h0
      obtain ⟨a, ev, ea, ob, vs, q, rs⟩ := cell_rd R rd e
      have l := look_rep (X := X) rs κ
      rw [h] at l
      obtain ⟨b, eb, hb⟩ := keyT_rd rk ek
      exact ⟨a, valV vs κ, ev, .inr ⟨vs, κ, b, .inr ⟨ob, q⟩, eb, hb, rfl⟩, l⟩
    · cases h0
  | _ => cases h
theorem dget_some {d k : D} {o : Option D} {x y : V} (R : Rp X.K ca S H) (rd : RepD X.K ca H d x) (rk : RepD X.K ca H k y) (h : dget S d k = some o) : ∃ a o', x = .ref a ∧ DGet H a y o' ∧ o'.isSome = o.isSome := by
  obtain ⟨a, o', e, g, l⟩ := dget_ok R rd rk h
  refine ⟨a, o', e, g, ?_⟩
  cases o with
  | none => have l : o' = none := l; rw [l]; rfl
  | some d => obtain ⟨v, l, _⟩ := l; rw [l]; rfl
theorem in_ok {a b : D} {u v : V} {k : Bool} (R : Rp X.K ca S H) (ra : RepD X.K ca H a u) (rb : RepD X.K ca H b v) (h : inW S a b = some k) :
    (∀ Q : VK, Q (.bl k) H → rCmp .In X.K u v H Q) ∧ ∀ Q : VK, Q (.bl (!k)) H → rCmp .NotIn X.K u v H Q := by
  unfold inW at h
  split at h
  · rename_i z
    split at h
    · rename_i c
      split at h
      · rename_i c1 ec
        cases h
        have e1 := ra.strv
        have e2 := rb.strv
        subst e1 e2
        have ez : c = ⟨#[c1]⟩ := by
          obtain ⟨cp⟩ := c
          have : cp.toList = [c1] := ec
          have : cp = #[c1] := by rw [← Array.toArray_toList (xs := cp), this]
          rw [this]
        exact ⟨fun Q q => .inl ⟨c1, z, by rw [ez], rfl, q⟩, fun Q q => .inl ⟨c1, z, by rw [ez], rfl, q⟩⟩
      · cases h
    · cases h
  · split at h
    · rename_i o eo
      cases h
      obtain ⟨a, o', e, g, l⟩ := dget_some R rb ra eo
      exact ⟨fun Q q => .inr (.inl ⟨a, o', e, g, by rw [l]; exact q⟩), fun Q q => .inr (.inl ⟨a, o', e, g, by rw [l]; exact q⟩)⟩
    · split at h
      · rename_i x ys ex ey
        split at h
        · rename_i ds ed
          obtain ⟨⟨c1, c2⟩, h⟩ := gP_ok h
          cases h
          obtain ⟨m, us, e2, h2, r2⟩ := seq_rd R rb ey
          subst e2
          have d1 := dp_of R ra ex
          have d2 : Dp X.K H (.ref m) (.list ds) := .lst h2 (dpD_of R r2 ed)
          exact ⟨fun Q q => .inr (.inr (.inl ⟨x, ds, d1, d2, c1, c2, q⟩)), fun Q q => .inr (.inr (.inl ⟨x, ds, d1, d2, c1, c2, q⟩))⟩
        · cases h
      · rename_i x ex ey
        split at h
        · rename_i ys et
          split at h
          · rename_i ds ed
            obtain ⟨⟨c1, c2⟩, h⟩ := gP_ok h
            cases h
            obtain ⟨m, us, e2, h2, r2⟩ := tup_rd rb et
            subst e2
            have d1 := dp_of R ra ex
            have d2 : Dp X.K H (.ref m) (.tuple ds) := .tup h2 (dpD_of R r2 ed)
            exact ⟨fun Q q => .inr (.inr (.inr ⟨x, ds, d1, d2, c1, c2, q⟩)), fun Q q => .inr (.inr (.inr ⟨x, ds, d1, d2, c1, c2, q⟩))⟩
          · cases h
        · cases h
      · cases h
theorem cmpG_ok {o : CmpOp} {a b : D} {u v : V} {k : Bool} {Q : VK} (R : Rp X.K ca S H) (ra : RepD X.K ca H a u) (rb : RepD X.K ca H b v) (h : cmpG S o a b = some k) (q : Q (.bl k) H) : rCmp o X.K u v H Q := by
  unfold cmpG at h
  split at h
  · rename_i i j
    have ex := ra.intv
    have ey := rb.intv
    subst ex ey
    unfold cmpI at h
    cases o with
    | Lt => cases h; exact .inl ⟨i, j, rfl, rfl, q⟩
    | LtE => cases h; exact .inl ⟨i, j, rfl, rfl, q⟩
    | Gt => cases h; exact .inl ⟨i, j, rfl, rfl, q⟩
    | GtE => cases h; exact .inl ⟨i, j, rfl, rfl, q⟩
    | Eq =>
      cases h
      refine .inl ⟨rfl, ?_⟩
      have e : decide (V.int i = V.int j) = decide (i = j) := by by_cases z : i = j <;> simp [z]
      rw [e]; exact q
    | NotEq =>
      cases h
      refine .inl ⟨rfl, ?_⟩
      have e : decide (V.int i = V.int j) = decide (i = j) := by by_cases z : i = j <;> simp [z]
      rw [e]; exact q
    | _ => cases h
  · rename_i i j
    have ex := ra.strv
    have ey := rb.strv
    subst ex ey
    unfold cmpS at h
    cases o with
    | Lt => cases h; exact .inr ⟨i, j, rfl, rfl, q⟩
    | LtE => cases h; exact .inr ⟨i, j, rfl, rfl, q⟩
    | Gt => cases h; exact .inr ⟨i, j, rfl, rfl, q⟩
    | GtE => cases h; exact .inr ⟨i, j, rfl, rfl, q⟩
    | Eq =>
      cases h
      refine .inl ⟨rfl, ?_⟩
      have e : decide (V.str i = V.str j) = decide (i = j) := by by_cases z : i = j <;> simp [z]
      rw [e]; exact q
    | NotEq =>
      cases h
      refine .inl ⟨rfl, ?_⟩
      have e : decide (V.str i = V.str j) = decide (i = j) := by by_cases z : i = j <;> simp [z]
      rw [e]; exact q
    | _ => cases h
  · split at h
    · obtain ⟨d, e, h1, h2, h3, h4, h5⟩ := eqD_ok R ra rb h
      exact .inr ⟨d, e, h1, h2, h3, h4, by rw [h5]; exact q⟩
    · obtain ⟨c, h0, rfl⟩ := Option.map_eq_some_iff.mp h
      obtain ⟨d, e, h1, h2, h3, h4, h5⟩ := eqD_ok R ra rb h0
      exact .inr ⟨d, e, h1, h2, h3, h4, by rw [h5]; exact q⟩
    · cases h
theorem cmp_ok {o : CmpOp} {a b : D} {u v : V} {k : Bool} {Q : VK} (R : Rp X.K ca S H) (ra : RepD X.K ca H a u) (rb : RepD X.K ca H b v) (h : cmpW S o a b = some k) (q : Q (.bl k) H) : rCmp o X.K u v H Q := by
  cases o with
  | Is =>
    unfold cmpW at h
    simp only at h
    split at h
    · cases h; exact ⟨rb.nonv, by rw [isNon_rep ra]; exact q⟩
    · cases h
  | IsNot =>
    unfold cmpW at h
    simp only at h
    split at h
    · cases h; exact ⟨rb.nonv, by rw [isNon_rep ra]; exact q⟩
    · cases h
  | In => exact (in_ok R ra rb h).1 Q q
  | NotIn =>
    obtain ⟨c, h0, rfl⟩ := Option.map_eq_some_iff.mp h
    exact (in_ok R ra rb h0).2 Q q
  | _ => exact cmpG_ok R ra rb h q
/-! ### subscripts -/
def rIxDc : R2 := fun x y H Q => ∃ a v, x = .ref a ∧ DGet H a y (some v) ∧ Q v H
theorem ix_dict (hu : X.A.units + 65 < cLine) : IxR X rIxDc := by
  intro value slice pins s σ H x y v u Q I rx ry h hs
  obtain ⟨a, z, rfl, g, q⟩ := h
  obtain rfl : v = Value.ref a := rx
  have hT := dict_typeIs I g
  unfold subscriptTail
  refine wpAny_bind ?_
  rw [getitemInPython_of_ne hT.not_modules]
  refine wpAny_bind (wpAny_specialOf hT PySem.F.slot_dict_getitem.lookup ?_)
  have h2 : wpAny (model X.prog X.w) X.A (getItem (.ref a) u) (EP X pins σ Q) X.xe s := d_getItem (by omega) I g ry fun w' s3 I3 rw' => ⟨z, H, I3, rw', q⟩
  have fin : wpAny (model X.prog X.w) X.A (subscripted slice false (.ref a) u) (fun r s₃ => wpAny (model X.prog X.w) X.A (letTemporaryGo value (.ref a) r >>= fun _ => pure r) (EP X pins σ Q) X.xe s₃) X.xe s := by
    rw [hs]
    exact wpAny_operating (wpAny_mono h2 (fun r s₃ h₃ => wpAny_bind (wpAny_letTemporaryGo (wpAny_pure h₃))) fun _ _ x => x)
  first
    | exact wpAny_pure (wpAny_bind fin)
    | exact wpAny_bind (wpAny_pure (wpAny_bind fin))
    | exact wpAny_bind fin
end
end Hv
/-! Hv4: built-in operations: the frame of their rules, the first of them. -/
namespace Hv
open PySem PySem.Spec
open PyProof.Rows hiding St
open L2

def tSeq : List TE → St → Hp → (List V → Hp → Prop) → Prop
  | [], _, H, R => R [] H
  | t :: ts, σ, H, R => t σ H fun v H1 => tSeq ts σ H1 fun vs H2 => R (v :: vs) H2
/-- the operands, one by one; pre: what is asked of each ahead of the others -/
def tOps (pre : Nat → V → Hp → Prop) : Nat → List TE → St → Hp → (List V → Hp → Prop) → Prop
  | _, [], _, H, R => R [] H
  | n, t :: ts, σ, H, R => t σ H fun v H1 => pre n v H1 ∧ tOps pre (n + 1) ts σ H1 fun vs H2 => R (v :: vs) H2
structure OpR' (X : Cx) (k : Op) (x : Expr) (ys : List Expr) where
  pre : Nat → V → Hp → Prop
  r : List V → Hp → VK → Prop
  rule : ∀ σ H Q, tOps pre 0 (ys.map (wpE X)) σ H (fun vs H' => r vs H' Q) → wpE X x σ H Q
  hpre : ∀ n ca S H d v, Rp X.K ca S H → RepD X.K ca H d v → preW k n S d = true → pre n v H
  hr : ∀ ca S H ds vs d S' (Q : VK), Rp X.K ca S H → RepDs X.K ca H ds vs → opW k ds S = some (d, S') → Fin X.K ca H d S' Q → r vs H Q
def OpSnd (bl : List Str) (k : Op) : Prop := ∀ (X : Cx) (hot : Bool) (sc : Scope) (x : Expr) (ys : List Expr), opM bl sc k x = some ys → Cok bl hot sc X → (calmK k = true → X.calm = true) → (∀ y ∈ ys, okX y = true) → Nonempty (OpR' X k x ys)
section
variable {X : Cx} {ca : Am} {S : Sto} {H : Hp}
theorem wpa_seq : ∀ {l : List Expr}, (∀ y ∈ l, okX y = true) → ∀ {σ : St} {H : Hp} {R : List V → Hp → Prop}, tSeq (l.map (wpE X)) σ H R → wpA X l σ H R
  | [], _, _, _, _, h => wpa_of pa_nil h
  | y :: l, hk, σ, H, R, h => by
    refine wpa_of (pa_cons pe_wp pa_wp (star_ok (hk y List.mem_cons_self) _ _)) ?_
    refine fun pins s I => thn (h pins s I) fun v s1 ⟨x, H1, I1, r1, q1⟩ => ⟨x, H1, I1, r1, wpa_seq (fun z hz => hk z (List.mem_cons_of_mem _ hz)) q1⟩
theorem wpe_mono {e : Expr} {σ : St} {H : Hp} {Q Q' : VK} (h : wpE X e σ H Q) (q : ∀ v H', Q v H' → Q' v H') : wpE X e σ H Q' := fun pins s I => thn (h pins s I) fun v s1 ⟨x, H1, I1, r1, q1⟩ => ⟨x, H1, I1, r1, q x H1 q1⟩
theorem tseq_mono : ∀ (l : List Expr) (σ : St) (H : Hp) (R R' : List V → Hp → Prop), (∀ vs H', R vs H' → R' vs H') → tSeq (l.map (wpE X)) σ H R → tSeq (l.map (wpE X)) σ H R'
  | [], σ, H, R, R', hR, z => hR _ _ z
  | y :: l, σ, H, R, R', hR, z => wpe_mono z fun v H1 z1 => tseq_mono l _ _ _ _ (fun vs H' z2 => hR _ _ z2) z1
theorem tops_wp {pre : Nat → V → Hp → Prop} : ∀ {l : List Expr} {n : Nat} {σ : St} {H : Hp} {R : List V → Hp → Prop}, tOps pre n (l.map (wpE X)) σ H R → tSeq (l.map (wpE X)) σ H R
  | [], _, _, _, _, h => h
  | y :: l, _, _, _, _, h => wpe_mono h fun v H' q => tops_wp q.2
abbrev noPre : Nat → V → Hp → Prop := fun _ _ _ => True
/-- a built-in function -/
theorem bfun_rule {bl : List Str} {hot : Bool} {sc : Scope} {f : Str} {id : String} {n : Nat} {x : Expr} {l : List Expr} {r : List V → Hp → VK → Prop} (hM : bM bl sc f n x = some l) (hn : 0 < n) (C : Cok bl hot sc X) (hk : ∀ y ∈ l, okX y = true) (hc : CallR X (.builtin id) r) (hv : bootBuiltins f = some (.builtin id)) (h1 : f ≠ "__name__") (h2 : (f == ("__debug__" : Str)) = false) {pre : Nat → V → Hp → Prop} :
    ∀ σ H Q, tOps pre 0 (l.map (wpE X)) σ H (fun vs H' => r vs H' Q) → wpE X x σ H Q := fun σ H Q h => by
  obtain ⟨p, pos, rfl, g, b, hl⟩ := bM_some hM
  cases l with
  | nil => simp at hl; omega
  | cons y l =>
    refine wp_of (pe_callB hc (gl_of C.scope g) (bln_of C.bln b) hv pa_wp h1 h2 (star_ok (hk y List.mem_cons_self) _ _) (noback_ok (fun z hz => hk z (List.mem_cons_of_mem _ hz)) _ _)) ?_
    exact wpa_seq hk (tops_wp h)
theorem btyp_rule {bl : List Str} {hot : Bool} {sc : Scope} {f : Str} {id : String} {n : Nat} {x : Expr} {l : List Expr} {r : List V → Hp → VK → Prop} (hM : bM bl sc f n x = some l) (hn : 0 < n) (C : Cok bl hot sc X) (hk : ∀ y ∈ l, okX y = true) (hc : CallR X (.type id) r) (hv : bootBuiltins f = some (.type id)) (h1 : f ≠ "__name__") (h2 : (f == ("__debug__" : Str)) = false) {pre : Nat → V → Hp → Prop} :
    ∀ σ H Q, tOps pre 0 (l.map (wpE X)) σ H (fun vs H' => r vs H' Q) → wpE X x σ H Q := fun σ H Q h => by
  obtain ⟨p, pos, rfl, g, b, hl⟩ := bM_some hM
  cases l with
  | nil => simp at hl; omega
  | cons y l =>
    refine wp_of (pe_callTy hc (gl_of C.scope g) (bln_of C.bln b) hv pa_wp h1 h2 (star_ok (hk y List.mem_cons_self) _ _) (noback_ok (fun z hz => hk z (List.mem_cons_of_mem _ hz)) _ _)) ?_
    exact wpa_seq hk (tops_wp h)
theorem few_ok {l : List Expr} (hk : ∀ y ∈ l, okX y = true) (hl : l.length < 20) (pos : Pos) : ((backTo pos (starEach l X.env)).all (fun x => !x.1) && (backToKw pos (keywordEach [] X.env)).all (fun x => x.1.isSome)
      && decide (l.length + ([] : List Keyword).length + (if ([] : List Keyword).isEmpty then 0 else 1) < 30)) = true := by
  have h1 := noback_ok hk pos X.env
  have h2 : (backTo pos (starEach l X.env)).all (fun x => !x.1) = true := by
    rw [List.all_eq_true]
    intro x hx
    have := List.any_eq_false.mp h1 x hx
    simpa using this
  rw [h2]
  have h3 : (backToKw pos (keywordEach [] X.env)).all (fun x => x.1.isSome) = true := rfl
  rw [h3]
  simp
  omega
/-- a method of a built-in type -/
theorem meth_rule {m : Str} {n : Nat} {x : Expr} {l : List Expr} {T id : String} {r : V → List V → Hp → VK → Prop} (hM : mM m n x = some l) (hn : n < 20) (hk : ∀ y ∈ l, okX y = true) (pa : PlainAttrs T) (slot : Slot T m id) (hty : typeOf (.builtin id) = pure (.type "method_descriptor")) (hm : MtR X id r) :
    ∀ σ H Q, tOps (fun n v H => n = 0 → tyV X.K T v H) 0 (l.map (wpE X)) σ H (fun vs H' => ∃ v us, vs = v :: us ∧ r v us H' Q) → wpE X x σ H Q := fun σ H Q h => by
  obtain ⟨o, es, p, pos, rfl, rfl, hb, hl, hlen⟩ := mM_some hM
  cases es with
  | nil =>
    refine wp_of (pe_bm0 pa slot hty hm pe_wp (attr_base _ hb) hl) ?_
    refine wpe_mono h fun v H1 q => ⟨q.1 rfl, ?_⟩
    obtain ⟨v', us, e, z⟩ := q.2
    cases e
    exact z
  | cons e es =>
    have hk' : ∀ y ∈ e :: es, okX y = true := fun y hy => hk y (List.mem_cons_of_mem _ hy)
    refine wp_of (pe_bm pa slot hty hm pe_wp pa_wp (attr_base _ hb) (few_ok hk' (by omega) pos) hl (star_ok (hk' e List.mem_cons_self) _ _) (noback_ok (fun z hz => hk' z (List.mem_cons_of_mem _ hz)) _ _)) ?_
    refine wpe_mono h fun v H1 q => ⟨q.1 rfl, ?_⟩
    refine wpa_seq hk' ?_
    refine tseq_mono _ _ _ _ _ (fun vs H' z => ?_) (tops_wp q.2)
    obtain ⟨v', us, e, z⟩ := z
    cases e
    exact z
theorem reps1 {d : D} {vs : List V} (r : RepDs X.K ca H [d] vs) : ∃ v, vs = [v] ∧ RepD X.K ca H d v := by
  unfold RepDs at r
  obtain ⟨v, q, e, h, h2⟩ := r
  unfold RepDs at h2
  subst h2
  exact ⟨v, e, h⟩
theorem reps2 {d d' : D} {vs : List V} (r : RepDs X.K ca H [d, d'] vs) : ∃ v v', vs = [v, v'] ∧ RepD X.K ca H d v ∧ RepD X.K ca H d' v' := by
  unfold RepDs at r
  obtain ⟨v, q, e, h, h2⟩ := r
  obtain ⟨v', e', h'⟩ := reps1 h2
  subst e'
  exact ⟨v, v', e, h, h'⟩
theorem reps3 {d d' d2 : D} {vs : List V} (r : RepDs X.K ca H [d, d', d2] vs) : ∃ v v' v2, vs = [v, v', v2] ∧ RepD X.K ca H d v ∧ RepD X.K ca H d' v' ∧ RepD X.K ca H d2 v2 := by
  unfold RepDs at r
  obtain ⟨v, q, e, h, h2⟩ := r
  obtain ⟨v', v2, e', h', h3⟩ := reps2 h2
  subst e'
  exact ⟨v, v', v2, e, h, h', h3⟩
theorem intsD_rep {K : PySem.W.Frag} : ∀ {xs : List D} {ns : List Int} {vs : List V}, intsD xs = some ns → RepDs K ca H xs vs → vs = ns.map V.int
  | [], ns, vs, h, r => by
    unfold RepDs at r
    subst r
    have : ns = [] := by simpa [intsD] using h.symm
    subst this; rfl
  | x :: xs, ns, vs, h, r => by
    unfold RepDs at r
    obtain ⟨v, q, e, h1, h2⟩ := r
    subst e
    cases x with
    | int i =>
      have e1 := h1.intv
      subst e1
      cases e2 : intsD xs with
      | none => simp [intsD, e2] at h
      | some ms =>
        have : ns = i :: ms := by simpa [intsD, e2] using h.symm
        subst this
        rw [intsD_rep e2 h2]
        rfl
    | _ => simp [intsD] at h
theorem strsD_rep {K : PySem.W.Frag} : ∀ {xs : List D} {ns : List Str} {vs : List V}, strsD xs = some ns → RepDs K ca H xs vs → vs = ns.map V.str
  | [], ns, vs, h, r => by
    unfold RepDs at r
    subst r
    have : ns = [] := by simpa [strsD] using h.symm
    subst this; rfl
  | x :: xs, ns, vs, h, r => by
    unfold RepDs at r
    obtain ⟨v, q, e, h1, h2⟩ := r
    subst e
    cases x with
    | str i =>
      have e1 := h1.strv
      subst e1
      cases e2 : strsD xs with
      | none => simp [strsD, e2] at h
      | some ms =>
        have : ns = i :: ms := by simpa [strsD, e2] using h.symm
        subst this
        rw [strsD_rep e2 h2]
        rfl
    | _ => simp [strsD] at h
theorem boolsD_rep {K : PySem.W.Frag} : ∀ {xs : List D} {ns : List Bool} {vs : List V}, boolsD xs = some ns → RepDs K ca H xs vs → vs = ns.map V.bl
  | [], ns, vs, h, r => by
    unfold RepDs at r
    subst r
    have : ns = [] := by simpa [boolsD] using h.symm
    subst this; rfl
  | x :: xs, ns, vs, h, r => by
    unfold RepDs at r
    obtain ⟨v, q, e, h1, h2⟩ := r
    subst e
    cases x with
    | bl i =>
      have e1 := h1.blv
      subst e1
      cases e2 : boolsD xs with
      | none => simp [boolsD, e2] at h
      | some ms =>
        have : ns = i :: ms := by simpa [boolsD, e2] using h.symm
        subst this
        rw [boolsD_rep e2 h2]
        rfl
    | _ => simp [boolsD] at h
end
theorem op0_some {f : Sto → DS} {ds : List D} {S : Sto} {r : D × Sto} (h : op0 f ds S = some r) : ds = [] ∧ f S = some r := by
  cases ds with
  | nil => exact ⟨rfl, h⟩
  | cons _ _ => cases h
theorem op1_some {f : D → Sto → DS} {ds : List D} {S : Sto} {r : D × Sto} (h : op1 f ds S = some r) : ∃ a, ds = [a] ∧ f a S = some r := by
  unfold op1 at h
  split at h
  · exact ⟨_, rfl, h⟩
  · cases h
theorem op2_some {f : D → D → Sto → DS} {ds : List D} {S : Sto} {r : D × Sto} (h : op2 f ds S = some r) : ∃ a b, ds = [a, b] ∧ f a b S = some r := by
  unfold op2 at h
  split at h
  · exact ⟨_, _, rfl, h⟩
  · cases h
theorem op3_some {f : D → D → D → Sto → DS} {ds : List D} {S : Sto} {r : D × Sto} (h : op3 f ds S = some r) : ∃ a b c, ds = [a, b, c] ∧ f a b c S = some r := by
  unfold op3 at h
  split at h
  · exact ⟨_, _, _, rfl, h⟩
  · cases h
section
variable {bl : List Str}
theorem ops_tup : OpSnd bl .tup := fun X hot sc x ys hM C _ hk => by
  cases x with
  | Tuple l c pos =>
    have e : l = ys := by simpa [opM] using hM
    subst e
    exact ⟨.mk noPre (fun vs H Q => vs.length ≤ sizeLine ∧ ∀ p, H p = none → Q (.ref p) (upd H p (.tup vs))) (fun σ H Q h => wp_of (pe_tup pa_wp) (wpa_seq hk (tops_wp h))) (fun _ _ _ _ _ _ _ _ _ => trivial) fun ca S H ds vs d S' Q R r e q => by
      obtain ⟨c, e⟩ := gP_ok e
      cases e
      exact ⟨by rw [r.length]; exact c, fun p np => Fin.tup R q r np⟩⟩
  | _ => simp [opM] at hM
theorem ops_lst : OpSnd bl .lst := fun X hot sc x ys hM C _ hk => by
  cases x with
  | List l pos =>
    have e : l = ys := by simpa [opM] using hM
    subst e
    exact ⟨.mk noPre (fun vs H Q => vs.length ≤ sizeLine ∧ ∀ p, H p = none → Q (.ref p) (upd H p (.lst vs))) (fun σ H Q h => wp_of (pe_lst pa_wp) (wpa_seq hk (tops_wp h))) (fun _ _ _ _ _ _ _ _ _ => trivial) fun ca S H ds vs d S' Q R r e q => by
      obtain ⟨c, e⟩ := gP_ok e
      cases e
      exact ⟨by rw [r.length]; exact c, fun p np => Fin.lst R q r np⟩⟩
  | _ => simp [opM] at hM
theorem ops_bin (o : Operator) : OpSnd bl (.bin o) := fun X hot sc x ys hM C _ hk => by
  cases x with
  | BinOp a p b pos =>
    have e : o = p ∧ [a, b] = ys := by simpa [opM] using hM
    obtain ⟨rfl, rfl⟩ := e
    exact ⟨.mk noPre (fun vs H Q => ∃ x y, vs = [x, y] ∧ rBin o X.K x y H Q) (fun σ H Q h => wp_of (pe_op (op_bin o) pe_wp pe_wp) (wpe_mono (tops_wp h) fun v H1 q => wpe_mono q fun u H2 z => by obtain ⟨x, y, e, z⟩ := z; cases e; exact z)) (fun _ _ _ _ _ _ _ _ _ => trivial) fun ca S H ds vs d S' Q R r e q => by
      obtain ⟨a, b, rfl, e0⟩ := op2_some (f := binW o) e
      clear e
      have e := e0
      clear e0
      obtain ⟨v, u, rfl, r1, r2⟩ := reps2 r
      exact ⟨v, u, rfl, bin_ok R r1 r2 e q⟩⟩
  | _ => simp [opM] at hM
theorem ops_neg : OpSnd bl .neg := fun X hot sc x ys hM C _ hk => by
  cases x with
  | UnaryOp o a pos =>
    cases o with
    | USub =>
      have e : [a] = ys := by simpa [opM] using hM
      subst e
      exact ⟨.mk noPre (fun vs H Q => ∃ i, vs = [.int i] ∧ Q (.int (-i)) H) (fun σ H Q h => wp_of (pe_un un_neg pe_wp) (wpe_mono (tops_wp h) fun v H1 q => by obtain ⟨i, e, z⟩ := q; cases e; exact ⟨i, rfl, z⟩)) (fun _ _ _ _ _ _ _ _ _ => trivial) fun ca S H ds vs d S' Q R r e q => by
        obtain ⟨a, rfl, e0⟩ := op1_some (f := negW) e
        clear e
        have e := e0
        clear e0
        obtain ⟨v, rfl, r1⟩ := reps1 r
        unfold negW at e
        split at e
        · rw [r1.intv]
          cases e
          exact ⟨_, rfl, q.self R rfl⟩
        · cases e⟩
    | _ => simp [opM] at hM
  | _ => simp [opM] at hM
def rIx' (K : PySem.W.Frag) : R2 := fun x y H Q => rIx K x y H Q ∨ rIxDc x y H Q
theorem atI_get' {α β : Type} {R : β → Prop} {xs : List α} {ys : List β} {i : Int} {x : α} (hl : ys.length = xs.length) (h : atI xs i = some x) (g : ∀ j : Nat, xs[j]? = some x → ∃ y, ys[j]? = some y ∧ R y) : ∃ y, atI ys i = some y ∧ R y := by
  unfold atI at h ⊢
  rw [hl]
  cases e : ixN xs.length i with
  | none => rw [e] at h; simp at h
  | some j =>
    rw [e] at h
    exact g j (by simpa using h)
theorem ix_ok {X : Cx} {ca : Am} {S S' : Sto} {H : Hp} {a b d : D} {x y : V} {Q : VK} (R : Rp X.K ca S H) (ra : RepD X.K ca H a x) (rb : RepD X.K ca H b y) (h : ixW a b S = some (d, S')) (q : Fin X.K ca H d S' Q) : rIx' X.K x y H Q := by
  unfold ixW at h
  split at h
  · rename_i z
    split at h
    · rename_i i
      obtain ⟨c, h⟩ := gP_ok h
      obtain ⟨c1, h1, h2⟩ := Option.map_eq_some_iff.mp h
      cases h2
      rw [ra.strv, rb.intv]
      exact .inl (.inr (.inr ⟨z, i, c1, rfl, rfl, c, h1, q.self R rfl⟩))
    · cases h
  · split at h
    · rename_i xs et
      split at h
      · rename_i i
        obtain ⟨c1, h1, h2⟩ := Option.map_eq_some_iff.mp h
        cases h2
        obtain ⟨m, vs, rfl, q1, rs⟩ := tup_rd ra et
        rw [rb.intv]
        obtain ⟨u, e1, e2⟩ := atI_get' (R := fun y => RepD X.K ca H d y) rs.length h1 fun j hj => rs.get hj
        exact .inl (.inr (.inl ⟨m, vs, i, u, rfl, rfl, q1, e1, q.self R e2⟩))
      · cases h
    · split at h
      · rename_i xs et
        split at h
        · rename_i i
          obtain ⟨c1, h1, h2⟩ := Option.map_eq_some_iff.mp h
          cases h2
          obtain ⟨m, vs, rfl, q1, rs⟩ := seq_rd R ra et
          rw [rb.intv]
          obtain ⟨u, e1, e2⟩ := atI_get' (R := fun y => RepD X.K ca H d y) rs.length h1 fun j hj => rs.get hj
          exact .inl (.inl ⟨m, vs, i, u, rfl, rfl, q1, e1, q.self R e2⟩)
        · cases h
      · split at h
        · rename_i w ew
          cases h
          obtain ⟨m, o', e1, g, l⟩ := dget_ok R ra rb ew
          obtain ⟨u, e2, ru⟩ := l
          subst e2
          exact .inr ⟨m, u, e1, g, q.self R ru⟩
        · cases h
theorem opM_ix {sc : Scope} {x : Expr} {ys : List Expr} (h : opM bl sc .ix x = some ys) : ∃ a b pos, x = .Subscript a b pos ∧ ys = [a, b] := by
  unfold opM at h
  simp only at h
  split at h
  · cases h
  · cases h; exact ⟨_, _, _, rfl, rfl⟩
  · cases h
theorem ops_ix : OpSnd bl .ix := fun X hot sc x ys hM C _ hk => by
  obtain ⟨a, b, pos, rfl, rfl⟩ := opM_ix hM
  have hkb : okX b = true := hk b (by simp)
  exact ⟨.mk noPre (fun vs H Q => ∃ x y, vs = [x, y] ∧ rIx' X.K x y H Q) (fun σ H Q h => wp_of (pe_ix (IxR.or ix_seq (ix_dict (un65 C))) pe_wp pe_wp (plainIx_ok hkb)) (wpe_mono (tops_wp h) fun v H1 q => wpe_mono q fun u H2 z => by obtain ⟨x, y, e, z⟩ := z; cases e; exact z)) (fun _ _ _ _ _ _ _ _ _ => trivial) fun ca S H ds vs d S' Q R r e q => by
    obtain ⟨a, b, rfl, e0⟩ := op2_some (f := ixW) e
    clear e
    have e := e0
    clear e0
    obtain ⟨v, u, rfl, r1, r2⟩ := reps2 r
    exact ⟨v, u, rfl, ix_ok R r1 r2 e q⟩⟩
def rSlE (K : PySem.W.Frag) : V → Option Int → Option Int → Hp → VK → Prop := fun x lo hi H Q => rSlL K x lo hi H Q ∨ rSlS x lo hi H Q ∨ L2.rSlA K x lo hi H Q
theorem sl_any {X : Cx} : SlR X (rSlE X.K) := SlR.or sl_list (SlR.or sl_str sl_tupA)
theorem RepDs.cut {K : PySem.W.Frag} {ca : Am} {H : Hp} {xs : List D} {vs : List V} (r : RepDs K ca H xs vs) (lo hi : Option Int) : RepDs K ca H (cutD xs lo hi) (cutV vs lo hi) := by
  unfold cutD cutV
  rw [r.length]
  exact (r.drop _).take _
theorem sl_ok {X : Cx} {ca : Am} {S S' : Sto} {H : Hp} {a d : D} {lo hi : Option Int} {x : V} {Q : VK} (R : Rp X.K ca S H) (ra : RepD X.K ca H a x) (h : slW a lo hi S = some (d, S')) (q : Fin X.K ca H d S' Q) : rSlE X.K x lo hi H Q := by
  unfold slW at h
  split at h
  · rename_i z
    obtain ⟨c, h⟩ := gP_ok h
    cases h
    rw [ra.strv]
    exact .inr (.inl ⟨z, rfl, c, q.self R rfl⟩)
  · rename_i xs
    cases h
    obtain ⟨l, vs, rfl, h1, r1⟩ := ra.tupv
    refine .inr (.inr ⟨l, vs, rfl, .inl (.inl h1), fun hw => ?_, fun _ p np => Fin.tup R q (r1.cut _ _) np⟩)
    have hc : cutV vs lo hi = vs := by
      unfold cutV
      rw [hw.1, hw.2]
      simp
    have r2 := r1.cut lo hi
    rw [hc] at r2
    exact q.self R ⟨l, vs, rfl, h1, r2⟩
  · split at h
    · rename_i xs et
      cases h
      obtain ⟨m, vs, rfl, q1, rs⟩ := seq_rd R ra et
      exact .inl ⟨m, vs, rfl, q1, fun p np => Fin.lst R q (rs.cut _ _) np⟩
    · cases h
theorem opM_sl {sc : Scope} {lo hi : Bool} {x : Expr} {ys : List Expr} (h : opM bl sc (.sl lo hi) x = some ys) : ∃ a l u p1 p2, x = .Subscript a (.Slice l u none p1) p2 ∧ ((lo = false ∧ hi = false ∧ l = none ∧ u = none ∧ ys = [a]) ∨ (∃ e, lo = true ∧ hi = false ∧ l = some e ∧ u = none ∧ ys = [a, e]) ∨ (∃ e, lo = false ∧ hi = true ∧ l = none ∧ u = some e ∧ ys = [a, e]) ∨ ∃ e f, lo = true ∧ hi = true ∧ l = some e ∧ u = some f ∧ ys = [a, e, f]) := by
  unfold opM at h
  simp only at h
  split at h
  · rename_i a l u p1 p2
    refine ⟨_, _, _, _, _, rfl, ?_⟩
    split at h
    · cases h; exact .inl ⟨rfl, rfl, rfl, rfl, rfl⟩
    · cases h; exact .inr (.inl ⟨_, rfl, rfl, rfl, rfl, rfl⟩)
    · cases h; exact .inr (.inr (.inl ⟨_, rfl, rfl, rfl, rfl, rfl⟩))
    · cases h; exact .inr (.inr (.inr ⟨_, _, rfl, rfl, rfl, rfl, rfl⟩))
    · cases h
  · cases h
theorem ops_sl (lo hi : Bool) : OpSnd bl (.sl lo hi) := fun X hot sc x ys hM C _ hk => by
  have hint : ∀ n ca S H d v, Rp X.K ca S H → RepD X.K ca H d v → (n == 0 || isIntD d) = true → n = 0 ∨ ∃ i, v = V.int i := fun n ca S H d v R r h => by
    rcases Bool.or_eq_true_iff.mp h with h | h
    · exact .inl (by simpa using h)
    · unfold isIntD at h
      split at h
      · exact .inr ⟨_, r.intv⟩
      · cases h
  obtain ⟨a, l, u, p1, p2, rfl, h⟩ := opM_sl hM
  rcases h with ⟨rfl, rfl, rfl, rfl, rfl⟩ | ⟨e, rfl, rfl, rfl, rfl, rfl⟩ | ⟨e, rfl, rfl, rfl, rfl, rfl⟩ | ⟨e, f, rfl, rfl, rfl, rfl, rfl⟩
  · exact ⟨.mk noPre (fun vs H Q => ∃ x, vs = [x] ∧ rSlE X.K x none none H Q) (fun σ H Q h => wp_of (pe_slice sl_any pe_wp po_none po_none) (wpe_mono (tops_wp h) fun v H1 q => by obtain ⟨x, e, z⟩ := q; cases e; exact z)) (fun _ _ _ _ _ _ _ _ _ => trivial) fun ca S H ds vs d S' Q R r e q => by
      obtain ⟨a, rfl, e0⟩ := op1_some (f := fun a S => slW a none none S) e
      clear e
      have e := e0
      clear e0
      obtain ⟨v, rfl, r1⟩ := reps1 r
      exact ⟨v, rfl, sl_ok R r1 e q⟩⟩
  · exact ⟨.mk noPre (fun vs H Q => ∃ x i, vs = [x, .int i] ∧ rSlE X.K x (some i) none H Q) (fun σ H Q h => wp_of (pe_slice sl_any pe_wp (po_some pe_wp) po_none) (wpe_mono (tops_wp h) fun v H1 q => wpe_mono q fun u H2 z => by obtain ⟨x, i, e, z⟩ := z; cases e; exact ⟨i, rfl, z⟩)) (fun _ _ _ _ _ _ _ _ _ => trivial) fun ca S H ds vs d S' Q R r e q => by
      obtain ⟨a, b, rfl, e0⟩ := op2_some (f := fun a l S => match l with | .int l => slW a (some l) none S | _ => none) e
      clear e
      have e := e0
      clear e0
      obtain ⟨v, u, rfl, r1, r2⟩ := reps2 r
      split at e
      · rw [r2.intv]
        exact ⟨v, _, rfl, sl_ok R r1 e q⟩
      · cases e⟩
  · exact ⟨.mk noPre (fun vs H Q => ∃ x i, vs = [x, .int i] ∧ rSlE X.K x none (some i) H Q) (fun σ H Q h => wp_of (pe_slice sl_any pe_wp po_none (po_some pe_wp)) (wpe_mono (tops_wp h) fun v H1 q => wpe_mono q fun u H2 z => by obtain ⟨x, i, e, z⟩ := z; cases e; exact ⟨i, rfl, z⟩)) (fun _ _ _ _ _ _ _ _ _ => trivial) fun ca S H ds vs d S' Q R r e q => by
      obtain ⟨a, b, rfl, e0⟩ := op2_some (f := fun a l S => match l with | .int l => slW a none (some l) S | _ => none) e
      clear e
      have e := e0
      clear e0
      obtain ⟨v, u, rfl, r1, r2⟩ := reps2 r
      split at e
      · rw [r2.intv]
        exact ⟨v, _, rfl, sl_ok R r1 e q⟩
      · cases e⟩
  · exact ⟨.mk (fun n v _ => n = 0 ∨ ∃ i, v = .int i) (fun vs H Q => ∃ x i j, vs = [x, .int i, .int j] ∧ rSlE X.K x (some i) (some j) H Q) (fun σ H Q h => wp_of (pe_slice sl_any pe_wp (po_some pe_wp) (po_some pe_wp)) (wpe_mono h fun v H1 q => wpe_mono q.2 fun u H2 z => by
        obtain ⟨⟨i, rfl⟩, z⟩ : (∃ i, u = V.int i) ∧ _ := ⟨z.1.resolve_left (by omega), z.2⟩
        exact ⟨i, rfl, wpe_mono z fun w H3 y => by obtain ⟨x, i', j, e, y'⟩ := y.2; cases e; exact ⟨j, rfl, y'⟩⟩)) (fun n ca S H d v R r h => hint n ca S H d v R r h) fun ca S H ds vs d S' Q R r e q => by
      obtain ⟨a, b, c, rfl, e0⟩ := op3_some (f := fun a l h S => match l with | .int l => (match h with | .int h => slW a (some l) (some h) S | _ => none) | _ => none) e
      clear e
      have e := e0
      clear e0
      obtain ⟨v, u, w, rfl, r1, r2, r3⟩ := reps3 r
      split at e
      · split at e
        · rw [r2.intv, r3.intv]
          exact ⟨v, _, _, rfl, sl_ok R r1 e q⟩
        · cases e
      · cases e⟩
theorem ops_step : OpSnd bl .step := fun X hot sc x ys hM C _ hk => by
  have hx : ∃ a k p1 p2, x = .Subscript a (.Slice none none (some k) p1) p2 ∧ ys = [a, k] := by
    unfold opM at hM
    simp only at hM
    split at hM
    · cases hM; exact ⟨_, _, _, _, rfl, rfl⟩
    · cases hM
  obtain ⟨a, k, p1, p2, rfl, rfl⟩ := hx
  exact ⟨.mk noPre (fun vs H Q => ∃ v u, vs = [v, u] ∧ tPart (fun σ H Q => Q u H) [] H fun o H2 => stepQ X.K Q v o H2) (fun σ H Q h => wp_of (pe_step pe_wp pe_wp) (wpe_mono (tops_wp h) fun v H1 q => wpe_mono q fun u H2 z => by obtain ⟨x, i, e, z⟩ := z; cases e; exact z)) (fun _ _ _ _ _ _ _ _ _ => trivial) fun ca S H ds vs d S' Q R r e q => by
    obtain ⟨a, b, rfl, e0⟩ := op2_some (f := stepW) e
    clear e
    have e := e0
    clear e0
    obtain ⟨v, u, rfl, r1, r2⟩ := reps2 r
    refine ⟨v, u, rfl, ?_⟩
    unfold stepW at e
    split at e
    · rw [r2.intv]
      split at e
      · obtain ⟨⟨h0, hl⟩, e⟩ := gP_ok e
        cases e
        rw [r1.strv]
        exact ⟨_, rfl, _, rfl, h0, .inl ⟨_, rfl, hl, q.self R rfl⟩⟩
      · split at e
        · rename_i xs ex
          obtain ⟨h0, e⟩ := gP_ok e
          cases e
          obtain ⟨m, vs, rfl, hs, rs⟩ := seq_rd R r1 ex
          refine ⟨_, rfl, _, rfl, h0, .inr ⟨m, vs, rfl, hs, fun p np => ?_⟩⟩
          rw [rs.length]
          exact Fin.lst R q (rs.pick _) np
        · cases e
    · cases e⟩
/-- a built-in function of one operand -/
theorem ops_b1 {k : Op} {f : Str} {id : String} {W : D → Sto → DS} (eM : ∀ sc x, opM bl sc k x = bM bl sc f 1 x) (eW : ∀ ds S, opW k ds S = op1 W ds S) (r : Cx → V → Hp → VK → Prop) (hc : ∀ X : Cx, (calmK k = true → X.calm = true) → CallR X (.builtin id) (fun vs H Q => ∃ v, vs = [v] ∧ r X v H Q)) (hv : bootBuiltins f = some (.builtin id)) (h1 : f ≠ "__name__") (h2 : (f == ("__debug__" : Str)) = false)
    (hr : ∀ (X : Cx) ca S H a v d S' (Q : VK), Rp X.K ca S H → RepD X.K ca H a v → W a S = some (d, S') → Fin X.K ca H d S' Q → r X v H Q) : OpSnd bl k := fun X hot sc x ys hM C hcalm hk => by
  rw [eM] at hM
  exact ⟨.mk noPre (fun vs H Q => ∃ v, vs = [v] ∧ r X v H Q) (bfun_rule hM (by decide) C hk (hc X hcalm) hv h1 h2) (fun _ _ _ _ _ _ _ _ _ => trivial) fun ca S H ds vs d S' Q R r e q => by
    rw [eW] at e
    obtain ⟨a, rfl, e0⟩ := op1_some e
    clear e
    have e := e0
    clear e0
    obtain ⟨v, rfl, r1⟩ := reps1 r
    exact ⟨v, rfl, hr X ca S H a v d S' Q R r1 e q⟩⟩
theorem ops_t1 {k : Op} {f : Str} {id : String} {W : D → Sto → DS} (eM : ∀ sc x, opM bl sc k x = bM bl sc f 1 x) (eW : ∀ ds S, opW k ds S = op1 W ds S) (r : Cx → V → Hp → VK → Prop) (hc : ∀ X : Cx, (calmK k = true → X.calm = true) → CallR X (.type id) (fun vs H Q => ∃ v, vs = [v] ∧ r X v H Q)) (hv : bootBuiltins f = some (.type id)) (h1 : f ≠ "__name__") (h2 : (f == ("__debug__" : Str)) = false)
    (hr : ∀ (X : Cx) ca S H a v d S' (Q : VK), Rp X.K ca S H → RepD X.K ca H a v → W a S = some (d, S') → Fin X.K ca H d S' Q → r X v H Q) : OpSnd bl k := fun X hot sc x ys hM C hcalm hk => by
  rw [eM] at hM
  exact ⟨.mk noPre (fun vs H Q => ∃ v, vs = [v] ∧ r X v H Q) (btyp_rule hM (by decide) C hk (hc X hcalm) hv h1 h2) (fun _ _ _ _ _ _ _ _ _ => trivial) fun ca S H ds vs d S' Q R r e q => by
    rw [eW] at e
    obtain ⟨a, rfl, e0⟩ := op1_some e
    clear e
    have e := e0
    clear e0
    obtain ⟨v, rfl, r1⟩ := reps1 r
    exact ⟨v, rfl, hr X ca S H a v d S' Q R r1 e q⟩⟩
theorem callR_imp {X : Cx} {f : Value} {r r' : List V → Hp → VK → Prop} (h : CallR X f r) (i : ∀ vs H Q, r' vs H Q → r vs H Q) : CallR X f r' := fun pins s σ H xs us Q I rx z => h pins s σ H xs us Q I rx (i _ _ _ z)
theorem ops_len : OpSnd bl .len := ops_b1 (f := "len") (id := "len") (W := lenW) (fun _ _ => rfl) (fun _ _ => rfl) (fun X v H Q => (∃ p ys, v = .ref p ∧ (SqL X.K H p ys ∨ SqT X.K H p ys) ∧ Q (.int ys.length) H) ∨ (∃ z, v = .str z ∧ z.length ≤ sizeLine ∧ Q (.int z.length) H) ∨ ∃ p kvs, v = .ref p ∧ H p = some (.dK kvs) ∧ Q (.int ((kvs.length : Nat) : Int)) H)
  (fun X _ => callR_imp (CallR.or call_len_seq (CallR.or call_len_str call_lenD)) fun vs H Q ⟨v, e, h⟩ => by
    subst e
    rcases h with ⟨p, ys, rfl, h, q⟩ | ⟨z, rfl, h, q⟩ | ⟨p, kvs, rfl, h, q⟩
    · exact .inl ⟨p, ys, rfl, h, q⟩
    · exact .inr (.inl ⟨z, rfl, h, q⟩)
    · exact .inr (.inr ⟨p, kvs, rfl, h, q⟩)) PySem.boot_len (by decide +kernel) (by decide +kernel) fun X ca S H a v d S' Q R r e q => by
    unfold lenW at e
    split at e
    · obtain ⟨c, e⟩ := gP_ok e
      cases e
      rw [r.strv]
      exact .inr (.inl ⟨_, rfl, c, q.self R rfl⟩)
    · split at e
      · rename_i xs et
        cases e
        obtain ⟨m, vs, rfl, h, rs⟩ := tup_rd r et
        exact .inl ⟨m, vs, rfl, .inr h, by rw [rs.length]; exact q.self R rfl⟩
      · split at e
        · rename_i xs et
          cases e
          obtain ⟨m, vs, rfl, h, rs⟩ := seq_rd R r et
          exact .inl ⟨m, vs, rfl, .inl h, by rw [rs.length]; exact q.self R rfl⟩
        · split at e
          · rename_i n _ _ _
            split at e
            · rename_i kvs ec
              cases e
              obtain ⟨m, rfl, ea, vs, h, rs⟩ := cell_rd R r ec
              refine .inr (.inr ⟨m, vs, rfl, h, ?_⟩)
              have hl : vs.length = kvs.length := by have := congrArg List.length rs.1; simpa using this.symm
              rw [hl]
              exact q.self R rfl
            · cases e
          · cases e
theorem ops_list : OpSnd bl .list := ops_t1 (f := "list") (id := "list") (W := listW) (fun _ _ => rfl) (fun _ _ => rfl) (fun X v H Q => ∃ p ys, v = .ref p ∧ (SqL X.K H p ys ∨ SqT X.K H p ys) ∧ ∀ l, H l = none → Q (.ref l) (upd H l (.lst ys)))
  (fun X _ => callR_imp call_list_of fun vs H Q ⟨v, e, p, ys, ev, h⟩ => by subst e ev; exact ⟨p, ys, rfl, h⟩) (by decide +kernel) (by decide +kernel) (by decide +kernel) fun X ca S H a v d S' Q R r e q => by
    unfold listW at e
    split at e
    · rename_i xs et
      cases e
      obtain ⟨m, vs, rfl, h, rs⟩ := tup_rd r et
      exact ⟨m, vs, rfl, .inr h, fun p np => Fin.lst R q rs np⟩
    · split at e
      · rename_i xs et
        cases e
        obtain ⟨m, vs, rfl, h, rs⟩ := seq_rd R r et
        exact ⟨m, vs, rfl, .inl h, fun p np => Fin.lst R q rs np⟩
      · cases e
theorem ops_tupleOf : OpSnd bl .tupleOf := ops_t1 (f := "tuple") (id := "tuple") (W := tupleW) (fun _ _ => rfl) (fun _ _ => rfl) (fun X v H Q => ∃ p ys, v = .ref p ∧ ((SqL X.K H p ys ∧ ∀ l, H l = none → Q (.ref l) (upd H l (.tup ys))) ∨ (SqT X.K H p ys ∧ Q (.ref p) H)))
  (fun X _ => callR_imp call_tuple_of fun vs H Q ⟨v, e, p, ys, ev, h⟩ => by subst e ev; exact ⟨p, ys, rfl, h⟩) (by decide +kernel) (by decide +kernel) (by decide +kernel) fun X ca S H a v d S' Q R r e q => by
    unfold tupleW at e
    split at e
    · rename_i xs
      cases e
      obtain ⟨m, vs, rfl, h, rs⟩ := r.tupv
      exact ⟨m, vs, rfl, .inr ⟨.inl (.inl h), q.self R ⟨m, vs, rfl, h, rs⟩⟩⟩
    · split at e
      · rename_i xs et
        cases e
        obtain ⟨m, vs, rfl, h, rs⟩ := seq_rd R r et
        exact ⟨m, vs, rfl, .inl ⟨h, fun p np => Fin.tup R q rs np⟩⟩
      · cases e
theorem ops_sum : OpSnd bl .sum := ops_b1 (f := "sum") (id := "sum") (W := sumW) (fun _ _ => rfl) (fun _ _ => rfl) (fun X v H Q => rSum X.K [v] H Q)
  (fun X hc => callR_imp (cr_sum (hc rfl)) fun vs H Q ⟨v, e, h⟩ => by subst e; exact h) (by decide +kernel) (by decide +kernel) (by decide +kernel) fun X ca S H a v d S' Q R r e q => by
    obtain ⟨ns, e1, e⟩ := Option.bind_eq_some_iff.mp e
    obtain ⟨xs, e2, e3⟩ := Option.bind_eq_some_iff.mp e1
    cases e
    obtain ⟨m, vs, rfl, h, rs⟩ := seq_rd R r e2
    have := intsD_rep e3 rs
    subst this
    exact ⟨m, ns, rfl, h, q.self R rfl⟩
theorem ops_all : OpSnd bl .all := ops_b1 (f := "all") (id := "all") (W := allW) (fun _ _ => rfl) (fun _ _ => rfl) (fun X v H Q => rAll X.K [v] H Q)
  (fun X hc => callR_imp (cr_all (hc rfl)) fun vs H Q ⟨v, e, h⟩ => by subst e; exact h) (by decide +kernel) (by decide +kernel) (by decide +kernel) fun X ca S H a v d S' Q R r e q => by
    obtain ⟨ns, e1, e⟩ := Option.bind_eq_some_iff.mp e
    obtain ⟨xs, e2, e3⟩ := Option.bind_eq_some_iff.mp e1
    cases e
    obtain ⟨m, vs, rfl, h, rs⟩ := seq_rd R r e2
    have := boolsD_rep e3 rs
    subst this
    exact ⟨m, ns, rfl, h, q.self R rfl⟩
theorem ops_any : OpSnd bl .any := ops_b1 (f := "any") (id := "any") (W := anyW) (fun _ _ => rfl) (fun _ _ => rfl) (fun X v H Q => rAny X.K [v] H Q)
  (fun X hc => callR_imp (cr_any (hc rfl)) fun vs H Q ⟨v, e, h⟩ => by subst e; exact h) (by decide +kernel) (by decide +kernel) (by decide +kernel) fun X ca S H a v d S' Q R r e q => by
    obtain ⟨ns, e1, e⟩ := Option.bind_eq_some_iff.mp e
    obtain ⟨xs, e2, e3⟩ := Option.bind_eq_some_iff.mp e1
    cases e
    obtain ⟨m, vs, rfl, h, rs⟩ := seq_rd R r e2
    have := boolsD_rep e3 rs
    subst this
    exact ⟨m, ns, rfl, h, q.self R rfl⟩
theorem ops_int : OpSnd bl .int := ops_t1 (f := "int") (id := "int") (W := intW) (fun _ _ => rfl) (fun _ _ => rfl) (fun X v H Q => (∃ i, v = .int i ∧ Q (.int i) H) ∨ ∃ k, v = .bl k ∧ Q (.int (if k then 1 else 0)) H)
  (fun X _ => callR_imp call_int1 fun vs H Q ⟨v, e, h⟩ => by
    subst e
    rcases h with ⟨i, rfl, q⟩ | ⟨k, rfl, q⟩
    · exact .inl ⟨i, rfl, q⟩
    · exact .inr ⟨k, rfl, q⟩) (by decide +kernel) (by decide +kernel) (by decide +kernel) fun X ca S H a v d S' Q R r e q => by
    unfold intW at e
    split at e
    · cases e; rw [r.intv]; exact .inl ⟨_, rfl, q.self R rfl⟩
    · cases e; rw [r.blv]; exact .inr ⟨_, rfl, q.self R rfl⟩
    · cases e
theorem ops_min2 : OpSnd bl .min2 := fun X hot sc x ys hM C hcalm hk => by
  have hM : bM bl sc "min" 2 x = some ys := hM
  exact ⟨.mk noPre (fun xs H Q => ∃ i j, xs = [.int i, .int j] ∧ Q (.int (if j < i then j else i)) H) (bfun_rule (id := "min") hM (by decide) C hk (call_min2 (hcalm rfl)) (by decide +kernel) (by decide +kernel) (by decide +kernel)) (fun _ _ _ _ _ _ _ _ _ => trivial) fun ca S H ds vs d S' Q R r e q => by
    obtain ⟨a, b, rfl, e0⟩ := op2_some (f := minW) e
    clear e
    have e := e0
    clear e0
    obtain ⟨v, u, rfl, r1, r2⟩ := reps2 r
    unfold minW at e
    split at e
    · split at e
      · cases e; rw [r1.intv, r2.intv]; exact ⟨_, _, rfl, q.self R rfl⟩
      · cases e
    · cases e⟩
theorem ops_max2 : OpSnd bl .max2 := fun X hot sc x ys hM C hcalm hk => by
  have hM : bM bl sc "max" 2 x = some ys := hM
  exact ⟨.mk noPre (fun xs H Q => ∃ i j, xs = [.int i, .int j] ∧ Q (.int (if j > i then j else i)) H) (bfun_rule (id := "max") hM (by decide) C hk (call_max2 (hcalm rfl)) (by decide +kernel) (by decide +kernel) (by decide +kernel)) (fun _ _ _ _ _ _ _ _ _ => trivial) fun ca S H ds vs d S' Q R r e q => by
    obtain ⟨a, b, rfl, e0⟩ := op2_some (f := maxW) e
    clear e
    have e := e0
    clear e0
    obtain ⟨v, u, rfl, r1, r2⟩ := reps2 r
    unfold maxW at e
    split at e
    · split at e
      · cases e; rw [r1.intv, r2.intv]; exact ⟨_, _, rfl, q.self R rfl⟩
      · cases e
    · cases e⟩
theorem bbM_some {f g : Str} {sc : Scope} {x : Expr} {l : List Expr} (h : bbM bl sc f g x = some l) : ∃ p1 p2 p3 p4 y, x = .Call (.Name f p1) [.Call (.Name g p2) [y] [] p3] [] p4 ∧ glB sc f = true ∧ glB sc g = true ∧ bl.contains f = true ∧ bl.contains g = true ∧ l = [y] := by
  unfold bbM at h
  split at h
  · rename_i y e
    obtain ⟨p1, p4, rfl, g1, b1, _⟩ := bM_some e
    obtain ⟨p2, p3, rfl, g2, b2, hl⟩ := bM_some h
    match l, hl with
    | [z], _ => exact ⟨_, _, _, _, _, rfl, g1, g2, b1, b2, rfl⟩
  · cases h
theorem bmM_some {f m : Str} {sc : Scope} {x : Expr} {l : List Expr} (h : bmM bl sc f m x = some l) : ∃ p1 p2 p3 p4 o, x = .Call (.Name f p1) [.Call (.Attribute o m p2) [] [] p3] [] p4 ∧ glB sc f = true ∧ bl.contains f = true ∧ baseOk o = true ∧ (p2.endLine == p3.line) = true ∧ l = [o] := by
  unfold bmM at h
  split at h
  · rename_i y e
    obtain ⟨p1, p4, rfl, g1, b1, _⟩ := bM_some e
    obtain ⟨o, es, p2, p3, rfl, rfl, hb, hl, hn⟩ := mM_some h
    match es, hn with
    | [], _ => exact ⟨_, _, _, _, _, rfl, g1, b1, hb, hl, rfl⟩
  · cases h
theorem ops_listRev : OpSnd bl .listRev := fun X hot sc x ys hM C hcalm hk => by
  obtain ⟨p1, p2, p3, p4, y, rfl, g1, g2, b1, b2, rfl⟩ := bbM_some (f := "list") (g := "reversed") hM
  exact ⟨.mk noPre (fun vs H Q => ∃ a vs', vs = [.ref a] ∧ SqL X.K H a vs' ∧ ∀ p, H p = none → Q (.ref p) (upd H p (.lst vs'.reverse))) (fun σ H Q h => wp_of (pe_listRev (hcalm rfl) (gl_of C.scope g1) (bln_of C.bln b1) (gl_of C.scope g2) (bln_of C.bln b2) pe_wp (star_ok (hk y (by simp)) _ _)) (wpe_mono (tops_wp h) fun v H1 q => by obtain ⟨a, vs', e, z⟩ := q; cases e; exact ⟨a, vs', rfl, z⟩)) (fun _ _ _ _ _ _ _ _ _ => trivial) fun ca S H ds vs d S' Q R r e q => by
    obtain ⟨a, rfl, e0⟩ := op1_some (f := revW) e
    clear e
    have e := e0
    clear e0
    obtain ⟨v, rfl, r1⟩ := reps1 r
    obtain ⟨xs, ex, e⟩ := Option.bind_eq_some_iff.mp e
    cases e
    obtain ⟨m, vs, rfl, h, rs⟩ := seq_rd R r1 ex
    exact ⟨m, vs, rfl, h, fun p np => Fin.lst R q rs.rev np⟩⟩
end
end Hv
/-! XBase: B.m(self, ..), B an own class, m a def of it. -/
namespace L2
open PySem PySem.Spec PyProof.Rows ClX
section
variable {X : Cx} {e : Expr} {es : List Expr} {t : TA} {p1 p2 pos : Pos} {x m : Str} {C f : Addr} {mc : Value} {CX : CXT} {k : Nat} {fd : FuncData} {ps : List Str} {sp : Sp} {E : XK}
theorem pe_qcall {pl : Sem Bool} (hg : Gl X x) (hm : X.mg x = some (.ref C)) (r : CRead X.K C mc) (hv : PySem.W.findCls X.K (.ref C) mc m = some (.val (.ref f))) (F : FnOk X.prog X.w X.K X.mg X.base CX k f fd ps sp) (hr : Room k X.A) (hk : PySem.W.keepIn X.K (.ref f) = true) (hb : Binds X.K fd ps []) (hx : Passes CX X E) (ha : PA X (e :: es) t) (hd : (x == ("__debug__" : Str)) = false)
    (hc : eval (.Call (.Attribute (.Name x p1) m p2) (e :: es) [] pos) X.env = (do let ov ← eval (.Name x p1) X.env; standAt p2.atName; let (f, first) ← holding [ov] (getMethod ov m pl); callWith pos f first (backTo pos (starEach (e :: es) X.env)) (backToKw pos (keywordEach [] X.env))) := by rfl)
    (he : starEach (e :: es) X.env = (false, eval e X.env) :: starEach es X.env := by rfl) (hpl : (backTo pos (starEach es X.env)).any (·.1) = false := by rfl) : PE X (.Call (.Attribute (.Name x p1) m p2) (e :: es) [] pos) (tCall sp [] E t) := by
  refine ⟨fun pins s σ H Q I h => PySem.W.methodCall_KW (ld_glob I hg hm ?_ hd) hc⟩
  refine PySem.W.method_cls I.kIn r.ga (PySem.W.cls_value I.kIn r.rd hv rfl ?_)
  refine PySem.W.callWith_K (first := []) (h₀ := X.base) I.ok.mod.kin hk (thn (ha.run pos pins _ σ H _ (I.tok _) h) fun us s1 ⟨vs, H1, I1, r1, q⟩ => ⟨I1.kIn, ?_⟩) he hpl
  exact run_fn F hr hb .nil hx I1 r1 q
end
end L2
/-! Hv5: more built-in operations. -/
namespace Hv
open PySem PySem.Spec
open PyProof.Rows hiding St
open L2
section
variable {bl : List Str}
/-! ### isinstance -/
def Ty.s : Ty → String
  | .int => "int" | .bool => "bool" | .str => "str" | .list => "list" | .tuple => "tuple" | .dict => "dict"
theorem boot_ty (t : Ty) : bootBuiltins t.name = some (.type t.s) := by cases t <;> decide +kernel
theorem ty_ne (t : Ty) : t.name ≠ "__name__" := by cases t <;> decide +kernel
theorem ty_nd (t : Ty) : (t.name == ("__debug__" : Str)) = false := by cases t <;> decide +kernel
theorem isi_ok {X : Cx} {ca : Am} {S : Sto} {H : Hp} {t : Ty} {w : D} {v : V} {b : Bool} (R : Rp X.K ca S H) (r : RepD X.K ca H w v) (h : isiW S t w = some b) : ∃ a, TyX X.K H v (.type a) ∧ kitB a t.s = some b := by
  have k1 : kitB "NoneType" t.s = some false := by cases t <;> decide +kernel
  have k2 : kitB "bool" t.s = some (t == .int || t == .bool) := by cases t <;> decide +kernel
  have k3 : kitB "int" t.s = some (t == .int) := by cases t <;> decide +kernel
  have k4 : kitB "str" t.s = some (t == .str) := by cases t <;> decide +kernel
  have k5 : kitB "tuple" t.s = some (t == .tuple) := by cases t <;> decide +kernel
  have k6 : kitB "list" t.s = some (t == .list) := by cases t <;> decide +kernel
  have tp : ∀ {a : Addr} {us : List V}, SqT X.K H a us → TyX X.K H (.ref a) (.type "tuple") := fun h1 => by
    rcases h1 with (h1 | ⟨o, h1⟩) | ⟨o, its, n, h1, h2, _⟩
    · exact .base (.tup h1)
    · exact .fTuple h1
    · exact .kTuple h1 h2
  have ls : ∀ {a : Addr} {us : List V}, SqL X.K H a us → TyX X.K H (.ref a) (.type "list") := fun h1 => by
    rcases h1 with (h1 | ⟨o, h1⟩) | ⟨o, its, n, h1, h2, _⟩
    · exact .base (.lst h1)
    · exact .base (.frz h1)
    · exact .kList h1 h2
  cases w with
  | non => cases h; rw [r.nonv]; exact ⟨_, .base .non, k1⟩
  | bl b => cases h; rw [r.blv]; exact ⟨_, .base (.bl _), k2⟩
  | int b => cases h; rw [r.intv]; exact ⟨_, .base (.int _), k3⟩
  | str b => cases h; rw [r.strv]; exact ⟨_, .base (.str _), k4⟩
  | tup xs => cases h; obtain ⟨a, us, rfl, h1, _⟩ := tup_rd r rfl; exact ⟨_, tp h1, k5⟩
  | kt xs => cases h; obtain ⟨a, us, rfl, h1, _⟩ := tup_rd r rfl; exact ⟨_, tp h1, k5⟩
  | fl xs => cases h; obtain ⟨a, us, rfl, h1, _⟩ := r.flv; exact ⟨_, ls h1, k6⟩
  | ref n =>
    have h' : (match S[n]? with | some (.lst _) => some (t == .list) | _ => none) = some b := h
    split at h'
    · rename_i e
      cases h'
      obtain ⟨a, rfl, ea, vs, q, rs⟩ := cell_rd R r e
      exact ⟨_, ls (SqL.of q), k6⟩
    · cases h'
theorem opM_isi {sc : Scope} {t : Ty} {x : Expr} {ys : List Expr} (h : opM bl sc (.isi t) x = some ys) : ∃ p pz pos y, x = .Call (.Name "isinstance" p) [y, .Name t.name pz] [] pos ∧ glB sc "isinstance" = true ∧ bl.contains "isinstance" = true ∧ glB sc t.name = true ∧ bl.contains t.name = true ∧ ys = [y] := by
  unfold opM at h
  simp only at h
  split at h
  · rename_i y z pz e
    split at h
    · rename_i hc
      cases h
      simp only [Bool.and_eq_true, decide_eq_true_eq] at hc
      obtain ⟨⟨h1, h2⟩, h3⟩ := hc
      subst h1
      obtain ⟨p, pos, rfl, g, b, _⟩ := bM_some e
      exact ⟨_, _, _, _, rfl, g, b, h2, h3, rfl⟩
    · cases h
  · cases h
theorem ops_isi (t : Ty) : OpSnd bl (.isi t) := fun X hot sc x ys hM C _ hk => by
  obtain ⟨p, pz, pos, y, rfl, g1, b1, g2, b2, rfl⟩ := opM_isi hM
  have hy := hk y (by simp)
  exact ⟨.mk noPre (fun vs H Q => ∃ v a b, vs = [v] ∧ TyX X.K H v (.type a) ∧ kitB a t.s = some b ∧ Q (.bl b) H) (fun σ H Q h => wp_of (pe_callB call_isi (gl_of C.scope g1) (bln_of C.bln b1) boot_isinstance (pa_cons pe_wp (pa_cons (pe_bltn (v := .ty t.s) (gl_of C.scope g2) (bln_of C.bln b2) (boot_ty t) rfl (ty_ne t) (ty_nd t)) pa_nil) (star_ok hy _ _)) (by decide +kernel) (by decide +kernel) (star_ok hy _ _) rfl) (wpe_mono (tops_wp h) fun v H1 q => by
      obtain ⟨v', a, b, e, ty, hk, q⟩ := q
      cases e
      exact ⟨v, .ty t.s, .type a, .type t.s, b, rfl, .ty _, ty, kit_ty hk, q⟩)) (fun _ _ _ _ _ _ _ _ _ => trivial) fun ca S H ds vs d S' Q R r e q => by
    obtain ⟨a, rfl, e0⟩ := op1_some (f := fun a S => (isiW S t a).bind fun b => val (.bl b) S) e
    obtain ⟨v, rfl, r1⟩ := reps1 r
    obtain ⟨b, eb, e1⟩ := Option.bind_eq_some_iff.mp e0
    cases e1
    obtain ⟨a, ty, hk⟩ := isi_ok R r1 eb
    exact ⟨v, a, b, rfl, ty, hk, q.self R rfl⟩⟩
/-! ### methods -/
/-- a method of a built-in type -/
theorem ops_m {k : Op} {m : Str} {n : Nat} {T id : String} (eM : ∀ sc x, opM bl sc k x = mM m n x) (hn : n < 20) (pa : PlainAttrs T) (slot : Slot T m id) (hty : typeOf (.builtin id) = pure (.type "method_descriptor")) (r : Cx → V → List V → Hp → VK → Prop) (hm : ∀ X bl hot sc, Cok bl hot sc X → (calmK k = true → X.calm = true) → MtR X id (r X))
    (hp : ∀ (X : Cx) ca S H d v, Rp X.K ca S H → RepD X.K ca H d v → preW k 0 S d = true → tyV X.K T v H)
    (hr : ∀ (X : Cx) ca S H ds vs d S' (Q : VK), Rp X.K ca S H → RepDs X.K ca H ds vs → opW k ds S = some (d, S') → Fin X.K ca H d S' Q → ∃ v us, vs = v :: us ∧ r X v us H Q) : OpSnd bl k := fun X hot sc x ys hM C hcalm hk => by
  rw [eM] at hM
  exact ⟨.mk (fun n v H => n = 0 → tyV X.K T v H) (fun vs H Q => ∃ v us, vs = v :: us ∧ r X v us H Q) (meth_rule hM hn hk pa slot hty (hm X bl hot sc C hcalm)) (fun n ca S H d v R r h e => by subst e; exact hp X ca S H d v R r h) (hr X)⟩
theorem strTy {X : Cx} {ca : Am} {H : Hp} {d : D} {v : V} (r : RepD X.K ca H d v) (h : isStrD d = true) : tyV X.K "str" v H := by
  unfold isStrD at h
  split at h
  · rw [r.strv]; rfl
  · cases h
theorem lstTy {X : Cx} {ca : Am} {S : Sto} {H : Hp} {d : D} {v : V} (R : Rp X.K ca S H) (r : RepD X.K ca H d v) (h : isLstD S d = true) : tyV X.K "list" v H := by
  unfold isLstD at h
  obtain ⟨xs, e⟩ := Option.isSome_iff_exists.mp h
  obtain ⟨m, vs, rfl, q, rs⟩ := seq_rd R r e
  exact .inl ⟨rfl, vs, q⟩
theorem dctTy {X : Cx} {ca : Am} {S : Sto} {H : Hp} {d : D} {v : V} (R : Rp X.K ca S H) (r : RepD X.K ca H d v) (h : isDct S d = true) : tyV X.K "dict" v H := by
  cases d with
  | ref n =>
    have h' : (match S[n]? with
      | some (.dK _) => true
      | some (.dT _) => true
      | _ => false) = true := h
    split at h'
    · rename_i e
      obtain ⟨a, rfl, ea, vs, q, rs⟩ := cell_rd R r e
      exact .inr (.inr (.inl ⟨rfl, .inl ⟨vs, q⟩⟩))
    · rename_i e
      obtain ⟨a, rfl, ea, vs, q, rs⟩ := cell_rd R r e
      exact .inr (.inr (.inl ⟨rfl, .inr ⟨vs, q⟩⟩))
    · cases h'
  | _ => cases h
theorem ops_join : OpSnd bl .join := ops_m (m := "join") (n := 1) (T := "str") (fun _ _ => rfl) (by decide) F.plainAttrs_str F.slot_str_join F.type_str_join (fun X x xs H Q => ∃ a p, ∃ ys : List Str, x = .str a ∧ xs = [.ref p] ∧ (SqL X.K H p (ys.map V.str) ∨ SqT X.K H p (ys.map V.str)) ∧
    (ys.map (·.length)).sum + ys.length * a.length ≤ 16777216 ∧ Q (.str (Txt.join a ys)) H) (fun X bl hot sc C _ => mt_join) (fun X ca S H d v R r h => strTy r (by simpa [preW] using h)) fun X ca S H ds vs d S' Q R r e q => by
  obtain ⟨a, b, rfl, e0⟩ := op2_some (f := joinW) e
  obtain ⟨v, u, rfl, r1, r2⟩ := reps2 r
  unfold joinW at e0
  split at e0
  · obtain ⟨ys, ey, e1⟩ := Option.bind_eq_some_iff.mp e0
    obtain ⟨xs, ex, es⟩ := Option.bind_eq_some_iff.mp ey
    obtain ⟨c, e2⟩ := gP_ok e1
    cases e2
    obtain ⟨m, vs, rfl, h, rs⟩ := seq_rd R r2 ex
    have := strsD_rep es rs
    subst this
    refine ⟨_, _, rfl, _, m, ys, r1.strv, rfl, .inl h, ?_, q.self R rfl⟩
    have hs : sizeLine = 16777216 := sizeLine_eq
    rw [Nat.mul_comm ys.length]
    omega
  · cases e0
theorem ops_dnewK : OpSnd bl .dnewK := fun X hot sc x ys hM C _ hk => by
  have hx : ∃ pos, x = .Dict [] [] pos ∧ ys = [] := by
    unfold opM at hM
    simp only at hM
    split at hM
    · cases hM; exact ⟨_, rfl, rfl⟩
    · cases hM
  obtain ⟨pos, rfl, rfl⟩ := hx
  exact ⟨.mk noPre (fun vs H Q => ∀ p, H p = none → Q (.ref p) (upd H p (.dK []))) (fun σ H Q h => wp_of pe_dnewK h) (fun _ _ _ _ _ _ _ _ _ => trivial) fun ca S H ds vs d S' Q R r e q => by
    obtain ⟨rfl, e0⟩ := op0_some (f := new (.dK [])) e
    cases e0
    intro p np
    obtain ⟨R2, f⟩ := R.new (c := .dK []) np ⟨[], upd_same, rfl, .nil⟩
    exact q _ _ _ f R2 R.new_at⟩
theorem ops_dnewT : OpSnd bl .dnewT := fun X hot sc x ys hM C _ hk => by
  have hx : ∃ pos, x = .Dict [] [] pos ∧ ys = [] := by
    unfold opM at hM
    simp only at hM
    split at hM
    · cases hM; exact ⟨_, rfl, rfl⟩
    · cases hM
  obtain ⟨pos, rfl, rfl⟩ := hx
  exact ⟨.mk noPre (fun vs H Q => ∀ p, H p = none → Q (.ref p) (upd H p (.dT []))) (fun σ H Q h => wp_of pe_dnewT h) (fun _ _ _ _ _ _ _ _ _ => trivial) fun ca S H ds vs d S' Q R r e q => by
    obtain ⟨rfl, e0⟩ := op0_some (f := new (.dT [])) e
    cases e0
    intro p np
    obtain ⟨R2, f⟩ := R.new (c := .dT []) np ⟨[], upd_same, rfl, .nil⟩
    exact q _ _ _ f R2 R.new_at⟩
def rDGet2 : V → List V → Hp → VK → Prop := fun x xs H Q => ∃ a y z o, x = .ref a ∧ xs = [y, z] ∧ DGet H a y o ∧ Q (o.getD z) H
theorem mt_dget2 {X : Cx} (hu : X.A.units + 65 < cLine) : MtR X "dict.get" rDGet2 := by
  intro pins s σ H x xs v us Q I rx rs h
  obtain ⟨a, y, z, o, rfl, rfl, g, q⟩ := h
  obtain rfl : v = Value.ref a := rx
  obtain _ | ⟨ry, rs⟩ := rs
  obtain _ | ⟨rz, rs⟩ := rs
  cases rs
  exact d_get2 (by omega) I g ry rz fun w' s4 I4 rw' => ⟨_, H, I4, rw', q⟩
theorem ops_get2 : OpSnd bl .get2 := ops_m (m := "get") (n := 2) (T := "dict") (fun _ _ => rfl) (by decide) PySem.F.plainAttrs_dict PySem.F.slot_dict_get PySem.F.type_dict_get (fun _ => rDGet2) (fun X bl hot sc C _ => mt_dget2 (un65 C)) (fun X ca S H d v R r h => dctTy R r (by simpa [preW] using h)) fun X ca S H ds vs d S' Q R r e q => by
  obtain ⟨a, b, c, rfl, e0⟩ := op3_some (f := getW) e
  obtain ⟨v, u, w, rfl, r1, r2, r3⟩ := reps3 r
  obtain ⟨o, eo, e1⟩ := Option.bind_eq_some_iff.mp e0
  cases e1
  obtain ⟨m, o', ev, g, l⟩ := dget_ok R r1 r2 eo
  refine ⟨_, _, rfl, m, u, w, o', ev, rfl, g, ?_⟩
  cases o with
  | none => have l : o' = none := l; subst l; exact q.self R r3
  | some d => obtain ⟨z, l, rz⟩ := l; subst l; exact q.self R rz
theorem ops_append : OpSnd bl .append := ops_m (m := "append") (n := 1) (T := "list") (fun _ _ => rfl) (by decide) PySem.F.plainAttrs_list PySem.F.slot_list_append PySem.F.type_list_append (fun _ => rAppend) (fun X bl hot sc C _ => mt_append) (fun X ca S H d v R r h => lstTy R r (by simpa [preW] using h)) fun X ca S H ds vs d S' Q R r e q => by
  obtain ⟨a, b, rfl, e0⟩ := op2_some (f := appW) e
  obtain ⟨v, u, rfl, r1, r2⟩ := reps2 r
  cases a with
  | ref n =>
    have e1 : (match S[n]? with
      | some (.lst xs) => gP (xs.length < sizeLine) (some (D.non, S.set n (.lst (xs ++ [b]))))
      | _ => none) = some (d, S') := e0
    split at e1
    · rename_i xs ec
      obtain ⟨c, e2⟩ := gP_ok e1
      cases e2
      obtain ⟨m, rfl, ea, vs, h, rs⟩ := cell_rd R r1 ec
      refine ⟨_, _, rfl, m, vs, u, rfl, rfl, h, by rw [rs.length]; exact c, ?_⟩
      have tk : TK H (upd H m (.lst (vs ++ [u]))) := tk_upd h (fun _ z => by cases z) (fun _ _ z => by cases z)
      exact Fin.put R q ea h (fun _ z => by cases z) (fun _ _ z => by cases z) ⟨_, upd_same, (rs.app (.cons r2 .nil)).mono tk .refl⟩ fun _ _ => rfl
    · cases e1
  | _ => cases e0
theorem ops_clear : OpSnd bl .clear := ops_m (m := "clear") (n := 0) (T := "list") (fun _ _ => rfl) (by decide) PySem.F.plainAttrs_list PySem.F.slot_list_clear PySem.F.type_list_clear (fun _ => rClear) (fun X bl hot sc C _ => mt_clear) (fun X ca S H d v R r h => lstTy R r (by simpa [preW] using h)) fun X ca S H ds vs d S' Q R r e q => by
  obtain ⟨a, rfl, e0⟩ := op1_some (f := clearW) e
  obtain ⟨v, rfl, r1⟩ := reps1 r
  cases a with
  | ref n =>
    have e1 : (match S[n]? with
      | some (.lst xs) => some (D.non, S.set n (.lst []))
      | _ => none) = some (d, S') := e0
    split at e1
    · rename_i xs ec
      cases e1
      obtain ⟨m, rfl, ea, vs, h, rs⟩ := cell_rd R r1 ec
      refine ⟨_, _, rfl, m, vs, rfl, rfl, h, ?_⟩
      exact Fin.put R q ea h (fun _ z => by cases z) (fun _ _ z => by cases z) ⟨_, upd_same, .nil⟩ fun _ _ => rfl
    · cases e1
  | _ => cases e0
theorem opSnd (k : Op) : OpSnd bl k := by
  cases k with
  | tup => exact ops_tup
  | lst => exact ops_lst
  | bin o => exact ops_bin o
  | neg => exact ops_neg
  | ix => exact ops_ix
  | sl lo hi => exact ops_sl lo hi
  | step => exact ops_step
  | len => exact ops_len
  | list => exact ops_list
  | tupleOf => exact ops_tupleOf
  | sum => exact ops_sum
  | int => exact ops_int
  | min2 => exact ops_min2
  | max2 => exact ops_max2
  | all => exact ops_all
  | any => exact ops_any
  | listRev => exact ops_listRev
  | isi t => exact ops_isi t
  | join => exact ops_join
  | dnewK => exact ops_dnewK
  | dnewT => exact ops_dnewT
  | get2 => exact ops_get2
  | append => exact ops_append
  | clear => exact ops_clear
  | _ => exact fun X hot sc x ys hM => by cases hM
end
end Hv
/-! Hv6: the theorem for expressions, case by case. -/
namespace Hv
open PySem PySem.Spec
open PyProof.Rows hiding St
open L2
section
variable {bl : List Str} {hot : Bool} {sc : Scope} {X : Cx} {Γ : Gam} {W : WX} {ca : Am} {S : Sto} {σ : List Sl} {ρ : L2.St} {H H' : Hp}
theorem okPost {K : PySem.W.Frag} {d : D} {v : V} {Q : VK} {E : XK} {r : Rs D} (R : Rp K ca S H) (e : r = .ok d S) (q : Post K ca H r Q E) (rv : RepD K ca H d v) : Q v H := by
  subst e
  exact q v ca H .refl R rv
/-- what an operation leaves -/
theorem Post.fin {K : PySem.W.Frag} {d : D} {S' : Sto} {Q : VK} {E : XK} (q : Post K ca H (.ok d S') Q E) : Fin K ca H d S' Q := q
theorem var_snd (i : Nat) : SndE bl Γ (.var i) := by
  intro x hot sc X W ca S σ ρ H hc C r he Q q
  cases x with
  | Name x pos =>
    have hc' : (decide (X.N[i]? = some x) && visB sc x && plainName x) = true := hc
    simp only [Bool.and_eq_true, decide_eq_true_eq, plainName, Bool.not_eq_true'] at hc'
    obtain ⟨⟨h1, h2⟩, ⟨h3, h4⟩, _⟩ := hc'
    refine wp_of (pe_var h1 (vis_of C.ok.scope h2) h3 h4) ?_
    unfold ev at he
    split at he
    · rename_i d e
      obtain ⟨v, ev, rv⟩ := C.sl.sl i _ e
      exact ⟨v, ev, okPost C.rp (ok_inj he) q rv⟩
    · cases he
  | _ => simp [chk] at hc
theorem const_snd {d : D} {v : V} {x : Expr} {r : Rs D} {Q : VK} {E : XK} (pe : PE X x (tC v)) (hd : RepD X.K ca H d v) (R : Rp X.K ca S H) (h : M.ok d S = some r) (q : Post X.K ca H r Q E) : wpE X x ρ H Q := wp_of pe (okPost R (ok_inj h) q hd)
/-- every operand -/
def AllSnd (bl : List Str) (Γ : Gam) : Es → Prop
  | .nil => True
  | .cons e es => SndE bl Γ e ∧ AllSnd bl Γ es
theorem evos_snd {k : Op} {x : Expr} {ys0 : List Expr} (O : OpR' X k x ys0) : ∀ {es : Es} (_ : AllSnd bl Γ es) {ys : List Expr} (_ : chks bl hot X.N sc es ys = true) {n : Nat} {ca : Am} {S : Sto} {H : Hp} (_ : Ctx bl hot sc X Γ W ca S σ ρ H) {β : Type} {f : List D → Sto → M β} {r : Rs β}
    (_ : (evos Γ k n es σ S).bind f = some r) (_ : XPost X.K ca H r (WE W ρ)) {R : List V → Hp → Prop}
    (_ : ∀ ds S1, f ds S1 = some r → ∀ vs ca1 H1, Fr ca H ca1 H1 → Rp X.K ca1 S1 H1 → RepDs X.K ca1 H1 ds vs → R vs H1), tOps O.pre n (ys.map (wpE X)) ρ H R
  | .nil, _, ys, hc, n, ca, S, H, C, β, f, r, he, hx, R, q => by
    cases ys with
    | cons _ _ => simp [chks] at hc
    | nil =>
      unfold evos at he
      exact q [] S he [] ca H .refl C.rp .nil
  | .cons e es, A, ys, hc, n, ca, S, H, C, β, f, r, he, hx, R, q => by
    cases ys with
    | nil => simp [chks] at hc
    | cons y ys =>
      have hc' : (chk bl hot X.N sc e y = true ∧ okX y = true) ∧ chks bl hot X.N sc es ys = true := by simpa [chks] using hc
      unfold evos at he
      have he2 : (ev Γ e σ S).bind (fun x S => if preW k n S x then ((evos Γ k (n + 1) es σ S).bind fun ws S => f (x :: ws) S) else none) = some r := by
        rw [← he]
        cases e1 : ev Γ e σ S with
        | none => rfl
        | some z => cases z with
          | exc _ _ => rfl
          | ok d S1 =>
            show (if preW k n S1 d = true then _ else none) = M.bind (if preW k n S1 d = true then _ else none) f
            by_cases hp : preW k n S1 d = true
            · rw [if_pos hp, if_pos hp]
              cases e2 : evos Γ k (n + 1) es σ S1 with
              | none => rfl
              | some z => cases z <;> rfl
            · rw [if_neg hp, if_neg hp]; rfl
      refine snd_bind A.1 hc'.1.1 C he2 hx fun d S1 e1 v ca1 H1 f1 R1 r1 => ?_
      split at e1
      · rename_i hp
        refine ⟨O.hpre n ca1 S1 H1 d v R1 r1 hp, ?_⟩
        exact evos_snd O A.2 hc'.2 (C.step f1 R1) e1 (hx.after f1) fun ds S2 e2 vs ca2 H2 f2 R2 r2 => q (d :: ds) S2 e2 (v :: vs) ca2 H2 (f1.trans f2) R2 (.cons (r1.fr f2) r2)
      · cases e1
theorem op_snd {k : Op} {es : Es} (A : AllSnd bl Γ es) : SndE bl Γ (.op k es) := by
  intro x hot sc X W ca S σ ρ H hc C r he Q q
  have hc0 : (!hot || !calmK k) = true ∧ noT x = true ∧ okX x = true ∧ (match opM bl sc k x with
      | some ys => chks bl hot X.N sc es ys
      | none => false) = true := by
    have : ((!hot || !calmK k) && noT x && okX x && match opM bl sc k x with
      | some ys => chks bl hot X.N sc es ys
      | none => false) = true := by unfold chk at hc; exact hc
    simp only [Bool.and_eq_true] at this
    exact ⟨this.1.1.1, this.1.1.2, this.1.2, this.2⟩
  obtain ⟨h1, h2, h3, h4⟩ := hc0
  cases hM : opM bl sc k x with
  | none => rw [hM] at h4; cases h4
  | some ys =>
    rw [hM] at h4
    have h4 : chks bl hot X.N sc es ys = true := h4
    obtain ⟨O⟩ := opSnd k X hot sc x ys hM C.ok (fun hk => C.ok.calm (by cases hot with | false => rfl | true => rw [hk] at h1; cases h1)) (chks_ok h4)
    unfold ev at he
    refine O.rule ρ H Q ?_
    refine evos_snd O A h4 C he q.x fun ds S1 e1 vs ca1 H1 f1 R1 r1 => ?_
    unfold lift at e1
    split at e1
    · rename_i d S2 e2
      have := ok_inj e1
      subst this
      exact O.hr ca1 S1 H1 ds vs d S2 Q R1 r1 e2 (Post.fin (q.after f1))
    · cases e1
theorem pur_some {α β : Type} {o : Option α} {g : α → D} {S : Sto} {r : Rs D} (h : pur (o.map g) S = some r) : ∃ a, o = some a ∧ r = .ok (g a) S := by
  cases o with
  | none => cases h
  | some a => exact ⟨a, rfl, ok_inj h⟩
/-! ### comparisons -/
theorem cmp_snd {o : CmpOp} {a b : E} (Sa : SndE bl Γ a) (Sb : SndE bl Γ b) : SndE bl Γ (.cmp o a b) := by
  intro x hot sc X W ca S σ ρ H hc C r he Q q
  cases x with
  | Compare x ops l pos =>
    match ops, l with
    | [p], [y] =>
      have hc' : (decide (o = p) && chk bl hot X.N sc a x && chk bl hot X.N sc b y && okX y) = true := by unfold chk at hc; exact hc
      simp only [Bool.and_eq_true, decide_eq_true_eq] at hc'
      obtain ⟨⟨⟨h1, h2⟩, h3⟩, h4⟩ := hc'
      subst h1
      unfold ev at he
      refine wp_of (pe_cmpR (op_cmp (un65 C.ok) o) pe_wp pe_wp (mark_ok h4 o)) ?_
      refine snd_bind Sa h2 C he q.x fun da S1 he1 va ca1 H1 f1 R1 ra => ?_
      refine snd_bind Sb h3 (C.step f1 R1) he1 (q.x.after f1) fun db S2 he2 vb ca2 H2 f2 R2 rb => ?_
      obtain ⟨k, ek, e⟩ := pur_some (β := Nat) he2
      exact cmp_ok R2 (ra.fr f2) rb ek (okPost R2 e (q.after (f1.trans f2)) rfl)
    | [], _ => simp [chk] at hc
    | _ :: _ :: _, _ => cases l <;> simp [chk] at hc
    | [_], [] => simp [chk] at hc
    | [_], _ :: _ :: _ => simp [chk] at hc
  | _ => simp [chk] at hc
theorem cmp2_snd {o o' : CmpOp} {a b c : E} (Sa : SndE bl Γ a) (Sb : SndE bl Γ b) (Sc : SndE bl Γ c) : SndE bl Γ (.cmp2 o o' a b c) := by
  intro x hot sc X W ca S σ ρ H hc C r he Q q
  cases x with
  | Compare x ops l pos =>
    match ops, l with
    | [p, p'], [y, z] =>
      have hc' : (decide (o = p) && decide (o' = p') && chk bl hot X.N sc a x && chk bl hot X.N sc b y && chk bl hot X.N sc c z && okX z) = true := by unfold chk at hc; exact hc
      simp only [Bool.and_eq_true, decide_eq_true_eq] at hc'
      obtain ⟨⟨⟨⟨⟨h1, h1'⟩, h2⟩, h3⟩, h4⟩, h5⟩ := hc'
      subst h1 h1'
      unfold ev at he
      refine wp_of (pe_chain (op_cmp (un65 C.ok) o) (op_cmp (un65 C.ok) o') pe_wp pe_wp pe_wp (show lastMarks [o'] [z] = false from mark_ok h5 o')) ?_
      refine snd_bind Sa h2 C he q.x fun da S1 he1 va ca1 H1 f1 R1 ra => ?_
      refine snd_bind Sb h3 (C.step f1 R1) he1 (q.x.after f1) fun db S2 he2 vb ca2 H2 f2 R2 rb => ?_
      have q2 := q.after (f1.trans f2)
      split at he2
      · rename_i ek
        refine cmp_ok R2 (ra.fr f2) rb ek ⟨true, rfl, ?_⟩
        rw [if_pos rfl]
        refine snd_bind Sc h4 ((C.step f1 R1).step f2 R2) he2 q2.x fun dc S3 he3 vc ca3 H3 f3 R3 rc => ?_
        obtain ⟨k, ek2, e⟩ := pur_some (β := Nat) he3
        exact cmp_ok R3 (rb.fr f3) rc ek2 (okPost R3 e (q2.after f3) rfl)
      · rename_i ek
        refine cmp_ok R2 (ra.fr f2) rb ek ⟨false, rfl, ?_⟩
        rw [if_neg Bool.false_ne_true]
        exact okPost R2 (ok_inj he2) q2 rfl
      · cases he2
    | [], _ => simp [chk] at hc
    | [_], [] => simp [chk] at hc
    | [_], [_] => simp [chk] at hc
    | [_], _ :: _ :: _ => simp [chk] at hc
    | [_, _], [] => simp [chk] at hc
    | [_, _], [_] => simp [chk] at hc
    | [_, _], _ :: _ :: _ :: _ => simp [chk] at hc
    | _ :: _ :: _ :: _, _ => cases l <;> simp [chk] at hc
  | _ => simp [chk] at hc
/-- a op1 b op2 c op3 d -/
def tChain3 (r r' r2 : R2) (ta tb tc td : TE) : TE := fun σ H Q => ta σ H fun x H1 => tb σ H1 fun y H2 => r x y H2 fun z H3 => ∃ k, z = .bl k ∧
  (if k = true then tc σ H3 fun w' H4 => r' y w' H4 fun z' H5 => ∃ k', z' = .bl k' ∧ (if k' = true then td σ H5 fun u' H6 => r2 w' u' H6 Q else Q (.bl false) H5) else Q (.bl false) H3)
theorem pe_chain3 {X : Cx} {op op' op2 : CmpOp} {r r' r2 : R2} {a b c d : Expr} {ta tb tc td : TE} {pos : Pos} (ho : OpR X (compareOp op) r) (ho' : OpR X (compareOp op') r') (ho2 : OpR X (compareOp op2) r2) (ha : PE X a ta) (hb : PE X b tb) (hc : PE X c tc) (hd : PE X d td)
    (hm : lastMarks [op, op', op2] [b, c, d] = false) : PE X (.Compare a [op, op', op2] [b, c, d] pos) (tChain3 r r' r2 ta tb tc td) := by
  refine ⟨fun pins s σ H Q I h => ?_⟩
  refine Compare_chain (thn (ha.run pins s σ H _ I h) fun v s1 ⟨x, H1, I1, r1, q1⟩ => chain_link (thn (hb.run pins s1 σ H1 _ I1 q1) fun u s2 ⟨y, H2, I2, r2', q2⟩ =>
    thn (ho pins s2 σ H2 x y v u _ I2 r1 r2' q2) fun dd s3 ⟨z, H3, I3, r3, k, e, q3⟩ => ?_)) hm
  subst e
  cases r3
  refine wpAny_truthy_bool ?_
  cases k with
  | false => exact ite_ff ⟨.bl false, H3, I3, rfl, q3⟩
  | true =>
    refine ite_tt (chain_link (thn (hc.run pins s3 σ H3 _ I3 q3) fun w' s4 ⟨z', H4, I4, r4, q4⟩ => thn (ho' pins s4 σ H4 y z' u w' _ I4 r2' r4 q4) fun d2 s5 ⟨zz, H5, I5, r5, k', e', q5⟩ => ?_))
    subst e'
    cases r5
    refine wpAny_truthy_bool ?_
    cases k' with
    | false => exact ite_ff ⟨.bl false, H5, I5, rfl, q5⟩
    | true => exact ite_tt (chain_last (thn (hd.run pins s5 σ H5 _ I5 q5) fun w2 s6 ⟨z6, H6, I6, r6, q6⟩ => ho2 pins s6 σ H6 z' z6 w' w2 Q I6 r4 r6 q6))
theorem pt_chain3 {X : Cx} {op op' op2 : CmpOp} {r r' r2 : R2} {a b c d : Expr} {ta tb tc td : TE} {pos : Pos} (ho : OpR X (compareOp op) r) (ho' : OpR X (compareOp op') r') (ho2 : OpR X (compareOp op2) r2) (ha : PE X a ta) (hb : PE X b tb) (hc : PE X c tc) (hd : PE X d td)
    (hm : lastMarks [op, op', op2] [b, c, d] = false) : PT X (.Compare a [op, op', op2] [b, c, d] pos) (tTest (tChain3 r r' r2 ta tb tc td)) := by
  refine ⟨fun pins s σ H Q I h => ?_⟩
  refine isTrue_chain (thn (ha.run pins s σ H _ I h) fun v s1 ⟨x, H1, I1, r1, q1⟩ => test_link (thn (hb.run pins s1 σ H1 _ I1 q1) fun u s2 ⟨y, H2, I2, r2', q2⟩ =>
    thn (ho pins s2 σ H2 x y v u _ I2 r1 r2' q2) fun dd s3 ⟨z, H3, I3, r3, k, e, q3⟩ => ?_)) hm
  subst e
  cases r3
  refine wpAny_truthy_bool ?_
  cases k with
  | false =>
    obtain ⟨k', e', q'⟩ := q3
    cases e'
    exact ite_ff ⟨H3, I3, q'⟩
  | true =>
    refine ite_tt (test_link (thn (hc.run pins s3 σ H3 _ I3 q3) fun w' s4 ⟨z', H4, I4, r4, q4⟩ => thn (ho' pins s4 σ H4 y z' u w' _ I4 r2' r4 q4) fun d2 s5 ⟨zz, H5, I5, r5, k', e', q5⟩ => ?_))
    subst e'
    cases r5
    refine wpAny_truthy_bool ?_
    cases k' with
    | false =>
      obtain ⟨k2, e2, q'⟩ := q5
      cases e2
      exact ite_ff ⟨H5, I5, q'⟩
    | true =>
      refine ite_tt (test_last (thn (hd.run pins s5 σ H5 _ I5 q5) fun w2 s6 ⟨z6, H6, I6, r6, q6⟩ => thn (ho2 pins s6 σ H6 z' z6 w' w2 _ I6 r4 r6 q6) fun d' s7 ⟨z7, H7, I7, r7, k2, e2, q7⟩ => ?_))
      subst e2
      cases r7
      exact wpAny_truthy_bool ⟨H7, I7, q7⟩
theorem cmp3_snd {o o' o2 : CmpOp} {a b c d : E} (Sa : SndE bl Γ a) (Sb : SndE bl Γ b) (Sc : SndE bl Γ c) (Sd : SndE bl Γ d) : SndE bl Γ (.cmp3 o o' o2 a b c d) := by
  intro x hot sc X W ca S σ ρ H hc C r he Q q
  cases x with
  | Compare x ops l pos =>
    match ops, l with
    | [p, p', p2], [y, z, t] =>
      have hc' : (decide (o = p) && decide (o' = p') && decide (o2 = p2) && chk bl hot X.N sc a x && chk bl hot X.N sc b y && chk bl hot X.N sc c z && chk bl hot X.N sc d t && okX t) = true := by unfold chk at hc; exact hc
      simp only [Bool.and_eq_true, decide_eq_true_eq] at hc'
      obtain ⟨⟨⟨⟨⟨⟨⟨h1, h1'⟩, h12⟩, h2⟩, h3⟩, h4⟩, h5⟩, h6⟩ := hc'
      subst h1 h1' h12
      unfold ev at he
      refine wp_of (pe_chain3 (op_cmp (un65 C.ok) o) (op_cmp (un65 C.ok) o') (op_cmp (un65 C.ok) o2) pe_wp pe_wp pe_wp pe_wp (show lastMarks [o2] [t] = false from mark_ok h6 o2)) ?_
      refine snd_bind Sa h2 C he q.x fun da S1 he1 va ca1 H1 f1 R1 ra => ?_
      refine snd_bind Sb h3 (C.step f1 R1) he1 (q.x.after f1) fun db S2 he2 vb ca2 H2 f2 R2 rb => ?_
      have q2 := q.after (f1.trans f2)
      have C2 := (C.step f1 R1).step f2 R2
      split at he2
      · rename_i ek
        refine cmp_ok R2 (ra.fr f2) rb ek ⟨true, rfl, ?_⟩
        rw [if_pos rfl]
        refine snd_bind Sc h4 C2 he2 q2.x fun dc S3 he3 vc ca3 H3 f3 R3 rc => ?_
        have q3 := q2.after f3
        split at he3
        · rename_i ek2
          refine cmp_ok R3 (rb.fr f3) rc ek2 ⟨true, rfl, ?_⟩
          rw [if_pos rfl]
          refine snd_bind Sd h5 (C2.step f3 R3) he3 q3.x fun dd S4 he4 vd ca4 H4 f4 R4 rd => ?_
          obtain ⟨k, ek3, e⟩ := pur_some (β := Nat) he4
          exact cmp_ok R4 (rc.fr f4) rd ek3 (okPost R4 e (q3.after f4) rfl)
        · rename_i ek2
          refine cmp_ok R3 (rb.fr f3) rc ek2 ⟨false, rfl, ?_⟩
          rw [if_neg Bool.false_ne_true]
          exact okPost R3 (ok_inj he3) q3 rfl
        · cases he3
      · rename_i ek
        refine cmp_ok R2 (ra.fr f2) rb ek ⟨false, rfl, ?_⟩
        rw [if_neg Bool.false_ne_true]
        exact okPost R2 (ok_inj he2) q2 rfl
      · cases he2
    | [], _ => simp [chk] at hc
    | [_], l => cases l <;> simp [chk] at hc
    | [_, _], l => cases l <;> simp [chk] at hc
    | [_, _, _], [] => simp [chk] at hc
    | [_, _, _], [_] => simp [chk] at hc
    | [_, _, _], [_, _] => simp [chk] at hc
    | [_, _, _], _ :: _ :: _ :: _ :: _ => simp [chk] at hc
    | _ :: _ :: _ :: _ :: _, _ => cases l <;> simp [chk] at hc
  | _ => simp [chk] at hc
/-! ### argument lists -/
theorem nil_snd : SndEs bl Γ .nil := by
  intro x hot sc X W ca S σ ρ H hc C r he Q hx q
  cases x with
  | nil =>
    unfold evs at he
    exact wpa_of pa_nil (q [] S (ok_inj he) [] ca H .refl C.rp .nil)
  | cons _ _ => simp [chks] at hc
theorem cons_snd {e : E} {es : Es} (Se : SndE bl Γ e) (Ss : SndEs bl Γ es) : SndEs bl Γ (.cons e es) := by
  intro x hot sc X W ca S σ ρ H hc C r he Q hx q
  cases x with
  | nil => simp [chks] at hc
  | cons x l =>
    have hc' : (chk bl hot X.N sc e x = true ∧ okX x = true) ∧ chks bl hot X.N sc es l = true := by simpa [chks] using hc
    unfold evs at he
    refine wpa_of (pa_cons pe_wp pa_wp (star_ok hc'.1.2 _ _)) ?_
    refine snd_bind Se hc'.1.1 C he hx fun d S1 he1 v ca1 H1 f1 R1 r1 => ?_
    refine snd_binds Ss hc'.2 (C.step f1 R1) he1 (hx.after f1) fun ds S2 he2 vs ca2 H2 f2 R2 r2 => ?_
    exact q (d :: ds) S2 (ok_inj he2) (v :: vs) ca2 H2 (f1.trans f2) R2 (.cons (r1.fr f2) r2)
/-! ### not, and, or -/
theorem not_snd {a : E} (Sa : SndE bl Γ a) : SndE bl Γ (.not a) := by
  intro x hot sc X W ca S σ ρ H hc C r he Q q
  cases x with
  | UnaryOp o x pos =>
    cases o with
    | Not =>
      have h2 : chk bl hot X.N sc a x = true := by unfold chk at hc; exact hc
      unfold ev at he
      refine wp_of (pe_notT pe_wp) ?_
      refine snd_bind Sa h2 C he q.x fun da S1 he1 va ca1 H1 f1 R1 ra => ?_
      split at he1
      · rename_i b eb
        exact ⟨b, tru_of R1 ra eb, okPost R1 (ok_inj he1) (q.after f1) rfl⟩
      · cases he1
    | _ => simp [chk] at hc
  | _ => simp [chk] at hc
def tailB (f : Expr → Bool) (o : BoolOp) (y : Expr) (r : List Expr) (pos : Pos) : Bool := match r with
  | [] => f y
  | z :: r => f (.BoolOp o (y :: z :: r) pos)
theorem and_snd {a b : E} (Sa : SndE bl Γ a) (Sb : SndE bl Γ b) : SndE bl Γ (.and a b) := by
  intro x hot sc X W ca S σ ρ H hc C r0 he Q q
  cases x with
  | BoolOp o l pos =>
    cases o with
    | Or => cases l <;> simp [chk] at hc
    | And =>
      match l with
      | [] => simp [chk] at hc
      | [_] => simp [chk] at hc
      | x :: y :: r =>
        have hc' : chk bl hot X.N sc a x = true ∧ tailB (chk bl hot X.N sc b) .And y r pos = true := by
          have hh := hc
          cases r <;> (simp only [chk, Bool.and_eq_true] at hh; exact hh)
        unfold ev at he
        have go : ∀ t, PE X (.BoolOp .And (y :: r) pos) t → (∀ S1 ca1 H1, Fr ca H ca1 H1 → Rp X.K ca1 S1 H1 → ev Γ b σ S1 = some r0 → t ρ H1 Q) → wpE X (.BoolOp .And (x :: y :: r) pos) ρ H Q := fun t pt ht => by
          refine wp_of (pe_andT pe_wp pt) ?_
          refine snd_bind Sa hc'.1 C he q.x fun da S1 he1 va ca1 H1 f1 R1 ra => ?_
          split at he1
          · rename_i eb
            refine ⟨true, tru_of R1 ra eb, ?_⟩
            rw [if_pos rfl]
            exact ht S1 ca1 H1 f1 R1 he1
          · rename_i eb
            refine ⟨false, tru_of R1 ra eb, ?_⟩
            rw [if_neg Bool.false_ne_true]
            exact okPost R1 (ok_inj he1) (q.after f1) ra
          · cases he1
        cases r with
        | nil => exact go _ (pe_one pe_wp) fun S1 ca1 H1 f1 R1 e1 => Sb y hot sc X W ca1 S1 σ ρ H1 hc'.2 (C.step f1 R1) _ e1 Q (q.after f1)
        | cons z r => exact go _ pe_wp fun S1 ca1 H1 f1 R1 e1 => Sb _ hot sc X W ca1 S1 σ ρ H1 hc'.2 (C.step f1 R1) _ e1 Q (q.after f1)
  | _ => simp [chk] at hc
theorem or_snd {a b : E} (Sa : SndE bl Γ a) (Sb : SndE bl Γ b) : SndE bl Γ (.or a b) := by
  intro x hot sc X W ca S σ ρ H hc C r0 he Q q
  cases x with
  | BoolOp o l pos =>
    cases o with
    | And => cases l <;> simp [chk] at hc
    | Or =>
      match l with
      | [] => simp [chk] at hc
      | [_] => simp [chk] at hc
      | x :: y :: r =>
        have hc' : chk bl hot X.N sc a x = true ∧ tailB (chk bl hot X.N sc b) .Or y r pos = true := by
          have hh := hc
          cases r <;> (simp only [chk, Bool.and_eq_true] at hh; exact hh)
        unfold ev at he
        have go : ∀ t, PE X (.BoolOp .Or (y :: r) pos) t → (∀ S1 ca1 H1, Fr ca H ca1 H1 → Rp X.K ca1 S1 H1 → ev Γ b σ S1 = some r0 → t ρ H1 Q) → wpE X (.BoolOp .Or (x :: y :: r) pos) ρ H Q := fun t pt ht => by
          refine wp_of (pe_orT pe_wp pt) ?_
          refine snd_bind Sa hc'.1 C he q.x fun da S1 he1 va ca1 H1 f1 R1 ra => ?_
          split at he1
          · rename_i eb
            refine ⟨true, tru_of R1 ra eb, ?_⟩
            rw [if_pos rfl]
            exact okPost R1 (ok_inj he1) (q.after f1) ra
          · rename_i eb
            refine ⟨false, tru_of R1 ra eb, ?_⟩
            rw [if_neg Bool.false_ne_true]
            exact ht S1 ca1 H1 f1 R1 he1
          · cases he1
        cases r with
        | nil => exact go _ (pe_one pe_wp) fun S1 ca1 H1 f1 R1 e1 => Sb y hot sc X W ca1 S1 σ ρ H1 hc'.2 (C.step f1 R1) _ e1 Q (q.after f1)
        | cons z r => exact go _ pe_wp fun S1 ca1 H1 f1 R1 e1 => Sb _ hot sc X W ca1 S1 σ ρ H1 hc'.2 (C.step f1 R1) _ e1 Q (q.after f1)
  | _ => simp [chk] at hc
/-! ### calls -/
theorem call_snd {f : Str} {es : Es} (Ss : SndEs bl Γ es) : SndE bl Γ (.call f es) := by
  intro x hot sc X W ca S σ ρ H hc C r he Q q
  cases x with
  | Call g l kws pos =>
    cases g with
    | Name x p =>
      cases kws with
      | cons _ _ => simp [chk] at hc
      | nil =>
        have hc' : (!hot && decide (f = x) && glB sc x && plainName x && chks bl hot X.N sc es l) = true := by unfold chk at hc; exact hc
        simp only [Bool.and_eq_true, decide_eq_true_eq, plainName, Bool.not_eq_true'] at hc'
        obtain ⟨⟨⟨⟨h0, h1⟩, h2⟩, ⟨h3, _⟩, _⟩, h4⟩ := hc'
        subst h1
        unfold ev at he
        split at he
        · rename_i g eg
          obtain ⟨rule0, rule1⟩ : _ ∧ _ := (C.fns h0 X rfl rfl rfl rfl rfl rfl _ g eg : CallOk X f (spI X.K ca.c g)) W C.tk (gl_of C.ok.scope h2) h3
          have fin : ∀ ds S1, g S1 ds = some r → ∀ vs ca1 H1, Fr ca H ca1 H1 → Rp X.K ca1 S1 H1 → RepDs X.K ca1 H1 ds vs → spI X.K ca.c g vs H1 Q (WE W ρ) := fun ds S1 e1 vs ca1 H1 f1 R1 r1 => ⟨ca1, S1, ds, r, f1.le.1.symm, R1, r1, e1, q.after f1⟩
          cases l with
          | nil =>
            cases es with
            | cons _ _ => simp [chks] at h4
            | nil =>
              have he1 : (evs Γ .nil σ S).bind (fun ds S => g S ds) = some r := he
              unfold evs at he1
              exact wp_of (rule0 _ _) (fin [] S he1 [] ca H .refl C.rp .nil)
          | cons y l =>
            have hk := chks_ok h4
            refine wp_of (rule1 _ _ _ _ _ pa_wp (star_ok (hk y List.mem_cons_self) _ _) (noback_ok (fun z hz => hk z (List.mem_cons_of_mem _ hz)) _ _)) ?_
            exact snd_binds Ss h4 C he q.x fun ds S1 e1 vs ca1 H1 f1 R1 r1 => fin ds S1 e1 vs ca1 H1 f1 R1 r1
        · cases he
    | _ => simp [chk] at hc
  | _ => simp [chk] at hc
theorem obj_rd {K : PySem.W.Frag} {n c : Nat} {fs : List (Str × D)} {v : V} (R : Rp K ca S H) (r : RepD K ca H (.ref n) v) (e : S[n]? = some (.obj c fs)) : ∃ a dx fs', v = .ref a ∧ ca.i[n]? = some a ∧ H a = some (.ins (ca.c c) dx fs') ∧ fs'.length = fs.length ∧ ∀ f, RepF K ca H fs' (fs.lookup f) f := by
  obtain ⟨a, ev, ea, dx, fs', q, l, h⟩ := cell_rd R r e
  exact ⟨a, dx, fs', ev, ea, q, l, h⟩
theorem fld_snd {e : E} {f : Str} (Se : SndE bl Γ e) : SndE bl Γ (.fld e f) := by
  intro x hot sc X W ca S σ ρ H hc C r he Q q
  cases x with
  | Attribute x a pos =>
    have hc' : (decide (f = a) && baseOk x && chk bl hot X.N sc e x) = true := by unfold chk at hc; exact hc
    simp only [Bool.and_eq_true, decide_eq_true_eq] at hc'
    obtain ⟨⟨h1, h0⟩, h2⟩ := hc'
    subst h1
    unfold ev at he
    refine wp_of (pe_fld pe_wp (attr_base _ h0)) ?_
    refine snd_bind Se h2 C he q.x fun d S1 he1 v ca1 H1 f1 R1 r1 => ?_
    split at he1
    · rename_i n
      split at he1
      · rename_i c fs ec
        split at he1
        · rename_i g d eg el
          obtain ⟨b, dx, fs', rfl, ea, hb, hl, hf⟩ := obj_rd R1 r1 ec
          have q1 := hf f
          rw [el] at q1
          obtain ⟨v, l, rv⟩ := q1
          obtain ⟨k1, k2⟩ : Cls X.K (ca.c c) ∧ NoAttr X.K (ca.c c) f := C.kf _ g eg
          rw [f1.le.1] at k1 k2
          exact ⟨b, ca1.c c, dx, fs', v, rfl, hb, k1, k2, l, okPost R1 (ok_inj he1) (q.after f1) rv⟩
        · cases he1
      · cases he1
    · cases he1
  | _ => simp [chk] at hc
theorem mcall_snd {e : E} {m : Str} {es : Es} (Se : SndE bl Γ e) (Ss : SndEs bl Γ es) : SndE bl Γ (.mcall e m es) := by
  intro x hot sc X W ca S σ ρ H hc C r he Q q
  cases x with
  | Call g l kws pos =>
    cases g with
    | Attribute x a p =>
      cases kws with
      | cons _ _ => cases l <;> simp [chk] at hc
      | nil =>
        have hc' : (!hot && decide (m = a) && baseOk x && (p.endLine == pos.line) && decide (l.length < 28) && chk bl hot X.N sc e x && chks bl hot X.N sc es l) = true := by unfold chk at hc; exact hc
        simp only [Bool.and_eq_true, decide_eq_true_eq, Bool.not_eq_true'] at hc'
        obtain ⟨⟨⟨⟨⟨⟨hh, h1⟩, h0⟩, h2⟩, h3⟩, h4⟩, h5⟩ := hc'
        subst h1
        unfold ev at he
        have hk := chks_ok h5
        split at he
        · rename_i d S1 e1
          split at he
          · rename_i n
            split at he
            · rename_i c fs ec
              split at he
              · rename_i g eg el
                have rules : MethOk X (ca.c c) m (spI X.K ca.c g) := C.fns hh X rfl rfl rfl rfl rfl rfl _ g eg
                have head : ∀ v ca1 H1, Fr ca H ca1 H1 → Rp X.K ca1 S1 H1 → RepD X.K ca1 H1 (.ref n) v → ∃ a dx fs', v = .ref a ∧ H1 a = some (.ins (ca.c c) dx fs') ∧ fs'.lookup m = none := fun v ca1 H1 f1 R1 r1 => by
                  obtain ⟨b, dx, fs', e, ea, hb, hl, hf⟩ := obj_rd R1 r1 ec
                  have q1 := hf m
                  rw [el] at q1
                  exact ⟨b, dx, fs', e, by rw [f1.le.1]; exact hb, q1⟩
                cases l with
                | nil =>
                  cases es with
                  | cons _ _ => simp [chks] at h5
                  | nil =>
                    refine wp_of ((rules W C.tk).1 _ _ _ _ pe_wp h0 h2) ?_
                    refine Se x hot sc X W ca S σ ρ H h4 C _ e1 _ fun v ca1 H1 f1 R1 r1 => ?_
                    obtain ⟨b, dx, fs', e, hb, hl⟩ := head v ca1 H1 f1 R1 r1
                    unfold evs at he
                    exact ⟨b, dx, fs', e, hb, hl, ca1, S1, _, r, f1.le.1.symm, R1, .cons r1 .nil, he, q.after f1⟩
                | cons y l =>
                  refine wp_of ((rules W C.tk).2 _ _ _ _ _ _ _ pe_wp pa_wp h0 h2 h3 (star_ok (hk y List.mem_cons_self) _ _) (noback_ok hk _ _) (noback_ok (fun z hz => hk z (List.mem_cons_of_mem _ hz)) _ _)) ?_
                  refine Se x hot sc X W ca S σ ρ H h4 C _ e1 _ fun v ca1 H1 f1 R1 r1 => ?_
                  obtain ⟨b, dx, fs', e, hb, hl⟩ := head v ca1 H1 f1 R1 r1
                  refine ⟨b, dx, fs', e, hb, hl, ?_⟩
                  refine snd_binds Ss h5 (C.step f1 R1) he (q.x.after f1) fun ds S2 e2 vs ca2 H2 f2 R2 r2 => ?_
                  exact ⟨ca2, S2, _, r, (f1.le.trans f2.le).1.symm, R2, .cons (r1.fr f2) r2, e2, q.after (f1.trans f2)⟩
              · cases he
            · cases he
          · cases he
        · cases he
    | _ => simp [chk] at hc
  | _ => simp [chk] at hc
theorem qcall_snd {y m : Str} {es : Es} (Ss : SndEs bl Γ es) : SndE bl Γ (.qcall y m es) := by
  intro x hot sc X W ca S σ ρ H hc C r he Q q
  cases x with
  | Call g l kws pos =>
    cases g with
    | Attribute x a p =>
      cases x with
      | Name x p1 =>
        cases kws with
        | cons _ _ => cases l <;> simp [chk] at hc
        | nil =>
          have hc' : (!hot && decide (m = a) && decide (y = x) && glB sc x && plainName x && (p.endLine == pos.line) && decide (0 < l.length) && decide (l.length < 28) && chks bl hot X.N sc es l) = true := by unfold chk at hc; exact hc
          simp only [Bool.and_eq_true, decide_eq_true_eq, plainName, Bool.not_eq_true'] at hc'
          obtain ⟨⟨⟨⟨⟨⟨⟨⟨hh, h1⟩, h2⟩, h3⟩, ⟨h4, _⟩, _⟩, h5⟩, h6⟩, h7⟩, h8⟩ := hc'
          subst h1 h2
          unfold ev at he
          have hk := chks_ok h8
          split at he
          · rename_i g eg
            cases l with
            | nil => simp at h6
            | cons z l =>
              have rule : QcOk X y m (spI X.K ca.c g) := C.fns hh X rfl rfl rfl rfl rfl rfl _ g eg
              refine wp_of (rule W C.tk (gl_of C.ok.scope h3) h4 _ _ _ _ _ _ pa_wp h5 h7 (star_ok (hk z List.mem_cons_self) _ _) (noback_ok hk _ _) (noback_ok (fun z hz => hk z (List.mem_cons_of_mem _ hz)) _ _)) ?_
              exact snd_binds Ss h8 C he q.x fun ds S1 e1 vs ca1 H1 f1 R1 r1 => ⟨ca1, S1, ds, r, f1.le.1.symm, R1, r1, e1, q.after f1⟩
          · cases he
      | _ => cases l <;> simp [chk] at hc
    | _ => simp [chk] at hc
  | _ => simp [chk] at hc
/-! ### frozen, forgotten -/
/-- a list is frozen -/
def FrzQ (Q : VK) : VK := fun v H1 => (∃ a vs, v = .ref a ∧ H1 a = some (.lst vs) ∧ ∀ o, Q v (upd H1 a (.frz o (.lst vs)))) ∨ Q v H1
theorem wpE_frz {X : Cx} {x : Expr} {σ : L2.St} {H : Hp} {Q : VK} (h : wpE X x σ H (FrzQ Q)) : wpE X x σ H Q := fun pins s I =>
  wpAny_mono (h pins s I) (fun v s' ⟨u, H1, I1, r, q⟩ => by
    rcases q with ⟨a, vs, e, ha, q⟩ | q
    · obtain ⟨o, I2⟩ := I1.lock ha trivial
      exact ⟨u, _, I2, r, q o⟩
    · exact ⟨u, _, I1, r, q⟩) fun _ _ z => z
theorem frz_ok {K : PySem.W.Frag} {ca1 : Am} {S1 : Sto} {H1 : Hp} {d : D} {v : V} {r : Rs D} {Q : VK} {E : XK} (f1 : Fr ca H ca1 H1) (R1 : Rp K ca1 S1 H1) (r1 : RepD K ca1 H1 d v) (e : frzV d S1 = some r) (q : Post K ca H r Q E) : FrzQ Q v H1 := by
  have same : M.ok d S1 = some r → FrzQ Q v H1 := fun e => by
    have hr := ok_inj e
    subst hr
    exact .inr (q v ca1 H1 f1 R1 r1)
  unfold frzV at e
  split at e
  · rename_i n
    split at e
    · rename_i xs ec
      obtain ⟨a, rfl, ea, vs, ha, rs⟩ := cell_rd R1 r1 ec
      refine .inl ⟨a, vs, rfl, ha, fun o => ?_⟩
      have hr := ok_inj e
      subst hr
      have q' : Fin K ca H (.fl xs) (S1.set n .dead) Q := Post.fin q
      have tk : TK H1 (upd H1 a (.frz o (.lst vs))) := tk_upd ha (fun _ z => by cases z) (fun _ _ z => by cases z)
      obtain ⟨R2, f2⟩ := R1.put (c := .dead) (o := .frz o (.lst vs)) ea ha (fun _ z => by cases z) (fun _ _ z => by cases z) ⟨o, vs, upd_same⟩
      exact q' _ _ _ (f1.trans f2) R2 ⟨a, vs, rfl, .inl ⟨o, upd_same⟩, rs.mono tk .refl⟩
    · exact same e
  · exact same e
theorem frz_snd {e : E} (Se : SndE bl Γ e) : SndE bl Γ (.frz e) := by
  intro x hot sc X W ca S σ ρ H hc C r he Q q
  have hc' : chk bl hot X.N sc e x = true := by unfold chk at hc; exact hc
  unfold ev at he
  refine wpE_frz ?_
  exact snd_bind Se hc' C he q.x fun d S1 he1 v ca1 H1 f1 R1 r1 => frz_ok f1 R1 r1 he1 q
theorem gc_snd {e : E} (Se : SndE bl Γ e) : SndE bl Γ (.gc e) := by
  intro x hot sc X W ca S σ ρ H hc C r he Q q
  have hc' : chk bl hot X.N sc e x = true := by unfold chk at hc; exact hc
  unfold ev at he
  refine snd_bind Se hc' C he q.x fun d S1 he1 v ca1 H1 f1 R1 r1 => ?_
  obtain ⟨ca2, f2, R2, r2⟩ := gc_ok C.rp f1 R1 r1 (d2 := (gcv S d S1).1) (S2 := (gcv S d S1).2) rfl
  have hr := ok_inj he1
  subst hr
  exact q v ca2 H1 f2 R2 r2
theorem glob_snd {y : Str} : SndE bl Γ (.glob y) := by
  intro x hot sc X W ca S σ ρ H hc C r he Q q
  cases x with
  | Name x pos =>
    have hc' : (!hot && decide (y = x) && glB sc y && plainName y) = true := by unfold chk at hc; exact hc
    simp only [Bool.and_eq_true, decide_eq_true_eq, plainName, Bool.not_eq_true'] at hc'
    obtain ⟨⟨⟨hh, h1⟩, h2⟩, ⟨h3, h4⟩, _⟩ := hc'
    subst h1
    unfold ev at he
    split at he
    · rename_i g eg
      split at he
      · rename_i d S' e2
        obtain ⟨d', v, hg, rv, hp⟩ : ∃ d v, (∀ S ds, g S ds = some (.ok d S)) ∧ (∀ ca H, RepD X.K ca H d v) ∧ ∀ p, Gl X y → (y == ("__debug__" : Str)) = false → PE X (.Name y p) (tC v) := C.fns hh X rfl rfl rfl rfl rfl rfl _ g eg
        rw [hg] at e2
        cases e2
        exact wp_of (hp pos (gl_of C.ok.scope h2) h3) (okPost C.rp (ok_inj he) q (rv ca H))
      · cases he
    · cases he
  | _ => simp [chk] at hc
/-! ### tests -/
def TPost (K : PySem.W.Frag) (ca : Am) (H : Hp) (r : Rs Bool) (Q : Bool → Hp → Prop) (E : XK) : Prop := match r with
 | .ok b S' => ∀ ca' H', Fr ca H ca' H' → Rp K ca' S' H' → Q b H'
 | .exc e S' => ∀ cls dd ca' H', Fr ca H ca' H' → Rp K ca' S' H' → XRep K ca' H' e cls dd → E cls dd H'
theorem TPost.x {K : PySem.W.Frag} {r : Rs Bool} {Q : Bool → Hp → Prop} {E : XK} (x : TPost K ca H r Q E) : XPost K ca H r E := by
  cases r with
  | ok _ _ => trivial
  | exc e S' => exact x
theorem TPost.after {K : PySem.W.Frag} {ca' : Am} {r : Rs Bool} {Q : Bool → Hp → Prop} {E : XK} (x : TPost K ca H r Q E) (f : Fr ca H ca' H') : TPost K ca' H' r Q E := by
  cases r with
  | ok d S' => exact fun ca2 H2 f2 => x ca2 H2 (f.trans f2)
  | exc e S' => exact fun cls dd ca2 H2 f2 => x cls dd ca2 H2 (f.trans f2)
def SndT (bl : List Str) (Γ : Gam) (e : E) : Prop := ∀ (x : Expr) (hot : Bool) (sc : Scope) (X : Cx) (W : WX) (ca : Am) (S : Sto) (σ : List Sl) (ρ : L2.St) (H : Hp), chk bl hot X.N sc e x = true → Ctx bl hot sc X Γ W ca S σ ρ H →
  ∀ r, tstV (ev Γ e σ S) = some r → ∀ Q, TPost X.K ca H r Q (WE W ρ) → wpT X x ρ H Q
/-- a test, then what follows -/
theorem snd_test {e : E} (Se : SndT bl Γ e) {x : Expr} (hc : chk bl hot X.N sc e x = true) (C : Ctx bl hot sc X Γ W ca S σ ρ H) {β : Type} {f : D → Sto → M β} {r : Rs β} (he : (ev Γ e σ S).bind f = some r) (ht : ∀ d S1 r, f d S1 = some r → ∃ b, truth S1 d = some b) (hx : XPost X.K ca H r (WE W ρ)) {Q : Bool → Hp → Prop}
    (k : ∀ d S1 b, f d S1 = some r → truth S1 d = some b → ∀ ca1 H1, Fr ca H ca1 H1 → Rp X.K ca1 S1 H1 → Q b H1) : wpT X x ρ H Q := by
  rcases bind_some he with ⟨d, S1, e1, e2⟩ | ⟨xc, S1, e1, rfl⟩
  · obtain ⟨b, eb⟩ := ht d S1 r e2
    refine Se x hot sc X W ca S σ ρ H hc C (.ok b S1) ?_ Q fun ca1 H1 f R => k d S1 b e2 eb ca1 H1 f R
    unfold tstV
    rw [e1]
    show tru d S1 = _
    unfold tru
    rw [eb]; rfl
  · refine Se x hot sc X W ca S σ ρ H hc C (.exc xc S1) ?_ Q hx
    unfold tstV
    rw [e1]; rfl
theorem tstV_some {x : M D} {r : Rs Bool} (h : tstV x = some r) : (∃ d S1 b, x = some (.ok d S1) ∧ truth S1 d = some b ∧ r = .ok b S1) ∨ ∃ e S1, x = some (.exc e S1) ∧ r = .exc e S1 := by
  unfold tstV at h
  rcases bind_some h with ⟨d, S1, e1, e2⟩ | h
  · unfold tru at e2
    split at e2
    · rename_i b eb
      exact .inl ⟨d, S1, b, e1, eb, ok_inj e2⟩
    · cases e2
  · exact .inr h
theorem plain_t {e : E} (Se : SndE bl Γ e) (hn : ∀ bl hot N sc x, chk bl hot N sc e x = true → noT x = true) : SndT bl Γ e := by
  intro x hot sc X W ca S σ ρ H hc C r he Q q
  have h := hn _ _ _ _ _ hc
  refine wpt_of (pt_truth pe_wp (isTrue_of _ h)) ?_
  rcases tstV_some he with ⟨d, S1, b, e1, eb, rfl⟩ | ⟨xc, S1, e1, rfl⟩
  · exact Se x hot sc X W ca S σ ρ H hc C _ e1 _ fun v ca1 H1 f1 R1 r1 => ⟨b, tru_of R1 r1 eb, q ca1 H1 f1 R1⟩
  · exact Se x hot sc X W ca S σ ρ H hc C _ e1 _ q
theorem not_t {a : E} (Sa : SndT bl Γ a) : SndT bl Γ (.not a) := by
  intro x hot sc X W ca S σ ρ H hc C r he Q q
  cases x with
  | UnaryOp o x pos =>
    cases o with
    | Not =>
      have h2 : chk bl hot X.N sc a x = true := by unfold chk at hc; exact hc
      refine wpt_of (pt_not pt_wp) ?_
      rcases tstV_some he with ⟨d, S1, b, e1, eb, rfl⟩ | ⟨xc, S1, e1, rfl⟩
      · unfold ev at e1
        refine snd_test Sa h2 C e1 (fun d S1 r h => by split at h; exact ⟨_, by assumption⟩; cases h) trivial fun d1 S2 b1 e2 eb1 ca1 H1 f1 R1 => ?_
        rw [eb1] at e2
        have := ok_inj e2
        cases this
        cases eb
        exact q ca1 H1 f1 R1
      · unfold ev at e1
        refine snd_test Sa h2 C e1 (fun d S1 r h => by split at h; exact ⟨_, by assumption⟩; cases h) q fun d1 S2 b1 e2 eb1 ca1 H1 f1 R1 => ?_
        rw [eb1] at e2
        cases e2
    | _ => simp [chk] at hc
  | _ => simp [chk] at hc
theorem pw_bool {o : BoolOp} {l : List Expr} {p : Pos} {t : TT} (h : PT X (.BoolOp o l p) t) : PW X (.BoolOp o l p) t := ⟨fun wh pins s σ H Q I q => h.run pins s σ H Q I q⟩
theorem tst_ok {d : D} {S1 : Sto} {b : Bool} (h : truth S1 d = some b) : tstV (M.ok d S1) = some (.ok b S1) := by
  show tru d S1 = _
  unfold tru
  rw [h]; rfl
theorem and_t {a b : E} (Sa : SndT bl Γ a) (Sb : SndT bl Γ b) : SndT bl Γ (.and a b) := by
  intro x hot sc X W ca S σ ρ H hc C r0 he Q q
  cases x with
  | BoolOp o l pos =>
    cases o with
    | Or => cases l <;> simp [chk] at hc
    | And =>
      match l with
      | [] => simp [chk] at hc
      | [_] => simp [chk] at hc
      | x :: y :: r =>
        have hc' : chk bl hot X.N sc a x = true ∧ tailB (chk bl hot X.N sc b) .And y r pos = true := by
          have hh := hc
          cases r <;> (simp only [chk, Bool.and_eq_true] at hh; exact hh)
        have he2 : (ev Γ a σ S).bind (fun x S => match truth S x with
            | some true => tstV (ev Γ b σ S)
            | some false => M.ok false S
            | none => none) = some r0 := by
          rw [← he]
          unfold tstV
          conv => rhs; unfold ev
          cases e1 : ev Γ a σ S with
          | none => rfl
          | some z => cases z with
            | exc _ _ => rfl
            | ok d S1 =>
              show (match truth S1 d with
                | some true => tstV (ev Γ b σ S1)
                | some false => M.ok false S1
                | none => none) = M.bind (match truth S1 d with
                | some true => ev Γ b σ S1
                | some false => M.ok d S1
                | none => none) _
              cases et : truth S1 d with
              | none => rfl
              | some k => cases k with
                | true => rfl
                | false =>
                  show _ = tstV (M.ok d S1)
                  rw [tst_ok et]; rfl
        have go : ∀ t, PW X (.BoolOp .And (y :: r) pos) t → (∀ S1 ca1 H1, Fr ca H ca1 H1 → Rp X.K ca1 S1 H1 → tstV (ev Γ b σ S1) = some r0 → t ρ H1 Q) → wpT X (.BoolOp .And (x :: y :: r) pos) ρ H Q := fun t pt ht => by
          refine wpt_of (PW.pt (pw_and pt_wp pt)) ?_
          refine snd_test Sa hc'.1 C he2 (fun d S1 r h => by split at h; exact ⟨_, by assumption⟩; exact ⟨_, by assumption⟩; cases h) q.x fun d S1 k e1 ek ca1 H1 f1 R1 => ?_
          rw [ek] at e1
          cases k with
          | true => rw [if_pos rfl]; exact ht S1 ca1 H1 f1 R1 e1
          | false =>
            rw [if_neg Bool.false_ne_true]
            have := ok_inj e1
            subst this
            exact q ca1 H1 f1 R1
        cases r with
        | nil => exact go _ (pw_and1 pt_wp) fun S1 ca1 H1 f1 R1 e1 => Sb y hot sc X W ca1 S1 σ ρ H1 hc'.2 (C.step f1 R1) _ e1 Q (q.after f1)
        | cons z r => exact go _ (pw_bool pt_wp) fun S1 ca1 H1 f1 R1 e1 => Sb _ hot sc X W ca1 S1 σ ρ H1 hc'.2 (C.step f1 R1) _ e1 Q (q.after f1)
  | _ => simp [chk] at hc
theorem or_t {a b : E} (Sa : SndT bl Γ a) (Sb : SndT bl Γ b) : SndT bl Γ (.or a b) := by
  intro x hot sc X W ca S σ ρ H hc C r0 he Q q
  cases x with
  | BoolOp o l pos =>
    cases o with
    | And => cases l <;> simp [chk] at hc
    | Or =>
      match l with
      | [] => simp [chk] at hc
      | [_] => simp [chk] at hc
      | x :: y :: r =>
        have hc' : chk bl hot X.N sc a x = true ∧ tailB (chk bl hot X.N sc b) .Or y r pos = true := by
          have hh := hc
          cases r <;> (simp only [chk, Bool.and_eq_true] at hh; exact hh)
        have he2 : (ev Γ a σ S).bind (fun x S => match truth S x with
            | some true => M.ok true S
            | some false => tstV (ev Γ b σ S)
            | none => none) = some r0 := by
          rw [← he]
          unfold tstV
          conv => rhs; unfold ev
          cases e1 : ev Γ a σ S with
          | none => rfl
          | some z => cases z with
            | exc _ _ => rfl
            | ok d S1 =>
              show (match truth S1 d with
                | some true => M.ok true S1
                | some false => tstV (ev Γ b σ S1)
                | none => none) = M.bind (match truth S1 d with
                | some true => M.ok d S1
                | some false => ev Γ b σ S1
                | none => none) _
              cases et : truth S1 d with
              | none => rfl
              | some k => cases k with
                | true =>
                  show _ = tstV (M.ok d S1)
                  rw [tst_ok et]; rfl
                | false => rfl
        have go : ∀ t, PW X (.BoolOp .Or (y :: r) pos) t → (∀ S1 ca1 H1, Fr ca H ca1 H1 → Rp X.K ca1 S1 H1 → tstV (ev Γ b σ S1) = some r0 → t ρ H1 Q) → wpT X (.BoolOp .Or (x :: y :: r) pos) ρ H Q := fun t pt ht => by
          refine wpt_of (PW.pt (pw_or pt_wp pt)) ?_
          refine snd_test Sa hc'.1 C he2 (fun d S1 r h => by split at h; exact ⟨_, by assumption⟩; exact ⟨_, by assumption⟩; cases h) q.x fun d S1 k e1 ek ca1 H1 f1 R1 => ?_
          rw [ek] at e1
          cases k with
          | false => rw [if_neg Bool.false_ne_true]; exact ht S1 ca1 H1 f1 R1 e1
          | true =>
            rw [if_pos rfl]
            have := ok_inj e1
            subst this
            exact q ca1 H1 f1 R1
        cases r with
        | nil => exact go _ (pw_or1 pt_wp) fun S1 ca1 H1 f1 R1 e1 => Sb y hot sc X W ca1 S1 σ ρ H1 hc'.2 (C.step f1 R1) _ e1 Q (q.after f1)
        | cons z r => exact go _ (pw_bool pt_wp) fun S1 ca1 H1 f1 R1 e1 => Sb _ hot sc X W ca1 S1 σ ρ H1 hc'.2 (C.step f1 R1) _ e1 Q (q.after f1)
  | _ => simp [chk] at hc
/-- of a bool told, its test -/
theorem tst_pur {o : Option Bool} {S1 : Sto} : tstV (pur (o.map .bl) S1) = (match o with
    | some k => M.ok k S1
    | none => none) := by
  cases o with
  | none => rfl
  | some k => rfl
theorem bind_tst {x : M D} {f : D → Sto → M D} : tstV (x.bind f) = x.bind fun d S => tstV (f d S) := by
  cases x with
  | none => rfl
  | some z => cases z <;> rfl
theorem cmp_t {o : CmpOp} {a b : E} (Sa : SndE bl Γ a) (Sb : SndE bl Γ b) : SndT bl Γ (.cmp o a b) := by
  intro x hot sc X W ca S σ ρ H hc C r he Q q
  cases x with
  | Compare x ops l pos =>
    match ops, l with
    | [p], [y] =>
      have hc' : (decide (o = p) && chk bl hot X.N sc a x && chk bl hot X.N sc b y && okX y) = true := by unfold chk at hc; exact hc
      simp only [Bool.and_eq_true, decide_eq_true_eq] at hc'
      obtain ⟨⟨⟨h1, h2⟩, h3⟩, h4⟩ := hc'
      subst h1
      unfold ev at he
      simp only [bind_tst, tst_pur] at he
      refine wpt_of (pt_cmpR (op_cmp (un65 C.ok) o) pe_wp pe_wp (mark_ok h4 o)) ?_
      refine snd_bind Sa h2 C he q.x fun da S1 he1 va ca1 H1 f1 R1 ra => ?_
      refine snd_bind Sb h3 (C.step f1 R1) he1 (q.x.after f1) fun db S2 he2 vb ca2 H2 f2 R2 rb => ?_
      split at he2
      · rename_i k ek
        have := ok_inj he2
        subst this
        exact cmp_ok R2 (ra.fr f2) rb ek ⟨k, rfl, q ca2 H2 (f1.trans f2) R2⟩
      · cases he2
    | [], _ => simp [chk] at hc
    | _ :: _ :: _, _ => cases l <;> simp [chk] at hc
    | [_], [] => simp [chk] at hc
    | [_], _ :: _ :: _ => simp [chk] at hc
  | _ => simp [chk] at hc
theorem cmp2_t {o o' : CmpOp} {a b c : E} (Sa : SndE bl Γ a) (Sb : SndE bl Γ b) (Sc : SndE bl Γ c) : SndT bl Γ (.cmp2 o o' a b c) := by
  intro x hot sc X W ca S σ ρ H hc C r he Q q
  cases x with
  | Compare x ops l pos =>
    match ops, l with
    | [p, p'], [y, z] =>
      have hc' : (decide (o = p) && decide (o' = p') && chk bl hot X.N sc a x && chk bl hot X.N sc b y && chk bl hot X.N sc c z && okX z) = true := by unfold chk at hc; exact hc
      simp only [Bool.and_eq_true, decide_eq_true_eq] at hc'
      obtain ⟨⟨⟨⟨⟨h1, h1'⟩, h2⟩, h3⟩, h4⟩, h5⟩ := hc'
      subst h1 h1'
      unfold ev at he
      simp only [bind_tst] at he
      refine wpt_of (pt_chain (op_cmp (un65 C.ok) o) (op_cmp (un65 C.ok) o') pe_wp pe_wp pe_wp (show lastMarks [o'] [z] = false from mark_ok h5 o')) ?_
      refine snd_bind Sa h2 C he q.x fun da S1 he1 va ca1 H1 f1 R1 ra => ?_
      refine snd_bind Sb h3 (C.step f1 R1) he1 (q.x.after f1) fun db S2 he2 vb ca2 H2 f2 R2 rb => ?_
      have q2 := q.after (f1.trans f2)
      split at he2
      · rename_i ek
        rw [bind_tst] at he2
        simp only [tst_pur] at he2
        refine cmp_ok R2 (ra.fr f2) rb ek ⟨true, rfl, ?_⟩
        rw [if_pos rfl]
        refine snd_bind Sc h4 ((C.step f1 R1).step f2 R2) he2 q2.x fun dc S3 he3 vc ca3 H3 f3 R3 rc => ?_
        split at he3
        · rename_i k ek2
          have := ok_inj he3
          subst this
          exact cmp_ok R3 (rb.fr f3) rc ek2 ⟨k, rfl, q2 ca3 H3 f3 R3⟩
        · cases he3
      · rename_i ek
        refine cmp_ok R2 (ra.fr f2) rb ek ⟨false, rfl, ?_⟩
        rw [if_neg Bool.false_ne_true]
        have := ok_inj (show M.ok false S2 = some r from he2)
        subst this
        exact ⟨false, rfl, q2 ca2 H2 .refl R2⟩
      · cases he2
    | [], _ => simp [chk] at hc
    | [_], [] => simp [chk] at hc
    | [_], [_] => simp [chk] at hc
    | [_], _ :: _ :: _ => simp [chk] at hc
    | [_, _], [] => simp [chk] at hc
    | [_, _], [_] => simp [chk] at hc
    | [_, _], _ :: _ :: _ :: _ => simp [chk] at hc
    | _ :: _ :: _ :: _, _ => cases l <;> simp [chk] at hc
  | _ => simp [chk] at hc
theorem cmp3_t {o o' o2 : CmpOp} {a b c d : E} (Sa : SndE bl Γ a) (Sb : SndE bl Γ b) (Sc : SndE bl Γ c) (Sd : SndE bl Γ d) : SndT bl Γ (.cmp3 o o' o2 a b c d) := by
  intro x hot sc X W ca S σ ρ H hc C r he Q q
  cases x with
  | Compare x ops l pos =>
    match ops, l with
    | [p, p', p2], [y, z, t] =>
      have hc' : (decide (o = p) && decide (o' = p') && decide (o2 = p2) && chk bl hot X.N sc a x && chk bl hot X.N sc b y && chk bl hot X.N sc c z && chk bl hot X.N sc d t && okX t) = true := by unfold chk at hc; exact hc
      simp only [Bool.and_eq_true, decide_eq_true_eq] at hc'
      obtain ⟨⟨⟨⟨⟨⟨⟨h1, h1'⟩, h12⟩, h2⟩, h3⟩, h4⟩, h5⟩, h6⟩ := hc'
      subst h1 h1' h12
      unfold ev at he
      simp only [bind_tst] at he
      refine wpt_of (pt_chain3 (op_cmp (un65 C.ok) o) (op_cmp (un65 C.ok) o') (op_cmp (un65 C.ok) o2) pe_wp pe_wp pe_wp pe_wp (show lastMarks [o2] [t] = false from mark_ok h6 o2)) ?_
      refine snd_bind Sa h2 C he q.x fun da S1 he1 va ca1 H1 f1 R1 ra => ?_
      refine snd_bind Sb h3 (C.step f1 R1) he1 (q.x.after f1) fun db S2 he2 vb ca2 H2 f2 R2 rb => ?_
      have q2 := q.after (f1.trans f2)
      have C2 := (C.step f1 R1).step f2 R2
      split at he2
      · rename_i ek
        rw [bind_tst] at he2
        refine cmp_ok R2 (ra.fr f2) rb ek ⟨true, rfl, ?_⟩
        rw [if_pos rfl]
        refine snd_bind Sc h4 C2 he2 q2.x fun dc S3 he3 vc ca3 H3 f3 R3 rc => ?_
        have q3 := q2.after f3
        split at he3
        · rename_i ek2
          rw [bind_tst] at he3
          simp only [tst_pur] at he3
          refine cmp_ok R3 (rb.fr f3) rc ek2 ⟨true, rfl, ?_⟩
          rw [if_pos rfl]
          refine snd_bind Sd h5 (C2.step f3 R3) he3 q3.x fun dd S4 he4 vd ca4 H4 f4 R4 rd => ?_
          split at he4
          · rename_i k ek3
            have := ok_inj he4
            subst this
            exact cmp_ok R4 (rc.fr f4) rd ek3 ⟨k, rfl, q3 ca4 H4 f4 R4⟩
          · cases he4
        · rename_i ek2
          refine cmp_ok R3 (rb.fr f3) rc ek2 ⟨false, rfl, ?_⟩
          rw [if_neg Bool.false_ne_true]
          have := ok_inj (show M.ok false S3 = some r from he3)
          subst this
          exact ⟨false, rfl, q3 ca3 H3 .refl R3⟩
        · cases he3
      · rename_i ek
        refine cmp_ok R2 (ra.fr f2) rb ek ⟨false, rfl, ?_⟩
        rw [if_neg Bool.false_ne_true]
        have := ok_inj (show M.ok false S2 = some r from he2)
        subst this
        exact ⟨false, rfl, q2 ca2 H2 .refl R2⟩
      · cases he2
    | [], _ => simp [chk] at hc
    | [_], l => cases l <;> simp [chk] at hc
    | [_, _], l => cases l <;> simp [chk] at hc
    | [_, _, _], [] => simp [chk] at hc
    | [_, _, _], [_] => simp [chk] at hc
    | [_, _, _], [_, _] => simp [chk] at hc
    | [_, _, _], _ :: _ :: _ :: _ :: _ => simp [chk] at hc
    | _ :: _ :: _ :: _ :: _, _ => cases l <;> simp [chk] at hc
  | _ => simp [chk] at hc
theorem truth_gc {S S1 : Sto} {d : D} : truth (gcv S d S1).2 (gcv S d S1).1 = truth S1 d := by
  unfold gcv
  split
  · rename_i h
    cases d with
    | ref n =>
      have hn : n < S.length := h.1
      show (match (S1.take S.length)[n]? with | some (.lst xs) => some (!xs.isEmpty) | some (.dK kvs) => some (!kvs.isEmpty) | _ => none) = _
      rw [List.getElem?_take_of_lt hn]
      rfl
    | _ => rfl
  · split
    · split
      · rename_i c ec
        split
        · rename_i h
          have hl : S.length ≤ S1.length := Nat.le_trans h.1 (Nat.le_of_lt (List.getElem?_eq_some_iff.mp ec).1)
          have e : (S1.take S.length ++ [c])[S.length]? = some c := by
            rw [List.getElem?_append_right (by rw [List.length_take]; omega), List.length_take]
            simp [Nat.min_eq_left hl]
          simp only [truth, e, ec]
        · rfl
      · rfl
    · rfl
theorem gc_ok2 {K : PySem.W.Frag} {ca' : Am} {S S1 : Sto} {d : D} (R : Rp K ca S H) (f : Fr ca H ca' H') (R' : Rp K ca' S1 H') : ∃ ca2, Fr ca H ca2 H' ∧ Rp K ca2 (gcv S d S1).2 H' := by
  by_cases h : ∃ m c, d = .ref m ∧ S1[m]? = some c
  · obtain ⟨m, c, rfl, ec⟩ := h
    obtain ⟨a, ea, _⟩ := R'.at ec
    obtain ⟨ca2, f2, R2, _⟩ := gc_ok R f R' (d := .ref m) (v := .ref a) ⟨a, ea, rfl⟩ (d2 := (gcv S (.ref m) S1).1) (S2 := (gcv S (.ref m) S1).2) rfl
    exact ⟨ca2, f2, R2⟩
  · unfold gcv
    split
    · rename_i hc
      obtain ⟨f2, R2⟩ := R.cut f R' hc.2.1 hc.2.2
      exact ⟨ca, f2, R2⟩
    · split
      · split
        · rename_i c ec
          exact absurd ⟨_, c, rfl, ec⟩ h
        · exact ⟨ca', f, R'⟩
      · exact ⟨ca', f, R'⟩
theorem gc_t {e : E} (Se : SndT bl Γ e) : SndT bl Γ (.gc e) := by
  intro x hot sc X W ca S σ ρ H hc C r he Q q
  have hc' : chk bl hot X.N sc e x = true := by unfold chk at hc; exact hc
  unfold ev at he
  rw [bind_tst] at he
  refine snd_test Se hc' C he (fun d S1 r h => ?_) q.x fun d S1 b e1 eb ca1 H1 f1 R1 => ?_
  · have h' : tru (gcv S d S1).1 (gcv S d S1).2 = some r := h
    unfold tru at h'
    rw [truth_gc] at h'
    cases et : truth S1 d with
    | none => rw [et] at h'; cases h'
    | some b => exact ⟨b, rfl⟩
  · have h' : tru (gcv S d S1).1 (gcv S d S1).2 = some r := e1
    unfold tru at h'
    rw [truth_gc, eb] at h'
    have := ok_inj h'
    subst this
    obtain ⟨ca2, f2, R2⟩ := gc_ok2 (d := d) C.rp f1 R1
    exact q ca2 H1 f2 R2
theorem ife_snd {c a b : E} (Sc : tstOk c = true → SndT bl Γ c) (Sa : SndE bl Γ a) (Sb : SndE bl Γ b) : SndE bl Γ (.ife c a b) := by
  intro x hot sc X W ca S σ ρ H hc C r he Q q
  cases x with
  | IfExp x y z pos =>
    have hc' : (tstOk c && chk bl hot X.N sc c x && chk bl hot X.N sc a y && chk bl hot X.N sc b z) = true := by unfold chk at hc; exact hc
    simp only [Bool.and_eq_true] at hc'
    obtain ⟨⟨⟨h0, h1⟩, h2⟩, h3⟩ := hc'
    unfold ev at he
    refine wp_of (pe_ifExp pt_wp pe_wp pe_wp) ?_
    refine snd_test (Sc h0) h1 C he (fun d S1 r h => by split at h; exact ⟨_, by assumption⟩; exact ⟨_, by assumption⟩; cases h) q.x fun d S1 k e1 ek ca1 H1 f1 R1 => ?_
    rw [ek] at e1
    cases k with
    | true =>
      rw [if_pos rfl]
      exact Sa y hot sc X W ca1 S1 σ ρ H1 h2 (C.step f1 R1) _ e1 Q (q.after f1)
    | false =>
      rw [if_neg Bool.false_ne_true]
      exact Sb z hot sc X W ca1 S1 σ ρ H1 h3 (C.step f1 R1) _ e1 Q (q.after f1)
  | _ => simp [chk] at hc
end
end Hv
/-! Hv7: targets, what is walked, comprehensions, the theorem for expressions. -/
namespace Hv
open PySem PySem.Spec
open PyProof.Rows hiding St
open L2

/-! ### slots stored -/
theorem wipe_len (σ : L2.St) : ∀ vs, (L2.wipe σ vs).length = σ.length := L2.wipe_length σ
theorem wipe_get (σ : L2.St) (i : Nat) : ∀ vs : List Nat, (L2.wipe σ vs)[i]? = if i ∈ vs then (σ[i]?).map (fun _ => none) else σ[i]?
  | [] => by simp [L2.wipe]
  | v :: vs => by
    unfold L2.wipe
    rw [List.getElem?_set]
    have ih := wipe_get σ i vs
    by_cases h : v = i
    · subst h
      simp only [if_true, List.mem_cons, true_or]
      rw [wipe_len]
      by_cases hl : v < σ.length
      · simp [hl]
      · simp [hl]
    · simp only [h, if_false, List.mem_cons]
      rw [ih]
      have : (i = v ∨ i ∈ vs) ↔ i ∈ vs := ⟨fun z => z.elim (fun z => absurd z.symm h) id, .inr⟩
      simp only [this]
theorem wipe_set {σ : L2.St} {i : Nat} {x : Option V} {vs : List Nat} (h : i ∈ vs) : L2.wipe (σ.set i x) vs = L2.wipe σ vs := by
  apply List.ext_getElem?
  intro j
  rw [wipe_get, wipe_get, List.getElem?_set]
  by_cases hj : j ∈ vs
  · simp only [hj, if_true]
    by_cases e : i = j
    · subst e
      by_cases hl : i < σ.length <;> simp [hl]
    · simp [e]
  · have : i ≠ j := fun z => hj (z ▸ h)
    simp [hj, this]
theorem wipe_idem {σ : L2.St} {vs : List Nat} : L2.wipe (L2.wipe σ vs) vs = L2.wipe σ vs := by
  apply List.ext_getElem?
  intro j
  rw [wipe_get, wipe_get]
  by_cases hj : j ∈ vs
  · simp only [hj, if_true, Option.map_map]
    rfl
  · simp [hj]

section
variable {pn : List (Addr × Obj)} {K : PySem.W.Frag} {ca : Am} {H : Hp} {σ σ' : List Sl} {ρ : L2.St}
theorem putS_lt {i : Nat} {s : Sl} (h : putS σ i s = some σ') : i < σ.length ∧ σ' = σ.set i s := by
  unfold putS at h
  split at h
  · rename_i e; cases h; exact ⟨e, rfl⟩
  · cases h
theorem Sls.put (R : Sls pn K ca H σ ρ) {i : Nat} {s : Sl} {o : Option V} (h : SlRep pn K ca H s (some o)) (hi : i < σ.length) : Sls pn K ca H (σ.set i s) (ρ.set i o) := by
  have hr : i < ρ.length := by rw [← R.len]; exact hi
  refine ⟨by simp [R.len], fun j t e => ?_⟩
  by_cases hj : j = i
  · subst hj
    rw [List.getElem?_set_self hi] at e
    cases e
    rw [List.getElem?_set_self hr]
    exact h
  · rw [List.getElem?_set_ne (Ne.symm hj)] at e
    rw [List.getElem?_set_ne (Ne.symm hj)]
    exact R.sl j t e
theorem Sls.putV (R : Sls pn K ca H σ ρ) {i : Nat} {d : D} {v : V} (h : putS σ i (.v d) = some σ') (r : RepD K ca H d v) : Sls pn K ca H σ' (ρ.set i (some v)) := by
  obtain ⟨h1, rfl⟩ := putS_lt h
  exact R.put ⟨v, rfl, r⟩ h1
theorem Sls.putOut (R : Sls pn K ca H σ ρ) (i : Nat) (o : Option V) : Sls pn K ca H (σ.set i .out) (ρ.set i o) := by
  by_cases hi : i < σ.length
  · exact R.put trivial hi
  · rw [List.set_eq_of_length_le (by omega), List.set_eq_of_length_le (by rw [← R.len]; omega)]
    exact R
theorem Sls.out (R : Sls pn K ca H σ ρ) (i : Nat) : Sls pn K ca H (σ.set i .out) ρ := by
  refine ⟨by simp [R.len], fun j t e => ?_⟩
  by_cases hj : j = i
  · subst hj
    by_cases hi : j < σ.length
    · rw [List.getElem?_set_self hi] at e; cases e; trivial
    · rw [List.getElem?_eq_none (by simpa using hi)] at e; cases e
  · rw [List.getElem?_set_ne (Ne.symm hj)] at e; exact R.sl j t e
theorem Sls.wipe (R : Sls pn K ca H σ ρ) : ∀ (vs : List Nat), Sls pn K ca H (wipeS σ vs) (L2.wipe ρ vs)
  | [] => R
  | v :: vs => (Sls.wipe R vs).putOut v none
theorem Sls.noX (R : Sls pn K ca H σ ρ) : Sls [] K ca H (noX σ) ρ := by
  refine ⟨by unfold Hv.noX; rw [List.length_map]; exact R.len, fun i s e => ?_⟩
  unfold Hv.noX at e
  rw [List.getElem?_map] at e
  cases e1 : σ[i]? with
  | none => rw [e1] at e; cases e
  | some t =>
    rw [e1] at e
    cases e
    have r := R.sl i t e1
    cases t with
    | v d => exact r
    | x _ => trivial
    | out => trivial
end
/-! ### targets -/
def gsr : List Nat → TGs
  | [] => gNil
  | i :: is => gCons (gName i) (gsr is)
def gr (K : PySem.W.Frag) : G → TG
  | .nm i => gName i
  | .tup is => gTup K is.length (gsr is)
section
variable {bl : List Str} {hot : Bool} {sc : Scope} {X : Cx} {str : Bool}
theorem nm_name {N : List Str} {i : Nat} {e : Expr} (h : nmOk str N sc i e = true) : ∃ x p, e = .Name x p ∧ N[i]? = some x ∧ (if str then decide (sc.names.lookup x = some .local) else locB sc x) = true := by
  cases e with
  | Name x p =>
    have h' : (decide (N[i]? = some x) && (if str then decide (sc.names.lookup x = some .local) else locB sc x)) = true := h
    rw [Bool.and_eq_true] at h'
    exact ⟨x, p, rfl, of_decide_eq_true h'.1, h'.2⟩
  | _ => simp [nmOk] at h
theorem pg_nm {i : Nat} {e : Expr} (C : Cok bl hot sc X) (hf : str = false → ∀ x, X.fn x = true) (h : nmOk str X.N sc i e = true) : PG X e (gName i) := by
  obtain ⟨x, p, rfl, h1, h2⟩ := nm_name h
  cases str with
  | true =>
    have h3 : sc.names.lookup x = some .local := by simpa using h2
    rw [← C.scope] at h3
    exact pg_name C.nd h1 (.inl h3) (.inr h3)
  | false => exact pg_name C.nd h1 (loc_of C.scope (by simpa using h2)) (.inl (hf rfl x))
theorem pgs_nms (C : Cok bl hot sc X) (hf : str = false → ∀ x, X.fn x = true) : ∀ {is : List Nat} {es : List Expr}, nmsOk str X.N sc is es = true → PGs X es (gsr is) ∧ es.length = is.length ∧ assignEach es X.env = es.map fun e => (false, assign e X.env)
  | [], [], _ => ⟨pgs_nil, rfl, rfl⟩
  | [], _ :: _, h => by simp [nmsOk] at h
  | _ :: _, [], h => by simp [nmsOk] at h
  | i :: is, e :: es, h => by
    have h' : nmOk str X.N sc i e = true ∧ nmsOk str X.N sc is es = true := by simpa [nmsOk] using h
    obtain ⟨r1, r2, r3⟩ := pgs_nms C hf h'.2
    have g := pg_nm C hf h'.1
    obtain ⟨x, p, rfl, _⟩ := nm_name h'.1
    exact ⟨pgs_cons g r1 rfl, by simp [r2], by show (false, _) :: assignEach es X.env = _; rw [r3]; rfl⟩
theorem pg_of {g : G} {t : Expr} (hh : hot = false ∨ ∃ i, g = .nm i) (C : Cok bl hot sc X) (hf : str = false → ∀ x, X.fn x = true) (h : chkG str X.N sc g t = true) : PG X t (gr X.K g) := by
  cases g with
  | nm i => exact pg_nm C hf h
  | tup is =>
    cases t with
    | Tuple es k p =>
      obtain ⟨r1, r2, r3⟩ := pgs_nms C hf (show nmsOk str X.N sc is es = true from h)
      refine pg_tup (C.calm (hh.resolve_right (by rintro ⟨i, e⟩; cases e))) r1 (by rw [r3, List.length_map, r2]) ?_
      rw [r3]
      rw [List.findIdx?_eq_none_iff]
      simp
    | _ => simp [chkG] at h
theorem gslots_lt {g : G} {t : Expr} {N : List Str} (h : chkG str N sc g t = true) : ∀ i ∈ gSlots g, i < N.length := by
  have key : ∀ {is : List Nat} {es : List Expr}, nmsOk str N sc is es = true → ∀ i ∈ is, i < N.length := by
    intro is
    induction is with
    | nil => intro es _ i hi; cases hi
    | cons j is ih =>
      intro es h i hi
      cases es with
      | nil => simp [nmsOk] at h
      | cons e es =>
        have h' : nmOk str N sc j e = true ∧ nmsOk str N sc is es = true := by simpa [nmsOk] using h
        rcases List.mem_cons.mp hi with rfl | hi
        · obtain ⟨x, p, rfl, h1, _⟩ := nm_name h'.1
          exact (List.getElem?_eq_some_iff.mp h1).1
        · exact ih h'.2 i hi
  cases g with
  | nm j =>
    intro i hi
    have e : i = j := by simpa [gSlots] using hi
    subst e
    obtain ⟨x, p, rfl, h1, _⟩ := nm_name (show nmOk str N sc i t = true from h)
    exact (List.getElem?_eq_some_iff.mp h1).1
  | tup is =>
    cases t with
    | Tuple es k p => exact key (show nmsOk str N sc is es = true from h)
    | _ => simp [chkG] at h

theorem gr_ok {pn : List (Addr × Obj)} {K : PySem.W.Frag} {ca : Am} {σ σ' : List Sl} {ρ : L2.St} {H : Hp} {g : G} {x : D} {v : V} (R : Sls pn K ca H σ ρ) (h : setG g x σ = some σ') (r : RepD K ca H x v)
    {Q : L2.St → Hp → Prop} (q : ∀ ρ', ρ'.length = ρ.length → (∀ vs, (∀ i ∈ gSlots g, i ∈ vs) → L2.wipe ρ' vs = L2.wipe ρ vs) → Sls pn K ca H σ' ρ' → Q ρ' H) : gr K g v ρ H Q := by
  have key : ∀ (is : List Nat) (xs : List D) (vs : List V) (σ : List Sl) (ρ : L2.St), Sls pn K ca H σ ρ → setGs is xs σ = some σ' → RepDs K ca H xs vs → ∀ Q : L2.St → Hp → Prop,
      (∀ ρ', ρ'.length = ρ.length → (∀ vs, (∀ i ∈ is, i ∈ vs) → L2.wipe ρ' vs = L2.wipe ρ vs) → Sls pn K ca H σ' ρ' → Q ρ' H) → gsr is vs ρ H Q := by
    intro is
    induction is with
    | nil =>
      intro xs vs σ ρ R h r Q q
      cases xs with
      | nil =>
        unfold RepDs at r
        subst r
        have e : σ = σ' := by simpa [setGs] using h
        subst e
        exact ⟨rfl, q ρ rfl (fun _ _ => rfl) R⟩
      | cons _ _ => simp [setGs] at h
    | cons i is ih =>
      intro xs vs σ ρ R h r Q q
      cases xs with
      | nil => simp [setGs] at h
      | cons x xs =>
        unfold RepDs at r
        obtain ⟨v, vr, e1, r1, r2⟩ := r
        subst e1
        unfold setGs at h
        cases e2 : putS σ i (.v x) with
        | none => rw [e2] at h; cases h
        | some σ2 =>
          rw [e2] at h
          have S2 := R.putV (v := v) e2 r1
          refine ⟨v, vr, rfl, ?_⟩
          refine ih xs vr σ2 (ρ.set i (some v)) S2 h r2 Q fun ρ' l' w' S' => ?_
          exact q ρ' (by rw [l', List.length_set]) (fun us hu => by rw [w' us fun j hj => hu j (List.mem_cons_of_mem _ hj), wipe_set (hu i List.mem_cons_self)]) S'
  cases g with
  | nm i =>
    have S2 := R.putV (v := v) (show putS σ i (.v x) = some σ' from h) r
    exact q _ (by rw [List.length_set]) (fun vs hv => wipe_set (hv i (by simp [gSlots]))) S2
  | tup is =>
    have h' : (match tupD x with
      | some xs => setGs is xs σ
      | none => none) = some σ' := h
    split at h'
    · rename_i xs ex
      obtain ⟨a, vs, e, hq, r2⟩ := tup_rd r ex
      subst e
      have hlen : xs.length = is.length := by
        have key2 : ∀ (is : List Nat) (xs : List D) (σ : List Sl), setGs is xs σ = some σ' → xs.length = is.length := by
          intro is
          induction is with
          | nil => intro xs σ h; cases xs with
            | nil => rfl
            | cons _ _ => simp [setGs] at h
          | cons i is ih => intro xs σ h; cases xs with
            | nil => simp [setGs] at h
            | cons x xs =>
              unfold setGs at h
              cases e2 : putS σ i (.v x) with
              | none => rw [e2] at h; cases h
              | some σ2 => rw [e2] at h; simp [ih xs σ2 h]
        exact key2 is xs σ h'
      exact ⟨a, vs, rfl, hq, by rw [r2.length, hlen], key is xs vs σ ρ R h' r2 Q q⟩
    · cases h'
end
/-! ### what is walked -/
/-- the iterator J walks xs wherever its sources stand -/
def ItOk (K : PySem.W.Frag) (ca : Am) (H : Hp) (J : L2.It) (xs : List D) (src : Src) : Prop := ∀ (ca1 : Am) (S1 : Sto) (H1 : Hp), Fr ca H ca1 H1 → Rp K ca1 S1 H1 → stands S1 src →
  (∀ i x, xs[i]? = some x → J.go i H1 ∧ ∀ v H2, J.yld i H1 v H2 → (Fr ca1 H1 ca1 H2 ∧ Rp K ca1 S1 H2) ∧ RepD K ca1 H2 x v) ∧ J.stop xs.length H1
section
variable {K : PySem.W.Frag} {ca : Am} {S : Sto} {H : Hp}
/-- a list's places, later on -/
theorem seq_later (R : Rp K ca S H) {d : D} {xs : List D} {a : Addr} (r : RepD K ca H d (.ref a)) (h : seqS S d = some xs) {ca1 : Am} {S1 : Sto} {H1 : Hp} (f : Fr ca H ca1 H1) (R1 : Rp K ca1 S1 H1) (st : stands S1 (srcOf S d)) : ∃ vs, SqL K H1 a vs ∧ RepDs K ca1 H1 xs vs := by
  have r1 := r.fr f
  have h1 : seqS S1 d = some xs := by
    cases d with
    | fl ys => exact h
    | ref n =>
      have h' : (match S[n]? with | some (.lst xs) => some xs | _ => none) = some xs := h
      split at h'
      · rename_i ys e
        cases h'
        have st' : stands S1 (match S[n]? with | some c => [(n, c)] | none => []) := st
        rw [e] at st'
        show (match S1[n]? with | some (.lst xs) => some xs | _ => none) = _
        rw [st'.1]
      · cases h'
    | _ => cases h
  obtain ⟨b, vs, e, q, rs⟩ := seq_rd R1 r1 h1
  cases e
  exact ⟨vs, q, rs⟩
theorem itl_ok (R : Rp K ca S H) {d : D} {xs : List D} {a : Addr} (r : RepD K ca H d (.ref a)) (h : seqS S d = some xs) : ItOk K ca H (Itl K a) xs (srcOf S d) := fun ca1 S1 H1 f R1 st => by
  obtain ⟨vs, h1, r1⟩ := seq_later R r h f R1 st
  refine ⟨fun i x hx => ?_, vs, h1, by rw [r1.length]; exact Nat.le_refl _⟩
  obtain ⟨y, hy, ry⟩ := r1.get hx
  refine ⟨⟨vs, y, h1, hy⟩, fun v H2 z => ?_⟩
  obtain ⟨rfl, z⟩ := z
  have : vs[i]? = some v := z vs h1
  rw [hy] at this
  cases this
  exact ⟨⟨.refl, R1⟩, ry⟩
theorem itv_ok (R : Rp K ca S H) {d : D} {xs : List D} {a : Addr} (r : RepD K ca H d (.ref a)) (h : seqS S d = some xs) {n : Nat} (hn : n = xs.length) : ItOk K ca H (Itv K a n) xs.reverse (srcOf S d) := fun ca1 S1 H1 f R1 st => by
  obtain ⟨vs, h1, r1⟩ := seq_later R r h f R1 st
  subst hn
  refine ⟨fun i x hx => ?_, by simp [Itv]⟩
  have hi : i < xs.length := by
    have := (List.getElem?_eq_some_iff.mp hx).1
    simpa using this
  have hx' : xs[xs.length - 1 - i]? = some x := by rw [List.getElem?_reverse hi] at hx; exact hx
  obtain ⟨y, hy, ry⟩ := r1.get hx'
  refine ⟨⟨hi, vs, y, h1, hy⟩, fun v H2 z => ?_⟩
  obtain ⟨rfl, z⟩ := z
  have : vs[xs.length - 1 - i]? = some v := z vs h1
  rw [hy] at this
  cases this
  exact ⟨⟨.refl, R1⟩, ry⟩
theorem itt_ok {d : D} {xs : List D} {a : Addr} (r : RepD K ca H d (.ref a)) (h : tupD d = some xs) : ItOk K ca H (Itt K a) xs [] := fun ca1 S1 H1 f R1 st => by
  obtain ⟨b, vs, e1, h1, r1⟩ := tup_rd (r.fr f) h
  cases e1
  refine ⟨fun i x hx => ?_, vs, h1, by rw [r1.length]; exact Nat.le_refl _⟩
  obtain ⟨y, hy, ry⟩ := r1.get hx
  refine ⟨⟨vs, y, h1, hy⟩, fun v H2 z => ?_⟩
  obtain ⟨rfl, z⟩ := z
  have : vs[i]? = some v := z vs h1
  rw [hy] at this
  cases this
  exact ⟨⟨.refl, R1⟩, ry⟩
theorem its_ok {z : Str} : ItOk K ca H (Its z) (strD z) [] := fun ca1 S1 H1 f R1 _ => by
  unfold strD
  refine ⟨fun i x hx => ?_, ?_⟩
  · rw [List.getElem?_map] at hx
    cases e : z.cps.toList[i]? with
    | none => rw [e] at hx; cases hx
    | some c =>
      rw [e] at hx
      cases hx
      have hi : i < z.cps.size := by
        have := (List.getElem?_eq_some_iff.mp e).1
        simpa using this
      refine ⟨hi, fun v H2 q => ?_⟩
      obtain ⟨rfl, d, hd, rfl⟩ := q
      have : d = c := by
        have e2 : z.cps.toList[i]? = some d := by simpa using hd
        rw [e] at e2
        exact (Option.some.inj e2).symm
      subst this
      exact ⟨⟨.refl, R1⟩, rfl⟩
  · show z.cps.size ≤ _
    simp
theorem itr_ok {lo : Int} {n : Nat} : ItOk K ca H (Itr lo n) (rngD lo n) [] := fun ca1 S1 H1 f R1 _ => by
  refine ⟨fun i x hx => ?_, ?_⟩
  · unfold rngD at hx
    rw [List.getElem?_map] at hx
    cases e : (List.range n)[i]? with
    | none => rw [e] at hx; cases hx
    | some c =>
      rw [e] at hx
      cases hx
      obtain ⟨hi, e2⟩ := List.getElem?_eq_some_iff.mp e
      simp at hi e2
      subst e2
      refine ⟨hi, fun v H2 q => ?_⟩
      obtain ⟨rfl, rfl⟩ := q
      exact ⟨⟨.refl, R1⟩, rfl⟩
  · show n ≤ _
    simp [rngD]
theorem enumD_get : ∀ (xs : List D) (n i : Nat) (y : D), (enumD n xs)[i]? = some y → ∃ x, xs[i]? = some x ∧ y = .tup [.int ((n + i : Nat) : Int), x]
  | [], n, i, y, h => by simp [enumD] at h
  | x :: xs, n, 0, y, h => by simp [enumD] at h; exact ⟨x, rfl, by rw [← h]; rfl⟩
  | x :: xs, n, i + 1, y, h => by
    obtain ⟨z, h1, h2⟩ := enumD_get xs (n + 1) i y (by simpa [enumD] using h)
    exact ⟨z, by simpa using h1, by rw [h2, show n + 1 + i = n + (i + 1) by omega]⟩
theorem enumD_length : ∀ (xs : List D) (n : Nat), (enumD n xs).length = xs.length
  | [], _ => rfl
  | _ :: xs, n => by simp [enumD, enumD_length xs]
theorem ite_ok (R : Rp K ca S H) {d : D} {xs : List D} {a : Addr} (r : RepD K ca H d (.ref a)) (h : seqS S d = some xs) : ItOk K ca H (Ite K a) (enumD 0 xs) (srcOf S d) := fun ca1 S1 H1 f R1 st => by
  obtain ⟨vs, h1, r1⟩ := seq_later R r h f R1 st
  refine ⟨fun i y hy => ?_, vs, h1, by rw [r1.length, enumD_length]; exact Nat.le_refl _⟩
  obtain ⟨x, hx, e⟩ := enumD_get xs 0 i y hy
  obtain ⟨u, hu, ru⟩ := r1.get hx
  refine ⟨⟨vs, u, h1, hu⟩, fun v H2 z => ?_⟩
  obtain ⟨T, x', rfl, hT, rfl, z⟩ := z
  have : vs[i]? = some x' := z vs h1
  rw [hu] at this
  cases this
  refine ⟨⟨.same R1 (Same.upd hT) upd_al, R1.same (Same.upd hT)⟩, ?_⟩
  subst e
  have e0 : ((0 + i : Nat) : Int) = (i : Int) := by rw [Nat.zero_add]
  rw [e0]
  exact ⟨T, [.int i, u], rfl, upd_same, .cons rfl (.cons (ru.mono (.of_same (Same.upd hT)) .refl) .nil)⟩
end
section
variable {bl : List Str} {hot : Bool} {sc : Scope} {X : Cx} {Γ : Gam} {W : WX} {ca : Am} {S : Sto} {σ : List Sl} {ρ : L2.St} {H H' : Hp}
def SndIt (bl : List Str) (Γ : Gam) : It → Prop
  | .e e => SndE bl Γ e
  | .tup e => SndE bl Γ e
  | .str e => SndE bl Γ e
  | .enum e => SndE bl Γ e
  | .rev e => SndE bl Γ e
  | .rng1 a => SndE bl Γ a
  | .rng2 a b => SndE bl Γ a ∧ SndE bl Γ b
  | _ => True
def wpI (X : Cx) (tg it : Expr) : TI := fun σ H R => ∀ (pins : List (Addr × Obj)) (s : Shared), Inv X pins σ H s →
    wpAny (model X.prog X.w) X.A (eval it X.env) (fun v s1 => wpAny (model X.prog X.w) X.A (pyIter v) (PIE X pins σ tg R) X.xe s1) X.xe s
theorem pi_wp {tg it : Expr} : PI X tg it (wpI X tg it) := ⟨fun pins s _ _ _ I h => h pins s I⟩
theorem wpi_of {tg it : Expr} {t : TI} {R : L2.It → Hp → Prop} (p : PI X tg it t) (h : t ρ H R) : wpI X tg it ρ H R := fun pins s I => p.run pins s ρ H R I h
theorem bM1 {f : Str} {n : Nat} {x : Expr} {l : List Expr} (h : bM bl sc f n x = some l) : ∃ p pos, x = .Call (.Name f p) l [] pos ∧ glB sc f = true ∧ bl.contains f = true ∧ l.length = n := bM_some h
theorem bind_bind {α β γ : Type} {x : M α} {f : α → Sto → M β} {g : β → Sto → M γ} : (x.bind f).bind g = x.bind fun d S => (f d S).bind g := by
  cases x with
  | none => rfl
  | some z => cases z <;> rfl
theorem it_snd {it : Hv.It} (Si : SndIt bl Γ it) {g : G} {tg x : Expr} (htt : (∃ j, g = .nm j) ∨ ∃ es k p, tg = .Tuple es k p) (ht : tgOk it g = true) (hc : chki bl X.N sc it x = true) (C : Ctx bl false sc X Γ W ca S σ ρ H)
    {β : Type} {F : List D × Src → Sto → M β} {r : Rs β} (he : (evi Γ it σ S).bind F = some r) (hx : XPost X.K ca H r (WE W ρ)) {R : L2.It → Hp → Prop}
    (q : ∀ xs src S1, F (xs, src) S1 = some r → ∀ J ca1 H1, Fr ca H ca1 H1 → Rp X.K ca1 S1 H1 → stands S1 src → ItOk X.K ca1 H1 J xs src → R J H1) : wpI X tg x ρ H R := by
  have stSrc : ∀ (S : Sto) (d : D), stands S (srcOf S d) := fun S d => by
    cases d with
    | ref n =>
      show stands S (match S[n]? with | some c => [(n, c)] | none => [])
      cases e : S[n]? with
      | none => trivial
      | some c => exact ⟨e, trivial⟩
    | _ => trivial
  cases it with
  | e e =>
    have hc' : chk bl false X.N sc e x = true ∧ okX x = true := by simpa [chki] using hc
    unfold evi at he
    rw [bind_bind] at he
    refine wpi_of (pi_list pe_wp) ?_
    refine snd_bind (Si : SndE bl Γ e) hc'.1 C he hx fun d S1 e1 v ca1 H1 f1 R1 r1 => ?_
    split at e1
    · rename_i xs ex
      obtain ⟨a, vs, rfl, h5, r3⟩ := seq_rd R1 r1 ex
      exact ⟨a, rfl, ⟨vs, h5⟩, q _ _ S1 e1 _ ca1 H1 f1 R1 (stSrc _ _) (itl_ok R1 r1 ex)⟩
    · cases e1
  | rev e =>
    unfold chki at hc
    split at hc
    · rename_i y eM
      obtain ⟨p, pos, rfl, g1, b1, _⟩ := bM_some eM
      have hc' : chk bl false X.N sc e y = true ∧ okX y = true := by simpa using hc
      unfold evi at he
      rw [bind_bind] at he
      refine wpi_of (pi_reversed (gl_of C.ok.scope g1) (bln_of C.ok.bln b1) (pa_cons pe_wp pa_nil (star_ok hc'.2 _ _)) (star_ok hc'.2 _ _)) ?_
      refine snd_bind (Si : SndE bl Γ e) hc'.1 C he hx fun d S1 e1 v ca1 H1 f1 R1 r1 => ?_
      split at e1
      · rename_i xs ex
        obtain ⟨a, vs, rfl, h5, r3⟩ := seq_rd R1 r1 ex
        exact ⟨a, vs, rfl, h5, q _ _ S1 e1 _ ca1 H1 f1 R1 (stSrc _ _) (itv_ok R1 r1 ex r3.length)⟩
      · cases e1
    · cases hc
  | tup e =>
    have hc' : chk bl false X.N sc e x = true ∧ okX x = true := by simpa [chki] using hc
    unfold evi at he
    rw [bind_bind] at he
    refine wpi_of (pi_tup pe_wp) ?_
    refine snd_bind (Si : SndE bl Γ e) hc'.1 C he hx fun d S1 e1 v ca1 H1 f1 R1 r1 => ?_
    split at e1
    · rename_i xs ex
      obtain ⟨a, vs, rfl, h5, r3⟩ := tup_rd r1 ex
      exact ⟨a, rfl, ⟨vs, h5⟩, q _ _ S1 e1 _ ca1 H1 f1 R1 trivial (itt_ok r1 ex)⟩
    · cases e1
  | str e =>
    have hc' : chk bl false X.N sc e x = true ∧ okX x = true := by simpa [chki] using hc
    unfold evi at he
    rw [bind_bind] at he
    refine wpi_of (pi_str pe_wp) ?_
    refine snd_bind (Si : SndE bl Γ e) hc'.1 C he hx fun d S1 e1 v ca1 H1 f1 R1 r1 => ?_
    split at e1
    · rename_i z
      rw [r1.strv]
      exact ⟨z, rfl, q _ _ S1 e1 _ ca1 H1 f1 R1 trivial its_ok⟩
    · cases e1
  | rng1 a =>
    unfold chki at hc
    split at hc
    · rename_i y eM
      obtain ⟨p, pos, rfl, g1, b1, _⟩ := bM_some eM
      have hc' : chk bl false X.N sc a y = true ∧ okX y = true := by simpa using hc
      unfold evi at he
      rw [bind_bind] at he
      refine wpi_of (pi_range1 (gl_of C.ok.scope g1) (bln_of C.ok.bln b1) (pa_cons pe_wp pa_nil (star_ok hc'.2 _ _)) (star_ok hc'.2 _ _)) ?_
      refine snd_bind (Si : SndE bl Γ a) hc'.1 C he hx fun d S1 e1 v ca1 H1 f1 R1 r1 => ?_
      split at e1
      · rename_i j
        unfold gP at e1
        split at e1
        · rename_i hj
          rw [r1.intv]
          exact ⟨j, rfl, by rw [pow62]; exact hj.1, by rw [pow62]; exact hj.2, q _ _ S1 e1 _ ca1 H1 f1 R1 trivial itr_ok⟩
        · cases e1
      · cases e1
    · cases hc
  | rng2 a b =>
    unfold chki at hc
    split at hc
    · rename_i y z eM
      obtain ⟨p, pos, rfl, g1, b1, _⟩ := bM_some eM
      have hc' : ((chk bl false X.N sc a y = true ∧ okX y = true) ∧ chk bl false X.N sc b z = true) ∧ okX z = true := by simpa using hc
      obtain ⟨⟨⟨c1, c2⟩, c3⟩, c4⟩ := hc'
      unfold evi at he
      rw [bind_bind] at he
      refine wpi_of (pi_range2 (gl_of C.ok.scope g1) (bln_of C.ok.bln b1) (pa_cons pe_wp (pa_cons pe_wp pa_nil (star_ok c4 _ _)) (star_ok c2 _ _)) (by rw [star_ok c2, star_ok c4]; rfl) (star_ok c4 _ _)) ?_
      refine snd_bind (Si.1 : SndE bl Γ a) c1 C he hx fun d S1 e1 v ca1 H1 f1 R1 r1 => ?_
      rw [bind_bind] at e1
      refine snd_bind (Si.2 : SndE bl Γ b) c3 (C.step f1 R1) e1 (hx.after f1) fun d2 S2 e2 v2 ca2 H2 f2 R2 r2 => ?_
      split at e2
      · rename_i i j
        unfold gP at e2
        split at e2
        · rename_i hj
          rw [r1.intv, r2.intv]
          exact ⟨i, j, rfl, by rw [pow62]; exact hj, q _ _ S2 e2 _ ca2 H2 (f1.trans f2) R2 trivial itr_ok⟩
        · cases e2
      · cases e2
    · cases hc
  | enum a =>
    unfold chki at hc
    split at hc
    · rename_i y eM
      obtain ⟨p, pos, rfl, g1, b1, _⟩ := bM_some eM
      have hc' : chk bl false X.N sc a y = true ∧ okX y = true := by simpa using hc
      unfold evi at he
      rw [bind_bind] at he
      rcases htt with ⟨j, rfl⟩ | ⟨es, kk, tp, rfl⟩
      · cases ht
      refine wpi_of (pi_enum (gl_of C.ok.scope g1) (bln_of C.ok.bln b1) (pa_cons pe_wp pa_nil (star_ok hc'.2 _ _)) (star_ok hc'.2 _ _)) ?_
      refine snd_bind (Si : SndE bl Γ a) hc'.1 C he hx fun d S1 e1 v ca1 H1 f1 R1 r1 => ?_
      split at e1
      · rename_i xs ex
        obtain ⟨a, vs, rfl, h5, r3⟩ := seq_rd R1 r1 ex
        exact ⟨a, vs, rfl, h5, q _ _ S1 e1 _ ca1 H1 f1 R1 (stSrc _ _) (ite_ok R1 r1 ex)⟩
      · cases e1
    · cases hc
  | zip a b => cases he
  | items a => cases he
  | keys a => cases he
end
end Hv
/-! Hv8: comprehensions, isinstance of own classes, the theorem for expressions. -/
namespace Hv
open PySem PySem.Spec
open PyProof.Rows hiding St
open L2
section
variable {bl : List Str} {hot : Bool} {sc : Scope} {X : Cx} {Γ : Gam} {W : WX} {ca : Am} {S : Sto} {σ : List Sl} {ρ : L2.St} {H H' : Hp}
theorem Cok.blk (C : Cok bl hot sc X) (s0 : Shared) (H0 : Hp) (scope : Scope) (cl : List (Str × Addr)) (A : Addr) (fps : List Addr) (hk : scope.kind = .function) : Cok bl hot (relS scope sc) (X.blk s0 H0 scope (compEnvC scope cl A X.env) fps) := by
  refine ⟨?_, C.nd, C.calm, C.un, C.bln, ?_⟩
  · show relS scope X.env.scope = relS scope sc
    rw [C.scope]
  · show (relS scope X.env.scope).kind = .function
    exact hk
/-- an expression in a comprehension's block -/
def wpB (X : Cx) (scope : Scope) (e : Expr) : TE := fun σ H Q => ∀ (s0 : Shared) (H0 : Hp) (A : Addr) (cl : List (Str × Addr)) (fps : List Addr), wpE (X.blk s0 H0 scope (compEnvC scope cl A X.env) fps) e σ H Q
def wpBt (X : Cx) (scope : Scope) : List Expr → TT
  | [] => tYes
  | e :: _ => fun σ H Q => ∀ (s0 : Shared) (H0 : Hp) (A : Addr) (cl : List (Str × Addr)) (fps : List Addr), wpT (X.blk s0 H0 scope (compEnvC scope cl A X.env) fps) e σ H Q
/-- an address that no cell is, its object changed -/
theorem Rp.upd_out {K : PySem.W.Frag} {a : Addr} {u o : HO} (R : Rp K ca S H) (na : a ∉ ca.i) (hu : H a = some u) (ht : ∀ xs, u ≠ .tup xs) (hf : ∀ o xs, u ≠ .frz o (.lst xs)) : Rp K ca S (upd H a o) :=
  ⟨R.len, R.nd, fun n c b e1 e2 => (R.cel n c b e1 e2).mono (tk_upd hu ht hf) .refl fun w z => by
    have : b ≠ a := fun y => na (y ▸ List.mem_of_getElem? e2)
    rw [upd_ne this]; exact z⟩
/-- a tracked thing becomes a cell -/
theorem Rp.push {K : PySem.W.Frag} {a : Addr} {c : C} (R : Rp K ca S H) (na : a ∉ ca.i) (r : CRep K ca H a c) : Rp K (ca.more a) (S ++ [c]) H := by
  refine ⟨by simp [Am.more, R.len], ?_, fun n c' b e1 e2 => ?_⟩
  · show (ca.i ++ [a]).Nodup
    rw [List.nodup_append]
    exact ⟨R.nd, by simp, fun x hx y hy z => by
      have : y = a := by simpa using hy
      subst this; subst z
      exact na hx⟩
  · have e2' : (ca.i ++ [a])[n]? = some b := e2
    by_cases hn : n < S.length
    · rw [List.getElem?_append_left hn] at e1
      rw [List.getElem?_append_left (by rw [← R.len]; exact hn)] at e2'
      exact (R.cel n c' b e1 e2').mono .refl Am.le_more fun u z => z
    · have hl := (List.getElem?_eq_some_iff.mp e1).1
      have : n = S.length := by simp at hl; omega
      subst this
      have e3 : c = c' := by simpa using e1
      have e4 : a = b := by rw [R.len] at e2'; simpa using e2'
      subst e3 e4
      exact r.mono .refl Am.le_more fun u z => z
theorem okv_some {α : Type} {x : M α} {p : α × Sto} (h : okv x = some p) : x = some (.ok p.1 p.2) := by
  unfold okv at h
  split at h
  · cases h; rfl
  · cases h
theorem lc_core {own : List (Str × Nat)} {g : G} {it : Hv.It} {cs : Eo} {e : E} (Si : SndIt bl Γ it) (Sc : ∀ c, cs = .some c → tstOk c = true → SndT bl Γ c) (Se : SndE bl Γ e)
    {elt : Expr} {gens : List Comprehension} {scope : Scope} {pos : Pos} (hc : chk bl hot X.N sc (.lc own g it cs e) (.ListComp elt gens scope pos) = true) (C0 : Ctx bl hot sc X Γ W ca S σ ρ H) {r : Rs D} (he : ev Γ (.lc own g it cs e) σ S = some r) :
    ∃ tg iter ifs, hot = false ∧ gens = [⟨tg, iter, ifs, 0⟩] ∧ BlkOk X.N X.env.scope scope own ∧
      (∀ (s : Shared) (H : Hp) (C : Addr) (cl : List (Str × Addr)) (fp : List Addr), PG (X.blk s H scope (compEnvC scope cl C X.env) fp) tg (gr X.K g)) ∧
      (∀ (s : Shared) (H : Hp) (C : Addr) (cl : List (Str × Addr)) (fp : List Addr), PTs (X.blk s H scope (compEnvC scope cl C X.env) fp) ifs (wpBt X scope ifs)) ∧
      (∀ (s : Shared) (H : Hp) (C : Addr) (cl : List (Str × Addr)) (fp : List Addr), PE (X.blk s H scope (compEnvC scope cl C X.env) fp) elt (wpB X scope elt)) ∧
      (∀ x, foldedSetIterable iter X.env x = pure x) ∧
      ∀ Q : VK, Post X.K ca H r Q (WE W ρ) → tLc (wpI X tg iter) (gr X.K g) (wpBt X scope ifs) (wpB X scope elt) (own.map (·.2)) ρ H Q := by
  have hc0 : (!hot && (match oneGen gens with
    | some (tg, iter, ifs) => chki bl X.N sc it iter && okX iter && tgOk it g && blkC X.N sc scope own && chkG true X.N (relS scope sc) g tg && (gSlots g).all (fun i => (own.map (·.2)).contains i) &&
        (own.map (·.2)).all (fun i => decide (i < X.N.length)) && chk bl false X.N (relS scope sc) e elt && chkc bl X.N (relS scope sc) cs ifs
    | none => false)) = true := by unfold chk at hc; exact hc
  cases hot with
  | true => cases hc0
  | false =>
  cases eg : oneGen gens with
  | none => rw [eg] at hc0; cases hc0
  | some p =>
    obtain ⟨tg, iter, ifs⟩ := p
    rw [eg] at hc0
    simp only [Bool.and_eq_true] at hc0
    obtain ⟨_, ⟨⟨⟨⟨⟨⟨⟨h1, h1'⟩, h2⟩, h3⟩, h4⟩, h5⟩, h6⟩, h7⟩, h8⟩ := hc0
    have hgens : gens = [⟨tg, iter, ifs, 0⟩] := by
      unfold oneGen at eg
      split at eg
      · split at eg
        · rename_i ea
          cases eg
          rw [ea]
        · cases eg
      · cases eg
    subst hgens
    have C := C0
    have ok := blkOk_by h3
    unfold ev at he
    have okB : BlkOk X.N X.env.scope scope own := by rw [C.ok.scope]; exact ok
    -- the parts' readings
    have hin : ∀ i ∈ gSlots g, i ∈ own.map (·.2) := fun i hi => by
      have := List.all_eq_true.mp h5 i hi
      simpa using this
    refine ⟨tg, iter, ifs, rfl, rfl, okB, fun s0 H0 A cl fps => pg_of (.inl rfl) (C.ok.blk s0 H0 scope cl A fps ok.kind) (fun z => by cases z) h4, fun s0 H0 A cl fps => ?_, fun s0 H0 A cl fps => ⟨fun pins s σ H Q I h => h s0 H0 A cl fps pins s I⟩, fun x => fold_ok h1' _ x, fun Q q => ?_⟩
    · cases ifs with
      | nil => exact pts_nil
      | cons c r =>
        cases r with
        | nil => exact pts_one ⟨fun pins s σ H Q I h => h s0 H0 A cl fps pins s I⟩
        | cons _ _ => cases cs <;> simp [chkc] at h8
    have htt : (∃ j, g = .nm j) ∨ ∃ es k p, tg = .Tuple es k p := by
      cases g with
      | nm j => exact .inl ⟨j, rfl⟩
      | tup is => cases tg with
        | Tuple es k p => exact .inr ⟨es, k, p, rfl⟩
        | _ => simp [chkG] at h4
    refine it_snd Si (tg := tg) htt h2 h1 C he q.x fun xs src S1 e1 J ca1 H1 f1 R1 st1 hJ => fun Da hD => ?_
    obtain ⟨hz, e1⟩ := gP_ok e1
    unfold lift at e1
    split at e1
    · rename_i d2 S2 e2
      obtain ⟨⟨ys, S3⟩, e3, e4⟩ := Option.bind_eq_some_iff.mp e2
      cases e4
      have hr := ok_inj e1
      subst hr
      have q' : Fin X.K ca H (.ref S3.length) (S3 ++ [.lst ys]) Q := Post.fin q
      have hz' : xs.length ≤ sizeLine := hz
      generalize hB : (fun x => setG g x (wipeS (noX σ) (own.map (·.2)))) = bnd at e3
      have Sw0 : Sls ([] : List (Addr × Obj)) X.K ca H (wipeS (noX σ) (own.map (·.2))) (L2.wipe ρ (own.map (·.2))) := C.sl.noX.wipe _
      refine ⟨fun i m H2 => ∃ ca2 S2 acc accv rest, m = xs.length - i ∧ i ≤ xs.length ∧ Fr ca1 H1 ca2 H2 ∧ Rp X.K ca2 S2 H2 ∧ Da ∉ ca2.i ∧ stands S2 src ∧ H2 Da = some (.lst accv) ∧ RepDs X.K ca2 H2 acc accv ∧ acc.length ≤ i ∧
          lcRun src bnd (evc Γ cs) (ev Γ e) (xs.drop i) S2 = some (rest, S3) ∧ ys = acc ++ rest,
        ⟨xs.length, ca1, S1, [], [], ys, by simp, Nat.zero_le _, .same R1 (Same.upd hD) upd_al, R1.same (Same.upd hD), R1.free hD, st1, upd_same, .nil, Nat.zero_le _, by rw [List.drop_zero]; exact e3, rfl⟩, ?_⟩
      rintro i m H2 ⟨ca2, S2, acc, accv, rest, rfl, hi, f2, R2, nD, st2, hD2, racc, hacc, hrun, hys⟩
      obtain ⟨hgo, hstop⟩ := hJ ca2 S2 H2 f2 R2 st2
      by_cases hlt : i < xs.length
      · have hx : xs[i]? = some xs[i] := List.getElem?_eq_getElem hlt
        obtain ⟨go, yld⟩ := hgo i _ hx
        refine .inr ⟨go, fun H3 => ∃ ca3 S4 acc accv rest, Fr ca1 H1 ca3 H3 ∧ Rp X.K ca3 S4 H3 ∧ Da ∉ ca3.i ∧ stands S4 src ∧ H3 Da = some (.lst accv) ∧ RepDs X.K ca3 H3 acc accv ∧ acc.length ≤ i + 1 ∧
          lcRun src bnd (evc Γ cs) (ev Γ e) (xs.drop (i + 1)) S4 = some (rest, S3) ∧ ys = acc ++ rest, ?_, ?_⟩
        · rintro H3 ⟨ca3, S4, acc', accv', rest', a1, a2, a3, a4, a5, a6, a7, a8, a9⟩
          exact ⟨xs.length - (i + 1), by omega, ca3, S4, acc', accv', rest', rfl, hlt, a1, a2, a3, a4, a5, a6, a7, a8, a9⟩
        · intro v H3 hy
          obtain ⟨⟨f3, R3⟩, rx⟩ := yld v H3 hy
          rw [List.drop_eq_getElem_cons hlt] at hrun
          unfold lcRun at hrun
          obtain ⟨σ2, eb, hrun⟩ := Option.bind_eq_some_iff.mp hrun
          obtain ⟨⟨bt, S4⟩, et, hrun⟩ := Option.bind_eq_some_iff.mp hrun
          subst hB
          have fT : Fr ca H ca2 H3 := (f1.trans f2).trans f3
          have Sw : Sls ([] : List (Addr × Obj)) X.K ca2 H3 (wipeS (noX σ) (own.map (·.2))) (L2.wipe ρ (own.map (·.2))) := Sw0.fr C.rp fT
          refine gr_ok Sw eb rx fun ρ2 l2 w2 Sl2 => ?_
          have l2' : ρ2.length = X.N.length := by rw [l2, wipe_len, C.ln]
          refine ⟨by rw [w2 _ hin, wipe_idem], ?_⟩
          have hD3 : H3 Da = some (.lst accv) := f3.st _ _ hD2 nD
          have ctx : ∀ (s0 : Shared) (H0 : Hp) (A : Addr) (cl : List (Str × Addr)) (fps : List Addr) (ca4 : Am) (S5 : Sto) (H4 : Hp), Fr ca2 H3 ca4 H4 → Rp X.K ca4 S5 H4 → Ctx bl false (relS scope sc) (X.blk s0 H0 scope (compEnvC scope cl A X.env) fps) Γ (fun _ _ _ _ => False) ca4 S5 σ2 ρ2 H4 := fun s0 H0 A cl fps ca4 S5 H4 f4 R4 =>
            ⟨C.ok.blk s0 H0 scope cl A fps ok.kind, fun h => by rw [← (fT.trans f4).le.1]; exact C.fns h, fun n g e => by rw [← (fT.trans f4).le.1]; exact C.kf n g e, R4, Sl2.fr R3 f4, l2', takes0⟩
          -- the element, the list grown
          have elt_go : ∀ ca4 H4, Fr ca2 H3 ca4 H4 → Rp X.K ca4 S4 H4 → bt = true → wpB X scope elt ρ2 H4 fun y H5 => ∃ acc', H5 Da = some (.lst acc') ∧ acc'.length < sizeLine ∧
              (∃ ca3 S4 acc accv rest, Fr ca1 H1 ca3 (upd H5 Da (.lst (acc' ++ [y]))) ∧ Rp X.K ca3 S4 (upd H5 Da (.lst (acc' ++ [y]))) ∧ Da ∉ ca3.i ∧ stands S4 src ∧ (upd H5 Da (.lst (acc' ++ [y]))) Da = some (.lst accv) ∧ RepDs X.K ca3 (upd H5 Da (.lst (acc' ++ [y]))) acc accv ∧ acc.length ≤ i + 1 ∧
          lcRun src (fun x => setG g x (wipeS (noX σ) (own.map (·.2)))) (evc Γ cs) (ev Γ e) (xs.drop (i + 1)) S4 = some (rest, S3) ∧ ys = acc ++ rest) := fun ca4 H4 f4 R4 hb => by
            subst hb
            simp only [if_true] at hrun
            obtain ⟨⟨y, S5⟩, ey, hrun⟩ := Option.bind_eq_some_iff.mp hrun
            obtain ⟨hst, hrun⟩ := gP_ok hrun
            obtain ⟨⟨zs, S6⟩, ez, hrun⟩ := Option.map_eq_some_iff.mp hrun
            have e6 : y :: zs = rest ∧ S6 = S3 := by simpa using hrun
            obtain ⟨rfl, rfl⟩ := e6
            intro s0 H0 A cl fps
            refine Se elt false (relS scope sc) (X.blk s0 H0 scope (compEnvC scope cl A X.env) fps) _ ca4 S4 σ2 ρ2 H4 h7 (ctx s0 H0 A cl fps ca4 S4 H4 f4 R4) _ (okv_some ey) _ fun vy ca5 H5 f5 R5 ry => ?_
            have nD4 : Da ∉ ca4.i := fun z => (f4.new _ z).elim nD fun w => by rw [hD3] at w; cases w
            have hD4 : H4 Da = some (.lst accv) := f4.st _ _ hD3 nD
            have nD5 : Da ∉ ca5.i := fun z => (f5.new _ z).elim nD4 fun w => by rw [hD4] at w; cases w
            have hD5 : H5 Da = some (.lst accv) := f5.st _ _ hD4 nD4
            have tk5 : TK H5 (upd H5 Da (.lst (accv ++ [vy]))) := tk_upd hD5 (fun _ z => by cases z) (fun _ _ z => by cases z)
            have f25 : Fr ca2 H2 ca5 H5 := (f3.trans f4).trans f5
            have f15 : Fr ca1 H1 ca5 H5 := f2.trans f25
            refine ⟨accv, hD5, by rw [racc.length]; omega, ca5, S5, acc ++ [y], accv ++ [vy], zs, ?_, R5.upd_out nD5 hD5 (fun _ z => by cases z) (fun _ _ z => by cases z), nD5, hst, upd_same, ?_, by simp; omega, ez, by rw [hys]; simp⟩
            · exact ⟨f15.le, f15.new, f15.tk.trans tk5, fun a u z na => by
                have : a ≠ Da := fun y => by subst y; rw [hD] at z; cases z
                rw [upd_ne this]; exact f15.st a u z na, fun a z => f15.al a (upd_al a z)⟩
            · exact ((racc.fr f25).app (.cons ry .nil)).mono tk5 .refl
          have skip : ∀ ca4 H4, Fr ca2 H3 ca4 H4 → Rp X.K ca4 S4 H4 → bt = false → (∃ ca3 S4 acc accv rest, Fr ca1 H1 ca3 H4 ∧ Rp X.K ca3 S4 H4 ∧ Da ∉ ca3.i ∧ stands S4 src ∧ H4 Da = some (.lst accv) ∧ RepDs X.K ca3 H4 acc accv ∧ acc.length ≤ i + 1 ∧
          lcRun src (fun x => setG g x (wipeS (noX σ) (own.map (·.2)))) (evc Γ cs) (ev Γ e) (xs.drop (i + 1)) S4 = some (rest, S3) ∧ ys = acc ++ rest) := fun ca4 H4 f4 R4 hb => by
            subst hb
            simp only [Bool.false_eq_true, if_false] at hrun
            obtain ⟨hst, hrun⟩ := gP_ok hrun
            have nD4 : Da ∉ ca4.i := fun z => (f4.new _ z).elim nD fun w => by rw [hD3] at w; cases w
            exact ⟨ca4, S4, acc, accv, rest, (f2.trans f3).trans f4, R4, nD4, hst, f4.st _ _ hD3 nD, racc.fr (f3.trans f4), by omega, hrun, hys⟩
          cases ifs with
          | nil =>
            have hcs : cs = .none := by cases cs <;> simp_all [chkc]
            subst hcs
            unfold evc at et
            have et' := okv_some et
            cases et'
            simp only [wpBt, tYes, if_true]
            exact elt_go ca2 H3 .refl R3 rfl
          | cons c r =>
            cases r with
            | cons _ _ => cases cs <;> simp [chkc] at h8
            | nil =>
              cases cs with
              | none => simp [chkc] at h8
              | some ce =>
                have h8' : tstOk ce = true ∧ chk bl false X.N (relS scope sc) ce c = true := by simpa [chkc] using h8
                unfold evc at et
                have et' := okv_some et
                intro s0 H0 A cl fps
                refine Sc ce rfl h8'.1 c false (relS scope sc) (X.blk s0 H0 scope (compEnvC scope cl A X.env) fps) _ ca2 S2 σ2 ρ2 H3 h8'.2 (ctx s0 H0 A cl fps ca2 S2 H3 .refl R3) _ et' _ fun ca4 H4 f4 R4 => ?_
                cases bt with
                | true => rw [if_pos rfl]; exact elt_go ca4 H4 f4 R4 rfl
                | false => rw [if_neg Bool.false_ne_true]; exact skip ca4 H4 f4 R4 rfl
      · have e : i = xs.length := by omega
        subst e
        refine .inl ⟨hstop, ?_⟩
        rw [List.drop_length] at hrun
        unfold lcRun at hrun
        have e6 : ([] : List Hv.D) = rest ∧ S2 = S3 := by simpa using hrun
        obtain ⟨rfl, rfl⟩ := e6
        rw [List.append_nil] at hys
        subst hys
        have R3 : Rp X.K (ca2.more Da) (S2 ++ [.lst ys]) H2 := R2.push nD ⟨accv, hD2, racc⟩
        have f12 : Fr ca H ca2 H2 := f1.trans f2
        have hDH : H Da = none := f1.al _ hD
        refine q' (.ref Da) (ca2.more Da) H2 ⟨f12.le.trans Am.le_more, fun a ha => ?_, f12.tk, f12.st, f12.al⟩ R3 ?_
        · have h' : a ∈ ca2.i ++ [Da] := ha
          rcases List.mem_append.mp h' with h' | h'
          · exact f12.new a h'
          · have : a = Da := by simpa using h'
            subst this; exact .inr hDH
        · refine ⟨Da, ?_, rfl⟩
          show (ca2.i ++ [Da])[S2.length]? = some Da
          rw [R2.len]; simp
    · cases e1
theorem lc_snd {own : List (Str × Nat)} {g : G} {it : Hv.It} {cs : Eo} {e : E} (Si : SndIt bl Γ it) (Sc : ∀ c, cs = .some c → tstOk c = true → SndT bl Γ c) (Se : SndE bl Γ e) : SndE bl Γ (.lc own g it cs e) := by
  intro x hot sc X W ca S σ ρ H hc C r he Q q
  cases x with
  | ListComp elt gens scope pos =>
    obtain ⟨tg, iter, ifs, hh, rfl, okB, hg, ht, hel, hs, hq⟩ := lc_core Si Sc Se hc C he
    exact wp_of (pe_lc (C.ok.calm hh) C.ok.nd pi_wp okB hg ht hel hs) (hq Q q)
  | _ => simp [chk] at hc
/-! ### isinstance of own classes, the handled error -/
theorem tel_some {n : Nm} {b : Bool} (h : tel Γ n = some b) : ∃ g S', Γ n = some g ∧ g [] [] = some (.ok (.bl b) S') := by
  unfold tel at h
  split at h
  · rename_i g eg
    split at h
    · rename_i b' S' e
      cases h
      exact ⟨g, S', eg, e⟩
    · cases h
  · cases h
theorem iscM_some {x a : Expr} {z : Str} (h : iscM bl sc x = some (a, z)) : ∃ p pz pos, x = .Call (.Name "isinstance" p) [a, .Name z pz] [] pos ∧ glB sc "isinstance" = true ∧ bl.contains "isinstance" = true := by
  unfold iscM at h
  split at h
  · rename_i e
    cases h
    obtain ⟨p, pos, rfl, g, b, _⟩ := bM_some e
    exact ⟨_, _, _, rfl, g, b⟩
  · cases h
theorem isc_snd {e : E} {y : Str} {c : Nat} (Se : SndE bl Γ e) : SndE bl Γ (.isc e y c) := by
  intro x hot sc X W ca S σ ρ H hc C r he Q q
  have hc0 : (!hot && match iscM bl sc x with
      | some (a, z) => decide (z = y) && glB sc z && plainName z && chk bl hot X.N sc e a && okX a
      | none => false) = true := by unfold chk at hc; exact hc
  cases eM : iscM bl sc x with
  | none => rw [eM] at hc0; simp at hc0
  | some p =>
  obtain ⟨a, z⟩ := p
  rw [eM] at hc0
  simp only [Bool.and_eq_true, decide_eq_true_eq, plainName, Bool.not_eq_true'] at hc0
  obtain ⟨h0, ⟨⟨⟨h4, h5⟩, ⟨h6, _⟩, _⟩, h7⟩, h8⟩ := hc0
  subst h4
  obtain ⟨p, pz, pos, rfl, h2, h3⟩ := iscM_some eM
  unfold ev at he
  rcases bind_some he with ⟨d, S1, e1, e2⟩ | ⟨xc, S1, e1, rfl⟩
  · have key : ∃ n c' fs g b, d = .ref n ∧ S1[n]? = some (.obj c' fs) ∧ Γ (.cls z c) = some g ∧ tel Γ (.inst c' c) = some b ∧ M.ok (.bl b) S1 = some r := by
      split at e2
      · split at e2
        · split at e2
          · rename_i g b eg eb; exact ⟨_, _, _, g, b, rfl, by assumption, eg, eb, e2⟩
          · cases e2
        · cases e2
      · cases e2
    obtain ⟨n, c', fs, g, b, rfl, ec, eg, eb, e3⟩ := key
    obtain ⟨k1, k2⟩ : X.mg z = some (.ref (ca.c c)) ∧ PySem.W.keepIn X.K (.ref (ca.c c)) = true := C.kf _ g eg
    obtain ⟨g2, S', eg2, eb2⟩ := tel_some eb
    obtain ⟨b', hb, hi, hk⟩ : ∃ b, (∀ S ds, g2 S ds = some (.ok (.bl b) S)) ∧ InsX X.K (ca.c c') ∧ PySem.W.kitOne X.K (.ref (ca.c c')) (.ref (ca.c c)) = some b := C.kf _ g2 eg2
    rw [hb] at eb2
    cases eb2
    have rule : CallR X (.builtin "isinstance") (fun xs H Q => ∃ a dx fs, xs = [.ref a, .ref (ca.c c)] ∧ H a = some (.ins (ca.c c') dx fs) ∧ Q (.bl b) H) := by
      intro pins s σ H xs us Q I r h
      obtain ⟨a, dx, fs, rfl, ha, q⟩ := h
      obtain ⟨u, w', rfl, ru, rw'⟩ := vals2 r
      cases rw'
      exact isinst_ok I ru (TyOf.ins ha hi.cl hi.ha hi.hn hi.htk hi.hm) hk fun tk => ⟨.bl b, H, I.tok _, rfl, q⟩
    refine wp_of (pe_callB rule (gl_of C.ok.scope h2) (bln_of C.ok.bln h3) boot_isinstance (pa_cons pe_wp (pa_cons (pe_glob (v := .ref (ca.c c)) (gl_of C.ok.scope h5) k1 rfl h6) pa_nil) (star_ok h8 _ _)) (by decide +kernel) (by decide +kernel) (star_ok h8 _ _) rfl) ?_
    refine Se a hot sc X W ca S σ ρ H h7 C _ e1 _ fun v ca1 H1 f1 R1 r1 => ?_
    obtain ⟨m, dx, fs', rfl, ea, hb', hl, hf⟩ := obj_rd R1 r1 ec
    exact ⟨m, dx, fs', rfl, by rw [f1.le.1]; exact hb', okPost R1 (ok_inj e3) (q.after f1) rfl⟩
  · -- the head raises: any rule of a name will do
    refine wp_of (pe_callB call_isi (gl_of C.ok.scope h2) (bln_of C.ok.bln h3) boot_isinstance (pa_cons pe_wp pa_wp (star_ok h8 _ _)) (by decide +kernel) (by decide +kernel) (star_ok h8 _ _) rfl) ?_
    exact Se a hot sc X W ca S σ ρ H h7 C _ e1 _ q
/-- the handled error is a thing of the class asked -/
theorem call_isX {a D : Addr} {dd : Option Addr} {oe : Obj} {fs : List (Str × V)} {d : Addr} (T : IsX X.K D) (hp : (a, oe) ∈ X.pn) (hz : Zc (.ref D) dd oe) (hf : ∃ vs, oe.data = .fields vs) {cv : Value} {b : Bool} (hk : PySem.W.kitOne X.K (.ref D) cv = some b) :
    CallR X (.builtin "isinstance") (fun xs H Q => ∃ c, xs = [.ref a, c] ∧ (∀ u, RelV c u → u = cv) ∧ (dd = none ∨ ∃ d fs, dd = some d ∧ H d = some (.xd fs)) ∧ Q (.bl b) H) := by
  intro pins s σ H xs us Q I r h
  obtain ⟨c, rfl, hcv, hd, q⟩ := h
  obtain _ | ⟨rx, rr⟩ := r
  obtain _ | ⟨rt, rr⟩ := rr
  cases rr
  cases rx
  obtain rfl := hcv _ rt
  have hget := (I.pin (a, oe) (List.mem_append_left _ hp)).1
  obtain ⟨vs, hv⟩ := hf
  have fin : ∀ od, PySem.W.InstAt s.heap a oe D od → wpAny (model X.prog X.w) X.A (call (.builtin "isinstance") [.ref a, _]) (EP X pins σ Q) X.xe s := fun od J =>
    PySem.W.kia_one (PySem.W.kitx_exc T.cl T.ga T.gt T.sb T.fc T.sp T.tk T.mr) I.kIn J hk (fun z => nomatch z) fun tk => ⟨.bl b, H, I.kept (t' := tk) fun _ _ z => z, rfl, q⟩
  rcases hd with rfl | ⟨d, fs, rfl, hd⟩
  · refine fin none ?_
    obtain ⟨oc, od, oda, osl⟩ := oe
    obtain ⟨h1, h2⟩ := hz
    dsimp only at h1 h2 hv
    subst h1 h2 hv
    exact ⟨hget, rfl, rfl, trivial⟩
  · have hx : ObjOk X.prog X.w H s.heap d (.xd fs) := I.hok d _ hd
    obtain ⟨mA, hns, _⟩ := hx
    obtain ⟨od, ho, _⟩ := lookIn_ns hns
    exact fin (some od) ⟨hget, hz.1, by unfold PySem.W.notCls; rw [hv] <;> rfl, by rw [hz.2]; exact ho⟩
theorem xis_snd {i : Nat} {y : Str} {c : Option Nat} : SndE bl Γ (.xis i y c) := by
  intro x hot sc X W ca S σ ρ H hc C r he Q q
  have hc0 : (hot && match xisM bl sc x with
      | some (n, z) => decide (y = z) && glB sc z && plainName z && decide (X.N[i]? = some n) && visB sc n && plainName n && veOk bl c y
      | none => false) = true := by unfold chk at hc; exact hc
  cases eM : xisM bl sc x with
  | none => rw [eM] at hc0; simp at hc0
  | some p =>
  obtain ⟨n, z⟩ := p
  rw [eM] at hc0
  simp only [Bool.and_eq_true, decide_eq_true_eq, plainName, Bool.not_eq_true'] at hc0
  obtain ⟨h0, ⟨⟨⟨⟨⟨h1, h2⟩, ⟨h3, _⟩, _⟩, h4⟩, h5⟩, ⟨h6, h7⟩, _⟩, h8⟩ := hc0
  subst h1
  unfold xisM at eM
  split at eM
  · rename_i pn' _ e0
    cases eM
    obtain ⟨p, pz, pos, rfl, g1, b1⟩ := iscM_some e0
    unfold ev at he
    split at he
    · rename_i e ei
      obtain ⟨a, oe, dd, ea, hp, hz, hf, hx⟩ := C.sl.sl i _ ei
      have hdd : ∀ (dd : Option Addr), XFs X.K ca H e dd → dd = none ∨ ∃ d fs, dd = some d ∧ H d = some (.xd fs) := fun dd hx => by
        obtain ⟨ec, ef⟩ := e
        cases ef with
        | nil => exact .inl hx
        | cons p r => obtain ⟨d, fs', e1, e2, _⟩ := hx; exact .inr ⟨d, fs', e1, e2⟩
      have star0 : ∀ es env, starEach (.Name n pn' :: es) env = (false, eval (.Name n pn') env) :: starEach es env := fun _ _ => rfl
      cases c with
      | some c =>
        obtain ⟨b, ev0, e3⟩ := pur_some (β := Nat) he
        have key : ∃ g, Γ (.cls y c) = some g ∧ tel Γ (.sub e.c c) = some b := by
          have ev1 : (match Γ (.cls y c) with
            | some _ => tel Γ (.sub e.c c)
            | none => none) = some b := ev0
          split at ev1
          · rename_i g eg; exact ⟨g, eg, ev1⟩
          · cases ev1
        obtain ⟨g, eg, eb⟩ := key
        obtain ⟨k1, k2⟩ : X.mg y = some (.ref (ca.c c)) ∧ PySem.W.keepIn X.K (.ref (ca.c c)) = true := C.kf _ g eg
        obtain ⟨g2, S', eg2, eb2⟩ := tel_some eb
        obtain ⟨b', hb, _, hk, hi⟩ : ∃ b, (∀ S ds, g2 S ds = some (.ok (.bl b) S)) ∧ PySem.W.exmOne X.K (.ref (ca.c e.c)) (.ref (ca.c c)) = some b ∧ PySem.W.kitOne X.K (.ref (ca.c e.c)) (.ref (ca.c c)) = some b ∧ IsX X.K (ca.c e.c) := C.kf _ g2 eg2
        rw [hb] at eb2
        cases eb2
        refine wp_of (pe_callB (call_isX (dd := dd) (fs := []) (d := 0) hi hp hz hf hk) (gl_of C.ok.scope g1) (bln_of C.ok.bln b1) boot_isinstance (pa_cons (pe_var h4 (vis_of C.ok.scope h5) h6 h7) (pa_cons (pe_glob (v := .ref (ca.c c)) (gl_of C.ok.scope h2) k1 rfl h3) pa_nil) (star0 _ _)) (by decide +kernel) (by decide +kernel) (star0 _ _) rfl) ?_
        exact ⟨.ref a, ea, .ref (ca.c c), rfl, fun u hu => hu, hdd dd hx, okPost C.rp e3 q rfl⟩
      | none =>
        obtain ⟨b, eb, e3⟩ := pur_some (β := Nat) he
        obtain ⟨g2, S', eg2, eb2⟩ := tel_some eb
        have eb2 := eb2
        obtain ⟨b', hb, hk, hi⟩ : ∃ b, (∀ S ds, g2 S ds = some (.ok (.bl b) S)) ∧ PySem.W.kitOne X.K (.ref (ca.c e.c)) (.type "ValueError") = some b ∧ IsX X.K (ca.c e.c) := C.kf _ g2 eg2
        rw [hb] at eb2
        cases eb2
        obtain ⟨h8, h9⟩ : y = "ValueError" ∧ bl.contains y = true := by simpa [veOk] using h8
        subst h8
        refine wp_of (pe_callB (call_isX (dd := dd) (fs := []) (d := 0) hi hp hz hf hk) (gl_of C.ok.scope g1) (bln_of C.ok.bln b1) boot_isinstance (pa_cons (pe_var h4 (vis_of C.ok.scope h5) h6 h7) (pa_cons (pe_bltn (v := .ty "ValueError") (gl_of C.ok.scope h2) (bln_of C.ok.bln h9) (by decide +kernel) rfl) pa_nil) (star0 _ _)) (by decide +kernel) (by decide +kernel) (star0 _ _) rfl) ?_
        exact ⟨.ref a, ea, .ty "ValueError", rfl, fun u hu => hu, hdd dd hx, okPost C.rp e3 q rfl⟩
    · cases he
  · cases eM
theorem xfld_snd {i : Nat} {f : Str} : SndE bl Γ (.xfld i f) := by
  intro x hot sc X W ca S σ ρ H hc C r he Q q
  have hc0 : (hot && match xfM x with
      | some (y, a) => decide (f = a) && decide (X.N[i]? = some y) && visB sc y && plainName y
      | none => false) = true := by unfold chk at hc; exact hc
  cases eM : xfM x with
  | none => rw [eM] at hc0; simp at hc0
  | some p =>
  obtain ⟨n, z⟩ := p
  rw [eM] at hc0
  simp only [Bool.and_eq_true, decide_eq_true_eq, plainName, Bool.not_eq_true'] at hc0
  obtain ⟨h0, ⟨⟨h1, h4⟩, h5⟩, ⟨h6, h7⟩, _⟩ := hc0
  subst h1
  unfold xfM at eM
  split at eM
  · cases eM
    unfold ev at he
    split at he
    · rename_i e ei
      obtain ⟨a, oe, dd, ea, hp, hz, hf, hx⟩ := C.sl.sl i _ ei
      split at he
      · rename_i g d eg el
        obtain ⟨T, hno⟩ : XfC X.K (ca.c e.c) ∧ PySem.W.findIn X.K (.ref (ca.c e.c)) f = some none := C.kf _ g eg
        obtain ⟨ec, ef⟩ := e
        cases ef with
        | nil => cases el
        | cons p r =>
          obtain ⟨d0, fs', rfl, hd, hfs⟩ := hx
          have q1 := hfs f
          rw [el] at q1
          obtain ⟨v, l, rv⟩ := q1
          intro pins s I
          refine attr_of (show attributeBase (.Name n _) f X.env (eval (.Name n _) X.env) = eval (.Name n _) X.env from rfl) (thn ((pe_var h4 (vis_of C.ok.scope h5) h6 h7).run pins s ρ H (fun v H' => v = .ref a ∧ H' = H) I ⟨.ref a, ea, rfl, rfl⟩) fun u s1 ⟨x, H1, I1, rx, ex, eH⟩ => ?_)
          subst ex eH
          obtain rfl : u = Value.ref a := rx
          have ha := (I1.pin (a, oe) (List.mem_append_left _ hp)).1
          obtain ⟨vs, hdat⟩ := hf
          have hxo : ObjOk X.prog X.w H1 s1.heap d0 (.xd fs') := I1.hok d0 _ hd
          obtain ⟨mA, hns, hr⟩ := hxo
          obtain ⟨od, ho, hl⟩ := lookIn_ns hns
          obtain ⟨u, hu, ru⟩ := RelO.some_of (v := v) (o := mA f) (by rw [← l]; exact hr f)
          have J : PySem.W.InstAt s1.heap a oe (ca.c ec) (some od) := ⟨ha, hz.1, by unfold PySem.W.notCls; rw [hdat] <;> rfl, by rw [hz.2]; exact ho⟩
          exact HandSPX.exc_get I1.kIn J T.ga T.gg T.exC (PySem.W.findObj_own T.hdC hno rfl (by rw [hl, hu])) (handed_of ru) ⟨v, H1, I1.tok _, ru, okPost C.rp (ok_inj he) q rv⟩
      · cases he
    · cases he
  · cases eM
theorem sortBy_snd {e : E} {f : Str} : SndE bl Γ (.sortBy e f) := by
  intro x hot sc X W ca S σ ρ H hc C r he Q q
  cases he
/-! ### the theorem -/
theorem chk_noT {i : Nat} {N : List Str} {x : Expr} (h : chk bl hot N sc (.var i) x = true) : noT x = true := by
  cases x <;> first | rfl | (simp [chk] at h)
mutual
theorem sndE : ∀ e : E, SndE bl Γ e
  | .var i => var_snd i
  | .non => fun x hot sc X W ca S σ ρ H hc C r he Q q => by
      cases x with
      | Constant c j p => cases c with
        | none => exact const_snd (d := .non) pe_non rfl C.rp he q
        | _ => simp [chk] at hc
      | _ => simp [chk] at hc
  | .bl b => fun x hot sc X W ca S σ ρ H hc C r he Q q => by
      cases x with
      | Constant c j p => cases c with
        | bool b' =>
          have e : b = b' := by simpa [chk] using hc
          subst e
          exact const_snd (d := .bl b) pe_bl rfl C.rp he q
        | _ => simp [chk] at hc
      | _ => simp [chk] at hc
  | .int i => fun x hot sc X W ca S σ ρ H hc C r he Q q => by
      cases x with
      | Constant c j p => cases c with
        | int b' =>
          have e : i = b' := by simpa [chk] using hc
          subst e
          exact const_snd (d := .int i) pe_int rfl C.rp he q
        | _ => simp [chk] at hc
      | _ => simp [chk] at hc
  | .str z => fun x hot sc X W ca S σ ρ H hc C r he Q q => by
      cases x with
      | Constant c j p => cases c with
        | str b' =>
          have e : z = b' := by simpa [chk] using hc
          subst e
          exact const_snd (d := .str z) pe_str rfl C.rp he q
        | _ => simp [chk] at hc
      | _ => simp [chk] at hc
  | .op k es => op_snd (sndAll es)
  | .cmp _ a b => cmp_snd (sndE a) (sndE b)
  | .cmp2 _ _ a b c => cmp2_snd (sndE a) (sndE b) (sndE c)
  | .cmp3 _ _ _ a b c d => cmp3_snd (sndE a) (sndE b) (sndE c) (sndE d)
  | .and a b => and_snd (sndE a) (sndE b)
  | .or a b => or_snd (sndE a) (sndE b)
  | .not a => not_snd (sndE a)
  | .ife c a b => ife_snd (sndT c) (sndE a) (sndE b)
  | .call _ es => call_snd (sndEs es)
  | .fld e _ => fld_snd (sndE e)
  | .mcall e _ es => mcall_snd (sndE e) (sndEs es)
  | .qcall _ _ es => qcall_snd (sndEs es)
  | .frz e => frz_snd (sndE e)
  | .gc e => gc_snd (sndE e)
  | .glob _ => glob_snd
  | .isc e _ _ => isc_snd (sndE e)
  | .xfld _ _ => xfld_snd
  | .xis _ _ _ => xis_snd
  | .sortBy _ _ => sortBy_snd
  | .lc _ _ it cs e => lc_snd (sndIt it) (sndC cs) (sndE e)
theorem sndEs : ∀ es : Es, SndEs bl Γ es
  | .nil => nil_snd
  | .cons e es => cons_snd (sndE e) (sndEs es)
theorem sndAll : ∀ es : Es, AllSnd bl Γ es
  | .nil => trivial
  | .cons e es => ⟨sndE e, sndAll es⟩
theorem sndC : ∀ (cs : Eo) (c : E), cs = .some c → tstOk c = true → SndT bl Γ c
  | .none, _, h, _ => by cases h
  | .some e, c, h, t => by cases h; exact sndT e t
theorem sndIt : ∀ it : Hv.It, SndIt bl Γ it
  | .e e => sndE e
  | .tup e => sndE e
  | .str e => sndE e
  | .enum e => sndE e
  | .rev e => sndE e
  | .rng1 a => sndE a
  | .rng2 a b => ⟨sndE a, sndE b⟩
  | .zip a b => trivial
  | .items a => trivial
  | .keys a => trivial
theorem sndT : ∀ e : E, tstOk e = true → SndT bl Γ e
  | .not a, h => not_t (sndT a h)
  | .and a b, h => and_t (sndT a (Bool.and_eq_true_iff.mp h).1) (sndT b (Bool.and_eq_true_iff.mp h).2)
  | .or a b, h => or_t (sndT a (Bool.and_eq_true_iff.mp h).1) (sndT b (Bool.and_eq_true_iff.mp h).2)
  | .cmp _ a b, _ => cmp_t (sndE a) (sndE b)
  | .cmp2 _ _ a b c, _ => cmp2_t (sndE a) (sndE b) (sndE c)
  | .cmp3 _ _ _ a b c d, _ => cmp3_t (sndE a) (sndE b) (sndE c) (sndE d)
  | .gc e, h => gc_t (sndT e h)
  | .ife _ _ _, h => by cases h
  | .frz _, h => by cases h
  | .var i, _ => plain_t (var_snd i) (fun bl hot N sc x h => chk_noT h)
  | .op k es, _ => plain_t (op_snd (sndAll es)) (fun bl hot N sc x h => by unfold chk at h; simp only [Bool.and_eq_true] at h; exact h.1.1.2)
  | .call f es, _ => plain_t (call_snd (sndEs es)) (fun bl hot N sc x h => by cases x <;> first | rfl | (simp [chk] at h))
  | .mcall e m es, _ => plain_t (mcall_snd (sndE e) (sndEs es)) (fun bl hot N sc x h => by cases x <;> first | rfl | (simp [chk] at h))
  | .qcall y m es, _ => plain_t (qcall_snd (sndEs es)) (fun bl hot N sc x h => by cases x <;> first | rfl | (simp [chk] at h))
  | .fld e f, _ => plain_t (fld_snd (sndE e)) (fun bl hot N sc x h => by cases x <;> first | rfl | (simp [chk] at h))
  | .glob y, _ => plain_t glob_snd (fun bl hot N sc x h => by cases x <;> first | rfl | (simp [chk] at h))
  | .isc e y c, _ => plain_t (isc_snd (sndE e)) (fun bl hot N sc x h => by
      unfold chk at h
      cases eM : iscM bl sc x with
      | none => rw [eM] at h; simp at h
      | some p => obtain ⟨a, z⟩ := p; obtain ⟨_, _, _, rfl, _⟩ := iscM_some eM; rfl)
  | .xis i y c, _ => plain_t xis_snd (fun bl hot N sc x h => by
      unfold chk at h
      cases eM : xisM bl sc x with
      | none => rw [eM] at h; simp at h
      | some p =>
        unfold xisM at eM
        split at eM
        · rename_i e0; obtain ⟨_, _, _, rfl, _⟩ := iscM_some e0; rfl
        · cases eM)
  | .xfld i f, _ => plain_t xfld_snd (fun bl hot N sc x h => by
      unfold chk at h
      cases x <;> first | rfl | (simp [xfM] at h))
  | .lc own g it cs e, _ => plain_t (lc_snd (sndIt it) (sndC cs) (sndE e)) (fun bl hot N sc x h => by cases x <;> first | rfl | (simp [chk] at h))
  | .sortBy e f, _ => plain_t sortBy_snd (fun bl hot N sc x h => by cases x <;> first | rfl | (simp [chk] at h))
  | .non, _ => plain_t (sndE .non) (fun bl hot N sc x h => by cases x <;> first | rfl | (simp [chk] at h))
  | .bl b, _ => plain_t (sndE (.bl b)) (fun bl hot N sc x h => by cases x <;> first | rfl | (simp [chk] at h))
  | .int b, _ => plain_t (sndE (.int b)) (fun bl hot N sc x h => by cases x <;> first | rfl | (simp [chk] at h))
  | .str b, _ => plain_t (sndE (.str b)) (fun bl hot N sc x h => by cases x <;> first | rfl | (simp [chk] at h))
end
end
end Hv
/-! XTry: try with several except clauses, each with a name or none. -/
namespace Hv
open PySem PySem.Spec
open PyProof.Rows hiding St
open L2
def outD (i : Option Nat) (D : Ends) : Ends := match i with
  | none => D
  | some i => { nx := fun σ' H' => D.nx (σ'.set i none) H', rt := D.rt, bk := fun σ' H' => D.bk (σ'.set i none) H', ct := fun σ' H' => D.ct (σ'.set i none) H' }
def inS (i : Option Nat) (a : Addr) (σ : L2.St) : L2.St := match i with
  | none => σ
  | some i => σ.set i (some (.ref a))
/-- what the clauses wish of an exception of the body, one after the other -/
def wHs (K : PySem.W.Frag) (Wout : WX) (D : Ends) : List (Value × Option Nat × (Addr → Value → Option Addr → TS)) → WX
  | [] => Wout
  | (c, i, ts) :: r => fun cls d σ H => ∃ b, PySem.W.exmOne K cls c = some b ∧ (b = true → ∀ a, H a = none → ts a cls d (outD i D) (inS i a σ) H) ∧ (b = false → wHs K Wout D r cls d σ H)
inductive NmC (X : Cx) : Option Nat → Option Str → Prop
  | none : NmC X none none
  | some {i : Nat} {n : Str} (hN : X.N.Nodup) (hi : X.N[i]? = some n) (hln : X.env.kindOf n = some .local) : NmC X (some i) (some n)
inductive HdsC (X : Cx) : List ExceptHandler → List (Value × Option Nat × (Addr → Value → Option Addr → TS)) → Prop
  | nil : HdsC X [] []
  | cons {x : Str} {c : Value} {i : Option Nat} {on : Option Str} {ts : Addr → Value → Option Addr → TS} {b₀ : Stmt} {suite : List Stmt} {np pos' : Pos} {hds : List ExceptHandler} {l : List (Value × Option Nat × (Addr → Value → Option Addr → TS))} (hc : Names X x c) (hn : NmC X i on)
      (hsu : ∀ (a : Addr) (oe : Obj) (cls : Value) (d : Option Addr) (pn : List (Addr × Obj)), Zc cls d oe → (∃ vs, oe.data = .fields vs) → PSs (X.suite a ((a, oe) :: pn)) (b₀ :: suite) (ts a cls d)) (r : HdsC X hds l) :
      HdsC X (.ExceptHandler (some (.Name x np)) on (b₀ :: suite) pos' :: hds) ((c, i, ts) :: l)
section
variable {X : Cx} {body : List Stmt} {h₀ : ExceptHandler} {hds : List ExceptHandler} {l : List (Value × Option Nat × (Addr → Value → Option Addr → TS))} {pos : Pos} {tb : WX → TS} {Wout : WX}
theorem ps_try_all (hs : X.stack = X.env :: X.outer) (hf : X.env.frame = some X.env.locals) (tk : Takes X Wout)
    (hb : ∀ (W : WX) (pn : List (Addr × Obj)) (xe : Value → Shared → Prop), Takes (X.tr pn xe) W → PassesOwn (model X.prog X.w) X.A X.env xe → PSs (X.tr pn xe) body (tb W))
    (hh : HdsC X (h₀ :: hds) l) : PS X (.Try body (h₀ :: hds) [] [] pos) (fun D σ H => tb (wHs X.K Wout D l) D σ H) := by
  refine ⟨fun pins s σ H D I h => ?_⟩
  have ok := I.ok
  have hfr : X.A.frames = some (X.env :: X.outer) := by rw [ok.frames, hs]
  refine wpAny_Try_except ?_
  refine wpAny_mono ((hb (wHs X.K Wout D l) (X.pn ++ pins) (fun e s₁ => wpAny (model X.prog X.w) X.A (noteFrame e X.env) (fun _ s₂ => wpAny (model X.prog X.w) X.A (setFlight e none) (fun _ s₃ =>
    wpAny (model X.prog X.w) X.A (handleBy e X.env (h₀ :: hds)) (SP X pins D) X.xe s₃) X.xe s₂) X.xe s₁) (fun u s' xx => ?_) PassesOwn.looking).run [] s σ H D (I.toTry _) h) (fun f s1 hsp => ?_) (fun e s1 he => he)
  · -- the catch
    obtain ⟨a, B, sI, pins', σ', H', cls, d, rfl, J', nb, up, sky, na, os, ag, w⟩ := xx
    have J : Inv X pins σ' H' sI := J'.ofTry ok
    have sky' : Sky B (X.env :: X.outer) a (Zc cls d) X.env.locals s'.heap := by rw [← hs]; exact sky
    show wpAny (model X.prog X.w) X.A (noteFrame (.ref a) X.env) _ _ _
    refine Sky.land Zc.steady hfr hf sky' fun h3 fl3 up3 => ?_
    have J3 : Inv X pins σ' H' { s' with heap := h3 } := J.landed nb fl3.1 (up.trans up3) os ag
    obtain ⟨oe3, vs3, he3, hz3, hd3⟩ := fl3.there
    have notFr : ∀ {h : Heap} {o : Obj} {vs : Array Value}, h.FunFrames B (X.env :: X.outer) → h.get? a = some o → o.data = .fields vs → a ∉ frs (X.env :: X.outer) := fun {h o vs} ff e dd hm => by
      obtain ⟨_, o', e', hnf⟩ := ff.mem hm
      rw [e] at e'; cases e'
      exact hnf _ dd
    have nfr := notFr fl3.2.2.1 he3 hd3
    have nL : a ≠ X.env.locals := fun z => nfr (List.mem_filterMap.mpr ⟨X.env, List.mem_cons_self, by rw [hf, z]⟩)
    have nF : a ∉ X.fs := fun hm => by
      obtain ⟨e, he, q⟩ := List.mem_filterMap.mp hm
      exact nfr (List.mem_filterMap.mpr ⟨e, List.mem_cons_of_mem _ he, q⟩)
    have S3 := J3.suite he3 hd3 na nL nF
    have go : ∀ {hds' : List ExceptHandler} {l' : List (Value × Option Nat × (Addr → Value → Option Addr → TS))}, HdsC X hds' l' → wHs X.K Wout D l' cls d σ' H' →
        wpAny (model X.prog X.w) X.A (handleBy (.ref a) X.env hds') (SP X pins D) X.xe { s' with heap := h3 } := by
      intro hds' l' hk
      induction hk with
      | nil =>
        intro w
        refine wpAny_handleBy_nil ?_
        obtain ⟨k1, k2, k3, oe, vs, T, oT, ts', he, hz, hd, h1, hr⟩ := id fl3
        unfold PySem.passOn
        refine wpAny_bind (wpAny_field he hd h1 ?_)
        rw [if_neg (show ¬ ((Value.ref T == Value.none) = true) from by simp)]
        have fin : wpAny (model X.prog X.w) X.A (setFlight (.ref a) X.env.frame) (fun _ s4 => wpAny (model X.prog X.w) X.A (throw (.ref a) : Sem Flow) (SP X pins D) X.xe s4) X.xe { s' with heap := h3 } := by
          rw [hf]
          refine HandSPX.setFlight_upZ fl3 fun h4 hh4 up4 => wpAny_throw (tk _ _ ?_)
          exact ⟨a, B, sI, pins, σ', H', cls, d, rfl, J, nb, (up.trans up3).trans up4, .inr (.inr (by rw [hs]; exact hh4)), na, os, ag, w⟩
        first
          | exact wpAny_bind (wpAny_pure (wpAny_bind fin))
          | exact wpAny_bind fin
      | @cons x c i on ts b₀ suite np pos' hds2 l2 hc hn hsu r ih =>
        intro w
        obtain ⟨b, hb1, hyes, hno⟩ := w
        refine wpAny_handleBy_cons (codeAny_handlers_test ?_) (by intro q; cases q)
        have LT : PySem.W.Looks (model X.prog X.w) h3 (typeOf (.ref a)) cls := fun A Q E s k q => wpAny_typeOf_ref (k _ _ he3) (by rw [hz3.1]; exact q)
        have LM := PySem.W.exm_one (M := model X.prog X.w) (J3.kIn) LT hb1
        have test : ∀ {Q : Value → Shared → Prop} {E : Value → Shared → Prop}, Q c { s' with heap := h3 } → wpAny (model X.prog X.w) (X.A.mark (some (.ref a))) (eval (.Name x np) X.env) Q E { s' with heap := h3 } := fun {Q E} q => by
          obtain ⟨hg, hdbg, hm | ⟨hm, hv, hnn⟩⟩ := hc
          · exact ld_glob (X := X.suite a ((a, oe3) :: (X.pn ++ pins))) S3 hg hm q hdbg
          · exact ld_blt (X := X.suite a ((a, oe3) :: (X.pn ++ pins))) S3 hg hm hv q hnn hdbg
        refine test (LM.here ?_)
        cases b with
        | true =>
          cases hn with
          | none =>
            refine codeAny_handlers_suite ?_
            refine HandSPX.lands_againZ fl3 fun h4 fl4 up4 => ?_
            have J4 : Inv X pins σ' H' { s' with heap := h4 } := J.landed nb fl4.1 ((up.trans up3).trans up4) os ag
            obtain ⟨oe4, vs4, he4, hz4, hd4⟩ := fl4.there
            have S4 := J4.suite he4 hd4 na nL nF
            refine wpAny_mono ((hsu a oe4 cls d (X.pn ++ pins) hz4 ⟨_, hd4⟩).run [] _ _ H' _ S4 (hyes rfl a na)) (fun f s6 hsp => ?_) (fun _ _ z => False.elim z)
            cases f with
            | next =>
              obtain ⟨σ6, H6, S6, q6⟩ := hsp
              exact ⟨_, _, S6.unsuite ok, q6⟩
            | brk =>
              obtain ⟨σ6, H6, S6, q6⟩ := hsp
              exact ⟨_, _, S6.unsuite ok, q6⟩
            | cont =>
              obtain ⟨σ6, H6, S6, q6⟩ := hsp
              exact ⟨_, _, S6.unsuite ok, q6⟩
            | ret u =>
              obtain ⟨v6, σ6, H6, S6, r6, q6⟩ := hsp
              exact ⟨_, _, _, S6.unsuite ok, r6, q6⟩
          | @some i n hN hi hln =>
            have hloc : L2.Loc X.env.scope n := .inl hln
            refine codeAny_handlers_suite_as ?_
            refine HandSPX.lands_againZ fl3 fun h4 fl4 up4 => ?_
            have J4 : Inv X pins σ' H' { s' with heap := h4 } := J.landed nb fl4.1 ((up.trans up3).trans up4) os ag
            obtain ⟨oe4, vs4, he4, hz4, hd4⟩ := fl4.there
            have S4 := J4.suite he4 hd4 na nL nF
            refine store_ok (X := X.suite a ((a, oe4) :: (X.pn ++ pins))) (v := .ref a) S4 hN hi hloc rfl (fun s5 S5 => ?_) (.inr hln)
            refine wpAny_mono ((hsu a oe4 cls d (X.pn ++ pins) hz4 ⟨_, hd4⟩).run [] s5 _ H' _ S5 (hyes rfl a na)) (fun f s6 hsp => ?_) (fun _ _ z => False.elim z)
            have end_ : ∀ {σ6 : L2.St} {H6 : Hp} {Q : Shared → Prop}, Inv (X.suite a ((a, oe4) :: (X.pn ++ pins))) [] σ6 H6 s6 → (∀ s7, Inv X pins (σ6.set i none) H6 s7 → Q s7) →
                wpAny (model X.prog X.w) X.A (do bindName X.env n .none; unbindBehindTheSuite X.env n pos') (fun _ s7 => Q s7) X.xe s6 := fun {σ6 H6 Q} S6 hq => gone_ok (S6.unsuite ok) hN hi hln hq
            cases f with
            | next =>
              obtain ⟨σ6, H6, S6, q6⟩ := hsp
              exact end_ S6 fun s7 J7 => ⟨_, _, J7, q6⟩
            | brk =>
              obtain ⟨σ6, H6, S6, q6⟩ := hsp
              exact end_ S6 fun s7 J7 => ⟨_, _, J7, q6⟩
            | cont =>
              obtain ⟨σ6, H6, S6, q6⟩ := hsp
              exact end_ S6 fun s7 J7 => ⟨_, _, J7, q6⟩
            | ret u =>
              obtain ⟨v6, σ6, H6, S6, r6, q6⟩ := hsp
              exact end_ S6 fun s7 J7 => ⟨_, _, _, J7, r6, q6⟩
        | false =>
          show wpAny _ X.A (handleBy (.ref a) X.env hds2) _ _ _
          exact ih (hno rfl)
    exact go hh w
  · cases f with
    | next =>
      obtain ⟨σ', H', J', q⟩ := hsp
      exact wpAny_execs_nil ⟨σ', H', J'.ofTry ok, q⟩
    | brk =>
      obtain ⟨σ', H', J', q⟩ := hsp
      exact ⟨σ', H', J'.ofTry ok, q⟩
    | cont =>
      obtain ⟨σ', H', J', q⟩ := hsp
      exact ⟨σ', H', J'.ofTry ok, q⟩
    | ret u =>
      obtain ⟨v, σ', H', J', r, q⟩ := hsp
      exact ⟨v, σ', H', J'.ofTry ok, r, q⟩
end
end Hv
/-! Hv9: statements. -/
namespace Hv
open PySem PySem.Spec
open PyProof.Rows hiding St
open L2
structure Sok (hot : Bool) (X : Cx) : Prop where
  fn : ∀ x, X.fn x = true
  own : hot = false → PassesOwn (model X.prog X.w) X.A X.env X.xe
  stk : X.stack = X.env :: X.outer
  frm : X.env.frame = some X.env.locals
/-- what stands behind a statement -/
def NPost (pn : List (Addr × Obj)) (K : PySem.W.Frag) (ca : Am) (H : Hp) (n : Nat) (σ' : List Sl) (S' : Sto) (Q : L2.St → Hp → Prop) : Prop := ∀ ρ' ca' H', ρ'.length = n → Fr ca H ca' H' → Rp K ca' S' H' → Sls pn K ca' H' σ' ρ' → Q ρ' H'
def EX (pn : List (Addr × Obj)) (K : PySem.W.Frag) (ca : Am) (H : Hp) (n : Nat) (r : RO) (W : WX) : Prop := match r with
  | .exc e σ' S' => ∀ cls dd ρ' ca' H', ρ'.length = n → Fr ca H ca' H' → Rp K ca' S' H' → Sls pn K ca' H' σ' ρ' → XRep K ca' H' e cls dd → W cls dd ρ' H'
  | _ => True
def EPost (pn : List (Addr × Obj)) (K : PySem.W.Frag) (ca : Am) (H : Hp) (n : Nat) (r : RO) (D : Ends) (W : WX) : Prop := match r with
  | .ok (.nx σ') S' => NPost pn K ca H n σ' S' D.nx
  | .ok (.brk σ') S' => NPost pn K ca H n σ' S' D.bk
  | .ok (.cnt σ') S' => NPost pn K ca H n σ' S' D.ct
  | .ok (.ret d) S' => ∀ v ca' H', Fr ca H ca' H' → Rp K ca' S' H' → RepD K ca' H' d v → D.rt v H'
  | .exc e σ' S' => ∀ cls dd ρ' ca' H', ρ'.length = n → Fr ca H ca' H' → Rp K ca' S' H' → Sls pn K ca' H' σ' ρ' → XRep K ca' H' e cls dd → W cls dd ρ' H'
section
variable {pn : List (Addr × Obj)} {K : PySem.W.Frag} {ca ca' : Am} {H H' : Hp} {n : Nat} {r : RO} {D : Ends} {W : WX}
theorem EPost.x (q : EPost pn K ca H n r D W) : EX pn K ca H n r W := by
  cases r with
  | ok o S => trivial
  | exc e σ S => exact q
theorem EX.after (q : EX pn K ca H n r W) (f : Fr ca H ca' H') : EX pn K ca' H' n r W := by
  cases r with
  | ok o S => trivial
  | exc e σ S => exact fun cls dd ρ' ca2 H2 l f2 => q cls dd ρ' ca2 H2 l (f.trans f2)
theorem EPost.after (q : EPost pn K ca H n r D W) (f : Fr ca H ca' H') : EPost pn K ca' H' n r D W := by
  cases r with
  | ok o S => cases o with
    | nx σ => exact fun ρ' ca2 H2 l f2 => q ρ' ca2 H2 l (f.trans f2)
    | brk σ => exact fun ρ' ca2 H2 l f2 => q ρ' ca2 H2 l (f.trans f2)
    | cnt σ => exact fun ρ' ca2 H2 l f2 => q ρ' ca2 H2 l (f.trans f2)
    | ret d => exact fun v ca2 H2 f2 => q v ca2 H2 (f.trans f2)
  | exc e σ S => exact fun cls dd ρ' ca2 H2 l f2 => q cls dd ρ' ca2 H2 l (f.trans f2)
end
def SndS (bl : List Str) (Γ : Gam) (t : T) : Prop := ∀ (st : Stmt) (hot : Bool) (sc : Scope) (X : Cx) (W : WX) (ca : Am) (S : Sto) (σ : List Sl) (ρ : L2.St) (H : Hp), chkT bl hot X.N sc t st = true → Ctx bl hot sc X Γ W ca S σ ρ H → Sok hot X →
  ∀ r, run Γ t σ S = some r → ∀ D, EPost X.pn X.K ca H ρ.length r D W → wpS X st D ρ H
def SndSs (bl : List Str) (Γ : Gam) (t : Ts) : Prop := ∀ (st : List Stmt) (hot : Bool) (sc : Scope) (X : Cx) (W : WX) (ca : Am) (S : Sto) (σ : List Sl) (ρ : L2.St) (H : Hp), chkTs bl hot X.N sc t st = true → Ctx bl hot sc X Γ W ca S σ ρ H → Sok hot X →
  ∀ r, runs Γ t σ S = some r → ∀ D, EPost X.pn X.K ca H ρ.length r D W → wpSs X st D ρ H
section
variable {bl : List Str} {hot : Bool} {sc : Scope} {X : Cx} {Γ : Gam} {W : WX} {ca ca' : Am} {S S' : Sto} {σ : List Sl} {ρ : L2.St} {H H' : Hp}
theorem Ctx.slots {σ' : List Sl} {ρ' : L2.St} (C : Ctx bl hot sc X Γ W ca S σ ρ H) (f : Fr ca H ca' H') (R : Rp X.K ca' S' H') (s : Sls X.pn X.K ca' H' σ' ρ') (l : ρ'.length = ρ.length) : Ctx bl hot sc X Γ W ca' S' σ' ρ' H' :=
  ⟨C.ok, fun h => by rw [← f.le.1]; exact C.fns h, fun n g e => by rw [← f.le.1]; exact C.kf n g e, R, s, l.trans C.ln, C.tk⟩
theorem go_some {α : Type} {x : M α} {f : α → Sto → MO} {r : RO} (h : x.go σ f = some r) : (∃ a S1, x = some (.ok a S1) ∧ f a S1 = some r) ∨ ∃ e S1, x = some (.exc e S1) ∧ r = .exc e σ S1 := by
  unfold M.go at h
  split at h
  · exact .inl ⟨_, _, rfl, h⟩
  · cases h; exact .inr ⟨_, _, rfl, rfl⟩
  · cases h
/-- an error out of an expression -/
theorem EX.exc {e : Xc} {S1 : Sto} (C : Ctx bl hot sc X Γ W ca S σ ρ H) (q : EX X.pn X.K ca H ρ.length (.exc e σ S1) W) : ∀ cls dd ca' H', Fr ca H ca' H' → Rp X.K ca' S1 H' → XRep X.K ca' H' e cls dd → WE W ρ cls dd H' :=
  fun cls dd ca' H' f R x => q cls dd ρ ca' H' rfl f R (C.sl.fr C.rp f) x
/-- an expression, then what follows -/
theorem snd_go {e : E} {x : Expr} (hc : chk bl hot X.N sc e x = true) (C : Ctx bl hot sc X Γ W ca S σ ρ H) {f : D → Sto → MO} {r : RO} (he : (ev Γ e σ S).go σ f = some r) (hx : EX X.pn X.K ca H ρ.length r W) {Q : VK}
    (k : ∀ d S1, f d S1 = some r → ∀ v ca1 H1, Fr ca H ca1 H1 → Rp X.K ca1 S1 H1 → RepD X.K ca1 H1 d v → Q v H1) : wpE X x ρ H Q := by
  rcases go_some he with ⟨d, S1, e1, e2⟩ | ⟨xc, S1, e1, rfl⟩
  · exact sndE e x hot sc X W ca S σ ρ H hc C _ e1 Q fun v ca1 H1 f R r => k d S1 e2 v ca1 H1 f R r
  · exact sndE e x hot sc X W ca S σ ρ H hc C _ e1 Q (EX.exc C hx)
theorem snd_got {e : E} {x : Expr} (ht : tstOk e = true) (hc : chk bl hot X.N sc e x = true) (C : Ctx bl hot sc X Γ W ca S σ ρ H) {f : Bool → Sto → MO} {r : RO} (he : (tstV (ev Γ e σ S)).go σ f = some r) (hx : EX X.pn X.K ca H ρ.length r W) {Q : Bool → Hp → Prop}
    (k : ∀ d S1, f d S1 = some r → ∀ ca1 H1, Fr ca H ca1 H1 → Rp X.K ca1 S1 H1 → Q d H1) : wpT X x ρ H Q := by
  rcases go_some he with ⟨d, S1, e1, e2⟩ | ⟨xc, S1, e1, rfl⟩
  · exact sndT e ht x hot sc X W ca S σ ρ H hc C _ e1 Q fun ca1 H1 f R => k d S1 e2 ca1 H1 f R
  · exact sndT e ht x hot sc X W ca S σ ρ H hc C _ e1 Q (EX.exc C hx)
/-! ### no comprehension's swap -/
def noC : Expr → Bool
  | .ListComp .. => false
  | .SetComp .. => false
  | .DictComp .. => false
  | _ => true
theorem swaps_x {x : Expr} (h : noC x = true) (t : Option Expr) (n : Nat) (env : Env) : swapsWith x t n env = pure false := by
  cases x <;> first | rfl | cases h
theorem noC_of {x : Expr} (h : okX x = true) (hn : ∀ elt gens scope pos, x ≠ .ListComp elt gens scope pos) : noC x = true := by
  cases x <;> first | rfl | exact absurd rfl (hn _ _ _ _) | cases h
theorem swaps_of {N : List Str} : ∀ {e : E} {x : Expr}, chk bl hot N sc e x = true → isLc e = false → ∀ (t : Option Expr) (n : Nat) (env : Env), swapsWith x t n env = pure false
  | .frz e, x, h, hl, t, n, env => swaps_of (e := e) (by unfold chk at h; exact h) hl t n env
  | .gc e, x, h, hl, t, n, env => swaps_of (e := e) (by unfold chk at h; exact h) hl t n env
  | .lc .., _, _, hl, _, _, _ => by cases hl
  | .op k es, x, h, hl, t, n, env => by
    have ho : okX x = true := by
      unfold chk at h
      simp only [Bool.and_eq_true] at h
      exact h.1.2
    refine swaps_x (noC_of ho fun elt gens scope pos e => ?_) t n env
    subst e
    unfold chk at h
    have : opM bl sc k (.ListComp elt gens scope pos) = none := by cases k <;> rfl
    rw [this] at h
    simp at h
  | .isc e y c, x, h, hl, t, n, env => by
    unfold chk at h
    cases x <;> first | rfl | (simp [iscM, bM] at h)
  | .xis i y c, x, h, hl, t, n, env => by
    unfold chk at h
    cases x <;> first | rfl | (simp [xisM, iscM, bM] at h)
  | .xfld i f, x, h, hl, t, n, env => by
    unfold chk at h
    cases x <;> first | rfl | (simp [xfM] at h)
  | .var _, x, h, hl, t, n, env => by cases x <;> first | rfl | (simp [chk] at h)
  | .non, x, h, hl, t, n, env => by cases x <;> first | rfl | (simp [chk] at h)
  | .bl _, x, h, hl, t, n, env => by cases x <;> first | rfl | (simp [chk] at h)
  | .int _, x, h, hl, t, n, env => by cases x <;> first | rfl | (simp [chk] at h)
  | .str _, x, h, hl, t, n, env => by cases x <;> first | rfl | (simp [chk] at h)
  | .cmp _ _ _, x, h, hl, t, n, env => by cases x <;> first | rfl | (simp [chk] at h)
  | .cmp2 _ _ _ _ _, x, h, hl, t, n, env => by cases x <;> first | rfl | (simp [chk] at h)
  | .cmp3 _ _ _ _ _ _ _, x, h, hl, t, n, env => by cases x <;> first | rfl | (simp [chk] at h)
  | .and _ _, x, h, hl, t, n, env => by cases x <;> first | rfl | (simp [chk] at h)
  | .or _ _, x, h, hl, t, n, env => by cases x <;> first | rfl | (simp [chk] at h)
  | .not _, x, h, hl, t, n, env => by cases x <;> first | rfl | (simp [chk] at h)
  | .ife _ _ _, x, h, hl, t, n, env => by cases x <;> first | rfl | (simp [chk] at h)
  | .call _ _, x, h, hl, t, n, env => by cases x <;> first | rfl | (simp [chk] at h)
  | .fld _ _, x, h, hl, t, n, env => by cases x <;> first | rfl | (simp [chk] at h)
  | .mcall _ _ _, x, h, hl, t, n, env => by cases x <;> first | rfl | (simp [chk] at h)
  | .qcall _ _ _, x, h, hl, t, n, env => by cases x <;> first | rfl | (simp [chk] at h)
  | .glob _, x, h, hl, t, n, env => by cases x <;> first | rfl | (simp [chk] at h)
  | .sortBy _ _, x, h, hl, t, n, env => by cases x <;> first | rfl | (simp [chk] at h)
/-! ### assignments -/
theorem nxO_ok {o : Option (List Sl)} {S : Sto} {r : RO} (h : nxO o S = some r) : ∃ σ', o = some σ' ∧ r = .ok (.nx σ') S := by
  unfold nxO at h
  split at h
  · cases h; exact ⟨_, rfl, rfl⟩
  · cases h
theorem moOk {o : Out} {S : Sto} {r : RO} (h : MO.ok o S = some r) : r = .ok o S := by unfold MO.ok at h; cases h; rfl
/-- the end of a statement: a list is frozen -/
theorem wpS_mono {st : Stmt} {D D' : Ends} {σ : L2.St} {H : Hp} (h : wpS X st D σ H) (w : ∀ pins f s, SP X pins D f s → SP X pins D' f s) : wpS X st D' σ H := fun pins s I => thn (h pins s I) fun f s' q => w pins f s' q
theorem wpS_nx {st : Stmt} {D : Ends} {N : L2.St → Hp → Prop} {σ : L2.St} {H : Hp} (h : wpS X st { D with nx := N } σ H) (w : ∀ pins s ρ' H', Inv X pins ρ' H' s → N ρ' H' → ∃ H2, Inv X pins ρ' H2 s ∧ D.nx ρ' H2) : wpS X st D σ H := wpS_mono h fun pins f s q => by
  cases f with
  | next => obtain ⟨ρ', H', I, q⟩ := q; obtain ⟨H2, I2, q2⟩ := w pins s ρ' H' I q; exact ⟨ρ', H2, I2, q2⟩
  | brk => exact q
  | cont => exact q
  | ret v => exact q
/-- name = a comprehension (frozen, forgotten) -/
theorem asgLc {i : Nat} {y : Str} {py : Pos} {x : Expr} {pos : Pos} (hN : X.N[i]? = some y) : ∀ {e : E}, isLc e = true → lcLine sc (.Name y py) x = true → chk bl hot X.N sc e x = true → Ctx bl hot sc X Γ W ca S σ ρ H → ∀ {r : Rs D}, ev Γ e σ S = some r → ∀ {P : VK} {D : Ends}, Post X.K ca H r P (WE W ρ) →
      (∀ v H', P v H' → D.nx (ρ.set i (some v)) H') → wpS X (.Assign [.Name y py] x pos) D ρ H
  | .lc own g it cs e, _, hl, hc, C, r, he, P, D, q, hD => by
    cases x with
    | ListComp elt gens scope p2 =>
      have h6 : ((py.line == p2.line) && decide (sc.names.lookup y = some .local) && !(scope.names.any fun (n, k) => n == y && (k == .local || k == .cell))) = true := hl
      simp only [Bool.and_eq_true, decide_eq_true_eq, Bool.not_eq_true'] at h6
      obtain ⟨⟨hline, hly⟩, hany⟩ := h6
      obtain ⟨tg, iter, ifs, hh, rfl, okB, hg, ht, hel, hs, hq⟩ := lc_core (sndIt it) (sndC cs) (sndE e) hc C he
      have hly' : X.env.scope.names.lookup y = some .local := by rw [C.ok.scope]; exact hly
      refine wps_of (ps_setLc (C.ok.calm hh) C.ok.nd hN hly' (sw_true C.ok.kd hly' hline hany) pi_wp okB hg ht hel hs) (hq _ ?_)
      exact q.mono fun v H' p => hD v H' p
    | _ => simp [chk] at hc
  | .frz e, h, hl, hc, C, r, he, P, D, q, hD => by
    have hc' : chk bl hot X.N sc e x = true := by unfold chk at hc; exact hc
    unfold ev at he
    rcases bind_some he with ⟨d, S1, e1, e2⟩ | ⟨xc, S1, e1, rfl⟩
    · refine wpS_nx (N := fun ρ' H' => ∃ v, ρ' = ρ.set i (some v) ∧ FrzQ P v H') ?_ fun pins s ρ' H' I ⟨v, e, p⟩ => ?_
      · exact asgLc hN (e := e) h hl hc' C e1 (P := FrzQ P) (fun v ca1 H1 f1 R1 r1 => frz_ok f1 R1 r1 e2 q) fun v H' p => ⟨v, rfl, p⟩
      · subst e
        rcases p with ⟨a, vs, ev, ha, p⟩ | p
        · obtain ⟨o, I2⟩ := I.lock ha trivial
          exact ⟨_, I2, hD v _ (p o)⟩
        · exact ⟨_, I, hD v _ p⟩
    · exact asgLc hN (e := e) h hl hc' C e1 (P := P) q hD
  | .gc e, h, hl, hc, C, r, he, P, D, q, hD => by
    have hc' : chk bl hot X.N sc e x = true := by unfold chk at hc; exact hc
    unfold ev at he
    rcases bind_some he with ⟨d, S1, e1, e2⟩ | ⟨xc, S1, e1, rfl⟩
    · refine asgLc hN (e := e) h hl hc' C e1 (P := P) ?_ hD
      intro v ca1 H1 f1 R1 r1
      obtain ⟨ca2, f2, R2, r2⟩ := gc_ok C.rp f1 R1 r1 (d2 := (gcv S d S1).1) (S2 := (gcv S d S1).2) rfl
      have hr := ok_inj e2
      subst hr
      exact q v ca2 H1 f2 R2 r2
    · exact asgLc hN (e := e) h hl hc' C e1 (P := P) q hD
theorem asg_snd {g : G} {a : E} : SndS bl Γ (.asg g a) := by
  intro st hot sc X W ca S σ ρ H hc C hS r he D q
  cases st with
  | Assign ts x pos =>
    match ts with
    | [] => simp [chkT] at hc
    | _ :: _ :: _ => simp [chkT] at hc
    | [t] =>
      have hc' : (chkG false X.N sc g t && chk bl hot X.N sc a x && noSwap t x && (!isLc a || lcLine sc t x) && (!hot || gName1 g)) = true := by unfold chkT at hc; exact hc
      simp only [Bool.and_eq_true] at hc'
      obtain ⟨⟨⟨⟨h1, h2⟩, h3⟩, h4⟩, h5⟩ := hc'
      unfold run at he
      have hh : hot = false ∨ ∃ i, g = .nm i := by
        cases hot with
        | false => exact .inl rfl
        | true => cases g with
          | nm i => exact .inr ⟨i, rfl⟩
          | tup is => cases h5
      by_cases hlcE : isLc a = true
      · rw [hlcE] at h4
        have h4' : lcLine sc t x = true := by simpa using h4
        cases g with
        | nm i =>
          obtain ⟨y, py, rfl, hN, hlc⟩ := nm_name (show nmOk false X.N sc i t = true from h1)
          rcases go_some he with ⟨d, S1, e1, e2⟩ | ⟨xc, S1, e1, rfl⟩
          · obtain ⟨σ', e3, rfl⟩ := nxO_ok e2
            refine asgLc hN hlcE h4' h2 C e1 (P := fun v H' => ∃ ca', Fr ca H ca' H' ∧ Rp X.K ca' S1 H' ∧ RepD X.K ca' H' d v) (fun v ca1 H1 f1 R1 r1 => ⟨ca1, f1, R1, r1⟩) fun v H' ⟨ca1, f1, R1, r1⟩ => ?_
            exact q _ ca1 H' (by simp) f1 R1 ((C.sl.fr C.rp f1).putV (show putS σ i (.v d) = some σ' from e3) r1)
          · exact asgLc hN hlcE h4' h2 C e1 (P := fun _ _ => False) (EX.exc C q) fun _ _ z => z.elim
        | tup is => cases t <;> simp [lcLine, chkG] at h4' h1
      · have hz : isLc a = false := by simpa using hlcE
        have hsw : swappedStores [t] x X.env = pure none := by
          cases t <;> cases x <;> first | rfl | (cases h3; done) | (exfalso; cases g <;> cases h1)
        have fin : ∀ d S1, nxO (setG g d σ) S1 = some r → ∀ v ca1 H1, Fr ca H ca1 H1 → Rp X.K ca1 S1 H1 → RepD X.K ca1 H1 d v → gr X.K g v ρ H1 D.nx := fun d S1 e2 v ca1 H1 f1 R1 r1 => by
          obtain ⟨σ', e3, rfl⟩ := nxO_ok e2
          exact gr_ok (C.sl.fr C.rp f1) e3 r1 fun ρ' l' _ s' => q ρ' ca1 H1 l' f1 R1 s'
        cases g with
        | nm i =>
          obtain ⟨y, py, rfl, hN, hlc⟩ := nm_name (show nmOk false X.N sc i t = true from h1)
          have hloc := loc_of C.ok.scope (by simpa using hlc : locB sc y = true)
          refine wps_of (ps_set C.ok.nd hN hloc pe_wp (swaps_of h2 hz _ _ _) (.inl (hS.fn y))) ?_
          exact snd_go h2 C he q.x fun d S1 e2 v ca1 H1 f1 R1 r1 => fin d S1 e2 v ca1 H1 f1 R1 r1
        | tup is =>
          cases t with
          | Tuple es kk tp =>
            refine wps_of (ps_asg pe_wp (pg_of hh C.ok (fun _ => hS.fn) h1) (by unfold swapsWithSole; exact swaps_of h2 hz _ _ _) hsw rfl) ?_
            exact snd_go h2 C he q.x fun d S1 e2 v ca1 H1 f1 R1 r1 => fin d S1 e2 v ca1 H1 f1 R1 r1
          | _ => simp [chkG] at h1
  | _ => simp [chkT] at hc
def rAddD (o : Operator) : TIp := match o with
    | .Add => fun x y H Q => rI0 (fun i j => .int (i + j)) x y H Q ∨ ∃ i j, x = .str i ∧ y = .str j ∧ i.length + j.length ≤ sizeLine ∧ Q (.str (i ++ j)) H
    | .Sub => rI0 fun i j => .int (i - j)
    | _ => fun _ _ _ _ => False
theorem inp_ok (o : Operator) : PIp X o (rAddD o) := by
  cases o with
  | Add => exact OpR.or iop_add iop_add_str
  | Sub => exact iop_sub
  | _ => intro pins s σ H x y v u Q I rx ry h; exact False.elim h
theorem addW_ok {K : PySem.W.Frag} {o : Operator} {x y d : D} {u w : V} {Q : VK} (h : addW o x y = some d) (rx : RepD K ca H x u) (ry : RepD K ca H y w) (q : ∀ z, RepD K ca H d z → Q z H) : rAddD o u w H Q := by
  unfold addW at h
  split at h
  · cases h; rw [rx.intv, ry.intv]; exact .inl ⟨_, _, rfl, rfl, q _ rfl⟩
  · cases h; rw [rx.intv, ry.intv]; exact ⟨_, _, rfl, rfl, q _ rfl⟩
  · obtain ⟨c, h⟩ := gP_ok h
    cases h; rw [rx.strv, ry.strv]; exact .inr ⟨_, _, rfl, rfl, c, q _ rfl⟩
  · cases h
theorem aug_snd {i : Nat} {o : Operator} {e : E} : SndS bl Γ (.aug i o e) := by
  intro st hot sc X W ca S σ ρ H hc C hS r he D q
  cases st with
  | AugAssign t p y pos =>
    cases t with
    | Name x py =>
      have hc' : (decide (X.N[i]? = some x) && locB sc x && decide (o = p) && chk bl hot X.N sc e y) = true := by unfold chkT at hc; exact hc
      simp only [Bool.and_eq_true, decide_eq_true_eq] at hc'
      obtain ⟨⟨⟨h1, h2⟩, h3⟩, h4⟩ := hc'
      subst h3
      unfold run at he
      split at he
      · rename_i x0 e3
        refine wps_of (ps_aug C.ok.nd h1 (loc_of C.ok.scope h2) pe_wp (inp_ok o) (.inl (hS.fn x))) ?_
        obtain ⟨v, ev, r0⟩ := C.sl.sl i _ e3
        refine ⟨v, ev, ?_⟩
        refine snd_go h4 C he q.x fun dy S1 e2 vy ca1 H1 f1 R1 r1 => ?_
        split at e2
        · rename_i z ez
          obtain ⟨σ', e4, rfl⟩ := nxO_ok e2
          refine addW_ok ez (r0.fr f1) r1 fun u hu => ?_
          exact q _ ca1 H1 (by simp) f1 R1 ((C.sl.fr C.rp f1).putV e4 hu)
        · cases e2
      · cases he
    | _ => simp [chkT] at hc
  | _ => simp [chkT] at hc
end
end Hv
/-! Hv10: the other statements. -/
namespace Hv
open PySem PySem.Spec
open PyProof.Rows hiding St
open L2
theorem lookup_setF (f g : Str) (x : D) : ∀ fs : List (Str × D), (setF f x fs).lookup g = if g = f then some x else fs.lookup g
  | [] => by
    show List.lookup g [(f, x)] = _
    rw [List.lookup_cons]
    by_cases h : g = f
    · have : (g == f) = true := by simpa using h
      rw [this, if_pos h]
    · have : (g == f) = false := by simpa using h
      rw [this, if_neg h]
  | (k, z) :: r => by
    by_cases hk : k = f
    · have es : setF f x ((k, z) :: r) = (k, x) :: r := if_pos hk
      rw [es, List.lookup_cons, List.lookup_cons]
      subst hk
      by_cases h : g = k
      · have : (g == k) = true := by simpa using h
        rw [this, if_pos h]
      · have : (g == k) = false := by simpa using h
        rw [this, if_neg h]
    · have es : setF f x ((k, z) :: r) = (k, z) :: setF f x r := if_neg hk
      rw [es, List.lookup_cons, List.lookup_cons, lookup_setF f g x r]
      by_cases h : g = k
      · have : (g == k) = true := by simpa using h
        subst h
        simp [hk]
      · have : (g == k) = false := by simpa using h
        rw [this]
theorem setF_len2 {f : Str} {x : D} {u : V} : ∀ {fs : List (Str × D)} {fs' : List (Str × V)} , fs'.length = fs.length → (∀ g, fs.lookup g = none → fs'.lookup g = none) → (∀ g y, fs.lookup g = some y → ∃ v, fs'.lookup g = some v) → (putF f u fs').length = (setF f x fs).length := by
  have h1 : ∀ fs : List (Str × D), (setF f x fs).length = if (fs.lookup f).isSome then fs.length else fs.length + 1 := by
    intro fs
    induction fs with
    | nil => rfl
    | cons p r ih =>
      obtain ⟨k, z⟩ := p
      by_cases hk : k = f
      · have es : setF f x ((k, z) :: r) = (k, x) :: r := if_pos hk
        rw [es, List.lookup_cons]
        have : (f == k) = true := by simpa using hk.symm
        rw [this]; simp
      · have es : setF f x ((k, z) :: r) = (k, z) :: setF f x r := if_neg hk
        rw [es, List.lookup_cons]
        have : (f == k) = false := by simpa using Ne.symm hk
        rw [this, List.length_cons, ih]
        simp only [List.length_cons]
        split <;> rfl
  have h2 : ∀ fs : List (Str × V), (putF f u fs).length = if (fs.lookup f).isSome then fs.length else fs.length + 1 := by
    intro fs
    induction fs with
    | nil => rfl
    | cons p r ih =>
      obtain ⟨k, z⟩ := p
      by_cases hk : k = f
      · have es : putF f u ((k, z) :: r) = (k, u) :: r := if_pos hk
        rw [es, List.lookup_cons]
        have : (f == k) = true := by simpa using hk.symm
        rw [this]; simp
      · have es : putF f u ((k, z) :: r) = (k, z) :: putF f u r := if_neg hk
        rw [es, List.lookup_cons]
        have : (f == k) = false := by simpa using Ne.symm hk
        rw [this, List.length_cons, ih]
        simp only [List.length_cons]
        split <;> rfl
  intro fs fs' hl hn hs
  rw [h1, h2, hl]
  cases e : fs.lookup f with
  | none => rw [hn f e]; simp
  | some y => obtain ⟨v, e2⟩ := hs f y e; rw [e2]; simp
section
variable {bl : List Str} {hot : Bool} {sc : Scope} {X : Cx} {Γ : Gam} {W : WX} {ca ca' : Am} {S S' : Sto} {σ : List Sl} {ρ : L2.St} {H H' : Hp}
/-- a field of an object cell is set -/
theorem setFld_ok {x d : D} {f : Str} {v : V} (C : Ctx bl hot sc X Γ W ca S σ ρ H) (r : RepD X.K ca H x v) (e : setFld Γ x f d S = some S') : ∃ a c dx fs', v = .ref a ∧ H a = some (.ins (ca.c c) dx fs') ∧ Cls X.K (ca.c c) ∧ NoAttr X.K (ca.c c) f ∧ fs'.length < 1000 ∧
    ∀ u, RepD X.K ca H d u → Rp X.K ca S' (upd H a (.ins (ca.c c) dx (putF f u fs'))) ∧ Fr ca H ca (upd H a (.ins (ca.c c) dx (putF f u fs'))) := by
  unfold setFld at e
  split at e
  · rename_i n
    split at e
    · rename_i c fs ec
      split at e
      · rename_i g eg
        obtain ⟨hl, e⟩ := gP_ok e
        cases e
        obtain ⟨a, dx, fs', ev, ea, ha, hn, hf⟩ := obj_rd C.rp r ec
        obtain ⟨k1, k2⟩ : Cls X.K (ca.c c) ∧ NoAttr X.K (ca.c c) f := C.kf _ g eg
        refine ⟨a, c, dx, fs', ev, ha, k1, k2, by omega, fun u ru => ?_⟩
        have tk : TK H (upd H a (.ins (ca.c c) dx (putF f u fs'))) := tk_upd ha (fun _ z => by cases z) (fun _ _ z => by cases z)
        refine C.rp.put ea ha (fun _ z => by cases z) (fun _ _ z => by cases z) ⟨dx, putF f u fs', upd_same, setF_len2 hn (fun g hg => ?_) (fun g y hg => ?_), fun g => ?_⟩
        · have := hf g
          rw [hg] at this
          exact this
        · have := hf g
          rw [hg] at this
          obtain ⟨v, l, _⟩ := this
          exact ⟨v, l⟩
        · unfold RepF
          rw [lookup_setF, lookup_putF]
          by_cases hg : g = f
          · rw [if_pos hg, if_pos hg]
            exact ⟨u, rfl, ru.mono tk .refl⟩
          · rw [if_neg hg, if_neg hg]
            exact (hf g).mono tk .refl
      · cases e
    · cases e
  · cases e
theorem fset_snd {b : E} {f : Str} {a : E} : SndS bl Γ (.fset b f a) := by
  intro st hot sc X W ca S σ ρ H hc C hS r he D q
  cases st with
  | Assign ts z pos =>
    match ts with
    | [] => simp [chkT] at hc
    | _ :: _ :: _ =>
      exfalso
      revert hc
      rename_i t _ _
      cases t <;> simp [chkT]
    | [t] =>
      cases t with
      | Attribute x y ap =>
        have hc' : (!hot && decide (f = y) && baseOk x && chk bl hot X.N sc b x && chk bl hot X.N sc a z) = true := by unfold chkT at hc; exact hc
        simp only [Bool.and_eq_true, decide_eq_true_eq, Bool.not_eq_true'] at hc'
        obtain ⟨⟨⟨⟨hh, h1⟩, h0⟩, h2⟩, h3⟩ := hc'
        subst h1
        unfold run at he
        have hsw : swapsWith z (some (.Attribute x f ap)) pos.line X.env = pure false := by
          unfold swapsWith
          cases z <;> rfl
        refine wps_of (ps_fld pe_wp pe_wp hsw) ?_
        refine snd_go h3 C he q.x fun dy S1 e1 vy ca1 H1 f1 R1 r1 => ?_
        have C1 := C.step f1 R1
        refine snd_go h2 C1 e1 (q.x.after f1) fun dx S2 e2 vx ca2 H2 f2 R2 r2 => ?_
        split at e2
        · rename_i S3 e3
          have C2 := C1.step f2 R2
          obtain ⟨p, c, dx2, fs', ev, hp, k1, k2, hl, fin⟩ := setFld_ok C2 r2 e3
          obtain ⟨R3, f3⟩ := fin vy (r1.fr f2)
          have hr := moOk e2
          subst hr
          have f13 := (f1.trans f2).trans f3
          exact ⟨p, _, dx2, fs', ev, hp, k1, k2, hl, q ρ ca2 _ rfl f13 R3 (C.sl.fr C.rp f13)⟩
        · cases e2
      | _ => simp [chkT] at hc
  | _ => simp [chkT] at hc
theorem faug_snd {b : E} {f : Str} {o : Operator} {e : E} : SndS bl Γ (.faug b f o e) := by
  intro st hot sc X W ca S σ ρ H hc C hS r he D q
  cases st with
  | AugAssign t p z pos =>
    cases t with
    | Attribute x y ap =>
      have hc' : (!hot && decide (f = y) && baseOk x && decide (o = p) && chk bl hot X.N sc b x && chk bl hot X.N sc e z) = true := by unfold chkT at hc; exact hc
      simp only [Bool.and_eq_true, decide_eq_true_eq, Bool.not_eq_true'] at hc'
      obtain ⟨⟨⟨⟨⟨hh, h1⟩, h0⟩, ho⟩, h2⟩, h3⟩ := hc'
      subst h1 ho
      unfold run at he
      refine wps_of (ps_fldaug pe_wp pe_wp (fun pins s σ H x y u v Q I rx ry h => inp_ok o pins s σ H x y u v Q I rx ry h)) ?_
      refine snd_go h2 C he q.x fun dx S1 e1 vx ca1 H1 f1 R1 r1 => ?_
      have C1 := C.step f1 R1
      split at e1
      · rename_i n
        split at e1
        · rename_i c fs ec
          split at e1
          · rename_i g d eg el
            obtain ⟨a, dx, fs', ev, ea, ha, hn, hf⟩ := obj_rd R1 r1 ec
            obtain ⟨k1, k2⟩ : Cls X.K (ca1.c c) ∧ NoAttr X.K (ca1.c c) f := C1.kf _ g eg
            have q1 := hf f
            rw [el] at q1
            obtain ⟨u, lu, ru⟩ := q1
            refine ⟨a, _, dx, fs', u, ev, ha, k1, k2, lu, ?_⟩
            refine snd_go h3 C1 e1 (q.x.after f1) fun dy S2 e2 vy ca2 H2 f2 R2 r2 => ?_
            split at e2
            · rename_i z0 c' fs0 ez ec2
              split at e2
              · rename_i hcc
                subst hcc
                split at e2
                · rename_i S3 e3
                  refine addW_ok ez (ru.fr f2) r2 fun w hw => ?_
                  have C2 := C1.step f2 R2
                  obtain ⟨p, c3, dx3, fs3, ev3, hp3, k3, k4, hl3, fin⟩ := setFld_ok C2 (r1.fr f2) e3
                  obtain ⟨R3, f3⟩ := fin w hw
                  have hr := moOk e2
                  subst hr
                  have f13 := (f1.trans f2).trans f3
                  have epa : p = a := by rw [ev] at ev3; cases ev3; rfl
                  subst epa
                  have key : ca2.c c3 = ca1.c c' := by
                    obtain ⟨a4, dx4, fs4, ev4, ea4, ha4, _⟩ := obj_rd R2 (r1.fr f2) ec2
                    have : a4 = p := by rw [ev] at ev4; cases ev4; rfl
                    subst this
                    rw [hp3] at ha4
                    have e5 : ca2.c c3 = ca2.c c' := by injection ha4 with h; injection h
                    rw [e5, f2.le.1]
                  rw [key] at hp3 R3 f3 f13
                  exact ⟨dx3, fs3, hp3, hl3, q ρ ca2 _ rfl f13 R3 (C.sl.fr C.rp f13)⟩
                · cases e2
              · cases e2
            · cases e2
          · cases e1
        · cases e1
      · cases e1
    | _ => simp [chkT] at hc
  | _ => simp [chkT] at hc
end
end Hv
/-! Hv11: items set, expressions, returns, tests, loops. -/
namespace Hv
open PySem PySem.Spec
open PyProof.Rows hiding St
open L2
section
variable {bl : List Str} {hot : Bool} {sc : Scope} {X : Cx} {Γ : Gam} {W : WX} {ca ca' : Am} {S S' : Sto} {σ : List Sl} {ρ : L2.St} {H H' : Hp}
def rSetE : TSet := fun o i v H Q => rSetL o i v H Q ∨ rSetD o i v H Q
theorem set_any (hu : X.A.units + 1 < cLine) : PSet X rSetE := by
  intro pins s σ H o i v ov iv u Q I ro ri rv h
  rcases h with h | h
  · exact set_list pins s σ H o i v ov iv u Q I ro ri rv h
  · exact set_dict hu pins s σ H o i v ov iv u Q I ro ri rv h
theorem put_keys {κ : Type} [DecidableEq κ] {kvs : List (κ × D)} {vs : List (κ × V)} {K : PySem.W.Frag} (r : RepKs K ca H kvs vs) (k : κ) {x : D} {v : V} (rx : RepD K ca H x v) : RepKs K ca H (putL kvs k x) (putK vs k v) := by
  obtain ⟨h1, h2⟩ := r
  have hany : (kvs.any fun p => decide (p.1 = k)) = (vs.any fun p => decide (p.1 = k)) := by
    have e1 : (kvs.any fun p => decide (p.1 = k)) = (kvs.map (·.1)).any (fun z => decide (z = k)) := by rw [List.any_map]; rfl
    have e2 : (vs.any fun p => decide (p.1 = k)) = (vs.map (·.1)).any (fun z => decide (z = k)) := by rw [List.any_map]; rfl
    rw [e1, e2, h1]
  unfold putL putK
  rw [← hany]
  by_cases hc : (kvs.any fun p => decide (p.1 = k)) = true
  · rw [if_pos hc, if_pos hc]
    clear hany hc
    induction kvs generalizing vs with
    | nil =>
      have : vs = [] := by
        cases vs with
        | nil => rfl
        | cons _ _ => simp at h1
      subst this
      exact ⟨rfl, .nil⟩
    | cons p r ih =>
      cases vs with
      | nil => simp at h1
      | cons q r' =>
        have e1 : p.1 = q.1 ∧ r.map (·.1) = r'.map (·.1) := by simpa using h1
        have h2' : RepDs K ca H (p.2 :: r.map (·.2)) (q.2 :: r'.map (·.2)) := h2
        unfold RepDs at h2'
        obtain ⟨v1, r1, e2, e3, e4⟩ := h2'
        cases e2
        obtain ⟨i1, i2⟩ := ih e1.2 e4
        rw [List.map_cons, List.map_cons]
        by_cases hk : p.1 = k
        · have hk' : q.1 = k := by rw [← e1.1]; exact hk
          rw [if_pos hk, if_pos hk']
          exact ⟨by simp only [List.map_cons]; rw [i1, e1.1], .cons rx i2⟩
        · have hk' : ¬ q.1 = k := by rw [← e1.1]; exact hk
          rw [if_neg hk, if_neg hk']
          exact ⟨by simp only [List.map_cons]; rw [i1, e1.1], .cons e3 i2⟩
  · rw [if_neg hc, if_neg hc]
    refine ⟨by simp [h1], ?_⟩
    rw [List.map_append, List.map_append]
    exact h2.app (.cons rx .nil)
/-- x[k] = d -/
theorem setIt_ok {x k d : D} {vx vk vd : V} {Q : Hp → Prop} (R : Rp X.K ca S H) (rx : RepD X.K ca H x vx) (rk : RepD X.K ca H k vk) (rd : RepD X.K ca H d vd) (e : setIt x k d S = some S') (q : ∀ H', Fr ca H ca H' → Rp X.K ca S' H' → Q H') : rSetE vx vk vd H Q := by
  unfold setIt at e
  split at e
  · rename_i n
    split at e
    · rename_i xs ec
      split at e
      · rename_i j
        split at e
        · rename_i i ei
          cases e
          obtain ⟨a, rfl, ea, vs, ha, rs⟩ := cell_rd R rx ec
          refine .inl ⟨a, vs, j, i, rfl, rk.intv, ha, by rw [rs.length]; exact ei, ?_⟩
          have tk : TK H (upd H a (.lst (vs.set i vd))) := tk_upd ha (fun _ z => by cases z) (fun _ _ z => by cases z)
          obtain ⟨R2, f2⟩ := R.put (c := .lst (xs.set i d)) ea ha (fun _ z => by cases z) (fun _ _ z => by cases z) ⟨_, upd_same, (rs.set i rd).mono tk .refl⟩
          exact q _ f2 R2
        · cases e
      · cases e
    · unfold dput at e
      simp only at e
      split at e
      · rename_i kvs ec
        obtain ⟨hl, e⟩ := gP_ok e
        obtain ⟨κ, ek, e⟩ := Option.map_eq_some_iff.mp e
        subst e
        obtain ⟨a, rfl, ea, vs, ha, rs⟩ := cell_rd R rx ec
        have hk := key_rd rk ek
        subst hk
        have hlen : vs.length = kvs.length := by have := congrArg List.length rs.1; simpa using this.symm
        refine .inr ⟨a, _, rfl, DPut.k ha (by rw [hlen]; exact hl), ?_⟩
        have tk : TK H (upd H a (.dK (putK vs κ vd))) := tk_upd ha (fun _ z => by cases z) (fun _ _ z => by cases z)
        obtain ⟨R2, f2⟩ := R.put (c := .dK (putL kvs κ d)) ea ha (fun _ z => by cases z) (fun _ _ z => by cases z) ⟨_, upd_same, (put_keys rs κ rd).mono tk .refl⟩
        exact q _ f2 R2
      · rename_i kvs ec
        obtain ⟨hl, e⟩ := gP_ok e
        obtain ⟨κ, ek, e⟩ := Option.map_eq_some_iff.mp e
        subst e
        obtain ⟨a, rfl, ea, vs, ha, rs⟩ := cell_rd R rx ec
        obtain ⟨b, rfl, hb⟩ := keyT_rd rk ek
        have hlen : vs.length = kvs.length := by have := congrArg List.length rs.1; simpa using this.symm
        refine .inr ⟨a, _, rfl, DPut.t ha hb (by rw [hlen]; exact hl), ?_⟩
        have tk : TK H (upd H a (.dT (putK vs κ vd))) := tk_upd ha (fun _ z => by cases z) (fun _ _ z => by cases z)
        obtain ⟨R2, f2⟩ := R.put (c := .dT (putL kvs κ d)) ea ha (fun _ z => by cases z) (fun _ _ z => by cases z) ⟨_, upd_same, (put_keys rs κ rd).mono tk .refl⟩
        exact q _ f2 R2
      · cases e
  · cases e
theorem setI_snd {b k : E} {a : E} : SndS bl Γ (.setI b k a) := by
  intro st hot sc X W ca S σ ρ H hc C hS r he D q
  cases st with
  | Assign ts z pos =>
    match ts with
    | [] => simp [chkT] at hc
    | _ :: _ :: _ =>
      exfalso
      revert hc
      rename_i t _ _
      cases t <;> simp [chkT]
    | [t] =>
      cases t with
      | Subscript x y sp =>
        have hc' : (!hot && chk bl hot X.N sc b x && chk bl hot X.N sc k y && chk bl hot X.N sc a z && okX y) = true := by unfold chkT at hc; exact hc
        simp only [Bool.and_eq_true, Bool.not_eq_true'] at hc'
        obtain ⟨⟨⟨⟨hh, h1⟩, h2⟩, h3⟩, h4⟩ := hc'
        unfold run at he
        have ha : ∀ v, assign (.Subscript x y sp) X.env v = (do
            let ov ← holding [v] (eval x X.env)
            let iv ← holding [v, ov] (eval y X.env)
            standAt sp
            holding [v, ov, iv] (setItem ov iv v)
            release [v, ov, iv] []) := by
          intro v
          cases y <;> first | rfl | cases h4
        have hsw : swapsWithSole [.Subscript x y sp] z pos.line X.env = pure false := by
          unfold swapsWithSole swapsWith
          cases z <;> rfl
        refine wps_of (ps_asg pe_wp (pg_sub pe_wp pe_wp (set_any (un1 C.ok)) ha) hsw (by cases z <;> rfl) rfl) ?_
        refine snd_go h3 C he q.x fun dy S1 e1 vy ca1 H1 f1 R1 r1 => ?_
        have C1 := C.step f1 R1
        refine snd_go h1 C1 e1 (q.x.after f1) fun dx S2 e2 vx ca2 H2 f2 R2 r2 => ?_
        have C2 := C1.step f2 R2
        refine snd_go h2 C2 e2 (q.x.after (f1.trans f2)) fun dk S3 e3 vk ca3 H3 f3 R3 r3 => ?_
        split at e3
        · rename_i S4 e4
          have hr := moOk e3
          subst hr
          refine setIt_ok R3 (r2.fr f3) r3 (r1.fr (f2.trans f3)) e4 fun H4 f4 R4 => ?_
          have f14 := ((f1.trans f2).trans f3).trans f4
          exact q ρ ca3 H4 rfl f14 R4 (C.sl.fr C.rp f14)
        · cases e3
      | _ => simp [chkT] at hc
  | _ => simp [chkT] at hc
theorem expr_snd {a : E} : SndS bl Γ (.expr a) := by
  intro st hot sc X W ca S σ ρ H hc C hS r he D q
  cases st with
  | Expr x pos =>
    have hc' : (chk bl hot X.N sc a x && !isLc a) = true := by unfold chkT at hc; exact hc
    simp only [Bool.and_eq_true, Bool.not_eq_true'] at hc'
    obtain ⟨h1, h2⟩ := hc'
    unfold run at he
    refine wps_of (ps_expr pe_wp (swaps_of h1 h2 _ _ _)) ?_
    refine snd_go h1 C he q.x fun dx S1 e1 vx ca1 H1 f1 R1 r1 => ?_
    have hr := moOk e1
    subst hr
    exact q ρ ca1 H1 rfl f1 R1 (C.sl.fr C.rp f1)
  | _ => simp [chkT] at hc
theorem ret_snd {a : E} : SndS bl Γ (.ret a) := by
  intro st hot sc X W ca S σ ρ H hc C hS r he D q
  cases st with
  | Return x pos =>
    cases x with
    | none => simp [chkT] at hc
    | some x =>
      have h1 : chk bl hot X.N sc a x = true := by unfold chkT at hc; exact hc
      unfold run at he
      refine wps_of (ps_ret pe_wp) ?_
      refine snd_go h1 C he q.x fun dx S1 e1 vx ca1 H1 f1 R1 r1 => ?_
      have hr := moOk e1
      subst hr
      exact q vx ca1 H1 f1 R1 r1
  | _ => simp [chkT] at hc
theorem retN_snd : SndS bl Γ .retN := by
  intro st hot sc X W ca S σ ρ H hc C hS r he D q
  cases st with
  | Return x pos =>
    cases x with
    | some x => simp [chkT] at hc
    | none =>
      unfold run at he
      have hr := moOk he
      subst hr
      exact wps_of ps_retN (q .non ca H .refl C.rp rfl)
  | _ => simp [chkT] at hc
theorem brk_snd : SndS bl Γ .brk := by
  intro st hot sc X W ca S σ ρ H hc C hS r he D q
  cases st with
  | Break pos =>
    unfold run at he
    have hr := moOk he
    subst hr
    exact wps_of ps_break (q ρ ca H rfl .refl C.rp C.sl)
  | _ => simp [chkT] at hc
theorem cnt_snd : SndS bl Γ .cnt := by
  intro st hot sc X W ca S σ ρ H hc C hS r he D q
  cases st with
  | Continue pos =>
    unfold run at he
    have hr := moOk he
    subst hr
    exact wps_of ps_continue (q ρ ca H rfl .refl C.rp C.sl)
  | _ => simp [chkT] at hc
theorem pass_snd : SndS bl Γ .pass := by
  intro st hot sc X W ca S σ ρ H hc C hS r he D q
  cases st with
  | Pass pos =>
    unfold run at he
    have hr := moOk he
    subst hr
    exact wps_of ps_pass (q ρ ca H rfl .refl C.rp C.sl)
  | _ => simp [chkT] at hc
theorem nev_snd : SndS bl Γ .nev := by
  intro st hot sc X W ca S σ ρ H hc C hS r he D q
  unfold run at he
  cases he
theorem ite_snd {c : E} {a b : Ts} (Sa : SndSs bl Γ a) (Sb : SndSs bl Γ b) : SndS bl Γ (.ite c a b) := by
  intro st hot sc X W ca S σ ρ H hc C hS r he D q
  cases st with
  | If x l m pos =>
    have hc' : (tstOk c && chk bl hot X.N sc c x && chkTs bl hot X.N sc a l && chkTs bl hot X.N sc b m) = true := by unfold chkT at hc; exact hc
    simp only [Bool.and_eq_true] at hc'
    obtain ⟨⟨⟨h0, h1⟩, h2⟩, h3⟩ := hc'
    unfold run at he
    refine wps_of (ps_if pt_wp pss_wp pss_wp) ?_
    refine snd_got h0 h1 C he q.x fun k S1 e1 ca1 H1 f1 R1 => ?_
    have C1 := C.step f1 R1
    cases k with
    | true =>
      rw [if_pos rfl]
      exact Sa l hot sc X W ca1 S1 σ ρ H1 h2 C1 hS r e1 D (q.after f1)
    | false =>
      rw [if_neg Bool.false_ne_true]
      exact Sb m hot sc X W ca1 S1 σ ρ H1 h3 C1 hS r e1 D (q.after f1)
  | _ => simp [chkT] at hc
theorem nil_sndS : SndSs bl Γ .nil := by
  intro st hot sc X W ca S σ ρ H hc C hS r he D q
  cases st with
  | nil =>
    unfold runs at he
    have hr := moOk he
    subst hr
    exact wpss_of pss_nil (q ρ ca H rfl .refl C.rp C.sl)
  | cons _ _ => simp [chkTs] at hc
theorem then_some {x : MO} {f : List Sl → Sto → MO} {r : RO} (h : x.then f = some r) : (∃ σ' S1, x = some (.ok (.nx σ') S1) ∧ f σ' S1 = some r) ∨ (x = some r ∧ ∀ σ' S1, r ≠ .ok (.nx σ') S1) := by
  unfold MO.then at h
  split at h
  · exact .inl ⟨_, _, rfl, h⟩
  · rename_i hne
    refine .inr ⟨h, fun σ' S1 e => ?_⟩
    subst e
    exact hne _ _ h
theorem cons_sndS {t : T} {ts : Ts} (hg : ∀ is, t ≠ .fgt is) (Sh : SndS bl Γ t) (Ss : SndSs bl Γ ts) : SndSs bl Γ (.cons t ts) := by
  intro st hot sc X W ca S σ ρ H hc C hS r he D q
  have hc0 : (match st with
      | s :: ss => chkT bl hot X.N sc t s && chkTs bl hot X.N sc ts ss
      | [] => false) = true := by
    unfold chkTs at hc
    split at hc
    · exact absurd rfl (hg _)
    · cases st <;> exact hc
  cases st with
  | nil => cases hc0
  | cons st l =>
    have hc' : chkT bl hot X.N sc t st = true ∧ chkTs bl hot X.N sc ts l = true := by simpa using hc0
    unfold runs at he
    refine wpss_of (pss_cons ps_wp pss_wp) ?_
    rcases then_some he with ⟨σ1, S1, e1, e2⟩ | ⟨e1, hne⟩
    · refine Sh st hot sc X W ca S σ ρ H hc'.1 C hS _ e1 _ fun ρ1 ca1 H1 l1 f1 R1 s1 => ?_
      refine Ss l hot sc X W ca1 S1 σ1 ρ1 H1 hc'.2 (C.slots f1 R1 s1 l1) hS r e2 D ?_
      rw [l1]
      exact q.after f1
    · refine Sh st hot sc X W ca S σ ρ H hc'.1 C hS r e1 _ ?_
      cases r with
      | exc e σ1 S1 => exact q
      | ok o S1 => cases o with
        | nx σ1 => exact absurd rfl (hne σ1 S1)
        | brk σ1 => exact q
        | cnt σ1 => exact q
        | ret d => exact q
end
end Hv
/-! Hv12: loops, raise, try, the theorem for statements. -/
namespace Hv
open PySem PySem.Spec
open PyProof.Rows hiding St
open L2
section
variable {bl : List Str} {hot : Bool} {sc : Scope} {X : Cx} {Γ : Gam} {W : WX} {ca ca' : Am} {S S' : Sto} {σ : List Sl} {ρ : L2.St} {H H' : Hp}
theorem it_go {it : Hv.It} (Si : SndIt bl Γ it) {g : G} {tg x : Expr} (htt : (∃ j, g = .nm j) ∨ ∃ es k p, tg = .Tuple es k p) (ht : tgOk it g = true) (hc : chki bl X.N sc it x = true) (C : Ctx bl false sc X Γ W ca S σ ρ H)
    {f : List D × Src → Sto → MO} {r : RO} (he : (evi Γ it σ S).go σ f = some r) (hx : EX X.pn X.K ca H ρ.length r W) {R : L2.It → Hp → Prop}
    (q : ∀ xs src S1, f (xs, src) S1 = some r → ∀ J ca1 H1, Fr ca H ca1 H1 → Rp X.K ca1 S1 H1 → stands S1 src → ItOk X.K ca1 H1 J xs src → R J H1) : wpI X tg x ρ H R := by
  rcases go_some he with ⟨⟨xs, src⟩, S1, e1, e2⟩ | ⟨xc, S1, e1, rfl⟩
  · refine it_snd Si (tg := tg) htt ht hc C (F := fun p S => M.ok p S) (r := .ok (xs, src) S1) (by rw [e1]; rfl) trivial fun xs2 src2 S2 e3 J ca1 H1 f1 R1 st1 hJ => ?_
    have := ok_inj e3
    cases this
    exact q xs src S1 e2 J ca1 H1 f1 R1 st1 hJ
  · refine it_snd Si (tg := tg) htt ht hc C (F := fun p S => M.ok p S) (r := .exc xc S1) (by rw [e1]; rfl) (EX.exc C hx) fun xs2 src2 S2 e3 => ?_
    have := ok_inj e3
    cases this
theorem for_snd {g : G} {it : Hv.It} {b : Ts} (Sb : SndSs bl Γ b) : SndS bl Γ (.for_ g it b) := by
  intro st hot sc X W ca S σ ρ H hc C0 hS r he D q
  cases st with
  | For tg iter body orelse pos =>
    cases orelse with
    | cons _ _ => simp [chkT] at hc
    | nil =>
      have hc' : (!hot && tgOk it g && chkG false X.N sc g tg && chki bl X.N sc it iter && okX iter && chkTs bl hot X.N sc b body) = true := by unfold chkT at hc; exact hc
      simp only [Bool.and_eq_true, Bool.not_eq_true'] at hc'
      obtain ⟨⟨⟨⟨⟨hh, h1⟩, h2⟩, h3⟩, h3'⟩, h4⟩ := hc'
      subst hh
      have C := C0
      unfold run at he
      have htt : (∃ j, g = .nm j) ∨ ∃ es k p, tg = .Tuple es k p := by
        cases g with
        | nm j => exact .inl ⟨j, rfl⟩
        | tup is => cases tg with
          | Tuple es k p => exact .inr ⟨es, k, p, rfl⟩
          | _ => simp [chkG] at h2
      refine wps_of (ps_for (hS.own rfl) (C.ok.calm rfl) pi_wp (pg_of (.inl rfl) C.ok (fun _ => hS.fn) h2) pss_wp (fun x => fold_ok h3' _ x)) ?_
      refine it_go (sndIt it) (tg := tg) htt h1 h3 C he q.x fun xs src S1 e1 J ca1 H1 f1 R1 st1 hJ => ?_
      refine ⟨fun i m ρ2 H2 => ∃ ca2 S2 σ2, m = xs.length - i ∧ i ≤ xs.length ∧ ρ2.length = ρ.length ∧ Fr ca1 H1 ca2 H2 ∧ Rp X.K ca2 S2 H2 ∧ Sls X.pn X.K ca2 H2 σ2 ρ2 ∧ stands S2 src ∧
        forRun src (fun x σ => setG g x σ) (runs Γ b) (xs.drop i) σ2 S2 = some r, ⟨xs.length, ca1, S1, σ, by simp, Nat.zero_le _, rfl, .refl, R1, C.sl.fr C.rp f1, st1, e1⟩, ?_⟩
      rintro i m ρ2 H2 ⟨ca2, S2, σ2, rfl, hi, l2, f2, R2, s2, st2, e3⟩
      obtain ⟨hgo, hstop⟩ := hJ ca2 S2 H2 f2 R2 st2
      have f12 := f1.trans f2
      by_cases hlt : i < xs.length
      · have hx : xs[i]? = some xs[i] := List.getElem?_eq_getElem hlt
        obtain ⟨go, yld⟩ := hgo i _ hx
        refine .inr ⟨go, fun ρ3 H3 => ∃ ca3 S3 σ3, ρ3.length = ρ.length ∧ Fr ca1 H1 ca3 H3 ∧ Rp X.K ca3 S3 H3 ∧ Sls X.pn X.K ca3 H3 σ3 ρ3 ∧ stands S3 src ∧
          forRun src (fun x σ => setG g x σ) (runs Γ b) (xs.drop (i + 1)) σ3 S3 = some r, ?_, ?_⟩
        · rintro ρ3 H3 ⟨ca3, S3, σ3, a1, a2, a3, a4, a5, a6⟩
          exact ⟨xs.length - (i + 1), by omega, ca3, S3, σ3, rfl, hlt, a1, a2, a3, a4, a5, a6⟩
        · intro v H3 hy
          obtain ⟨⟨f3, R3⟩, rx⟩ := yld v H3 hy
          rw [List.drop_eq_getElem_cons hlt] at e3
          unfold forRun at e3
          cases eb : setG g xs[i] σ2 with
          | none => rw [eb] at e3; cases e3
          | some σ3 =>
            rw [eb] at e3
            simp only at e3
            refine gr_ok (s2.fr R2 f3) eb rx fun ρ3 l3 _ s3 => ?_
            have l3' : ρ3.length = ρ.length := l3.trans l2
            have f13 := f12.trans f3
            have C3 : Ctx bl false sc X Γ W ca2 S2 σ3 ρ3 H3 := C.slots f13 R3 s3 l3'
            cases eo : runs Γ b σ3 S2 with
            | none => rw [eo] at e3; cases e3
            | some ob =>
            rw [eo] at e3
            refine Sb body false sc X W ca2 S2 σ3 ρ3 H3 h4 C3 hS ob eo _ ?_
            rw [l3']
            have fA : Fr ca1 H1 ca2 H3 := f2.trans f3
            cases ob with
            | exc e σ4 S4 =>
              have hr : RO.exc e σ4 S4 = r := by simpa using e3
              subst hr
              exact fun cls dd ρ' ca' H' l' f' => q cls dd ρ' ca' H' l' (f13.trans f')
            | ok o S4 => cases o with
              | nx σ4 =>
                obtain ⟨hst, e5⟩ := gP_ok (show gP (stands S4 src) (forRun src (fun x σ => setG g x σ) (runs Γ b) (xs.drop (i + 1)) σ4 S4) = some r from e3)
                exact fun ρ4 ca4 H4 l4 f4 R4 s4 => ⟨ca4, S4, σ4, l4, fA.trans f4, R4, s4, hst, e5⟩
              | cnt σ4 =>
                obtain ⟨hst, e5⟩ := gP_ok (show gP (stands S4 src) (forRun src (fun x σ => setG g x σ) (runs Γ b) (xs.drop (i + 1)) σ4 S4) = some r from e3)
                exact fun ρ4 ca4 H4 l4 f4 R4 s4 => ⟨ca4, S4, σ4, l4, fA.trans f4, R4, s4, hst, e5⟩
              | brk σ4 =>
                have hr := moOk e3
                subst hr
                exact fun ρ4 ca4 H4 l4 f4 R4 s4 => q ρ4 ca4 H4 l4 (f13.trans f4) R4 s4
              | ret d =>
                have hr : RO.ok (.ret d) S4 = r := by simpa using e3
                subst hr
                exact fun v ca4 H4 f4 R4 r4 => q v ca4 H4 (f13.trans f4) R4 r4
      · have e : i = xs.length := by omega
        subst e
        refine .inl ⟨hstop, ?_⟩
        rw [List.drop_length] at e3
        unfold forRun at e3
        have hr := moOk e3
        subst hr
        exact q ρ2 ca2 H2 l2 f12 R2 s2
  | _ => simp [chkT] at hc
theorem whil_snd {n : Nat} {c : E} {b : Ts} (Sb : SndSs bl Γ b) : SndS bl Γ (.whil n c b) := by
  intro st hot sc X W ca S σ ρ H hc C0 hS r he D q
  cases st with
  | While x body orelse pos =>
    cases orelse with
    | cons _ _ => simp [chkT] at hc
    | nil =>
      have hc' : (!hot && tstOk c && chk bl hot X.N sc c x && chkTs bl hot X.N sc b body) = true := by unfold chkT at hc; exact hc
      simp only [Bool.and_eq_true, Bool.not_eq_true'] at hc'
      obtain ⟨⟨⟨hh, h0⟩, h1⟩, h2⟩ := hc'
      subst hh
      have C := C0
      unfold run at he
      refine wps_of (ps_while (hS.own rfl) pt_wp pss_wp) ?_
      refine ⟨fun m ρ2 H2 => ∃ ca2 S2 σ2, ρ2.length = ρ.length ∧ Fr ca H ca2 H2 ∧ Rp X.K ca2 S2 H2 ∧ Sls X.pn X.K ca2 H2 σ2 ρ2 ∧ whilRun (fun σ S => tstV (ev Γ c σ S)) (runs Γ b) m σ2 S2 = some r, ⟨n, ca, S, σ, rfl, .refl, C.rp, C.sl, he⟩, ?_⟩
      rintro m ρ2 H2 ⟨ca2, S2, σ2, l2, f2, R2, s2, e2⟩
      cases m with
      | zero => unfold whilRun at e2; cases e2
      | succ m =>
        unfold whilRun at e2
        have C2 := C.slots f2 R2 s2 l2
        have hx : EX X.pn X.K ca2 H2 ρ2.length r W := by rw [l2]; exact q.x.after f2
        refine snd_got h0 h1 C2 e2 hx fun k S3 e3 ca3 H3 f3 R3 => ?_
        have f23 := f2.trans f3
        cases k with
        | false =>
          rw [if_neg Bool.false_ne_true]
          simp only [Bool.false_eq_true, if_false] at e3
          have hr := moOk e3
          subst hr
          exact q ρ2 ca3 H3 l2 f23 R3 (s2.fr R2 f3)
        | true =>
          rw [if_pos rfl]
          simp only [if_true] at e3
          refine ⟨fun ρ4 H4 => ∃ ca4 S4 σ4, ρ4.length = ρ.length ∧ Fr ca H ca4 H4 ∧ Rp X.K ca4 S4 H4 ∧ Sls X.pn X.K ca4 H4 σ4 ρ4 ∧ whilRun (fun σ S => tstV (ev Γ c σ S)) (runs Γ b) m σ4 S4 = some r, ?_, ?_⟩
          · rintro ρ4 H4 ⟨ca4, S4, σ4, a⟩
            exact ⟨m, Nat.lt_succ_self m, ca4, S4, σ4, a⟩
          · have C3 := C2.step f3 R3
            cases eo : runs Γ b σ2 S3 with
            | none => rw [eo] at e3; cases e3
            | some ob =>
            rw [eo] at e3
            refine Sb body false sc X W ca3 S3 σ2 ρ2 H3 h2 C3 hS ob eo _ ?_
            rw [l2]
            cases ob with
            | exc e σ4 S4 =>
              have hr : RO.exc e σ4 S4 = r := by simpa using e3
              subst hr
              exact fun cls dd ρ' ca' H' l' f' => q cls dd ρ' ca' H' l' (f23.trans f')
            | ok o S4 => cases o with
              | nx σ4 => exact fun ρ4 ca4 H4 l4 f4 R4 s4 => ⟨ca4, S4, σ4, l4, f23.trans f4, R4, s4, e3⟩
              | cnt σ4 => exact fun ρ4 ca4 H4 l4 f4 R4 s4 => ⟨ca4, S4, σ4, l4, f23.trans f4, R4, s4, e3⟩
              | brk σ4 =>
                have hr := moOk e3
                subst hr
                exact fun ρ4 ca4 H4 l4 f4 R4 s4 => q ρ4 ca4 H4 l4 (f23.trans f4) R4 s4
              | ret d =>
                have hr : RO.ok (.ret d) S4 = r := by simpa using e3
                subst hr
                exact fun v ca4 H4 f4 R4 r4 => q v ca4 H4 (f23.trans f4) R4 r4
  | _ => simp [chkT] at hc
/-! ### fgt -/
theorem Sls.fgt {pn : List (Addr × Obj)} {K : PySem.W.Frag} (R : Sls pn K ca H σ ρ) : ∀ (is : List Nat), Sls pn K ca H (fgtS σ is) ρ
  | [] => R
  | v :: vs => (Sls.fgt R vs).out v
theorem fgt_sndS {is : List Nat} {ts : Ts} (Ss : SndSs bl Γ ts) : SndSs bl Γ (.cons (.fgt is) ts) := by
  intro st hot sc X W ca S σ ρ H hc C hS r he D q
  have hc' : chkTs bl hot X.N sc ts st = true := by unfold chkTs at hc; exact hc
  unfold runs at he
  rcases then_some he with ⟨σ1, S1, e1, e2⟩ | ⟨e1, hne⟩
  · unfold run at e1
    have := moOk e1
    cases this
    exact Ss st hot sc X W ca S _ ρ H hc' ⟨C.ok, C.fns, C.kf, C.rp, C.sl.fgt is, C.ln, C.tk⟩ hS r e2 D q
  · unfold run at e1
    have := moOk e1
    exact absurd this (hne _ _)
/-! ### raise -/
/-- where a raise leads -/
def RaiseTo (W : WX) (C : Addr) (f : Option Str) (vs : List V) (ρ : L2.St) (H1 : Hp) : Prop := ∃ v, vs = [v] ∧ match f with
  | some f => ∀ d H2, H1 d = none → H2 d = some (.xd [(f, v)]) → Same H1 H2 → (∀ a, H2 a = none → H1 a = none) → W (.ref C) (some d) ρ H2
  | none => (∃ z, v = .str z) ∧ W (.ref C) none ρ H1
theorem raise_to {pn : List (Addr × Obj)} {K : PySem.W.Frag} {c : Nat} {f : Option Str} {ds : List D} {vs : List V} {e : Xc} {D : Ends} {ca1 : Am} {S1 : Sto} {H1 : Hp} (R : Rp K ca S H) (R1 : Rp K ca1 S1 H1) (f1 : Fr ca H ca1 H1) (sl : Sls pn K ca H σ ρ) (r1 : RepDs K ca1 H1 ds vs) (ee : excOf c f ds = some e) (q : EPost pn K ca H ρ.length (.exc e σ S1) D W) : RaiseTo W (ca.c c) f vs ρ H1 := by
  have r1X := r1
  unfold excOf at ee
  split at ee
  · rename_i f
    split at ee
    · rename_i d
      cases ee
      unfold RepDs at r1
      obtain ⟨v, r, rfl, rv, r2⟩ := r1
      unfold RepDs at r2
      subst r2
      refine ⟨v, rfl, fun dd H2 hd hd2 sm al => ?_⟩
      have f2 : Fr ca1 H1 ca1 H2 := Fr.same R1 sm al
      refine q _ (some dd) ρ ca1 H2 rfl (f1.trans f2) (R1.same sm) (sl.fr R (f1.trans f2)) ⟨by rw [← f1.le.1], dd, [(f, v)], rfl, hd2, fun g => ?_⟩
      show RepF K ca1 H2 [(f, v)] (List.lookup g [(f, d)]) g
      unfold RepF
      rw [List.lookup_cons]
      by_cases hg : (g == f) = true
      · simp only [hg]
        refine ⟨v, ?_, rv.fr f2⟩
        rw [List.lookup_cons, hg]
      · have hg' : (g == f) = false := by simpa using hg
        simp only [hg', List.lookup_nil]
        rw [List.lookup_cons, hg']
        rfl
    · cases ee
  · split at ee
    · rename_i z
      cases ee
      unfold RepDs at r1
      obtain ⟨v, r, rfl, rv, r2⟩ := r1
      unfold RepDs at r2
      subst r2
      exact ⟨v, rfl, ⟨z, rv.strv⟩, q _ none ρ ca1 H1 rfl f1 R1 (sl.fr R f1) ⟨by rw [← f1.le.1], rfl⟩⟩
    · cases ee
theorem raise_snd {x : Str} {c : Nat} {f : Option Str} {es : Es} : SndS bl Γ (.raise x c f es) := by
  intro st hot sc X W ca S σ ρ H hc C hS r he D q
  cases st with
  | Raise e0 cause pos2 =>
    cases cause with
    | some _ =>
      unfold chkT at hc
      cases e0 with
      | none => cases hc
      | some e0 => cases e0 <;> first | (cases hc; done) | (rename_i fn l kws pos; cases fn <;> first | (cases hc; done) | (cases kws <;> cases hc))
    | none =>
    cases e0 with
    | none => unfold chkT at hc; cases hc
    | some e0 =>
    cases e0 with
    | Call fn l kws pos =>
      cases fn with
      | Name z p =>
       cases kws with
       | cons _ _ => unfold chkT at hc; cases hc
       | nil =>
        have hc' : (!hot && decide (x = z) && glB sc z && plainName z && chks bl hot X.N sc es l && decide (l.length = 1)) = true := by unfold chkT at hc; exact hc
        simp only [Bool.and_eq_true, Bool.not_eq_true', decide_eq_true_eq, plainName] at hc'
        obtain ⟨⟨⟨⟨⟨hh, h1⟩, h2⟩, ⟨h3, _⟩, _⟩, h4⟩, h5⟩ := hc'
        subst hh h1
        match l, h5 with
        | [y], _ =>
          have hy := chks_ok h4 y List.mem_cons_self
          unfold run at he
          split at he
          · rename_i g eg
            have hR : RaiseOk X x (ca.c c) f := C.fns rfl X rfl rfl rfl rfl rfl rfl _ g eg
            refine wps_of (hR W C.tk (C.ok.calm rfl) (gl_of C.ok.scope h2) h3 y p pos pos2 _ pa_wp (star_ok hy _ _)) ?_
            -- the operands, then the error
            have main : ∀ ds S1, (match excOf c f ds with
                | some e => some (RO.exc e σ S1)
                | none => none) = some r → ∀ vs ca1 H1, Fr ca H ca1 H1 → Rp X.K ca1 S1 H1 → RepDs X.K ca1 H1 ds vs → RaiseTo W (ca.c c) f vs ρ H1 := fun ds S1 e2 vs ca1 H1 f1 R1 r1 => by
              split at e2
              · rename_i e ee
                have hr := Option.some.inj e2
                subst hr
                exact raise_to C.rp R1 f1 C.sl r1 ee q
              · cases e2
            rcases go_some he with ⟨ds, S1, e1, e2⟩ | ⟨xc, S1, e1, rfl⟩
            · exact sndEs es [y] false sc X W ca S σ ρ H h4 C _ e1 _ trivial fun ds' S1' e vs ca1 H1 f1 R1 r1 => by cases e; exact main ds S1 e2 vs ca1 H1 f1 R1 r1
            · exact sndEs es [y] false sc X W ca S σ ρ H h4 C _ e1 _ (EX.exc C q.x) fun ds' S1' e => by cases e
          · cases he
      | _ => unfold chkT at hc; cases hc
    | _ => unfold chkT at hc; cases hc
  | _ => unfold chkT at hc; cases hc
end
end Hv
/-! Hv13: try, the theorem for statements. -/
namespace Hv
open PySem PySem.Spec
open PyProof.Rows hiding St
open L2
section
variable {bl : List Str} {hot : Bool} {sc : Scope} {X : Cx} {Γ : Gam} {W : WX} {ca ca' : Am} {S S' : Sto} {σ : List Sl} {ρ : L2.St} {H H' : Hp}
theorem Sls.more {pn : List (Addr × Obj)} {K : PySem.W.Frag} (R : Sls [] K ca H σ ρ) : Sls pn K ca H σ ρ := ⟨R.len, fun i s e => by
  have r := R.sl i s e
  cases s with
  | v d => exact r
  | x e => obtain ⟨a, oe, dd, e1, e2, _⟩ := r; cases e2
  | out => exact r⟩
theorem Sls.noX' {pn pn' : List (Addr × Obj)} {K : PySem.W.Frag} (R : Sls pn K ca H σ ρ) : Sls pn' K ca H (Hv.noX σ) ρ := R.noX.more
theorem noX_len : (noX σ).length = σ.length := by unfold noX; rw [List.length_map]
/-- the suites, as run -/
def SndHs (bl : List Str) (Γ : Gam) : Hs → Prop
  | .nil => True
  | .cons _ _ _ b hs => SndSs bl Γ b ∧ SndHs bl Γ hs
def tsOf (X : Cx) (suite : List Stmt) : Addr → Value → Option Addr → TS := fun a cls d D σ H => ∀ (oe : Obj) (pn : List (Addr × Obj)), Zc cls d oe → (∃ vs, oe.data = .fields vs) → wpSs (X.suite a ((a, oe) :: pn)) suite D σ H
theorem xisV_some {e : Xc} {x : Str} {c : Nat} {b : Bool} (h : xisV Γ e x (some c) = some b) : ∃ g, Γ (.cls x c) = some g ∧ tel Γ (.sub e.c c) = some b := by
  unfold xisV at h
  split at h
  · rename_i c' ec
    cases ec
    split at h
    · rename_i g eg; exact ⟨g, eg, h⟩
    · cases h
  · rename_i ec; cases ec
theorem outO_ok {i : Option Nat} {x : MO} {r : RO} (h : outO i x = some r) : ∃ o S1, x = some (.ok o S1) ∧ r = .ok (match o with
    | .nx σ => .nx (outI i (noX σ))
    | .brk σ => .brk (outI i (noX σ))
    | .cnt σ => .cnt (outI i (noX σ))
    | .ret d => .ret d) S1 := by
  unfold outO at h
  split at h <;> first | (have := moOk h; subst this; exact ⟨_, _, rfl, rfl⟩) | cases h
theorem nm_of (hs : X.env.scope = sc) (hN : X.N.Nodup) {i : Option Nat} {n : Option Str} (h : chkN X.N sc i n = true) : NmC X i n := by
  unfold chkN at h
  split at h
  · simp only [Bool.and_eq_true, decide_eq_true_eq] at h
    exact .some hN h.1 (by unfold Env.kindOf; rw [hs]; exact h.2)
  · exact .none
  · cases h
/-- the slots behind an except suite -/
def unS (i : Option Nat) (ρ : L2.St) : L2.St := match i with
  | none => ρ
  | some i => ρ.set i none
theorem hs_snd (C : Ctx bl false sc X Γ W ca S σ ρ H) (hS : Sok false X) {r : RO} {D : Ends} (q : EPost X.pn X.K ca H ρ.length r D W) : ∀ {hs : Hs} (_ : SndHs bl Γ hs) {l : List ExceptHandler} (_ : hs = .nil ∧ l = [] ∨ chkHs bl X.N sc hs l = true) (_ : knH Γ hs = true),
    ∃ ls, HdsC X l ls ∧ ∀ e σ1 S1, runHs Γ hs e (noX σ1) S1 = some r → ∀ cls dd ρ' ca' H', ρ'.length = ρ.length → Fr ca H ca' H' → Rp X.K ca' S1 H' → Sls X.pn X.K ca' H' (noX σ1) ρ' → XRep X.K ca' H' e cls dd → wHs X.K W D ls cls dd ρ' H'
  | .nil, _, l, hc, _ => by
    have hl : l = [] := by
      rcases hc with ⟨_, h⟩ | h
      · exact h
      · simp [chkHs] at h
    subst hl
    refine ⟨[], .nil, fun e σ1 S1 hr cls dd ρ' ca' H' l' f' R' s' x' => ?_⟩
    unfold runHs at hr
    have hr := Option.some.inj hr
    subst hr
    exact q cls dd ρ' ca' H' l' f' R' s' x'
  | .cons z c i b hs, A, l, hc, hk => by
    have hc : chkHs bl X.N sc (.cons z c i b hs) l = true := hc.resolve_left fun h => by cases h.1
    have hk' : (Γ (.cls z c)).isSome = true ∧ knH Γ hs = true := by
      have : ((Γ (.cls z c)).isSome && knH Γ hs) = true := by unfold knH at hk; exact hk
      simpa using this
    -- the clause's parts
    have hparts : ∃ x np n s ss p l2, l = .ExceptHandler (some (.Name x np)) n (s :: ss) p :: l2 ∧ z = x ∧ glB sc x = true ∧ plainName x = true ∧ chkN X.N sc i n = true ∧ chkTs bl true X.N sc b (s :: ss) = true ∧ (hs = .nil ∧ l2 = [] ∨ chkHs bl X.N sc hs l2 = true) := by
      unfold chkHs at hc
      split at hc
      · rename_i x np n s ss p e1 e2
        cases e1
        simp only [Bool.and_eq_true, decide_eq_true_eq] at hc
        obtain ⟨⟨⟨⟨a1, a2⟩, a3⟩, a4⟩, a5⟩ := hc
        exact ⟨x, _, n, s, ss, _, [], rfl, a1, a2, a3, a4, a5, .inl ⟨rfl, rfl⟩⟩
      · rename_i x np n s ss p l2 e1 e2
        cases e1
        simp only [Bool.and_eq_true, decide_eq_true_eq] at hc
        obtain ⟨⟨⟨⟨⟨a1, a2⟩, a3⟩, a4⟩, a5⟩, a6⟩ := hc
        exact ⟨x, _, n, s, ss, _, l2, rfl, a1, a2, a3, a4, a5, .inr a6⟩
      · cases hc
    obtain ⟨x, np, n, s0, ss, p, l2, rfl, rfl, a2, a3, a4, a5, a6⟩ := hparts
    obtain ⟨ls, hh, hw⟩ := hs_snd C hS q A.2 a6 hk'.2
    obtain ⟨g, eg⟩ := Option.isSome_iff_exists.mp hk'.1
    obtain ⟨k1, k2⟩ : X.mg z = some (.ref (ca.c c)) ∧ PySem.W.keepIn X.K (.ref (ca.c c)) = true := C.kf _ g eg
    have a3' : (z == ("__debug__" : Str)) = false := by
      simp only [plainName, Bool.and_eq_true, Bool.not_eq_true'] at a3
      exact a3.1.1
    refine ⟨(.ref (ca.c c), i, tsOf X (s0 :: ss)) :: ls, .cons ⟨gl_of C.ok.scope a2, a3', .inl k1⟩ (nm_of C.ok.scope C.ok.nd a4) (fun a oe cls d pn hz hd => ⟨fun pins s σ H D I h => h oe pn hz hd pins s I⟩) hh, fun e σ1 S1 hr cls dd ρ' ca' H' l' f' R' s' x' => ?_⟩
    unfold runHs at hr
    have exm : ∀ bb, xisV Γ e z (some c) = some bb → PySem.W.exmOne X.K cls (.ref (ca.c c)) = some bb := fun bb hb => by
      obtain ⟨g1, eg1, eb⟩ := xisV_some hb
      obtain ⟨g2, S', eg2, eb2⟩ := tel_some eb
      obtain ⟨b', hb', hk, _, _⟩ : ∃ b, (∀ S ds, g2 S ds = some (.ok (.bl b) S)) ∧ PySem.W.exmOne X.K (.ref (ca.c e.c)) (.ref (ca.c c)) = some b ∧ PySem.W.kitOne X.K (.ref (ca.c e.c)) (.ref (ca.c c)) = some b ∧ IsX X.K (ca.c e.c) := C.kf _ g2 eg2
      rw [hb'] at eb2
      cases eb2
      rw [x'.1, ← f'.le.1]
      exact hk
    split at hr
    · rename_i hb
      split at hr
      · rename_i σ2 ei
        refine ⟨true, exm true hb, fun _ a ha oe pn hz hd => ?_, fun h => by cases h⟩
        obtain ⟨o, S2, eo, rfl⟩ := outO_ok hr
        have C0 := C.slots f' R' s' l'
        -- the slots of the suite
        have s2 : Sls ((a, oe) :: pn) X.K ca' H' σ2 (inS i a ρ') := by
          have sN : Sls ((a, oe) :: pn) X.K ca' H' (noX σ1) ρ' := by
            have : Sls ((a, oe) :: pn) X.K ca' H' (noX (noX σ1)) ρ' := s'.noX'
            have e2 : noX (noX σ1) = noX σ1 := by
              unfold noX
              rw [List.map_map]
              apply List.map_congr_left
              intro s _
              cases s <;> rfl
            rwa [e2] at this
          cases i with
          | none =>
            have : noX σ1 = σ2 := by simpa [inI] using ei
            subst this
            exact sN
          | some i =>
            have hp : putS (noX σ1) i (.x e) = some σ2 := ei
            obtain ⟨hi, e2⟩ := putS_lt hp
            subst e2
            refine sN.put ⟨a, oe, dd, rfl, List.mem_cons_self, ?_, hd, x'.2⟩ hi
            rw [← x'.1]; exact hz
        have lI : (inS i a ρ').length = ρ'.length := by cases i <;> simp [inS]
        have C2 : Ctx bl true sc (X.suite a ((a, oe) :: pn)) Γ (fun _ _ _ _ => False) ca' S1 σ2 (inS i a ρ') H' :=
          ⟨⟨C0.ok.scope, C0.ok.nd, fun h => (by cases h), C0.ok.un, C0.ok.bln, C0.ok.kd⟩, fun h => (by cases h), C0.kf, R', s2, lI.trans C0.ln, takes0⟩
        refine A.1 (s0 :: ss) true sc (X.suite a ((a, oe) :: pn)) _ ca' S1 σ2 (inS i a ρ') H' a5 C2 ⟨hS.fn, fun h => (by cases h), hS.stk, hS.frm⟩ _ eo _ ?_
        rw [lI]
        have fin : ∀ ρ2 ca2 H2 (σ3 : List Sl), ρ2.length = ρ'.length → Sls ((a, oe) :: pn) X.K ca2 H2 σ3 ρ2 → Sls X.pn X.K ca2 H2 (outI i (noX σ3)) (unS i ρ2) ∧ (unS i ρ2).length = ρ.length := fun ρ2 ca2 H2 σ3 l2 s3 => by
          have s4 : Sls X.pn X.K ca2 H2 (noX σ3) ρ2 := s3.noX'
          cases i with
          | none => exact ⟨s4, l2.trans l'⟩
          | some i => exact ⟨s4.putOut i none, by simp [unS, l2, l']⟩
        cases o with
        | nx σ3 =>
          intro ρ2 ca2 H2 l2 f2 R2 s3
          obtain ⟨s4, l4⟩ := fin ρ2 ca2 H2 σ3 l2 s3
          have := q _ ca2 H2 l4 (f'.trans f2) R2 s4
          cases i <;> exact this
        | brk σ3 =>
          intro ρ2 ca2 H2 l2 f2 R2 s3
          obtain ⟨s4, l4⟩ := fin ρ2 ca2 H2 σ3 l2 s3
          have := q _ ca2 H2 l4 (f'.trans f2) R2 s4
          cases i <;> exact this
        | cnt σ3 =>
          intro ρ2 ca2 H2 l2 f2 R2 s3
          obtain ⟨s4, l4⟩ := fin ρ2 ca2 H2 σ3 l2 s3
          have := q _ ca2 H2 l4 (f'.trans f2) R2 s4
          cases i <;> exact this
        | ret d =>
          intro v ca2 H2 f2 R2 r2
          have := q v ca2 H2 (f'.trans f2) R2 r2
          cases i <;> exact this
      · cases hr
    · rename_i hb
      exact ⟨false, exm false hb, fun h => (by cases h), fun _ => hw e σ1 S1 hr cls dd ρ' ca' H' l' f' R' s' x'⟩
    · cases hr
theorem tri_snd {b : Ts} {hs : Hs} (Sb : SndSs bl Γ b) (Sh : SndHs bl Γ hs) : SndS bl Γ (.tri b hs) := by
  intro st hot sc X W ca S σ ρ H hc C0 hS r he D q
  cases st with
  | Try body handlers orelse fin pos =>
    match orelse, fin with
    | [], [] =>
      have hc' : (!hot && chkTs bl hot X.N sc b body && chkHs bl X.N sc hs handlers) = true := by unfold chkT at hc; exact hc
      simp only [Bool.and_eq_true, Bool.not_eq_true'] at hc'
      obtain ⟨⟨hh, h1⟩, h2⟩ := hc'
      subst hh
      have C := C0
      unfold run at he
      split at he
      · rename_i hk
        cases handlers with
        | nil => cases hs <;> simp [chkHs] at h2
        | cons h0 hds =>
          obtain ⟨ls, hh, hw⟩ := hs_snd C hS q Sh (.inr h2) hk
          refine wps_of (ps_try_all (tb := fun W' D σ H => ∀ (pn : List (Addr × Obj)) (xe : Value → Shared → Prop), Takes (X.tr pn xe) W' → PassesOwn (model X.prog X.w) X.A X.env xe → wpSs (X.tr pn xe) body D σ H) hS.stk hS.frm C.tk (fun W' pn xe t p => ⟨fun pins s σ H D I h => h pn xe t p pins s I⟩) hh) ?_
          intro pn xe t p
          have C2 : Ctx bl false sc (X.tr pn xe) Γ (wHs X.K W D ls) ca S (noX σ) ρ H := ⟨⟨C.ok.scope, C.ok.nd, C.ok.calm, C.ok.un, C.ok.bln, C.ok.kd⟩, fun h => C.fns h, C.kf, C.rp, C.sl.noX', C.ln, t⟩
          have hS2 : Sok false (X.tr pn xe) := ⟨hS.fn, fun _ => p, hS.stk, hS.frm⟩
          cases eo : runs Γ b (noX σ) S with
          | none => rw [eo] at he; simp [outO] at he
          | some ob =>
          rw [eo] at he
          refine Sb body false sc (X.tr pn xe) _ ca S (noX σ) ρ H h1 C2 hS2 ob eo _ ?_
          cases ob with
          | exc e σ1 S1 =>
            intro cls dd ρ' ca' H' l' f' R' s' x'
            exact hw e σ1 S1 he cls dd ρ' ca' H' l' f' R' s'.noX' x'
          | ok o S1 =>
            obtain ⟨o', S2, e2, rfl⟩ := outO_ok (show outO none (some (.ok o S1)) = some r from he)
            cases e2
            cases o with
            | nx σ3 => exact fun ρ2 ca2 H2 l2 f2 R2 s3 => q ρ2 ca2 H2 l2 f2 R2 s3.noX'
            | brk σ3 => exact fun ρ2 ca2 H2 l2 f2 R2 s3 => q ρ2 ca2 H2 l2 f2 R2 s3.noX'
            | cnt σ3 => exact fun ρ2 ca2 H2 l2 f2 R2 s3 => q ρ2 ca2 H2 l2 f2 R2 s3.noX'
            | ret d => exact fun v ca2 H2 f2 R2 r2 => q v ca2 H2 f2 R2 r2
      · cases he
    | _ :: _, _ => simp [chkT] at hc
    | [], _ :: _ => simp [chkT] at hc
  | _ => simp [chkT] at hc
theorem ghost_snd {t : T} (h : ∀ st hot N sc, chkT bl hot N sc t st = false) : SndS bl Γ t := by
  intro st hot sc X W ca S σ ρ H hc C hS r he D q
  rw [h] at hc
  cases hc
mutual
theorem sndS : ∀ t : T, SndS bl Γ t
  | .asg _ _ => asg_snd
  | .aug _ _ _ => aug_snd
  | .setI _ _ _ => setI_snd
  | .fset _ _ _ => fset_snd
  | .faug _ _ _ _ => faug_snd
  | .nev => nev_snd
  | .expr _ => expr_snd
  | .ret _ => ret_snd
  | .retN => retN_snd
  | .ite _ a b => ite_snd (sndSs a) (sndSs b)
  | .for_ _ _ b => for_snd (sndSs b)
  | .whil _ _ b => whil_snd (sndSs b)
  | .brk => brk_snd
  | .cnt => cnt_snd
  | .pass => pass_snd
  | .raise _ _ _ _ => raise_snd
  | .tri b hs => tri_snd (sndSs b) (sndHs hs)
  | .fgt _ => ghost_snd fun st hot N sc => by cases st <;> rfl
theorem sndSs : ∀ ts : Ts, SndSs bl Γ ts
  | .nil => nil_sndS
  | .cons (.fgt _) ts => fgt_sndS (sndSs ts)
  | .cons (.asg g a) ts => cons_sndS (fun _ => nofun) (sndS (.asg g a)) (sndSs ts)
  | .cons (.aug a b c) ts => cons_sndS (fun _ => nofun) (sndS (.aug a b c)) (sndSs ts)
  | .cons (.setI a b c) ts => cons_sndS (fun _ => nofun) (sndS (.setI a b c)) (sndSs ts)
  | .cons (.fset a b c) ts => cons_sndS (fun _ => nofun) (sndS (.fset a b c)) (sndSs ts)
  | .cons (.faug a b c d) ts => cons_sndS (fun _ => nofun) (sndS (.faug a b c d)) (sndSs ts)
  | .cons .nev ts => cons_sndS (fun _ => nofun) (sndS .nev) (sndSs ts)
  | .cons (.expr a) ts => cons_sndS (fun _ => nofun) (sndS (.expr a)) (sndSs ts)
  | .cons (.ret a) ts => cons_sndS (fun _ => nofun) (sndS (.ret a)) (sndSs ts)
  | .cons .retN ts => cons_sndS (fun _ => nofun) (sndS .retN) (sndSs ts)
  | .cons (.ite c a b) ts => cons_sndS (fun _ => nofun) (sndS (.ite c a b)) (sndSs ts)
  | .cons (.for_ a b c) ts => cons_sndS (fun _ => nofun) (sndS (.for_ a b c)) (sndSs ts)
  | .cons (.whil a b c) ts => cons_sndS (fun _ => nofun) (sndS (.whil a b c)) (sndSs ts)
  | .cons .brk ts => cons_sndS (fun _ => nofun) (sndS .brk) (sndSs ts)
  | .cons .cnt ts => cons_sndS (fun _ => nofun) (sndS .cnt) (sndSs ts)
  | .cons .pass ts => cons_sndS (fun _ => nofun) (sndS .pass) (sndSs ts)
  | .cons (.raise a b c d) ts => cons_sndS (fun _ => nofun) (sndS (.raise a b c d)) (sndSs ts)
  | .cons (.tri a b) ts => cons_sndS (fun _ => nofun) (sndS (.tri a b)) (sndSs ts)
theorem sndHs : ∀ hs : Hs, SndHs bl Γ hs
  | .nil => trivial
  | .cons _ _ _ b hs => ⟨sndSs b, sndHs hs⟩
end
end
end Hv
/-! Hv14: defs, methods, classes as the table's entries. -/
namespace Hv
open PySem PySem.Spec
open PyProof.Rows hiding St
open L2 ClX
section
variable {Pg : Program} {w : World} {K : PySem.W.Frag} {mg : Str → Option Value} {base : Heap} {cc : Nat → Addr}
/-- what the names of the text are worth, up to a level: in every frame with room -/
structure EnvOk (Pg : Program) (w : World) (K : PySem.W.Frag) (mg : Str → Option Value) (base : Heap) (cc : Nat → Addr) (k : Nat) (Γ : Gam) : Prop where
  kf : ∀ n g, Γ n = some g → KEnt K mg cc n g
  ent : ∀ X : Cx, X.prog = Pg → X.w = w → X.K = K → X.mg = mg → X.base = base → Room k X.A → ∀ n g, Γ n = some g → EntOk X cc n g
theorem EnvOk.mono {j k : Nat} {Γ : Gam} (h : EnvOk Pg w K mg base cc j Γ) (l : j ≤ k) : EnvOk Pg w K mg base cc k Γ := ⟨h.kf, fun X h1 h2 h3 h4 h5 hr => h.ent X h1 h2 h3 h4 h5 (hr.mono l)⟩
/-- one more name, by any rule -/
def ext (Γ : Gam) (n : Nm) (g : Gv) : Gam := fun x => if x = n then some g else Γ x
theorem ext_same {Γ : Gam} {f : Nm} {g : Gv} : ext Γ f g f = some g := if_pos rfl
theorem ext_ne {Γ : Gam} {f x : Nm} {g : Gv} (h : x ≠ f) : ext Γ f g x = Γ x := if_neg h
def Gm0 : Gam := fun _ => none
theorem EnvOk.zero {k : Nat} : EnvOk Pg w K mg base cc k Gm0 := ⟨fun _ _ e => (by cases e), fun _ _ _ _ _ _ _ _ _ e => (by cases e)⟩
theorem EnvOk.rule {k : Nat} {Γ : Gam} {n : Nm} {g : Gv} (h : EnvOk Pg w K mg base cc k Γ) (q : KEnt K mg cc n g) (r : ∀ X : Cx, X.prog = Pg → X.w = w → X.K = K → X.mg = mg → X.base = base → Room k X.A → EntOk X cc n g) :
    EnvOk Pg w K mg base cc k (ext Γ n g) := ⟨fun x g' e => by
  unfold ext at e
  by_cases hx : x = n
  · simp only [hx, if_true, Option.some.injEq] at e
    subst e hx
    exact q
  · simp only [hx, if_false] at e
    exact h.kf x g' e, fun X h1 h2 h3 h4 h5 hr x g' e => by
  unfold ext at e
  by_cases hx : x = n
  · simp only [hx, if_true, Option.some.injEq] at e
    subst e hx
    exact r X h1 h2 h3 h4 h5 hr
  · simp only [hx, if_false] at e
    exact h.ent X h1 h2 h3 h4 h5 hr x g' e⟩
/-! ### how a def starts and ends -/
theorem start_sls {pn : List (Addr × Obj)} {ca : Am} {S : Sto} {H : Hp} {ds : List D} {vs : List V} {N : List Str} (r : RepDs K ca H ds vs) : Sls pn K ca H (ds.map Sl.v ++ List.replicate (N.length - ds.length) Sl.out) (L2.start N vs) := by
  have hlen := r.length
  refine ⟨by simp [L2.start, hlen], fun i t e => ?_⟩
  by_cases hi : i < ds.length
  · rw [List.getElem?_append_left (by simpa using hi), List.getElem?_map] at e
    cases ew : ds[i]? with
    | none => rw [ew] at e; cases e
    | some w0 =>
      rw [ew] at e
      cases e
      obtain ⟨v, e3, r3⟩ := r.get ew
      refine ⟨v, ?_, r3⟩
      unfold L2.start
      rw [List.getElem?_append_left (by rw [List.length_map, hlen]; exact hi), List.getElem?_map, e3]
      rfl
  · rw [List.getElem?_append_right (by simpa using hi)] at e
    rw [List.getElem?_replicate] at e
    split at e
    · cases e; trivial
    · cases e
theorem XRep.cut {ca ca' : Am} {n : Nat} {H' : Hp} {e : Xc} {cls : Value} {dd : Option Addr} (g : ca.le ca') (hn : n ≤ ca.i.length) (b : ∀ p ∈ e.fs, cl n p.2) (x : XRep K ca' H' e cls dd) : XRep K ca H' e cls dd := by
  obtain ⟨c, fs⟩ := e
  refine ⟨by rw [g.1]; exact x.1, ?_⟩
  have x2 := x.2
  cases fs with
  | nil => exact x2
  | cons p r =>
    obtain ⟨d, fs', e1, e2, q⟩ := x2
    refine ⟨d, fs', e1, e2, fun f => ?_⟩
    have qf := q f
    unfold RepF at qf ⊢
    split
    · rename_i y ey
      rw [ey] at qf
      obtain ⟨v, l, z⟩ := qf
      exact ⟨v, l, z.less g hn (b _ (lookup_mem ey))⟩
    · rename_i ey
      rw [ey] at qf
      exact qf
/-- what a call leaves is what its body leaves, some of it forgotten -/
theorem gcR_ok {ca : Am} {S : Sto} {H : Hp} {x : M D} {r : Rs D} {Q : VK} {E : XK} (R : Rp K ca S H) (h : gcR S x = some r) (q : Post K ca H r Q E) : ∃ r0, x = some r0 ∧ Post K ca H r0 Q E := by
  unfold gcR at h
  split at h
  · rename_i d S1
    have h := ok_inj h
    subst h
    refine ⟨_, rfl, fun v ca' H' f R' r' => ?_⟩
    obtain ⟨ca2, f2, R2, r2⟩ := gc_ok (d2 := (gcv S d S1).1) (S2 := (gcv S d S1).2) R f R' r' rfl
    exact q v ca2 H' f2 R2 r2
  · rename_i e S1
    split at h
    · rename_i hc
      cases h
      refine ⟨_, rfl, fun cls dd ca' H' f R' x' => ?_⟩
      obtain ⟨f2, R2⟩ := R.cut f R' hc.2.1 hc.2.2
      exact q cls dd ca H' f2 R2 (x'.cut f.le (Nat.le_of_eq R.len) hc.1)
    · cases h
      exact ⟨_, rfl, q⟩
  · cases h
/-- the body of a def, run -/
theorem body_ok {qual : Str} {N ps : List Str} {sc : Scope} {body : List Stmt} {f : Addr} {k : Nat} {bl : List Str} {Γ : Gam} {b : Ts} {cdv : Value} {A : Around} {outer : List Env} {s : Shared} {H : Hp} {vs : List V} {Q : VK} {E : XK} (S : FnScope N ps sc)
    (hc : chkTs bl false N sc b body = true) (hb : ∀ y ∈ bl, mg y = none) (hΓ : EnvOk Pg w K mg base cc k Γ) (hr : Room k (A.deeper (envOfC qual sc s.heap.objs.size f cdv))) (h : spI K cc (fnG Γ ps.length N.length b) vs H Q E) :
    ∃ t, PSs (cxOf (L2.CX Pg w) Pg w K mg base N qual sc f cdv A outer s H E) body t ∧ t { nx := fun _ H' => Q .non H', rt := Q } (start N vs) H := by
  obtain ⟨ca, Z, ds, r, h0, R, rd, eg, q⟩ := h
  unfold fnG at eg
  split at eg
  · rename_i hl
    obtain ⟨r0, e0, q0⟩ := gcR_ok R eg q
    refine ⟨_, pss_wp, ?_⟩
    generalize hX : cxOf (L2.CX Pg w) Pg w K mg base N qual sc f cdv A outer s H E = X
    have hlen := rd.length
    have hpn : ps.length ≤ N.length := by have := congrArg List.length S.pre; rw [List.length_take] at this; omega
    have ok : Cok bl false sc X := by
      rw [← hX]
      exact ⟨rfl, S.nd, fun _ => rfl, by have := hr.un; show (A.deeper _).units + 130 < _; omega, hb, S.kind⟩
    have fns : FnsOk X ca.c Γ := by
      rw [← hX, h0]
      exact fun Y e1 e2 e3 e4 e5 e6 => hΓ.ent Y e1 e2 e3 e4 e5 (by rw [e6]; exact hr)
    have sok : Sok false X := by
      rw [← hX]
      exact ⟨fun _ => rfl, fun _ => passes_of rfl, rfl, rfl⟩
    have tk : Takes X (fun cls d _ H => E cls d H) := by
      rw [← hX]
      exact takes_of rfl rfl rfl rfl
    have hk : X.K = K := by rw [← hX]; rfl
    have kf : ∀ n g, Γ n = some g → KEnt X.K X.mg ca.c n g := by
      rw [← hX, h0]
      exact hΓ.kf
    have sl : Sls X.pn X.K ca H (ds.map Sl.v ++ List.replicate (N.length - ds.length) Sl.out) (L2.start N vs) := by
      rw [hk]
      exact start_sls (S := Z) rd
    have ln : (L2.start N vs).length = X.N.length := by
      rw [← hX]
      show (L2.start N vs).length = N.length
      simp [L2.start, hlen]
      omega
    unfold fnRun at e0
    cases eo : runs Γ b (ds.map Sl.v ++ List.replicate (N.length - ds.length) Sl.out) Z with
    | none => rw [eo] at e0; cases e0
    | some o =>
    rw [eo] at e0
    refine sndSs b body false sc X _ ca Z _ (L2.start N vs) H (by rw [← hX]; exact hc) ⟨ok, fun _ => fns, kf, by rw [hk]; exact R, sl, ln, tk⟩ sok o eo _ ?_
    rw [hk]
    cases o with
    | exc e σ1 S1 =>
      cases e0
      exact fun cls dd ρ' ca' H' l' f' R' s' x' => q0 cls dd ca' H' f' R' x'
    | ok o S1 => cases o with
      | nx σ1 =>
        have e0 := ok_inj e0
        subst e0
        exact fun ρ' ca' H' l' f' R' s' => q0 .non ca' H' f' R' rfl
      | ret d =>
        have e0 := ok_inj e0
        subst e0
        exact fun v ca' H' f' R' r' => q0 v ca' H' f' R' r'
      | brk _ => cases e0
      | cnt _ => cases e0
  · cases eg
theorem spI_len {g : Gv} {vs : List V} {H : Hp} {Q : VK} {E : XK} {n : Nat} (hg : ∀ Z ws r, g Z ws = some r → ws.length = n) (h : spI K cc g vs H Q E) : vs.length = n := by
  obtain ⟨ca, S, ds, r, h0, R, rd, eg, q⟩ := h
  rw [rd.length]
  exact hg _ _ _ eg
theorem fnG_len {Γ : Gam} {m n : Nat} {b : Ts} (S : Sto) (ws : List D) (r : Rs D) (h : fnG Γ m n b S ws = some r) : ws.length = m := by
  unfold fnG at h
  split at h
  · assumption
  · cases h
/-- THE RULE for a def: its text by the small language, its worth by the evaluator -/
theorem fn_ok {x qual : Str} {st : Stmt} {f : Addr} {fd : FuncData} {N ps : List Str} {k : Nat} {bl : List Str} {Γ : Gam} (F : Fun K x qual st f fd) (S : FnScope N ps (defScope st)) (b : Ts)
    (hc : chkTs bl false N (defScope st) b (defBody st) = true) (hb : ∀ y ∈ bl, mg y = none) (hΓ : EnvOk Pg w K mg base cc k Γ) : FnOk Pg w K mg base (L2.CX Pg w) (k + 1) f fd ps (spI K cc (fnG Γ ps.length N.length b)) :=
  F.okX S (fun vs H Q E h => spI_len fnG_len h) fun cdv A outer s H vs Q E hr h => body_ok S hc hb hΓ hr h
theorem fn_okD {x qual : Str} {st : Stmt} {f : Addr} {fd : FuncData} {N ps : List Str} {k : Nat} {bl : List Str} {Γ : Gam} {dvs : List V} {kws : List (Str × V)} (F : FunD K x qual (defArgs st) (defBody st) (defScope st) dvs kws f fd) (S : FnScope N ps (defScope st)) (b : Ts)
    (hc : chkTs bl false N (defScope st) b (defBody st) = true) (hb : ∀ y ∈ bl, mg y = none) (hΓ : EnvOk Pg w K mg base cc k Γ) : FnOk Pg w K mg base (L2.CX Pg w) (k + 1) f fd ps (spI K cc (fnG Γ ps.length N.length b)) :=
  FunD.ok (CX := L2.CX Pg w) F S (fun vs H Q E h => spI_len fnG_len h) fun cdv A outer s H vs Q E hr h => body_ok S hc hb hΓ hr h
/-! ### calls -/
/-- with the defaults, where they lack -/
def pad (n : Nat) (dd : List D) (g : Gv) : Gv := fun S ws => if ws.length = n then g S ws else g S (ws ++ dd)
theorem pad_all {n : Nat} {dd : List D} {g : Gv} {S : Sto} {ws : List D} (h : ws.length = n) : pad n dd g S ws = g S ws := if_pos h
theorem pad_lack {n : Nat} {dd : List D} {g : Gv} {S : Sto} {ws : List D} (h : ws.length ≠ n) : pad n dd g S ws = g S (ws ++ dd) := if_neg h
def spD (sp : Sp) (dvs : List V) : Sp := fun vs H Q E => sp vs H Q E ∨ sp (vs ++ dvs) H Q E
theorem spI_pad {n : Nat} {dd : List D} {dvs : List V} {g : Gv} (hd : ∀ ca H, RepDs K ca H dd dvs) {vs : List V} {H : Hp} {Q : VK} {E : XK} (h : spI K cc (pad n dd g) vs H Q E) : spD (spI K cc g) dvs vs H Q E := by
  obtain ⟨ca, S, ws, r, h0, R, rd, eg, q⟩ := h
  by_cases hl : ws.length = n
  · exact .inl ⟨ca, S, ws, r, h0, R, rd, (pad_all (dd := dd) (g := g) (S := S) hl).symm.trans eg, q⟩
  · exact .inr ⟨ca, S, _, r, h0, R, rd.app (hd ca H), (pad_lack (dd := dd) (g := g) (S := S) hl).symm.trans eg, q⟩
theorem run_fnT {X : Cx} {CX : CXT} {k : Nat} {f : Addr} {fd : FuncData} {ps : List Str} {sp : Sp} {dvs : List V} {ds : List Value} {E : XK} {pins : List (Addr × Obj)} {σ : L2.St} {H : Hp} {s : Shared} {Q : VK} {us : List Value} {vs : List V} (F : FnOk X.prog X.w X.K X.mg X.base CX k f fd ps sp) (hr : Room k X.A) (hb : Binds X.K fd ps ds) (hd : Vals dvs ds) (hx : PassesAt CX X σ E)
    (I : Inv X pins σ H s) (r : Vals vs us) (h : sp (vs ++ dvs) H Q E) : wpAny (model X.prog X.w) X.A (call (.ref f) us) (EP X pins σ Q) X.xe s := by
  have r2 : Vals (vs ++ dvs) (us ++ ds) := r.append hd
  have hl : (us ++ ds).length = ps.length := by rw [← r2.length]; exact F.len _ _ _ _ h
  refine wpAny_call (codeAny_mono (F.run X.A X.stack s H ⟨us, []⟩ (us ++ ds) (vs ++ dvs) Q E hr I.env0 (hb s us I.kIn hl) r2 h) fun r s' hq => ?_)
  cases r with
  | error e => exact hx pins H s e s' I hq
  | ok fl =>
    cases fl with
    | ret u => exact I.after hq
    | next => exact False.elim hq
    | brk => exact False.elim hq
    | cont => exact False.elim hq
/-- a def that may be called with all its arguments, or without those of the defaults -/
structure Calls2 (X : Cx) (k : Nat) (f : Addr) (sp' : Sp) : Prop where
  run : ∀ {W : WX} {pins : List (Addr × Obj)} {σ : L2.St} {H : Hp} {s : Shared} {Q : VK} {us : List Value} {vs : List V}, Takes X W → Inv X pins σ H s → Vals vs us → sp' vs H Q (WE W σ) → wpAny (model X.prog X.w) X.A (call (.ref f) us) (EP X pins σ Q) X.xe s
theorem calls_all {X : Cx} {k : Nat} {f : Addr} {fd : FuncData} {ps : List Str} {sp : Sp} (F : FnOk X.prog X.w X.K X.mg X.base (L2.CX X.prog X.w) k f fd ps sp) (hr : Room k X.A) (b : Binds X.K fd ps []) : Calls2 X k f sp :=
  ⟨fun tk I r h => run_fnT (dvs := []) F hr b .nil (passAt tk _) I r (by rw [List.append_nil]; exact h)⟩
theorem calls_dflt {X : Cx} {k : Nat} {f : Addr} {fd : FuncData} {ps : List Str} {sp sp' : Sp} {dvs : List V} {ds : List Value} (F : FnOk X.prog X.w X.K X.mg X.base (L2.CX X.prog X.w) k f fd ps sp) (hr : Room k X.A) (b1 : Binds X.K fd ps []) (b2 : Binds X.K fd ps ds) (hd : Vals dvs ds) (hi : ∀ vs H Q E, sp' vs H Q E → spD sp dvs vs H Q E) : Calls2 X k f sp' :=
  ⟨fun tk I r h => (hi _ _ _ _ h).elim (fun h => run_fnT (dvs := []) F hr b1 .nil (passAt tk _) I r (by rw [List.append_nil]; exact h)) fun h => run_fnT F hr b2 hd (passAt tk _) I r h⟩
theorem Calls2.name {X : Cx} {k : Nat} {f : Addr} {sp : Sp} {x : Str} (F : Calls2 X k f sp) (hm : X.mg x = some (.ref f)) (hk : PySem.W.keepIn X.K (.ref f) = true) : CallOk X x sp := fun W tk hg h3 => by
  refine ⟨fun p pos => ⟨fun pins s σ H Q I h => ?_⟩, fun e es p pos t ha h1 h2 => ⟨fun pins s σ H Q I h => ?_⟩⟩
  · refine wpAny_Call_Name_kw (ld_glob I hg hm ?_ h3)
    exact PySem.W.callWith_K0 I.kIn hk (F.run (us := []) tk I .nil h)
  · refine wpAny_Call_Name_kw (ld_glob I hg hm ?_ h3)
    refine PySem.W.callWith_K (h₀ := X.base) I.ok.mod.kin hk (thn (ha.run pos pins s σ H _ I h) fun us s1 ⟨vs, H1, I1, r, q⟩ => ⟨I1.kIn, ?_⟩) h1 h2
    exact F.run tk I1 r q
theorem Calls2.meth {X : Cx} {k : Nat} {f C : Addr} {sp : Sp} {m : Str} (F : Calls2 X k f sp) (c : Cls X.K C) (hm : Meth X.K C m f) : MethOk X C m sp := fun W tk => by
  refine ⟨fun o ap pos ta ho h0 hl => ⟨fun pins s σ H Q I h => ?_⟩, fun o e es ap pos ta t ho ha h0 hl hn hst hb1 hb2 => ⟨fun pins s σ H Q I h => ?_⟩⟩
  · refine PySem.W.methodCall_KW (thn (ho.run pins s σ H _ I h) fun u s1 ⟨x, H1, I1, rx, a, dx, fs, ex, ea, l, q⟩ => ?_) (meth_eval h0 hl rfl (by decide))
    subst ex
    obtain rfl : u = Value.ref a := rx
    refine getmeth_ok I1 ea c hm l ?_
    exact PySem.W.callWith_K0 (first := [.ref a]) I1.kIn hm.kp (F.run (us := [.ref a]) (vs := [.ref a]) tk I1 (.cons rfl .nil) q)
  · refine PySem.W.methodCall_KW (thn (ho.run pins s σ H _ I h) fun u s1 ⟨x, H1, I1, rx, a, dx, fs, ex, ea, l, q⟩ => ?_) (meth_eval h0 hl hb1 hn)
    subst ex
    obtain rfl : u = Value.ref a := rx
    refine getmeth_ok I1 ea c hm l ?_
    refine PySem.W.callWith_K (first := [.ref a]) (h₀ := X.base) I.ok.mod.kin hm.kp (thn (ha.run pos pins s1 σ H1 _ I1 q) fun us s2 ⟨vs, H2, I2, r, q2⟩ => ⟨I2.kIn, ?_⟩) hst hb2
    exact F.run (us := .ref a :: us) (vs := .ref a :: vs) tk I2 (.cons rfl r) q2
theorem Calls2.viaC {X : Cx} {k : Nat} {f C : Addr} {mc : Value} {sp : Sp} {x m : Str} (F : Calls2 X k f sp) (hm : X.mg x = some (.ref C)) (r : CRead X.K C mc) (hv : PySem.W.findCls X.K (.ref C) mc m = some (.val (.ref f))) (hk : PySem.W.keepIn X.K (.ref f) = true) : QcOk X x m sp := fun W tk hg hd e es p1 p2 pos ta ha hl hn hst hb1 hb2 =>
  ⟨fun pins s σ H Q I h => PySem.W.methodCall_KW (ld_glob I hg hm (by
    refine PySem.W.method_cls I.kIn r.ga (PySem.W.cls_value I.kIn r.rd hv rfl ?_)
    refine PySem.W.callWith_K (first := []) (h₀ := X.base) I.ok.mod.kin hk (thn (ha.run pos pins _ σ H _ (I.tok _) h) fun us s1 ⟨vs, H1, I1, r1, q⟩ => ⟨I1.kIn, ?_⟩) hst hb2
    exact F.run tk I1 r1 q) hd) (meth_eval (o := .Name x p1) rfl hl hb1 hn)⟩
end
end Hv
/-! Hv15: the table's rules. -/
namespace Hv
open PySem PySem.Spec
open PyProof.Rows hiding St
open L2 ClX
section
variable {Pg : Program} {w : World} {K : PySem.W.Frag} {mg : Str → Option Value} {base : Heap} {cc : Nat → Addr}
/-! ### constructors -/
theorem CallOk.of_class {X : Cx} {x : Str} {c : Nat} {f : Addr} {fd : FuncData} {ps : List Str} {k : Nat} {gi : Gv} (M : Mk X.K (cc c) f) (F : FnOk X.prog X.w X.K X.mg X.base (L2.CX X.prog X.w) k f fd ps (spI X.K cc gi)) (hr : Room (k + 1) X.A) (hm : X.mg x = some (.ref (cc c))) (hb : Binds X.K fd ps []) : CallOk X x (spI X.K cc (mkOf c gi)) := fun W tk hg h3 => by
  have key : ∀ (vs : List V) (H1 : Hp) (Q : VK) (E : XK), spI X.K cc (mkOf c gi) vs H1 Q E → ∀ y dx, H1 y = none → H1 dx = none → dx ≠ y → spI X.K cc gi (.ref y :: (vs ++ [])) (upd (upd H1 dx (.own y)) y (.ins (cc c) dx [])) (fun v H2 => v = .non ∧ Q (.ref y) H2) E0 := fun vs H1 Q E h y dx hy hd hne => by
    obtain ⟨ca, S, ds, r, h0, R, rd, eg, q⟩ := h
    unfold mkOf at eg
    split at eg
    · rename_i S' egi
      have hr := ok_inj eg
      subst hr
      have s1 : Same H1 (upd H1 dx (.own y)) := Same.upd hd
      have R1 : Rp X.K ca S (upd H1 dx (.own y)) := R.same s1
      have f1 : Fr ca H1 ca (upd H1 dx (.own y)) := Fr.same R s1 upd_al
      have hy1 : upd H1 dx (.own y) y = none := by rw [upd_ne (Ne.symm hne)]; exact hy
      obtain ⟨R2, f2⟩ := R1.new (p := y) (o := .ins (cc c) dx []) (c := .obj c []) hy1 ⟨dx, [], by rw [upd_same]; rw [← h0]; rfl, rfl, fun f => rfl⟩
      have f12 := f1.trans f2
      rw [List.append_nil]
      refine ⟨ca.more y, S ++ [.obj c []], .ref S.length :: ds, .ok .non S', h0, R2, ?_, egi, fun v ca' H' f3 R3 r3 => ?_⟩
      · exact .cons R1.new_at (rd.fr f12)
      · refine ⟨r3, q (.ref y) ca' H' (f12.trans f3) R3 ?_⟩
        unfold RepD
        refine ⟨y, f3.le.2 _ _ ?_, rfl⟩
        show (ca.i ++ [y])[S.length]? = some y
        rw [R.len]; simp
    · cases eg
  have pimp : ∀ {e : Expr} {t t' : TE}, PE X e t → (∀ σ H Q, t' σ H Q → t σ H Q) → PE X e t' := fun h i => ⟨fun pins s σ H Q I q => h.run pins s σ H Q I (i σ H Q q)⟩
  have pam : ∀ {es : List Expr} {t : TA}, PA X es t → PA X es (fun σ H R => ∃ S, t σ H S ∧ ∀ vs H1, S vs H1 → R vs H1) := fun h => ⟨fun pos pins s σ H R I ⟨S, q1, q2⟩ =>
    wpAny_mono (h.run pos pins s σ H S I q1) (fun _ _ ⟨vs, H1, I1, r1, z⟩ => ⟨vs, H1, I1, r1, q2 vs H1 z⟩) fun _ _ z => z⟩
  refine ⟨fun p pos => ?_, fun e es p pos t ha h1 h2 => ?_⟩
  · refine pimp (pe_make0 (ds := []) (dvs := []) (E := E0) M F hr hg hm hb .nil passL h3) fun σ H Q q => ?_
    exact fun y dx hy hd hne => key [] H Q _ q y dx hy hd hne
  · refine pimp (pe_make (ds := []) (dvs := []) (E := E0) M F hr hg hm hb .nil passL (pam ha) h3 h1 h2) fun σ H Q q => ?_
    refine ⟨fun vs H1 => spI X.K cc (mkOf c gi) vs H1 Q (WE W σ), q, fun vs H1 z => ?_⟩
    exact fun y dx hy hd hne => key vs H1 Q _ z y dx hy hd hne
/-! ### entries -/
theorem EnvOk.fn {j k : Nat} {Γ : Gam} {f : Str} {g : Gv} {fa : Addr} {fd : FuncData} {ps : List Str} (h : EnvOk Pg w K mg base cc j Γ) (F : FnOk Pg w K mg base (L2.CX Pg w) k fa fd ps (spI K cc g)) (hl : j ≤ k) (hm : mg f = some (.ref fa)) (hk : PySem.W.keepIn K (.ref fa) = true) (hb : L2.Binds K fd ps []) :
    EnvOk Pg w K mg base cc k (ext Γ (.fn f) g) := (h.mono hl).rule trivial fun X h1 h2 h3 h4 h5 hr => by
  subst h1 h2 h3 h4 h5
  exact (calls_all F hr hb).name hm hk
theorem EnvOk.fnD {j k : Nat} {Γ : Gam} {f : Str} {g : Gv} {fa : Addr} {fd : FuncData} {ps : List Str} {dd : List D} {dvs : List V} {ds : List Value} (h : EnvOk Pg w K mg base cc j Γ) (F : FnOk Pg w K mg base (L2.CX Pg w) k fa fd ps (spI K cc g)) (hl : j ≤ k) (hm : mg f = some (.ref fa)) (hk : PySem.W.keepIn K (.ref fa) = true) (b1 : L2.Binds K fd ps []) (b2 : L2.Binds K fd ps ds) (hd : Vals dvs ds) (hdd : ∀ ca H, RepDs K ca H dd dvs) :
    EnvOk Pg w K mg base cc k (ext Γ (.fn f) (pad ps.length dd g)) := (h.mono hl).rule trivial fun X h1 h2 h3 h4 h5 hr => by
  subst h1 h2 h3 h4 h5
  exact (calls_dflt F hr b1 b2 hd fun vs H Q E q => spI_pad hdd q).name hm hk
theorem EnvOk.me {j k c : Nat} {Γ : Gam} {m : Str} {g : Gv} {fa : Addr} {fd : FuncData} {ps : List Str} (h : EnvOk Pg w K mg base cc j Γ) (F : FnOk Pg w K mg base (L2.CX Pg w) k fa fd ps (spI K cc g)) (hl : j ≤ k) (hc : Cls K (cc c)) (hm : Meth K (cc c) m fa) (hb : L2.Binds K fd ps []) :
    EnvOk Pg w K mg base cc k (ext Γ (.me c m) g) := (h.mono hl).rule trivial fun X h1 h2 h3 h4 h5 hr => by
  subst h1 h2 h3 h4 h5
  exact (calls_all F hr hb).meth hc hm
theorem EnvOk.meD {j k c : Nat} {Γ : Gam} {m : Str} {g : Gv} {fa : Addr} {fd : FuncData} {ps : List Str} {dd : List D} {dvs : List V} {ds : List Value} (h : EnvOk Pg w K mg base cc j Γ) (F : FnOk Pg w K mg base (L2.CX Pg w) k fa fd ps (spI K cc g)) (hl : j ≤ k) (hc : Cls K (cc c)) (hm : Meth K (cc c) m fa) (b1 : L2.Binds K fd ps []) (b2 : L2.Binds K fd ps ds) (hd : Vals dvs ds) (hdd : ∀ ca H, RepDs K ca H dd dvs) :
    EnvOk Pg w K mg base cc k (ext Γ (.me c m) (pad ps.length dd g)) := (h.mono hl).rule trivial fun X h1 h2 h3 h4 h5 hr => by
  subst h1 h2 h3 h4 h5
  exact (calls_dflt F hr b1 b2 hd fun vs H Q E q => spI_pad hdd q).meth hc hm
theorem EnvOk.qc {j k c : Nat} {Γ : Gam} {x m : Str} {g : Gv} {fa : Addr} {fd : FuncData} {ps : List Str} {mc : Value} (h : EnvOk Pg w K mg base cc j Γ) (F : FnOk Pg w K mg base (L2.CX Pg w) k fa fd ps (spI K cc g)) (hl : j ≤ k) (hm : mg x = some (.ref (cc c))) (r : CRead K (cc c) mc) (hv : PySem.W.findCls K (.ref (cc c)) mc m = some (.val (.ref fa))) (hk : PySem.W.keepIn K (.ref fa) = true) (hb : L2.Binds K fd ps []) :
    EnvOk Pg w K mg base cc k (ext Γ (.qc x m) g) := (h.mono hl).rule trivial fun X h1 h2 h3 h4 h5 hr => by
  subst h1 h2 h3 h4 h5
  exact (calls_all F hr hb).viaC hm r hv hk
theorem EnvOk.cons {j k c : Nat} {Γ : Gam} {x : Str} {gi : Gv} {fa : Addr} {fd : FuncData} {ps : List Str} (h : EnvOk Pg w K mg base cc j Γ) (M : Mk K (cc c) fa) (F : FnOk Pg w K mg base (L2.CX Pg w) k fa fd ps (spI K cc gi)) (hl : j ≤ k + 1) (hm : mg x = some (.ref (cc c))) (hb : L2.Binds K fd ps []) :
    EnvOk Pg w K mg base cc (k + 1) (ext Γ (.fn x) (mkOf c gi)) := (h.mono hl).rule trivial fun X h1 h2 h3 h4 h5 hr => by
  subst h1 h2 h3 h4 h5
  exact CallOk.of_class M F hr hm hb
/-- a field -/
theorem EnvOk.fl {k c : Nat} {Γ : Gam} {f : Str} (h : EnvOk Pg w K mg base cc k Γ) (hc : Cls K (cc c)) (hn : NoAttr K (cc c) f) : EnvOk Pg w K mg base cc k (ext Γ (.fld c f) fun _ _ => none) := h.rule ⟨hc, hn⟩ fun X h1 h2 h3 h4 h5 hr => trivial
/-- a class's name -/
theorem EnvOk.cls {k c : Nat} {Γ : Gam} {x : Str} (h : EnvOk Pg w K mg base cc k Γ) (hm : mg x = some (.ref (cc c))) (hk : PySem.W.keepIn K (.ref (cc c)) = true) : EnvOk Pg w K mg base cc k (ext Γ (.cls x c) fun _ _ => none) := h.rule ⟨hm, hk⟩ fun X h1 h2 h3 h4 h5 hr => trivial
/-- a yes or no -/
def yn (b : Bool) : Gv := fun S _ => some (.ok (.bl b) S)
theorem kit_self {K : PySem.W.Frag} {C : Addr} : PySem.W.kitOne K (.ref C) (.ref C) = some true := by
  unfold PySem.W.kitOne
  rw [if_pos (by simp)]
theorem kit_own {K : PySem.W.Frag} {C Cn : Addr} {b : Bool} (ne : C ≠ Cn) (l : PySem.W.isClsIn K Cn = true) (t : PySem.W.typeIn K (.ref Cn) = some (.type "type")) (h : PySem.W.subIn K (.ref C) (.ref Cn) = some b) : PySem.W.kitOne K (.ref C) (.ref Cn) = some b := by
  have l' : (PySem.W.clsIn K Cn).isSome = true := l
  unfold PySem.W.kitOne PySem.W.kitCls
  rw [if_neg (by simpa using ne)]
  simp only [l', t, h]
  rfl
theorem kit_VE {K : PySem.W.Frag} {C : Addr} {b : Bool} (h : PySem.W.subIn K (.ref C) (.type "ValueError") = some b) : PySem.W.kitOne K (.ref C) (.type "ValueError") = some b := by
  have e : PySem.W.kitMeta "ValueError" = true := by decide +kernel
  unfold PySem.W.kitOne PySem.W.kitCls
  rw [if_neg (by simp)]
  simp only [e, h, if_true]
/-- what isinstance(e, C) and except C ask of the class C: of which it is told -/
structure ExT (K : PySem.W.Frag) (C : Addr) : Prop where
  sb : PySem.W.subIn K (.ref C) (.type "BaseException") = some true
  hd : PySem.W.hasDictIn K C = true
  ty : PySem.W.typeIn K (.ref C) = some (.type "type")
  il : PySem.W.isClsIn K C = true
theorem EnvOk.sub {k c c' : Nat} {Γ : Gam} {b : Bool} (h : EnvOk Pg w K mg base cc k Γ) (x : IsX K (cc c)) (t : ExT K (cc c')) (hs : PySem.W.subIn K (.ref (cc c)) (.ref (cc c')) = some b) (ne : cc c ≠ cc c' ∨ b = true ∧ cc c = cc c') : EnvOk Pg w K mg base cc k (ext Γ (.sub c c') (yn b)) := h.rule ⟨b, fun _ _ => rfl, PySem.W.exm_ref t.sb t.hd t.ty hs, by
  rcases ne with ne | ⟨rfl, ne⟩
  · exact kit_own ne t.il t.ty hs
  · rw [ne]; exact kit_self, x⟩ fun X h1 h2 h3 h4 h5 hr => trivial
theorem EnvOk.subV {k c : Nat} {Γ : Gam} {b : Bool} (h : EnvOk Pg w K mg base cc k Γ) (x : IsX K (cc c)) (hs : PySem.W.subIn K (.ref (cc c)) (.type "ValueError") = some b) : EnvOk Pg w K mg base cc k (ext Γ (.subV c) (yn b)) := h.rule ⟨b, fun _ _ => rfl, kit_VE hs, x⟩ fun X h1 h2 h3 h4 h5 hr => trivial
theorem EnvOk.xf {k c : Nat} {Γ : Gam} {f : Str} (h : EnvOk Pg w K mg base cc k Γ) (x : XfC K (cc c)) (hn : PySem.W.findIn K (.ref (cc c)) f = some none) : EnvOk Pg w K mg base cc k (ext Γ (.xf c f) fun _ _ => none) := h.rule ⟨x, hn⟩ fun X h1 h2 h3 h4 h5 hr => trivial
theorem EnvOk.inst {k c c' : Nat} {Γ : Gam} {b : Bool} (h : EnvOk Pg w K mg base cc k Γ) (x : InsX K (cc c)) (hk : PySem.W.kitOne K (.ref (cc c)) (.ref (cc c')) = some b) : EnvOk Pg w K mg base cc k (ext Γ (.inst c c') (yn b)) := h.rule ⟨b, fun _ _ => rfl, x, hk⟩ fun X h1 h2 h3 h4 h5 hr => trivial
/-- a name of the module that holds data -/
theorem EnvOk.glb {k : Nat} {Γ : Gam} {x : Str} {d : D} {v : V} {u : Value} (h : EnvOk Pg w K mg base cc k Γ) (hm : mg x = some u) (rv : RelV v u) (rd : ∀ ca H, RepD K ca H d v) : EnvOk Pg w K mg base cc k (ext Γ (.glb x) fun S _ => some (.ok d S)) := h.rule trivial fun X h1 h2 h3 h4 h5 hr => by
  subst h1 h2 h3 h4 h5
  exact ⟨d, v, fun _ _ => rfl, rd, fun p hg hd => ⟨fun pins s σ H Q I h => ld_glob I hg hm ⟨v, H, I, rv, h⟩ hd⟩⟩
/-! ### errors -/
/-- an own error class whose __init__ keeps one field -/
structure ErrC (K : PySem.W.Frag) (mg : Str → Option Value) (x q f : Str) (C Cq fI : Addr) : Prop where
  gC : mg x = some (.ref C)
  gQ : mg q = some (.ref Cq)
  T : OexC K C
  rQ : CRead K Cq (.type "type")
  vQ : PySem.W.findCls K (.ref Cq) (.type "type") "__init__" = some (.val (.builtin "ValueError.__init__"))
  noN : PySem.W.findIn K (.ref C) f = some none
  iC : PySem.W.findIn K (.ref C) "__init__" = some (some (.ref fI))
  tI : PySem.W.typeIn K (.ref fI) = some (.type "function")
/-- such an __init__ -/
def initForm (q m f : Str) (sc : Scope) : List Stmt → Bool
  | [.Expr (.Call (.Attribute (.Name q' _) i p2) [.Name s1 _, .Constant (.str m') _ _] [] p5) _, .Assign [.Attribute (.Name s2 _) f' _] (.Name f2 _) _] =>
    decide (q' = q) && decide (i = "__init__") && decide (s1 = "self") && decide (m' = m) && decide (s2 = "self") && decide (f' = f) && decide (f2 = f) && glB sc q && visB sc "self" && visB sc f && plainName q && plainName f && (p2.endLine == p5.line)
  | _ => false
def spInit (K : PySem.W.Frag) (f : Str) : Sp := fun vs H Q _ => ∃ (a C : Addr) (v : V), vs = [.ref a, v] ∧ OexC K C ∧ PySem.W.findIn K (.ref C) f = some none ∧ H a = some (exo a C none) ∧
  ∀ dx, H dx = none → dx ≠ a → Q .non (upd (upd H dx (exd dx [(f, v)])) a (exo a C (some dx)))
theorem pe_qinit {X : Cx} {e : Expr} {es : List Expr} {ta : TA} {p1 p2 pos : Pos} {x : Str} {C : Addr} {mc : Value} (hg : Gl X x) (hm : X.mg x = some (.ref C)) (r : CRead X.K C mc) (hv : PySem.W.findCls X.K (.ref C) mc "__init__" = some (.val (.builtin "ValueError.__init__"))) (ha : PA X (e :: es) ta) (hd : (x == ("__debug__" : Str)) = false)
    (hl : (p2.endLine == pos.line) = true) (hn : (e :: es).length < 28) (he : starEach (e :: es) X.env = (false, eval e X.env) :: starEach es X.env) (hb1 : (backTo pos (starEach (e :: es) X.env)).any (·.1) = false) (hpl : (backTo pos (starEach es X.env)).any (·.1) = false) : PE X (.Call (.Attribute (.Name x p1) "__init__" p2) (e :: es) [] pos) (tVeI X.K ta) := by
  refine ⟨fun pins s σ H Q I h => PySem.W.methodCall_KW (ld_glob I hg hm ?_ hd) (meth_eval (o := .Name x p1) rfl hl hb1 hn)⟩
  refine PySem.W.method_cls I.kIn r.ga (PySem.W.cls_value I.kIn r.rd hv rfl ?_)
  refine PyProof.Rows.callWith_method1 (first := []) (thn (ha.run pos pins _ σ H _ (I.tok _) h) fun us s1 hh => ?_) he hpl
  obtain ⟨vs, H1, I1, r1, a, C', ws, ev, hl, T, ea, q⟩ := hh
  subst ev
  cases r1 with
  | @cons _ u0 _ ur ra rw' =>
    obtain rfl : u0 = Value.ref a := ra
    exact oinit_ok T I1 ea (by rw [← Paired.length rw', sizeLine_eq]; omega) fun s' J => ⟨.non, H1, J, rfl, q⟩
theorem vis_cx {X : Cx} {sc : Scope} {x : Str} (hs : X.env.scope = sc) (h : visB sc x = true) : Vis X.env.scope x := vis_of hs h
theorem errinit_ok {x q m f qual : Str} {C Cq fI : Addr} {st : Stmt} {fd : FuncData} (F : Fun K "__init__" qual st fI fd) (S : FnScope ["self", f] ["self", f] (defScope st)) (T : ErrC K mg x q f C Cq fI) (hF : initForm q m f (defScope st) (defBody st) = true) : FnOk Pg w K mg base (L2.CX Pg w) 1 fI fd ["self", f] (spInit K f) := by
  refine F.okX S (fun vs H Q E h => ?_) (fun cdv A outer s H vs Q E hr h => ?_)
  · obtain ⟨a, C, v, rfl, _⟩ := h
    rfl
  · obtain ⟨a, C', v, rfl, Tx, hno, ha, q0⟩ := h
    generalize hX : cxOf (L2.CX Pg w) Pg w K mg base ["self", f] qual (defScope st) fI cdv A outer s H E = X
    have hs : X.env.scope = defScope st := by rw [← hX]; rfl
    have hN : X.N = (["self", f] : List Str) := by rw [← hX]; rfl
    have hk : X.K = K := by rw [← hX]; rfl
    have hmg : X.mg = mg := by rw [← hX]; rfl
    unfold initForm at hF
    split at hF
    · rename_i q' p1 i p2 s1 p3 m' j p4 p5 p6 s2 p7 f' p8 f2 p9 p10 eb
      simp only [Bool.and_eq_true, decide_eq_true_eq, plainName, Bool.not_eq_true'] at hF
      obtain ⟨⟨⟨⟨⟨⟨⟨⟨⟨⟨⟨⟨a1, a2⟩, a3⟩, a4⟩, a5⟩, a6⟩, a7⟩, a8⟩, a9⟩, a10⟩, ⟨a11, _⟩, _⟩, ⟨a12, a12'⟩, _⟩, a13⟩ := hF
      subst a1 a2 a3 a4 a5 a6 a7
      rw [eb]
      have v0 : ∀ {p : Pos}, PE X (.Name "self" p) (tVar 0) := fun {p} => pe_var (by rw [hN]; rfl) (vis_of hs a9) (by decide) (by decide)
      have v1 : ∀ {p : Pos}, PE X (.Name f2 p) (tVar 1) := fun {p} => pe_var (by rw [hN]; rfl) (vis_of hs a10) a12 a12'
      have hu := @pe_qinit X (.Name "self" p3) [.Constant (.str m') j p4] _ p1 p2 p5 q' Cq _ (gl_of hs a8) (by rw [hmg]; exact T.gQ) (by rw [hk]; exact T.rQ) (by rw [hk]; exact T.vQ) (pa_cons v0 (pa_cons pe_str pa_nil)) a11 a13 (by simp) rfl rfl rfl
      refine ⟨_, pss_cons (ps_expr hu) (pss_one (ps_ost v0 v1)), ?_⟩
      refine ⟨.ref a, rfl, a, C', [.str m'], rfl, by simp, by rw [hk]; exact Tx, ha, v, rfl, .ref a, rfl, a, C', rfl, by rw [hk]; exact Tx, by rw [hk]; exact hno, .inl ⟨ha, fun dx h1 h2 => q0 dx h1 h2⟩⟩
    · cases hF
/-- raise X(e) -/
theorem raise_err {X : Cx} {x q f : Str} {C Cq fI : Addr} {k : Nat} {fd : FuncData} (T : ErrC X.K X.mg x q f C Cq fI) (F : FnOk X.prog X.w X.K X.mg X.base (L2.CX X.prog X.w) k fI fd ["self", f] (spInit X.K f)) (hr : Room (k + 1) X.A) (hb : Binds X.K fd ["self", f] []) : RaiseOk X x C (some f) := fun W tk hc hg hd e p pos pos2 ta ha he => by
  have pam : PA X [e] (fun σ H R => ∃ S, ta σ H S ∧ ∀ vs H1, S vs H1 → R vs H1) := ⟨fun pos pins s σ H R I ⟨S, q1, q2⟩ =>
    wpAny_mono (ha.run pos pins s σ H S I q1) (fun _ _ ⟨vs, H1, I1, r1, z⟩ => ⟨vs, H1, I1, r1, q2 vs H1 z⟩) fun _ _ z => z⟩
  have m := ps_raise (pos := pos2) hc tk (pmk_oex (p := p) (pos := pos) T.T T.iC T.tI F hr hb .nil passL hg T.gC pam hd he (by rfl))
  refine ⟨fun pins s σ H D I h => m.run pins s σ H D I ?_⟩
  refine ⟨_, h, fun vs H1 hv => ?_⟩
  obtain ⟨v, rfl, h2⟩ := hv
  refine ⟨by simp, fun a ha => ⟨a, C, v, rfl, T.T, T.noN, upd_same, fun dx h1 hne => ⟨rfl, dx, [(f, v)], upd_same, by rw [upd_ne hne]; exact upd_same, by rw [upd_ne hne] at h1; exact h1, ?_⟩⟩⟩
  have h1' : H1 dx = none := by rw [upd_ne hne] at h1; exact h1
  refine h2 dx _ h1' upd_same (fun b o z => ?_) fun b z => ?_
  · have hba : b ≠ a := ne_of_none z ha
    have hbd : b ≠ dx := ne_of_none z h1'
    rw [upd_ne hbd, del_ne hba, upd_ne hba, upd_ne hbd, upd_ne hba]
    exact z
  · by_cases hbd : b = dx
    · subst hbd; exact h1'
    · rw [upd_ne hbd] at z
      by_cases hba : b = a
      · subst hba; exact ha
      · rwa [del_ne hba, upd_ne hba, upd_ne hbd, upd_ne hba] at z
theorem EnvOk.err {j k c : Nat} {Γ : Gam} {x q f : Str} {Cq fI : Addr} {fd : FuncData} (h : EnvOk Pg w K mg base cc j Γ) (T : ErrC K mg x q f (cc c) Cq fI) (F : FnOk Pg w K mg base (L2.CX Pg w) k fI fd ["self", f] (spInit K f)) (hl : j ≤ k + 1) (hb : L2.Binds K fd ["self", f] []) :
    EnvOk Pg w K mg base cc (k + 1) (ext Γ (.exc x c (some f)) fun _ _ => none) := (h.mono hl).rule trivial fun X h1 h2 h3 h4 h5 hr => by
  subst h1 h2 h3 h4 h5
  exact raise_err T F hr hb
/-- .. of a class without an __init__ of its own -/
structure Err0 (K : PySem.W.Frag) (mg : Str → Option Value) (x : Str) (C : Addr) : Prop where
  gC : mg x = some (.ref C)
  ex : PySem.W.excIn K C [.type "ValueError", .type "Exception", .type "BaseException", .type "object"] "ValueError.__new__" = true
  kC : PySem.W.keepIn K (.ref C) = true
  sb : PySem.W.subIn K (.ref C) (.type "BaseException") = some true
  ty : PySem.W.typeIn K (.ref C) = some (.type "type")
theorem raise_err0 {X : Cx} {x : Str} {C : Addr} (T : Err0 X.K X.mg x C) : RaiseOk X x C none := fun W tk hc hg hd e p pos pos2 ta ha he => by
  have pam : PA X [e] (fun σ H R => ∃ S, ta σ H S ∧ ∀ vs H1, S vs H1 → R vs H1) := ⟨fun pos pins s σ H R I ⟨S, q1, q2⟩ =>
    wpAny_mono (ha.run pos pins s σ H S I q1) (fun _ _ ⟨vs, H1, I1, r1, z⟩ => ⟨vs, H1, I1, r1, q2 vs H1 z⟩) fun _ _ z => z⟩
  have m := ps_raise (pos := pos2) hc tk (pmk_ownA (p := p) (pos := pos) PySem.F.excBase_ValueError T.ex T.gC T.kC (raises_own T.sb T.ty) hg pam hd he (by rfl))
  refine ⟨fun pins s σ H D I h => m.run pins s σ H D I ?_⟩
  refine ⟨_, h, fun vs H1 hv => ?_⟩
  obtain ⟨v, rfl, _, h2⟩ := hv
  exact ⟨by rw [sizeLine_eq]; simp, h2⟩
theorem EnvOk.err0 {k c : Nat} {Γ : Gam} {x : Str} (h : EnvOk Pg w K mg base cc k Γ) (T : Err0 K mg x (cc c)) : EnvOk Pg w K mg base cc k (ext Γ (.exc x c none) fun _ _ => none) := h.rule trivial fun X h1 h2 h3 h4 h5 hr => by
  subst h1 h2 h3 h4 h5
  exact raise_err0 T
end
end Hv
/-! Hv16: how the evaluator is run in a proof. -/
namespace Hv
open PySem PySem.Spec
open PyProof.Rows hiding St
open L2
/-! ### one step -/
theorem bok {α β : Type} (a : α) (S : Sto) (f : α → Sto → M β) : M.bind (some (.ok a S)) f = f a S := rfl
theorem bex {α β : Type} (e : Xc) (S : Sto) (f : α → Sto → M β) : M.bind (some (.exc e S)) f = some (.exc e S) := rfl
theorem mok {α : Type} (a : α) (S : Sto) : M.ok a S = some (.ok a S) := rfl
theorem gok {α : Type} (a : α) (S : Sto) (σ : List Sl) (f : α → Sto → MO) : M.go (some (.ok a S)) σ f = f a S := rfl
theorem gex {α : Type} (e : Xc) (S : Sto) (σ : List Sl) (f : α → Sto → MO) : M.go (some (.exc e S) : M α) σ f = some (.exc e σ S) := rfl
theorem mook (o : Out) (S : Sto) : MO.ok o S = some (.ok o S) := rfl
theorem thn_nx (σ : List Sl) (S : Sto) (f : List Sl → Sto → MO) : MO.then (some (.ok (.nx σ) S)) f = f σ S := rfl
theorem thn_ret (d : D) (S : Sto) (f : List Sl → Sto → MO) : MO.then (some (.ok (.ret d) S)) f = some (.ok (.ret d) S) := rfl
theorem thn_brk (σ : List Sl) (S : Sto) (f : List Sl → Sto → MO) : MO.then (some (.ok (.brk σ) S)) f = some (.ok (.brk σ) S) := rfl
theorem thn_cnt (σ : List Sl) (S : Sto) (f : List Sl → Sto → MO) : MO.then (some (.ok (.cnt σ) S)) f = some (.ok (.cnt σ) S) := rfl
theorem thn_exc (e : Xc) (σ : List Sl) (S : Sto) (f : List Sl → Sto → MO) : MO.then (some (.exc e σ S)) f = some (.exc e σ S) := rfl
theorem gP_pos {α : Type} {p : Prop} {k : Option α} (h : p) : gP p k = k := if_pos h
theorem gPl {α : Type} {n : Nat} {k : Option α} (h : n ≤ 16777216) : gP (n ≤ sizeLine) k = k := gP_pos (by rw [sizeLine_eq]; exact h)
theorem gPl' {α : Type} {n : Nat} {k : Option α} (h : n < 16777216) : gP (n < sizeLine) k = k := gP_pos (by rw [sizeLine_eq]; exact h)
theorem putS_pos {σ : List Sl} {i : Nat} {s : Sl} (h : i < σ.length) : putS σ i s = some (σ.set i s) := if_pos h
theorem lookup_cons' {α : Type} (f g : Str) (x : α) (r : List (Str × α)) : ((g, x) :: r).lookup f = if f = g then some x else r.lookup f := by
  rw [List.lookup_cons]
  by_cases h : f = g
  · rw [if_pos h]; simp [h]
  · rw [if_neg h]
    have : (f == g) = false := by simpa using h
    rw [this]
theorem lookupE {α : Type} {f : Str} {x : α} {r : List (Str × α)} : ((f, x) :: r).lookup f = some x := by rw [lookup_cons', if_pos rfl]
theorem lookupN {α : Type} {f g : Str} {x : α} {r : List (Str × α)} (h : f ≠ g) : ((g, x) :: r).lookup f = r.lookup f := by rw [lookup_cons', if_neg h]
theorem setFE {f : Str} {x y : D} {r : List (Str × D)} : setF f x ((f, y) :: r) = (f, x) :: r := if_pos rfl
theorem setFN {f g : Str} {x y : D} {r : List (Str × D)} (h : g ≠ f) : setF f x ((g, y) :: r) = (g, y) :: setF f x r := if_neg h
theorem setF_cons (f g : Str) (x y : D) (r : List (Str × D)) : setF f x ((g, y) :: r) = if g = f then (g, x) :: r else (g, y) :: setF f x r := rfl
theorem setF_nil (f : Str) (x : D) : setF f x [] = [(f, x)] := rfl
/-! ### the store -/
theorem at_new {S : Sto} {c : C} : (S ++ [c])[S.length]? = some c := by simp
theorem at_old {S T : Sto} {n : Nat} {c : C} (h : S[n]? = some c) : (S ++ T)[n]? = some c := by
  rw [List.getElem?_append_left (List.getElem?_eq_some_iff.mp h).1]; exact h
theorem at_lt {S : Sto} {n : Nat} {c : C} (h : S[n]? = some c) : n < S.length := (List.getElem?_eq_some_iff.mp h).1
theorem at_set {S : Sto} {n : Nat} {c c' : C} (h : S[n]? = some c) : (S.set n c')[n]? = some c' := List.getElem?_set_self (at_lt h)
theorem at_set_ne {S : Sto} {n m : Nat} {c : C} (h : m ≠ n) : (S.set m c)[n]? = S[n]? := List.getElem?_set_ne h
theorem set_new {S : Sto} {c c' : C} : (S ++ [c]).set S.length c' = S ++ [c'] := by simp
theorem set_old {S T : Sto} {n : Nat} {c : C} (h : n < S.length) : (S ++ T).set n c = S.set n c ++ T := List.set_append_left _ _ h
theorem set_self {S : Sto} {n : Nat} {c : C} (h : S[n]? = some c) : S.set n c = S := by
  apply List.ext_getElem?
  intro i
  by_cases e : n = i
  · subst e; rw [at_set h, h]
  · rw [at_set_ne e]
theorem set_set {S : Sto} {n : Nat} {c c' : C} : (S.set n c).set n c' = S.set n c' := List.set_set ..
/-! ### what names no cell -/
mutual
/-- plain data: no cell is named -/
def pl : D → Bool
  | .tup xs => pls xs
  | .kt xs => pls xs
  | .fl xs => pls xs
  | .ref _ => false
  | _ => true
def pls : List D → Bool
  | [] => true
  | x :: xs => pl x && pls xs
end
mutual
theorem pl_cl : ∀ {d : D} {n : Nat}, pl d = true → cl n d
  | .non, _, _ => trivial
  | .bl _, _, _ => trivial
  | .int _, _, _ => trivial
  | .str _, _, _ => trivial
  | .tup xs, n, h => by unfold pl at h; exact pls_cls h
  | .kt xs, n, h => by unfold pl at h; exact pls_cls h
  | .fl xs, n, h => by unfold pl at h; exact pls_cls h
  | .ref _, _, h => by cases h
theorem pls_cls : ∀ {ds : List D} {n : Nat}, pls ds = true → cls n ds
  | [], _, _ => trivial
  | x :: xs, n, h => by
    have h' : pl x = true ∧ pls xs = true := by simpa [pls] using h
    exact ⟨pl_cl h'.1, pls_cls h'.2⟩
end
theorem pls_all {ds : List D} : pls ds = true ↔ ∀ x ∈ ds, pl x = true := by
  induction ds with
  | nil => simp [pls]
  | cons x xs ih => simp [pls, ih]
theorem pls_map {α : Type} {f : α → D} (h : ∀ x, pl (f x) = true) (l : List α) : pls (l.map f) = true := pls_all.mpr fun x hx => by
  obtain ⟨y, _, rfl⟩ := List.mem_map.mp hx
  exact h y
theorem pls_app {a b : List D} (ha : pls a = true) (hb : pls b = true) : pls (a ++ b) = true := pls_all.mpr fun x hx => (List.mem_append.mp hx).elim (pls_all.mp ha x) (pls_all.mp hb x)
theorem pls_take {a : List D} {n : Nat} (ha : pls a = true) : pls (a.take n) = true := pls_all.mpr fun x hx => pls_all.mp ha x (List.mem_of_mem_take hx)
theorem pls_drop {a : List D} {n : Nat} (ha : pls a = true) : pls (a.drop n) = true := pls_all.mpr fun x hx => pls_all.mp ha x (List.mem_of_mem_drop hx)
theorem pl_lst {n : Nat} {xs : List D} (h : pls xs = true) : clC n (.lst xs) := cls_iff.mp (pls_cls h)
/-! ### what is forgotten -/
theorem gcv_pl {S T : Sto} {d : D} (h : pl d = true) : gcv S d (S ++ T) = (d, S) := gcv_app (pl_cl h)
theorem gcv_pl0 {S : Sto} {d : D} (h : pl d = true) : gcv S d S = (d, S) := gcv_self (pl_cl h)
theorem gcv_pl1 {S : Sto} {c : C} {d : D} (h : pl d = true) : gcv S d (S ++ [c]) = (d, S) := gcv_app (pl_cl h)
theorem gcv_dead {S : Sto} {d : D} (h : pl d = true) : gcv S d ((S ++ [.dead])) = (d, S) := gcv_app (pl_cl h)
theorem gcv_new {S : Sto} {c : C} (h : clC S.length c) : gcv S (.ref S.length) (S ++ [c]) = (.ref S.length, S ++ [c]) := by
  have := gcv_ref (S := S) (T := [c]) (m := S.length) (c := c) (Nat.le_refl _) at_new h
  exact this
theorem app_app {S T U : Sto} : S ++ T ++ U = S ++ (T ++ U) := List.append_assoc ..
/-- only what a run changed in one cell -/
theorem gcv_set {S T : Sto} {n : Nat} {c : C} {d : D} (h : pl d = true) (hc : clC S.length c) : gcv S d (S.set n c ++ T) = (d, S.set n c) := gcv_to (by simp) (pl_cl h) (Kept.refl.set hc)
theorem gcv_set0 {S : Sto} {n : Nat} {c : C} {d : D} (h : pl d = true) (hc : clC S.length c) : gcv S d (S.set n c) = (d, S.set n c) := by
  have := gcv_set (T := []) (n := n) h hc
  rwa [List.append_nil] at this
theorem gcR_ok1 {S S1 : Sto} {d : D} : gcR S (some (.ok d S1)) = some (.ok (gcv S d S1).1 (gcv S d S1).2) := rfl
theorem gcR_exc {S T : Sto} {e : Xc} (h : ∀ p ∈ e.fs, pl p.2 = true) : gcR S (some (.exc e (S ++ T))) = some (.exc e S) := by
  unfold gcR
  dsimp only
  rw [if_pos ⟨fun p hp => pl_cl (h p hp), by simp, Kept.app⟩]
  simp
theorem gcR_exc0 {S : Sto} {e : Xc} (h : ∀ p ∈ e.fs, pl p.2 = true) : gcR S (some (.exc e S)) = some (.exc e S) := by
  have := gcR_exc (S := S) (T := []) h
  rwa [List.append_nil] at this
theorem gcR_x0 {S T : Sto} {c : Nat} : gcR S (some (.exc ⟨c, []⟩ (S ++ T))) = some (.exc ⟨c, []⟩ S) := gcR_exc fun p hp => by cases hp
theorem gcR_x00 {S : Sto} {c : Nat} : gcR S (some (.exc ⟨c, []⟩ S)) = some (.exc ⟨c, []⟩ S) := gcR_exc0 fun p hp => by cases hp
theorem gcR_x1 {S T : Sto} {c : Nat} {f : Str} {d : D} (h : pl d = true) : gcR S (some (.exc ⟨c, [(f, d)]⟩ (S ++ T))) = some (.exc ⟨c, [(f, d)]⟩ S) := gcR_exc fun p hp => by
  have : p = (f, d) := by simpa using hp
  subst this; exact h
theorem gcR_x10 {S : Sto} {c : Nat} {f : Str} {d : D} (h : pl d = true) : gcR S (some (.exc ⟨c, [(f, d)]⟩ S)) = some (.exc ⟨c, [(f, d)]⟩ S) := gcR_exc0 fun p hp => by
  have : p = (f, d) := by simpa using hp
  subst this; exact h
/-! ### a def -/
section
variable {Γ : Gam} {m n : Nat} {b : Ts} {S S1 : Sto} {ws : List D} {d : D}
/-- what a body comes to -/
def outOf (x : MO) : M D := match x with
  | some (.ok (.ret d) S1) => .ok d S1
  | some (.ok (.nx _) S1) => .ok .non S1
  | some (.exc e _ S1) => some (.exc e S1)
  | _ => none
theorem fnG_eq (hl : ws.length = m) : fnG Γ m n b S ws = gcR S (outOf (runs Γ b (ws.map Sl.v ++ List.replicate (n - ws.length) Sl.out) S)) := by
  unfold fnG
  rw [if_pos hl]
  rfl
theorem fnG_0 : fnG Γ 0 n b S [] = gcR S (outOf (runs Γ b (List.replicate (n - 0) Sl.out) S)) := fnG_eq rfl
theorem fnG_1 {a0 : D} : fnG Γ 1 n b S [a0] = gcR S (outOf (runs Γ b ([.v a0] ++ List.replicate (n - 1) Sl.out) S)) := fnG_eq rfl
theorem fnG_2 {a0 a1 : D} : fnG Γ 2 n b S [a0, a1] = gcR S (outOf (runs Γ b ([.v a0, .v a1] ++ List.replicate (n - 2) Sl.out) S)) := fnG_eq rfl
theorem fnG_3 {a0 a1 a2 : D} : fnG Γ 3 n b S [a0, a1, a2] = gcR S (outOf (runs Γ b ([.v a0, .v a1, .v a2] ++ List.replicate (n - 3) Sl.out) S)) := fnG_eq rfl
theorem fnG_4 {a0 a1 a2 a3 : D} : fnG Γ 4 n b S [a0, a1, a2, a3] = gcR S (outOf (runs Γ b ([.v a0, .v a1, .v a2, .v a3] ++ List.replicate (n - 4) Sl.out) S)) := fnG_eq rfl
theorem fnG_5 {a0 a1 a2 a3 a4 : D} : fnG Γ 5 n b S [a0, a1, a2, a3, a4] = gcR S (outOf (runs Γ b ([.v a0, .v a1, .v a2, .v a3, .v a4] ++ List.replicate (n - 5) Sl.out) S)) := fnG_eq rfl
theorem fnG_6 {a0 a1 a2 a3 a4 a5 : D} : fnG Γ 6 n b S [a0, a1, a2, a3, a4, a5] = gcR S (outOf (runs Γ b ([.v a0, .v a1, .v a2, .v a3, .v a4, .v a5] ++ List.replicate (n - 6) Sl.out) S)) := fnG_eq rfl
theorem fnG_7 {a0 a1 a2 a3 a4 a5 a6 : D} : fnG Γ 7 n b S [a0, a1, a2, a3, a4, a5, a6] = gcR S (outOf (runs Γ b ([.v a0, .v a1, .v a2, .v a3, .v a4, .v a5, .v a6] ++ List.replicate (n - 7) Sl.out) S)) := fnG_eq rfl
theorem fnG_8 {a0 a1 a2 a3 a4 a5 a6 a7 : D} : fnG Γ 8 n b S [a0, a1, a2, a3, a4, a5, a6, a7] = gcR S (outOf (runs Γ b ([.v a0, .v a1, .v a2, .v a3, .v a4, .v a5, .v a6, .v a7] ++ List.replicate (n - 8) Sl.out) S)) := fnG_eq rfl
theorem out_ret {d : D} {S1 : Sto} : outOf (some (.ok (.ret d) S1)) = some (.ok d S1) := rfl
theorem out_nx {σ : List Sl} {S1 : Sto} : outOf (some (.ok (.nx σ) S1)) = some (.ok .non S1) := rfl
theorem out_exc {e : Xc} {σ : List Sl} {S1 : Sto} : outOf (some (.exc e σ S1)) = some (.exc e S1) := rfl
end
/-! ### what comes of a run -/
def WP (x : MO) (Q : RO → Prop) : Prop := ∃ r, x = some r ∧ Q r
section
variable {Γ : Gam} {t : T} {ts a b : Ts} {c : E} {σ σ' : List Sl} {S S' : Sto} {g : G} {it : It} {xs : List D} {src : Src} {Q : RO → Prop} {k : Bool}
theorem WP.of {r : RO} {x : MO} (h : x = some r) (q : Q r) : WP x Q := ⟨r, h, q⟩
theorem WP.imp {x : MO} {Q' : RO → Prop} (h : WP x Q) (i : ∀ r, Q r → Q' r) : WP x Q' := let ⟨r, e, q⟩ := h; ⟨r, e, i r q⟩
theorem WP.eq {x : MO} {r : RO} (h : WP x fun r' => r' = r) : x = some r := by
  obtain ⟨_, e, rfl⟩ := h; exact e
/-- one statement, told -/
theorem WP.seq (h1 : run Γ t σ S = some (.ok (.nx σ') S')) (h2 : WP (runs Γ ts σ' S') Q) : WP (runs Γ (.cons t ts) σ S) Q := by
  obtain ⟨r, e, q⟩ := h2
  refine ⟨r, ?_, q⟩
  unfold runs
  rw [h1]
  exact e
/-- behind a statement -/
def nxt (Γ : Gam) (ts : Ts) (Q : RO → Prop) : RO → Prop
  | .ok (.nx σ) S => WP (runs Γ ts σ S) Q
  | r => Q r
theorem WP.cons (h : WP (run Γ t σ S) (nxt Γ ts Q)) : WP (runs Γ (.cons t ts) σ S) Q := by
  obtain ⟨r, e, q⟩ := h
  unfold WP runs
  rw [e]
  cases r with
  | exc e σ S => exact ⟨_, rfl, q⟩
  | ok o S => cases o with
    | nx σ => exact q
    | ret d => exact ⟨_, rfl, q⟩
    | brk σ => exact ⟨_, rfl, q⟩
    | cnt σ => exact ⟨_, rfl, q⟩
theorem WP.nil (q : Q (.ok (.nx σ) S)) : WP (runs Γ .nil σ S) Q := ⟨_, by unfold runs; rfl, q⟩
theorem WP.ret {e : E} {d : D} (h : ev Γ e σ S = some (.ok d S')) (q : Q (.ok (.ret d) S')) : WP (runs Γ (.cons (.ret e) ts) σ S) Q := ⟨_, by unfold runs run; rw [h]; rfl, q⟩
theorem WP.ite (h : tstV (ev Γ c σ S) = some (.ok k S')) (ht : k = true → WP (runs Γ a σ S') Q) (hf : k = false → WP (runs Γ b σ S') Q) : WP (run Γ (.ite c a b) σ S) Q := by
  unfold WP run
  rw [h, gok]
  cases k with
  | true => exact ht rfl
  | false => exact hf rfl
/-- a loop's turns -/
def turn (I : Nat → List Sl → Sto → Prop) (i : Nat) (src : Src) (Q : RO → Prop) : RO → Prop
  | .ok (.nx σ) S => stands S src ∧ I (i + 1) σ S
  | .ok (.cnt σ) S => stands S src ∧ I (i + 1) σ S
  | .ok (.brk σ) S => Q (.ok (.nx σ) S)
  | r => Q r
/-- a loop, by what holds between its turns -/
theorem WP.forR (I : Nat → List Sl → Sto → Prop) (h0 : I 0 σ S)
    (step : ∀ (i : Nat) (x : D) (σ : List Sl) (S : Sto), xs[i]? = some x → I i σ S → ∃ σ1, setG g x σ = some σ1 ∧ WP (runs Γ b σ1 S) (turn I i src Q))
    (fin : ∀ σ' S', I xs.length σ' S' → Q (.ok (.nx σ') S')) : WP (forRun src (fun x σ => setG g x σ) (runs Γ b) xs σ S) Q := by
  have key : ∀ (ys : List D) (n : Nat) (σ : List Sl) (S : Sto), (∀ j, ys[j]? = xs[n + j]?) → n + ys.length = xs.length → I n σ S → WP (forRun src (fun x σ => setG g x σ) (runs Γ b) ys σ S) Q := by
    intro ys
    induction ys with
    | nil =>
      intro n σ S _ hl hI
      have : n = xs.length := by simpa using hl
      exact ⟨_, rfl, fin σ S (by rw [← this]; exact hI)⟩
    | cons y ys ih =>
      intro n σ S hy hl hI
      obtain ⟨σ1, e1, r, e2, q⟩ := step n y σ S (by have := hy 0; simpa using this.symm) hI
      have nx : ∀ σ2 S2, stands S2 src → I (n + 1) σ2 S2 → WP (gP (stands S2 src) (forRun src (fun x σ => setG g x σ) (runs Γ b) ys σ2 S2)) Q := fun σ2 S2 hs h => by
        rw [gP_pos hs]
        exact ih (n + 1) σ2 S2 (fun j => by have := hy (j + 1); simpa [Nat.add_assoc, Nat.add_comm 1 j] using this) (by simp at hl ⊢; omega) h
      unfold WP forRun
      simp only [e1, e2]
      cases r with
      | exc e σ S => exact ⟨_, rfl, q⟩
      | ok o S1 => cases o with
        | nx σ2 => exact nx σ2 S1 q.1 q.2
        | cnt σ2 => exact nx σ2 S1 q.1 q.2
        | brk σ2 => exact ⟨_, rfl, q⟩
        | ret d => exact ⟨_, rfl, q⟩
  exact key xs 0 σ S (fun j => by simp) (by simp) h0
theorem WP.for_ (I : Nat → List Sl → Sto → Prop) (hi : evi Γ it σ S = some (.ok (xs, src) S')) (h0 : I 0 σ S')
    (step : ∀ (i : Nat) (x : D) (σ : List Sl) (S : Sto), xs[i]? = some x → I i σ S → ∃ σ1, setG g x σ = some σ1 ∧ WP (runs Γ b σ1 S) (turn I i src Q))
    (fin : ∀ σ' S', I xs.length σ' S' → Q (.ok (.nx σ') S')) : WP (run Γ (.for_ g it b) σ S) Q := by
  have := WP.forR (Γ := Γ) (g := g) (b := b) (src := src) I h0 step fin
  unfold run
  rw [hi, gok]
  exact this
/-- a while, by a measure -/
def wturn (I : List Sl → Sto → Prop) (m : List Sl → Sto → Nat) (k : Nat) (Q : RO → Prop) : RO → Prop
  | .ok (.nx σ) S => I σ S ∧ m σ S < k
  | .ok (.cnt σ) S => I σ S ∧ m σ S < k
  | .ok (.brk σ) S => Q (.ok (.nx σ) S)
  | r => Q r
theorem WP.whil {n : Nat} {e : E} (I : List Sl → Sto → Prop) (m : List Sl → Sto → Nat) (h0 : I σ S) (hm : m σ S < n)
    (step : ∀ (σ : List Sl) (S : Sto), I σ S → ∃ k S1, tstV (ev Γ e σ S) = some (.ok k S1) ∧ (k = false → Q (.ok (.nx σ) S1)) ∧ (k = true → WP (runs Γ b σ S1) (wturn I m (m σ S) Q))) : WP (run Γ (.whil n e b) σ S) Q := by
  have key : ∀ (n : Nat) (σ : List Sl) (S : Sto), I σ S → m σ S < n → WP (whilRun (fun σ S => tstV (ev Γ e σ S)) (runs Γ b) n σ S) Q := by
    intro n
    induction n with
    | zero => intro σ S _ h; omega
    | succ n ih =>
      intro σ S hI hm
      obtain ⟨k, S1, e1, h1, h2⟩ := step σ S hI
      unfold WP whilRun
      simp only [e1, gok]
      cases k with
      | false => exact ⟨_, rfl, h1 rfl⟩
      | true =>
        obtain ⟨r, e2, q⟩ := h2 rfl
        simp only [if_true, e2]
        cases r with
        | exc e σ S => exact ⟨_, rfl, q⟩
        | ok o S1 => cases o with
          | nx σ2 => exact ih σ2 S1 q.1 (by have := q.2; omega)
          | cnt σ2 => exact ih σ2 S1 q.1 (by have := q.2; omega)
          | brk σ2 => exact ⟨_, rfl, q⟩
          | ret d => exact ⟨_, rfl, q⟩
  unfold run
  exact key n σ S h0 hm
/-- a def, by what comes of its body -/
def rets (S : Sto) (R : Rs D → Prop) : RO → Prop
  | .ok (.ret d) S1 => ∃ r, gcR S (some (.ok d S1)) = some r ∧ R r
  | .ok (.nx _) S1 => ∃ r, gcR S (some (.ok .non S1)) = some r ∧ R r
  | .exc e _ S1 => ∃ r, gcR S (some (.exc e S1)) = some r ∧ R r
  | _ => False
theorem WP.fn {n m : Nat} {ws : List D} {R : Rs D → Prop} (hl : ws.length = m) (h : WP (runs Γ b (ws.map Sl.v ++ List.replicate (n - ws.length) Sl.out) S) (rets S R)) : ∃ r, fnG Γ m n b S ws = some r ∧ R r := by
  obtain ⟨r, e, q⟩ := h
  rw [fnG_eq hl, e]
  cases r with
  | exc e σ S => exact q
  | ok o S => cases o with
    | nx σ => exact q
    | ret d => exact q
    | brk _ => exact q.elim
    | cnt _ => exact q.elim
/-- .. told -/
def ends (S : Sto) (r : Rs D) : RO → Prop
  | .ok (.ret d) S1 => gcR S (some (.ok d S1)) = some r
  | .ok (.nx _) S1 => gcR S (some (.ok .non S1)) = some r
  | .exc e _ S1 => gcR S (some (.exc e S1)) = some r
  | _ => False
theorem WP.fnE {n m : Nat} {ws : List D} {r : Rs D} (hl : ws.length = m) (h : WP (runs Γ b (ws.map Sl.v ++ List.replicate (n - ws.length) Sl.out) S) (ends S r)) : fnG Γ m n b S ws = some r := by
  obtain ⟨x, e, q⟩ := h
  rw [fnG_eq hl, e]
  cases x with
  | exc e σ S => exact q
  | ok o S => cases o with
    | nx σ => exact q
    | ret d => exact q
    | brk _ => exact q.elim
    | cnt _ => exact q.elim
end
/-! ### comprehensions -/
theorem okv_ok {α : Type} (a : α) (S : Sto) : okv (some (.ok a S) : M α) = some (a, S) := rfl
theorem lcRun_map {src : Src} {bind : D → Option (List Sl)} {test : List Sl → Sto → M Bool} {elt : List Sl → Sto → M D} {S : Sto} (hst : stands S src) (p : D → Bool) (f : D → D) : ∀ (xs : List D), (∀ x ∈ xs, ∃ σ, bind x = some σ ∧ test σ S = some (.ok (p x) S) ∧ (p x = true → elt σ S = some (.ok (f x) S))) →
    lcRun src bind test elt xs S = some ((xs.filter p).map f, S)
  | [], _ => rfl
  | x :: xs, h => by
    obtain ⟨σ, h1, h2, h3⟩ := h x List.mem_cons_self
    have ih := lcRun_map hst p f xs fun y hy => h y (List.mem_cons_of_mem _ hy)
    unfold lcRun
    rw [h1]
    simp only [Option.bind_some, h2, okv_ok]
    cases e : p x with
    | true =>
      simp only [if_true, h3 e, okv_ok, Option.bind_some, gP_pos hst, ih, Option.map_some, List.filter_cons, e, List.map_cons]
    | false =>
      simp only [Bool.false_eq_true, if_false, gP_pos hst, ih, List.filter_cons, e]
theorem ev_lc {Γ : Gam} {own : List (Str × Nat)} {g : G} {it : It} {cs : Eo} {e : E} {σ : List Sl} {S S1 S2 : Sto} {xs ys : List D} {src : Src} (hi : evi Γ it σ S = some (.ok (xs, src) S1)) (hn : xs.length ≤ 16777216)
    (h : lcRun src (fun x => setG g x (wipeS (noX σ) (own.map (·.2)))) (evc Γ cs) (ev Γ e) xs S1 = some (ys, S2)) : ev Γ (.lc own g it cs e) σ S = some (.ok (.ref S2.length) (S2 ++ [.lst ys])) := by
  unfold ev
  rw [hi, bok]
  dsimp only
  rw [gPl hn, h]
  rfl
theorem evc_none {Γ : Gam} {σ : List Sl} {S : Sto} : evc Γ .none σ S = some (.ok true S) := by unfold evc; rfl
/-- a list of what each item comes to -/
theorem ev_lcm {Γ : Gam} {own : List (Str × Nat)} {g : G} {it : It} {e : E} {σ : List Sl} {S S1 : Sto} {xs : List D} {src : Src} (f : D → D) (hi : evi Γ it σ S = some (.ok (xs, src) S1)) (hst : stands S1 src) (hn : xs.length ≤ 16777216)
    (h : ∀ x ∈ xs, ∃ σ', setG g x (wipeS (noX σ) (own.map (·.2))) = some σ' ∧ ev Γ e σ' S1 = some (.ok (f x) S1)) : ev Γ (.lc own g it .none e) σ S = some (.ok (.ref S1.length) (S1 ++ [.lst (xs.map f)])) := by
  refine ev_lc hi hn ?_
  have := lcRun_map (test := evc Γ .none) (elt := ev Γ e) (bind := fun x => setG g x (wipeS (noX σ) (own.map (·.2)))) hst (fun _ => true) f xs fun x hx => let ⟨σ', h1, h2⟩ := h x hx; ⟨σ', h1, evc_none, fun _ => h2⟩
  rwa [List.filter_eq_self.mpr (by simp)] at this
/-- .. of those that hold -/
theorem ev_lcf {Γ : Gam} {own : List (Str × Nat)} {g : G} {it : It} {c e : E} {σ : List Sl} {S S1 : Sto} {xs : List D} {src : Src} (p : D → Bool) (f : D → D) (hi : evi Γ it σ S = some (.ok (xs, src) S1)) (hst : stands S1 src) (hn : xs.length ≤ 16777216)
    (h : ∀ x ∈ xs, ∃ σ', setG g x (wipeS (noX σ) (own.map (·.2))) = some σ' ∧ evc Γ (.some c) σ' S1 = some (.ok (p x) S1) ∧ (p x = true → ev Γ e σ' S1 = some (.ok (f x) S1))) : ev Γ (.lc own g it (.some c) e) σ S = some (.ok (.ref S1.length) (S1 ++ [.lst ((xs.filter p).map f)])) :=
  ev_lc hi hn (lcRun_map hst p f xs h)
/-! ### lists frozen, forgotten -/
theorem ev_frz_new {Γ : Gam} {e : E} {σ : List Sl} {S S1 : Sto} {xs : List D} (h : ev Γ e σ S = some (.ok (.ref S1.length) (S1 ++ [.lst xs]))) : ev Γ (.frz e) σ S = some (.ok (.fl xs) (S1 ++ [.dead])) := by
  unfold ev
  rw [h, bok]
  unfold frzV
  simp only [at_new, set_new]
  rfl
theorem ev_frz_pl {Γ : Gam} {e : E} {σ : List Sl} {S S1 : Sto} {d : D} (h : ev Γ e σ S = some (.ok d S1)) (hd : ∀ n, d ≠ .ref n) : ev Γ (.frz e) σ S = some (.ok d S1) := by
  unfold ev
  rw [h, bok]
  cases d with
  | ref n => exact absurd rfl (hd n)
  | _ => rfl
theorem ev_gc_pl {Γ : Gam} {e : E} {σ : List Sl} {S T : Sto} {d : D} (h : ev Γ e σ S = some (.ok d (S ++ T))) (hd : pl d = true) : ev Γ (.gc e) σ S = some (.ok d S) := by
  unfold ev
  rw [h, bok, gcv_pl hd]
  rfl
theorem ev_gc_pl0 {Γ : Gam} {e : E} {σ : List Sl} {S : Sto} {d : D} (h : ev Γ e σ S = some (.ok d S)) (hd : pl d = true) : ev Γ (.gc e) σ S = some (.ok d S) := by
  unfold ev
  rw [h, bok, gcv_pl0 hd]
  rfl
theorem ev_gc_new {Γ : Gam} {e : E} {σ : List Sl} {S T : Sto} {n : Nat} {c : C} (h : ev Γ e σ S = some (.ok (.ref n) (S ++ T))) (hn : S.length ≤ n) (hc : (S ++ T)[n]? = some c) (hl : clC S.length c) : ev Γ (.gc e) σ S = some (.ok (.ref S.length) (S ++ [c])) := by
  unfold ev
  rw [h, bok, gcv_ref hn hc hl]
  rfl
/-- a new list, as it is kept: frozen -/
theorem ev_gcf {Γ : Gam} {e : E} {σ : List Sl} {S T : Sto} {xs : List D} (h : ev Γ e σ S = some (.ok (.ref (S ++ T).length) (S ++ T ++ [.lst xs]))) (hd : pls xs = true) : ev Γ (.gc (.frz e)) σ S = some (.ok (.fl xs) S) := by
  refine ev_gc_pl (T := T ++ [.dead]) ?_ (by simpa [pl] using hd)
  rw [← List.append_assoc]
  exact ev_frz_new h
theorem ev_gcf0 {Γ : Gam} {e : E} {σ : List Sl} {S : Sto} {xs : List D} (h : ev Γ e σ S = some (.ok (.ref S.length) (S ++ [.lst xs]))) (hd : pls xs = true) : ev Γ (.gc (.frz e)) σ S = some (.ok (.fl xs) S) :=
  ev_gcf (T := []) (by rw [List.append_nil]; exact h) hd
/-! ### objects -/
theorem clC_obj {n c : Nat} {fs : List (Str × D)} (h : ∀ p ∈ fs, cl n p.2) : clC n (.obj c fs) := fun f x e => h _ (lookup_mem e)
theorem clC_pl {n c : Nat} {fs : List (Str × D)} (h : fs.all (fun p => pl p.2) = true) : clC n (.obj c fs) := clC_obj fun p hp => pl_cl (List.all_eq_true.mp h p hp)
theorem gcv_init {S T : Sto} {c c' : C} {d : D} (hd : pl d = true) (h : clC (S.length + 1) c') : gcv (S ++ [c]) d (S ++ [c'] ++ T) = (d, S ++ [c']) := by
  have k1 : Kept (S ++ [c]) (S ++ [c']) := by
    have := (Kept.refl (S := S ++ [c])).set (n := S.length) (c := c') (by simpa using h)
    rwa [set_new] at this
  exact gcv_to (by simp) (pl_cl hd) k1
theorem gcv_init0 {S : Sto} {c c' : C} {d : D} (hd : pl d = true) (h : clC (S.length + 1) c') : gcv (S ++ [c]) d (S ++ [c']) = (d, S ++ [c']) := by
  have := gcv_init (T := []) (c := c) hd h
  rwa [List.append_nil] at this
theorem mkOf_ok {c : Nat} {gi : Gv} {S S' : Sto} {ws : List D} (h : gi (S ++ [.obj c []]) (.ref S.length :: ws) = some (.ok .non S')) : mkOf c gi S ws = some (.ok (.ref S.length) S') := by
  unfold mkOf
  rw [h]
  rfl
/-! ### cells behind, by shape -/
section
variable {S T U W X : Sto} {a b c e f g : C} {n : Nat} {d : D}
theorem at_n1 : (S ++ [a] ++ [b])[S.length]? = some a := at_old at_new
theorem at_n2 : (S ++ [a] ++ [b] ++ [c])[S.length]? = some a := at_old at_n1
theorem at_n3 : (S ++ [a] ++ [b] ++ [c] ++ [e])[S.length]? = some a := at_old at_n2
theorem at_n4 : (S ++ [a] ++ [b] ++ [c] ++ [e] ++ [f])[S.length]? = some a := at_old at_n3
theorem at_o1 (h : n < S.length) : (S ++ T)[n]? = S[n]? := List.getElem?_append_left h
theorem at_o2 (h : n < S.length) : (S ++ T ++ U)[n]? = S[n]? := by rw [List.append_assoc]; exact at_o1 h
theorem at_o3 (h : n < S.length) : (S ++ T ++ U ++ W)[n]? = S[n]? := by rw [List.append_assoc]; exact at_o2 h
theorem at_o4 (h : n < S.length) : (S ++ T ++ U ++ W ++ X)[n]? = S[n]? := by rw [List.append_assoc]; exact at_o3 h
theorem gcv_p2 (h : pl d = true) : gcv S d (S ++ T ++ U) = (d, S) := by rw [List.append_assoc]; exact gcv_pl h
theorem gcv_p3 (h : pl d = true) : gcv S d (S ++ T ++ U ++ W) = (d, S) := by rw [List.append_assoc]; exact gcv_p2 h
theorem gcv_p4 (h : pl d = true) : gcv S d (S ++ T ++ U ++ W ++ X) = (d, S) := by rw [List.append_assoc]; exact gcv_p3 h
theorem gcv_p5 {Y : Sto} (h : pl d = true) : gcv S d (S ++ T ++ U ++ W ++ X ++ Y) = (d, S) := by rw [List.append_assoc]; exact gcv_p4 h
theorem gcv_p6 {Y Z : Sto} (h : pl d = true) : gcv S d (S ++ T ++ U ++ W ++ X ++ Y ++ Z) = (d, S) := by rw [List.append_assoc]; exact gcv_p5 h
theorem gcv_n2 (h : clC S.length b) : gcv S (.ref (S ++ [a]).length) (S ++ [a] ++ [b]) = (.ref S.length, S ++ [b]) := by
  have := gcv_ref (S := S) (T := [a] ++ [b]) (m := (S ++ [a]).length) (c := b) (by simp) (by rw [← List.append_assoc]; exact at_new) h
  rwa [← List.append_assoc] at this
theorem gcv_n3 (h : clC S.length c) : gcv S (.ref (S ++ T ++ [a]).length) (S ++ T ++ [a] ++ [c]) = (.ref S.length, S ++ [c]) := by
  have := gcv_ref (S := S) (T := T ++ [a] ++ [c]) (m := (S ++ T ++ [a]).length) (c := c) (by simp) (by rw [← List.append_assoc, ← List.append_assoc]; exact at_new) h
  rwa [← List.append_assoc, ← List.append_assoc] at this
end
end Hv
/-! Hv17: numbers, slices, texts, equality; how a law begins. -/
namespace Hv
open PySem PySem.Spec
open PyProof.Rows hiding St
open L2
theorem rngD_get {lo : Int} {n i : Nat} {x : D} (h : (rngD lo n)[i]? = some x) : i < n ∧ x = .int (lo + (i : Int)) := by
  unfold rngD at h
  rw [List.getElem?_map] at h
  cases e : (List.range n)[i]? with
  | none => rw [e] at h; cases h
  | some c =>
    rw [e] at h
    cases h
    obtain ⟨hi, e2⟩ := List.getElem?_eq_some_iff.mp e
    simp at hi e2
    subst e2
    exact ⟨hi, rfl⟩
theorem rngD_mem {lo : Int} {n : Nat} {x : D} (h : x ∈ rngD lo n) : ∃ i : Nat, i < n ∧ x = .int (lo + (i : Int)) := by
  obtain ⟨i, hi, e⟩ := List.mem_iff_getElem.mp h
  obtain ⟨h1, h2⟩ := rngD_get (i := i) (x := x) (lo := lo) (n := n) (by rw [List.getElem?_eq_getElem hi, e])
  exact ⟨i, h1, h2⟩
theorem rngD_length {lo : Int} {n : Nat} : (rngD lo n).length = n := by simp [rngD]
theorem atI_lt {α : Type} {xs : List α} {i : Nat} (h : i < xs.length) : L2.atI xs (i : Int) = some xs[i] := L2.atI_nat (List.getElem?_eq_getElem h)
theorem atI_int {α : Type} {xs : List α} {i : Int} (h0 : 0 ≤ i) (h : i < xs.length) : ∃ x, xs[i.toNat]? = some x ∧ L2.atI xs i = some x := by
  have hl : i.toNat < xs.length := by omega
  refine ⟨xs[i.toNat], List.getElem?_eq_getElem hl, ?_⟩
  have := L2.atI_nat (xs := xs) (j := i.toNat) (List.getElem?_eq_getElem hl)
  rwa [show ((i.toNat : Nat) : Int) = i by omega] at this
/-! ### slices by numbers that are not negative -/
theorem sIx_pos (n d : Nat) {v : Int} (h : 0 ≤ v) : HT.sIx n d (some v) = min v.toNat n := by
  have e : v = ((v.toNat : Nat) : Int) := by omega
  conv => lhs; rw [e]
  exact HT.sIx_nat n d v.toNat
theorem cutD_pos {xs : List D} {i j : Int} (hi : 0 ≤ i) (hj : 0 ≤ j) : cutD xs (some i) (some j) = (xs.take j.toNat).drop i.toNat := by
  unfold cutD
  rw [sIx_pos _ _ hi, sIx_pos _ _ hj, List.drop_take]
  by_cases h1 : i.toNat ≤ xs.length
  · rw [Nat.min_eq_left h1]
    by_cases h2 : j.toNat ≤ xs.length
    · rw [Nat.min_eq_left h2]
    · rw [Nat.min_eq_right (by omega), List.take_of_length_le (by simp), List.take_of_length_le (by simp; omega)]
  · rw [Nat.min_eq_right (by omega : xs.length ≤ i.toNat)]
    rw [List.drop_eq_nil_of_le (Nat.le_refl _), List.drop_eq_nil_of_le (by omega : xs.length ≤ i.toNat)]
    simp
theorem cutD_to {xs : List D} {j : Int} (hj : 0 ≤ j) : cutD xs none (some j) = xs.take j.toNat := by
  unfold cutD
  rw [sIx_pos _ _ hj, HT.sIx_none]
  simp only [List.drop_zero, Nat.sub_zero]
  by_cases h2 : j.toNat ≤ xs.length
  · rw [Nat.min_eq_left h2]
  · rw [Nat.min_eq_right (by omega), List.take_of_length_le (Nat.le_refl _), List.take_of_length_le (by omega)]
theorem cutD_from {xs : List D} {i : Int} (hi : 0 ≤ i) : cutD xs (some i) none = xs.drop i.toNat := by
  unfold cutD
  rw [sIx_pos _ _ hi, HT.sIx_none]
  by_cases h1 : i.toNat ≤ xs.length
  · rw [Nat.min_eq_left h1, List.take_of_length_le (by simp)]
  · rw [Nat.min_eq_right (by omega), List.drop_eq_nil_of_le (Nat.le_refl _), List.drop_eq_nil_of_le (by omega : xs.length ≤ i.toNat)]
    simp
/-! ### what may be compared -/
mutual
/-- shaped data of a depth -/
def okD : Nat → D → Bool
  | _, .non => true
  | _, .bl _ => true
  | _, .int _ => true
  | _, .str x => PyData.strOk x
  | 0, .tup _ => false
  | n + 1, .tup xs => okDs n xs
  | 0, .kt _ => false
  | n + 1, .kt xs => okDs n xs
  | 0, .fl _ => false
  | n + 1, .fl xs => okDs n xs
  | _, .ref _ => false
def okDs : Nat → List D → Bool
  | _, [] => true
  | n, x :: xs => okD n x && okDs n xs
end
mutual
theorem okD_lay : ∀ (n : Nat) (x : D), okD n x = true → PyData.canLay0 (toPy x) = true ∧ PyData.depth (toPy x) ≤ n
  | _, .non, _ => ⟨rfl, Nat.zero_le _⟩
  | _, .bl _, _ => ⟨rfl, Nat.zero_le _⟩
  | _, .int _, _ => ⟨rfl, Nat.zero_le _⟩
  | n, .str x, h => by
    have h : PyData.strOk x = true := by cases n <;> simpa [okD] using h
    exact ⟨by simpa [toPy, PyData.canLay0] using h, Nat.zero_le _⟩
  | 0, .tup xs, h => by simp [okD] at h
  | n + 1, .tup xs, h => by
    have h' : okDs n xs = true := by simpa [okD] using h
    obtain ⟨h1, h2⟩ := okDs_lay n xs h'
    refine ⟨by simpa [toPy, PyData.canLay0] using h1, ?_⟩
    simp only [toPy, PyData.depth]
    omega
  | 0, .kt xs, h => by simp [okD] at h
  | n + 1, .kt xs, h => by
    have h' : okDs n xs = true := by simpa [okD] using h
    obtain ⟨h1, h2⟩ := okDs_lay n xs h'
    refine ⟨by simpa [toPy, PyData.canLay0] using h1, ?_⟩
    simp only [toPy, PyData.depth]
    omega
  | 0, .fl xs, h => by simp [okD] at h
  | n + 1, .fl xs, h => by
    have h' : okDs n xs = true := by simpa [okD] using h
    obtain ⟨h1, h2⟩ := okDs_lay n xs h'
    refine ⟨by simpa [toPy, PyData.canLay0] using h1, ?_⟩
    simp only [toPy, PyData.depth]
    omega
  | n, .ref _, h => by cases n <;> simp [okD] at h
theorem okDs_lay : ∀ (n : Nat) (xs : List D), okDs n xs = true → PyData.canLayAll0 (toPys xs) = true ∧ PyData.depthAll (toPys xs) ≤ n
  | n, [], _ => ⟨rfl, Nat.zero_le _⟩
  | n, x :: xs, h => by
    have h' : okD n x = true ∧ okDs n xs = true := by simpa [okDs] using h
    obtain ⟨h1, h2⟩ := okD_lay n x h'.1
    obtain ⟨h3, h4⟩ := okDs_lay n xs h'.2
    refine ⟨by simp [toPys, PyData.canLayAll0, h1, h3], ?_⟩
    simp only [toPys, PyData.depthAll]
    omega
end
mutual
theorem okD_pl : ∀ (n : Nat) (x : D), okD n x = true → pl x = true
  | _, .non, _ => rfl
  | _, .bl _, _ => rfl
  | _, .int _, _ => rfl
  | _, .str _, _ => rfl
  | 0, .tup xs, h => by simp [okD] at h
  | n + 1, .tup xs, h => by
    have h' : okDs n xs = true := by simpa [okD] using h
    simpa [pl] using okDs_pl n xs h'
  | 0, .kt xs, h => by simp [okD] at h
  | n + 1, .kt xs, h => by
    have h' : okDs n xs = true := by simpa [okD] using h
    simpa [pl] using okDs_pl n xs h'
  | 0, .fl xs, h => by simp [okD] at h
  | n + 1, .fl xs, h => by
    have h' : okDs n xs = true := by simpa [okD] using h
    simpa [pl] using okDs_pl n xs h'
  | n, .ref _, h => by cases n <;> simp [okD] at h
theorem okDs_pl : ∀ (n : Nat) (xs : List D), okDs n xs = true → pls xs = true
  | n, [], _ => rfl
  | n, x :: xs, h => by
    have h' : okD n x = true ∧ okDs n xs = true := by simpa [okDs] using h
    simp [pls, okD_pl n x h'.1, okDs_pl n xs h'.2]
end
theorem okDs_all {n : Nat} {xs : List D} : okDs n xs = true ↔ ∀ x ∈ xs, okD n x = true := by
  induction xs with
  | nil => simp [okDs]
  | cons x xs ih => simp [okDs, ih]
mutual
theorem okD_mono : ∀ (n m : Nat) (x : D), n ≤ m → okD n x = true → okD m x = true
  | n, m, .non, _, _ => by cases m <;> rfl
  | n, m, .bl _, _, _ => by cases m <;> rfl
  | n, m, .int _, _, _ => by cases m <;> rfl
  | n, m, .str _, _, h => by cases n <;> cases m <;> simpa [okD] using h
  | 0, m, .tup xs, _, h => by simp [okD] at h
  | n + 1, 0, .tup xs, l, h => by omega
  | n + 1, m + 1, .tup xs, l, h => by
    have h' : okDs n xs = true := by simpa [okD] using h
    simpa [okD] using okDs_mono n m xs (by omega) h'
  | 0, m, .kt xs, _, h => by simp [okD] at h
  | n + 1, 0, .kt xs, l, h => by omega
  | n + 1, m + 1, .kt xs, l, h => by
    have h' : okDs n xs = true := by simpa [okD] using h
    simpa [okD] using okDs_mono n m xs (by omega) h'
  | 0, m, .fl xs, _, h => by simp [okD] at h
  | n + 1, 0, .fl xs, l, h => by omega
  | n + 1, m + 1, .fl xs, l, h => by
    have h' : okDs n xs = true := by simpa [okD] using h
    simpa [okD] using okDs_mono n m xs (by omega) h'
  | n, m, .ref _, _, h => by cases n <;> simp [okD] at h
theorem okDs_mono : ∀ (n m : Nat) (xs : List D), n ≤ m → okDs n xs = true → okDs m xs = true
  | n, m, [], _, _ => by cases m <;> rfl
  | n, m, x :: xs, l, h => by
    have h' : okD n x = true ∧ okDs n xs = true := by simpa [okDs] using h
    simp [okDs, okD_mono n m x l h'.1, okDs_mono n m xs l h'.2]
end
theorem okDs_app {n : Nat} {a b : List D} (ha : okDs n a = true) (hb : okDs n b = true) : okDs n (a ++ b) = true := okDs_all.mpr fun x hx => (List.mem_append.mp hx).elim (okDs_all.mp ha x) (okDs_all.mp hb x)
theorem okDs_map {α : Type} {n : Nat} {f : α → D} {l : List α} (h : ∀ x ∈ l, okD n (f x) = true) : okDs n (l.map f) = true := okDs_all.mpr fun x hx => by
  obtain ⟨y, hy, rfl⟩ := List.mem_map.mp hx
  exact h y hy
mutual
theorem pyS_pl {S : Sto} : ∀ {x : D}, pl x = true → pyS S x = some (toPy x)
  | .non, _ => rfl
  | .bl _, _ => rfl
  | .int _, _ => rfl
  | .str _, _ => rfl
  | .tup xs, h => by unfold pl at h; unfold pyS; rw [pySs_pl h]; rfl
  | .kt xs, h => by unfold pl at h; unfold pyS; rw [pySs_pl h]; rfl
  | .fl xs, h => by unfold pl at h; unfold pyS; rw [pySs_pl h]; rfl
  | .ref _, h => by cases h
theorem pySs_pl {S : Sto} : ∀ {xs : List D}, pls xs = true → pySs S xs = some (toPys xs)
  | [], _ => rfl
  | x :: xs, h => by
    have h' : pl x = true ∧ pls xs = true := by simpa [pls] using h
    unfold pySs
    rw [pyS_pl h'.1, pySs_pl h'.2]
    rfl
end
mutual
theorem pyD_pl {S : Sto} : ∀ {x : D}, pl x = true → pyD S x = some (toPy x)
  | .non, _ => rfl
  | .bl _, _ => rfl
  | .int _, _ => rfl
  | .str _, _ => rfl
  | .tup xs, h => by unfold pl at h; unfold pyD; rw [pyDs_pl h]; rfl
  | .kt xs, h => by unfold pl at h; unfold pyD; rw [pyDs_pl h]; rfl
  | .fl xs, h => by unfold pl at h; unfold pyD; rw [pyDs_pl h]; rfl
  | .ref _, h => by cases h
theorem pyDs_pl {S : Sto} : ∀ {xs : List D}, pls xs = true → pyDs S xs = some (toPys xs)
  | [], _ => rfl
  | x :: xs, h => by
    have h' : pl x = true ∧ pls xs = true := by simpa [pls] using h
    unfold pyDs
    rw [pyD_pl h'.1, pyDs_pl h'.2]
    rfl
end
theorem pyD_lst {S : Sto} {n : Nat} {xs : List D} (e : S[n]? = some (.lst xs)) (h : pls xs = true) : pyD S (.ref n) = some (.list (toPys xs)) := by
  unfold pyD
  rw [e]
  simp only [pySs_pl h]
  rfl
theorem shaped_D {n : Nat} {x : D} (h : okD n x = true) (hn : n ≤ 64) : SeqAt.shaped (toPy x) = true := by
  obtain ⟨h1, h2⟩ := okD_lay n x h
  unfold SeqAt.shaped
  rw [h1, decide_eq_true (by omega)]
  rfl
theorem shaped_L {n : Nat} {xs : List D} (h : okDs n xs = true) (hn : n ≤ 63) : SeqAt.shaped (.list (toPys xs)) = true := shaped_D (n := n + 1) (x := .fl xs) (by simpa [okD] using h) (by omega)
theorem eqD_pl {S : Sto} {n : Nat} {x y : D} (h : okD n x = true) (h' : okD n y = true) (hn : n ≤ 64) : eqD S x y = some (PyData.eqv (toPy x) (toPy y)) := by
  unfold eqD
  rw [pyD_pl (okD_pl _ _ h), pyD_pl (okD_pl _ _ h')]
  exact gP_pos ⟨shaped_D h hn, shaped_D h' hn⟩
/-- what a D is, whether it is data or a list in a cell -/
def py1 (S : Sto) (x : D) (v : D) : Prop := pyD S x = some (toPy v)
theorem py1_pl {S : Sto} {x : D} (h : pl x = true) : py1 S x x := pyD_pl h
theorem py1_lst {S : Sto} {n : Nat} {xs : List D} (e : S[n]? = some (.lst xs)) (h : pls xs = true) : py1 S (.ref n) (.fl xs) := by
  unfold py1
  rw [pyD_lst e h]
  unfold toPy
  rfl
theorem eqD_py {S : Sto} {n : Nat} {x y u v : D} (hx : py1 S x u) (hy : py1 S y v) (h : okD n u = true) (h' : okD n v = true) (hn : n ≤ 64) : eqD S x y = some (PyData.eqv (toPy u) (toPy v)) := by
  unfold eqD
  rw [hx, hy]
  exact gP_pos ⟨shaped_D h hn, shaped_D h' hn⟩
mutual
theorem eqv_toPy : ∀ x : D, PyData.eqv (toPy x) (toPy x) = true
  | .non => rfl
  | .bl b => by simp [toPy, PyData.eqv]
  | .int i => by simp [toPy, PyData.eqv]
  | .str x => by simp [toPy, PyData.eqv]
  | .tup xs => by simp only [toPy, PyData.eqv]; exact eqvAll_toPys xs
  | .kt xs => by simp only [toPy, PyData.eqv]; exact eqvAll_toPys xs
  | .fl xs => by simp only [toPy, PyData.eqv]; exact eqvAll_toPys xs
  | .ref _ => rfl
theorem eqvAll_toPys : ∀ xs : List D, PyData.eqvAll (toPys xs) (toPys xs) = true
  | [] => rfl
  | x :: xs => by simp only [toPys, PyData.eqvAll, eqv_toPy x, eqvAll_toPys xs]; rfl
end
mutual
/-- a text's list and tuple kinds forgotten: equal data is the same data, but for kt -/
def nf : D → D
  | .tup xs => .tup (nfs xs)
  | .kt xs => .tup (nfs xs)
  | .fl xs => .fl (nfs xs)
  | d => d
def nfs : List D → List D
  | [] => []
  | x :: xs => nf x :: nfs xs
end
mutual
theorem toPy_nf : ∀ x : D, toPy (nf x) = toPy x
  | .non => rfl
  | .bl _ => rfl
  | .int _ => rfl
  | .str _ => rfl
  | .tup xs => by unfold nf toPy; rw [toPys_nfs xs]
  | .kt xs => by unfold nf toPy; rw [toPys_nfs xs]
  | .fl xs => by unfold nf toPy; rw [toPys_nfs xs]
  | .ref _ => rfl
theorem toPys_nfs : ∀ xs : List D, toPys (nfs xs) = toPys xs
  | [] => rfl
  | x :: xs => by unfold nfs toPys; rw [toPy_nf x, toPys_nfs xs]
end
mutual
/-- data without truth values -/
def nb : D → Bool
  | .bl _ => false
  | .ref _ => false
  | .tup xs => nbs xs
  | .kt xs => nbs xs
  | .fl xs => nbs xs
  | _ => true
def nbs : List D → Bool
  | [] => true
  | x :: xs => nb x && nbs xs
end
/-- numbers drawn -/
def drawn (c p : Int) : Int := (fun n : Int => n * (n / 1009 + 69621) % 2147483647) ((c + 7919 * p + 1) * 48271 % 2147483647)
theorem drawn_pos (c p : Int) : 0 ≤ drawn c p := Int.emod_nonneg _ (by decide)
theorem drawn_lt (c p : Int) : drawn c p < 2147483647 := Int.emod_lt_of_pos _ (by decide)
/-! ### texts -/
theorem cutS_S (l : List Nat) (lo hi : Option Int) : cutS (SX.S l) lo hi = SX.S ((l.drop (HT.sIx l.length 0 lo)).take (HT.sIx l.length l.length hi - HT.sIx l.length 0 lo)) := by
  unfold cutS
  rw [SX.S_len]
theorem cutS_to {l : List Nat} {j : Int} (hj : 0 ≤ j) : cutS (SX.S l) none (some j) = SX.S (l.take j.toNat) := by
  rw [cutS_S, sIx_pos _ _ hj, HT.sIx_none]
  simp only [List.drop_zero, Nat.sub_zero]
  by_cases h2 : j.toNat ≤ l.length
  · rw [Nat.min_eq_left h2]
  · rw [Nat.min_eq_right (by omega), List.take_of_length_le (Nat.le_refl _), List.take_of_length_le (by omega)]
theorem cutS_from {l : List Nat} {i : Int} (hi : 0 ≤ i) : cutS (SX.S l) (some i) none = SX.S (l.drop i.toNat) := by
  rw [cutS_S, sIx_pos _ _ hi, HT.sIx_none]
  by_cases h1 : i.toNat ≤ l.length
  · rw [Nat.min_eq_left h1, List.take_of_length_le (by simp)]
  · rw [Nat.min_eq_right (by omega), List.drop_eq_nil_of_le (Nat.le_refl _), List.drop_eq_nil_of_le (by omega : l.length ≤ i.toNat)]
    simp
theorem cutS_pos {l : List Nat} {i j : Int} (hi : 0 ≤ i) (hj : 0 ≤ j) : cutS (SX.S l) (some i) (some j) = SX.S ((l.take j.toNat).drop i.toNat) := by
  rw [cutS_S, sIx_pos _ _ hi, sIx_pos _ _ hj, List.drop_take]
  by_cases h1 : i.toNat ≤ l.length
  · rw [Nat.min_eq_left h1]
    by_cases h2 : j.toNat ≤ l.length
    · rw [Nat.min_eq_left h2]
    · rw [Nat.min_eq_right (by omega), List.take_of_length_le (by simp), List.take_of_length_le (by simp; omega)]
  · rw [Nat.min_eq_right (by omega : l.length ≤ i.toNat)]
    rw [List.drop_eq_nil_of_le (Nat.le_refl _), List.drop_eq_nil_of_le (by omega : l.length ≤ i.toNat)]
    simp
theorem S_app (a b : List Nat) : SX.S a ++ SX.S b = SX.S (a ++ b) := SX.S_cat a b
theorem joinL_nil : ∀ ys : List (List Nat), TL.joinL [] ys = ys.flatten
  | [] => rfl
  | [x] => by simp [TL.joinL]
  | x :: y :: r => by
    have ih := joinL_nil (y :: r)
    simp only [TL.joinL] at ih ⊢
    simp [ih]
theorem flat_ones (l : List Nat) : (l.map fun c => [c]).flatten = l := by
  induction l with
  | nil => rfl
  | cons c l ih => simp [ih]
theorem join_sg (l : List Nat) : Txt.join (SX.S []) (l.map fun c => SX.S [c]) = SX.S l := by
  have e : (l.map fun c => SX.S [c]) = (l.map fun c => [c]).map SX.S := by rw [List.map_map]; rfl
  rw [e, SX.join_S, joinL_nil, flat_ones]
theorem empty_S : ("" : Str) = SX.S [] := rfl
theorem S_eq_iff {a b : List Nat} : SX.S a = SX.S b ↔ a = b := ⟨SX.S_inj, fun h => by rw [h]⟩
theorem S_ok {l : List Nat} (h : ∀ c ∈ l, c < 1114112) : PyData.strOk (SX.S l) = true := by
  unfold PyData.strOk
  rw [← Array.all_toList]
  simpa using h
theorem sg_def (c : Nat) : (⟨#[c]⟩ : Str) = SX.S [c] := rfl
theorem S_cps (l : List Nat) : (SX.S l).cps.toList = l := rfl
/-! ### a law's begin and end -/
def spA (K : PySem.W.Frag) (g : Gv) : Sp := fun vs H Q E => ∀ cc, spI K cc g vs H Q E
def ccOf (l : List Addr) (n : Nat) : Addr := l.getD n 0
theorem fn_any {P : Program} {w : World} {K : PySem.W.Frag} {mg : Str → Option Value} {base : Heap} {CX : CXT} {k : Nat} {f : Addr} {fd : FuncData} {ps : List Str} {cc : Nat → Addr} {g : Gv} (F : FnOk P w K mg base CX k f fd ps (spI K cc g)) : FnOk P w K mg base CX k f fd ps (spA K g) := F.imp fun vs H Q E h => h cc
theorem rep_ints {K : PySem.W.Frag} {ca : Am} {H : Hp} : ∀ ns : List Int, RepDs K ca H (ns.map D.int) (ns.map V.int)
  | [] => .nil
  | i :: ns => .cons (by unfold RepD; rfl) (rep_ints ns)
theorem law_start {K : PySem.W.Frag} {H : Hp} {a : Addr} {ns : List Int} {g : Gv} {S' : Sto} (hO : Only H) (hS : SqL K H a (ns.map V.int)) (hg : g [] [.fl (ns.map D.int)] = some (.ok (.bl true) S')) : spA K g [.ref a] H (fun v _ => v = .bl true) fun _ _ _ => False := by
  intro cc
  refine ⟨⟨cc, []⟩, [], [.fl (ns.map D.int)], .ok (.bl true) S', rfl, ⟨rfl, List.nodup_nil, fun n c a e => by simp at e⟩, .cons ?_ .nil, hg, fun v ca' H' f R r => r⟩
  unfold RepD
  refine ⟨a, _, rfl, ?_, rep_ints ns⟩
  rcases hS with h | h
  · rcases h with h | ⟨o, h⟩
    · rcases hO a with z | ⟨o, xs, z⟩
      · rw [h] at z; cases z
      · rw [h] at z; cases z
    · exact .inl ⟨o, h⟩
  · exact .inr (.inr h)
theorem law_nope {Pg : Program} {w : World} {A : List Env} {H : Hp} {s : Shared} {e : Value} {s' : Shared} (h : L2.CX Pg w A H s (fun _ _ _ => False) e s') : False := by
  obtain ⟨_, _, _, _, _, _, _, _, _, _, _, _, z⟩ := h
  exact z.elim
theorem kt_rep {K : PySem.W.Frag} {a : Addr} {vs : List V} {ds : List D} (h : SqT K (fun _ => none) a vs) (r : ∀ ca H, RepDs K ca H ds vs) : ∀ ca H, RepD K ca H (.kt ds) (.ref a) := fun ca H => by
  unfold RepD
  exact ⟨a, vs, rfl, h, r ca H⟩
end Hv
/-! Hv18: the evaluator step by step: what comes behind stands under a name until it is reached. -/
namespace Hv
open PySem PySem.Spec
open PyProof.Rows hiding St
open L2
noncomputable section
variable {Γ : Gam} {σ : List Sl} {S S1 : Sto}
def selB {α : Type} (o : Option Bool) (t f : Option α) : Option α := match o with
  | some true => t
  | some false => f
  | none => none
theorem selB_some {α : Type} {b : Bool} {t f : Option α} : selB (some b) t f = if b = true then t else f := by cases b <;> rfl
def kE2 (x : D) (ws : List D) (S : Sto) : M (List D) := .ok (x :: ws) S
theorem kE2_e {x : D} {ws : List D} : kE2 x ws S = some (.ok (x :: ws) S) := rfl
def kE1 (Γ : Gam) (es : Es) (σ : List Sl) (x : D) (S : Sto) : M (List D) := M.bind (evs Γ es σ S) (kE2 x)
theorem kE1_e {es : Es} {x : D} : kE1 Γ es σ x S = M.bind (evs Γ es σ S) (kE2 x) := rfl
theorem evs_nil : evs Γ .nil σ S = some (.ok [] S) := by unfold evs; rfl
theorem evs_cons {e : E} {es : Es} : evs Γ (.cons e es) σ S = M.bind (ev Γ e σ S) (kE1 Γ es σ) := by
  conv => lhs; unfold evs
  first | rfl | (congr 1; done)
def kO1 (Γ : Gam) (k : Op) (n : Nat) (es : Es) (σ : List Sl) (x : D) (S : Sto) : M (List D) := if preW k n S x then M.bind (evos Γ k (n + 1) es σ S) (kE2 x) else none
theorem kO1_e {k : Op} {n : Nat} {es : Es} {x : D} : kO1 Γ k n es σ x S = if preW k n S x = true then M.bind (evos Γ k (n + 1) es σ S) (kE2 x) else none := rfl
theorem evos_nil {k : Op} {n : Nat} : evos Γ k n .nil σ S = some (.ok [] S) := by unfold evos; rfl
theorem evos_cons {k : Op} {n : Nat} {e : E} {es : Es} : evos Γ k n (.cons e es) σ S = M.bind (ev Γ e σ S) (kO1 Γ k n es σ) := by
  conv => lhs; unfold evos
  first | rfl | (congr 1; done)
def kOp (k : Op) (ds : List D) (S : Sto) : M D := lift (opW k ds S)
theorem kOp_e {k : Op} {ds : List D} : kOp k ds S = lift (opW k ds S) := rfl
theorem ev_op {k : Op} {es : Es} : ev Γ (.op k es) σ S = M.bind (evos Γ k 0 es σ S) (kOp k) := by
  conv => lhs; unfold ev
  first | rfl | (congr 1; done)
theorem lift_some {α : Type} {d : α} : lift (some (d, S)) = some (.ok d S) := rfl
theorem ev_var {i : Nat} : ev Γ (.var i) σ S = match σ[i]? with
    | some (.v d) => .ok d S
    | _ => none := by unfold ev; rfl
theorem ev_non : ev Γ .non σ S = some (.ok .non S) := by unfold ev; rfl
theorem ev_bl {b : Bool} : ev Γ (.bl b) σ S = some (.ok (.bl b) S) := by unfold ev; rfl
theorem ev_int {i : Int} : ev Γ (.int i) σ S = some (.ok (.int i) S) := by unfold ev; rfl
theorem ev_str {x : Str} : ev Γ (.str x) σ S = some (.ok (.str x) S) := by unfold ev; rfl
def kC2 (o : CmpOp) (x y : D) (S : Sto) : M D := pur ((cmpW S o x y).map .bl) S
theorem kC2_e {o : CmpOp} {x y : D} : kC2 o x y S = pur ((cmpW S o x y).map .bl) S := rfl
theorem pur_some' {d : D} : pur (some d) S = some (.ok d S) := rfl
def kC1 (Γ : Gam) (o : CmpOp) (b : E) (σ : List Sl) (x : D) (S : Sto) : M D := M.bind (ev Γ b σ S) (kC2 o x)
theorem kC1_e {o : CmpOp} {b : E} {x : D} : kC1 Γ o b σ x S = M.bind (ev Γ b σ S) (kC2 o x) := rfl
theorem ev_cmp {o : CmpOp} {a b : E} : ev Γ (.cmp o a b) σ S = M.bind (ev Γ a σ S) (kC1 Γ o b σ) := by
  conv => lhs; unfold ev
  first | rfl | (congr 1; done)
def kD2 (Γ : Gam) (o o' : CmpOp) (c : E) (σ : List Sl) (x y : D) (S : Sto) : M D := selB (cmpW S o x y) (M.bind (ev Γ c σ S) (kC2 o' y)) (some (.ok (.bl false) S))
theorem kD2_e {o o' : CmpOp} {c : E} {x y : D} : kD2 Γ o o' c σ x y S = selB (cmpW S o x y) (M.bind (ev Γ c σ S) (kC2 o' y)) (some (.ok (.bl false) S)) := rfl
def kD1 (Γ : Gam) (o o' : CmpOp) (b c : E) (σ : List Sl) (x : D) (S : Sto) : M D := M.bind (ev Γ b σ S) (kD2 Γ o o' c σ x)
theorem kD1_e {o o' : CmpOp} {b c : E} {x : D} : kD1 Γ o o' b c σ x S = M.bind (ev Γ b σ S) (kD2 Γ o o' c σ x) := rfl
theorem ev_cmp2 {o o' : CmpOp} {a b c : E} : ev Γ (.cmp2 o o' a b c) σ S = M.bind (ev Γ a σ S) (kD1 Γ o o' b c σ) := by
  conv => lhs; unfold ev
  first | rfl | (congr 1; done)
def kAnd (Γ : Gam) (b : E) (σ : List Sl) (x : D) (S : Sto) : M D := selB (truth S x) (ev Γ b σ S) (some (.ok x S))
theorem kAnd_e {b : E} {x : D} : kAnd Γ b σ x S = selB (truth S x) (ev Γ b σ S) (some (.ok x S)) := rfl
theorem ev_and {a b : E} : ev Γ (.and a b) σ S = M.bind (ev Γ a σ S) (kAnd Γ b σ) := by
  conv => lhs; unfold ev
  first | rfl | (congr 1; done)
def kOr (Γ : Gam) (b : E) (σ : List Sl) (x : D) (S : Sto) : M D := selB (truth S x) (some (.ok x S)) (ev Γ b σ S)
theorem kOr_e {b : E} {x : D} : kOr Γ b σ x S = selB (truth S x) (some (.ok x S)) (ev Γ b σ S) := rfl
theorem ev_or {a b : E} : ev Γ (.or a b) σ S = M.bind (ev Γ a σ S) (kOr Γ b σ) := by
  conv => lhs; unfold ev
  first | rfl | (congr 1; done)
def kNot (x : D) (S : Sto) : M D := pur ((truth S x).map fun b => .bl (!b)) S
theorem kNot_e {x : D} : kNot x S = pur ((truth S x).map fun b => .bl (!b)) S := rfl
theorem ev_not {a : E} : ev Γ (.not a) σ S = M.bind (ev Γ a σ S) kNot := by
  conv => lhs; unfold ev
  congr 1; funext x S1
  unfold kNot
  generalize truth S1 x = y
  cases y <;> rfl
def kIfe (Γ : Gam) (a b : E) (σ : List Sl) (x : D) (S : Sto) : M D := selB (truth S x) (ev Γ a σ S) (ev Γ b σ S)
theorem kIfe_e {a b : E} {x : D} : kIfe Γ a b σ x S = selB (truth S x) (ev Γ a σ S) (ev Γ b σ S) := rfl
theorem ev_ife {c a b : E} : ev Γ (.ife c a b) σ S = M.bind (ev Γ c σ S) (kIfe Γ a b σ) := by
  conv => lhs; unfold ev
  first | rfl | (congr 1; done)
def kG (g : Gv) (ds : List D) (S : Sto) : M D := g S ds
theorem kG_e {g : Gv} {ds : List D} : kG g ds S = g S ds := rfl
def kCall (o : Option Gv) (Γ : Gam) (es : Es) (σ : List Sl) (S : Sto) : M D := match o with
  | some g => M.bind (evs Γ es σ S) (kG g)
  | none => none
theorem kCall_e {g : Gv} {es : Es} : kCall (some g) Γ es σ S = M.bind (evs Γ es σ S) (kG g) := rfl
theorem ev_call {f : Str} {es : Es} : ev Γ (.call f es) σ S = kCall (Γ (.fn f)) Γ es σ S := by
  conv => lhs; unfold ev
  first | rfl | (congr 1; done)
theorem ev_qcall {x m : Str} {es : Es} : ev Γ (.qcall x m es) σ S = kCall (Γ (.qc x m)) Γ es σ S := by
  conv => lhs; unfold ev
  first | rfl | (congr 1; done)
def kF3 (o : Option Gv) (d : Option D) (S : Sto) : M D := match o, d with
  | some _, some d => .ok d S
  | _, _ => none
theorem kF3_e {g : Gv} {d : D} : kF3 (some g) (some d) S = some (.ok d S) := rfl
def kF2 (Γ : Gam) (f : Str) (S : Sto) (c : Option C) : M D := match c with
  | some (.obj c fs) => kF3 (Γ (.fld c f)) (fs.lookup f) S
  | _ => none
theorem kF2_e {f : Str} {c : Nat} {fs : List (Str × D)} : kF2 Γ f S (some (.obj c fs)) = kF3 (Γ (.fld c f)) (fs.lookup f) S := rfl
def kF (Γ : Gam) (f : Str) (x : D) (S : Sto) : M D := match x with
  | .ref n => kF2 Γ f S S[n]?
  | _ => none
theorem kF_e {f : Str} {n : Nat} : kF Γ f (.ref n) S = kF2 Γ f S S[n]? := rfl
theorem ev_fld {e : E} {f : Str} : ev Γ (.fld e f) σ S = M.bind (ev Γ e σ S) (kF Γ f) := by
  conv => lhs; unfold ev
  first | rfl | (congr 1; done)
def kMG (g : Gv) (x : D) (ds : List D) (S : Sto) : M D := g S (x :: ds)
theorem kMG_e {g : Gv} {x : D} {ds : List D} : kMG g x ds S = g S (x :: ds) := rfl
def kM3 (Γ : Gam) (es : Es) (σ : List Sl) (n : Nat) (S : Sto) (o : Option Gv) (d : Option D) : M D := match o, d with
  | some g, none => M.bind (evs Γ es σ S) (kMG g (.ref n))
  | _, _ => none
theorem kM3_e {es : Es} {n : Nat} {g : Gv} : kM3 Γ es σ n S (some g) none = M.bind (evs Γ es σ S) (kMG g (.ref n)) := rfl
def kM2 (Γ : Gam) (m : Str) (es : Es) (σ : List Sl) (n : Nat) (S : Sto) (c : Option C) : M D := match c with
  | some (.obj c fs) => kM3 Γ es σ n S (Γ (.me c m)) (fs.lookup m)
  | _ => none
theorem kM2_e {m : Str} {es : Es} {n c : Nat} {fs : List (Str × D)} : kM2 Γ m es σ n S (some (.obj c fs)) = kM3 Γ es σ n S (Γ (.me c m)) (fs.lookup m) := rfl
def kM (Γ : Gam) (m : Str) (es : Es) (σ : List Sl) (x : M D) : M D := match x with
  | some (.ok (.ref n) S) => kM2 Γ m es σ n S S[n]?
  | _ => none
theorem kM_e {m : Str} {es : Es} {n : Nat} : kM Γ m es σ (some (.ok (.ref n) S)) = kM2 Γ m es σ n S S[n]? := rfl
theorem ev_mcall {e : E} {m : Str} {es : Es} : ev Γ (.mcall e m es) σ S = kM Γ m es σ (ev Γ e σ S) := by
  conv => lhs; unfold ev
  generalize ev Γ e σ S = y
  cases y with
  | none => rfl
  | some r => cases r with
    | exc _ _ => rfl
    | ok x S1 => cases x with
      | ref n =>
        show (match S1[n]? with | some (.obj c fs) => _ | _ => _) = kM2 Γ m es σ n S1 S1[n]?
        unfold kM2
        cases S1[n]? with
        | none => rfl
        | some c => cases c with
          | obj c fs =>
            show (match Γ (.me c m), fs.lookup m with | some g, none => _ | _, _ => _) = kM3 Γ es σ n S1 (Γ (.me c m)) (fs.lookup m)
            unfold kM3
            cases Γ (.me c m) <;> cases fs.lookup m <;> rfl
          | _ => rfl
      | _ => rfl
theorem ev_frz {e : E} : ev Γ (.frz e) σ S = M.bind (ev Γ e σ S) frzV := by
  conv => lhs; unfold ev
theorem frz_new {xs : List D} : frzV (.ref S.length) (S ++ [.lst xs]) = some (.ok (.fl xs) (S ++ [.dead])) := by
  unfold frzV
  simp only [at_new, set_new]
  rfl
theorem frz_non : frzV .non S = some (.ok .non S) := rfl
theorem frz_int {i : Int} : frzV (.int i) S = some (.ok (.int i) S) := rfl
theorem frz_str {i : Str} : frzV (.str i) S = some (.ok (.str i) S) := rfl
theorem frz_bl {i : Bool} : frzV (.bl i) S = some (.ok (.bl i) S) := rfl
theorem frz_tup {i : List D} : frzV (.tup i) S = some (.ok (.tup i) S) := rfl
theorem frz_fl {i : List D} : frzV (.fl i) S = some (.ok (.fl i) S) := rfl
theorem frz_kt {i : List D} : frzV (.kt i) S = some (.ok (.kt i) S) := rfl
def kGc (S : Sto) (d : D) (S1 : Sto) : M D := .ok (gcv S d S1).1 (gcv S d S1).2
theorem kGc_e {d : D} : kGc S d S1 = some (.ok (gcv S d S1).1 (gcv S d S1).2) := rfl
theorem ev_gc {e : E} : ev Γ (.gc e) σ S = M.bind (ev Γ e σ S) (kGc S) := by
  conv => lhs; unfold ev
  first | rfl | (congr 1; done)
def kGlob (o : Option Gv) (S : Sto) : M D := match o with
  | some g => (match g [] [] with
    | some (.ok d _) => .ok d S
    | _ => none)
  | none => none
theorem kGlob_e {d : D} : kGlob (some fun S _ => some (.ok d S)) S = some (.ok d S) := rfl
theorem ev_glob {x : Str} : ev Γ (.glob x) σ S = kGlob (Γ (.glb x)) S := by
  conv => lhs; unfold ev
  first | rfl | (congr 1; done)
theorem tel_yn {n : Nm} {b : Bool} (h : Γ n = some (yn b)) : tel Γ n = some b := by
  unfold tel
  rw [h]
  rfl
def kIsc3 (o : Option Gv) (t : Option Bool) (S : Sto) : M D := match o, t with
  | some _, some b => .ok (.bl b) S
  | _, _ => none
theorem kIsc3_e {g : Gv} {b : Bool} : kIsc3 (some g) (some b) S = some (.ok (.bl b) S) := rfl
def kIsc2 (Γ : Gam) (x : Str) (c : Nat) (S : Sto) (o : Option C) : M D := match o with
  | some (.obj c' _) => kIsc3 (Γ (.cls x c)) (tel Γ (.inst c' c)) S
  | _ => none
theorem kIsc2_e {x : Str} {c c' : Nat} {fs : List (Str × D)} : kIsc2 Γ x c S (some (.obj c' fs)) = kIsc3 (Γ (.cls x c)) (tel Γ (.inst c' c)) S := rfl
def kIsc (Γ : Gam) (x : Str) (c : Nat) (d : D) (S : Sto) : M D := match d with
  | .ref n => kIsc2 Γ x c S S[n]?
  | _ => none
theorem kIsc_e {x : Str} {c n : Nat} : kIsc Γ x c (.ref n) S = kIsc2 Γ x c S S[n]? := rfl
theorem ev_isc {e : E} {x : Str} {c : Nat} : ev Γ (.isc e x c) σ S = M.bind (ev Γ e σ S) (kIsc Γ x c) := by
  conv => lhs; unfold ev
  first | rfl | (congr 1; done)
def kXf (o : Option Gv) (d : Option D) (S : Sto) : M D := kF3 o d S
def kXfld (Γ : Gam) (f : Str) (S : Sto) (s : Option Sl) : M D := match s with
  | some (.x e) => kF3 (Γ (.xf e.c f)) (e.fs.lookup f) S
  | _ => none
theorem kXfld_e {f : Str} {e : Xc} : kXfld Γ f S (some (.x e)) = kF3 (Γ (.xf e.c f)) (e.fs.lookup f) S := rfl
theorem ev_xfld {i : Nat} {f : Str} : ev Γ (.xfld i f) σ S = kXfld Γ f S σ[i]? := by
  conv => lhs; unfold ev
  first | rfl | (congr 1; done)
def kXis (Γ : Gam) (x : Str) (c : Option Nat) (S : Sto) (s : Option Sl) : M D := match s with
  | some (.x e) => pur ((xisV Γ e x c).map .bl) S
  | _ => none
theorem kXis_e {x : Str} {c : Option Nat} {e : Xc} : kXis Γ x c S (some (.x e)) = pur ((xisV Γ e x c).map .bl) S := rfl
theorem ev_xis {i : Nat} {x : Str} {c : Option Nat} : ev Γ (.xis i x c) σ S = kXis Γ x c S σ[i]? := by
  conv => lhs; unfold ev
  first | rfl | (congr 1; done)
theorem xisV_c {e : Xc} {x : Str} {c : Nat} {g : Gv} {b : Bool} (h1 : Γ (.cls x c) = some g) (h2 : Γ (.sub e.c c) = some (yn b)) : xisV Γ e x (some c) = some b := by
  unfold xisV
  simp only [h1, tel_yn h2]
theorem xisV_v {e : Xc} {x : Str} {b : Bool} (h2 : Γ (.subV e.c) = some (yn b)) : xisV Γ e x none = some b := by
  unfold xisV
  exact tel_yn h2
/-! ### what is walked -/
def kIe (x : D) (S : Sto) : M (List D × Src) := match seqS S x with
  | some xs => .ok (xs, srcOf S x) S
  | none => none
theorem kIe_fl {xs : List D} : kIe (.fl xs) S = some (.ok (xs, []) S) := rfl
theorem kIe_ref {n : Nat} {xs : List D} (h : S[n]? = some (.lst xs)) : kIe (.ref n) S = some (.ok (xs, [(n, .lst xs)]) S) := by
  unfold kIe seqS srcOf
  simp only [h]
  rfl
theorem evi_e {e : E} : evi Γ (.e e) σ S = M.bind (ev Γ e σ S) kIe := by
  conv => lhs; unfold evi
  first | rfl | (congr 1; done)
def kIr (x : D) (S : Sto) : M (List D × Src) := match seqS S x with
  | some xs => .ok (xs.reverse, srcOf S x) S
  | none => none
theorem kIr_fl {xs : List D} : kIr (.fl xs) S = some (.ok (xs.reverse, []) S) := rfl
theorem evi_rev {e : E} : evi Γ (.rev e) σ S = M.bind (ev Γ e σ S) kIr := by
  conv => lhs; unfold evi
  first | rfl | (congr 1; done)
def kIt (x : D) (S : Sto) : M (List D × Src) := match tupD x with
  | some xs => .ok (xs, []) S
  | none => none
theorem kIt_tup {xs : List D} : kIt (.tup xs) S = some (.ok (xs, []) S) := rfl
theorem evi_tup {e : E} : evi Γ (.tup e) σ S = M.bind (ev Γ e σ S) kIt := by
  conv => lhs; unfold evi
  first | rfl | (congr 1; done)
def kIs (x : D) (S : Sto) : M (List D × Src) := match x with
  | .str z => .ok (strD z, []) S
  | _ => none
theorem kIs_str {z : Str} : kIs (.str z) S = some (.ok (strD z, []) S) := rfl
theorem evi_str {e : E} : evi Γ (.str e) σ S = M.bind (ev Γ e σ S) kIs := by
  conv => lhs; unfold evi
  first | rfl | (congr 1; done)
def kI1 (x : D) (S : Sto) : M (List D × Src) := match x with
  | .int j => gP (-4611686018427387904 ≤ j ∧ j < 4611686018427387904) (M.ok (rngD 0 j.toNat, []) S)
  | _ => none
theorem kI1_int {j : Int} (h : -4611686018427387904 ≤ j ∧ j < 4611686018427387904) : kI1 (.int j) S = some (.ok (rngD 0 j.toNat, []) S) := gP_pos h
theorem evi_rng1 {e : E} : evi Γ (.rng1 e) σ S = M.bind (ev Γ e σ S) kI1 := by
  conv => lhs; unfold evi
  first | rfl | (congr 1; done)
def kI22 (x y : D) (S : Sto) : M (List D × Src) := match x, y with
  | .int i, .int j => gP (-4611686018427387904 ≤ i ∧ i < 4611686018427387904 ∧ -4611686018427387904 ≤ j ∧ j < 4611686018427387904) (M.ok (rngD i (j - i).toNat, []) S)
  | _, _ => none
theorem kI22_int {i j : Int} (h : -4611686018427387904 ≤ i ∧ i < 4611686018427387904 ∧ -4611686018427387904 ≤ j ∧ j < 4611686018427387904) : kI22 (.int i) (.int j) S = some (.ok (rngD i (j - i).toNat, []) S) := gP_pos h
def kI21 (Γ : Gam) (b : E) (σ : List Sl) (x : D) (S : Sto) : M (List D × Src) := M.bind (ev Γ b σ S) (kI22 x)
theorem kI21_e {b : E} {x : D} : kI21 Γ b σ x S = M.bind (ev Γ b σ S) (kI22 x) := rfl
theorem evi_rng2 {a b : E} : evi Γ (.rng2 a b) σ S = M.bind (ev Γ a σ S) (kI21 Γ b σ) := by
  conv => lhs; unfold evi
  first | rfl | (congr 1; done)
def kIn (x : D) (S : Sto) : M (List D × Src) := match seqS S x with
  | some xs => .ok (enumD 0 xs, srcOf S x) S
  | none => none
theorem kIn_fl {xs : List D} : kIn (.fl xs) S = some (.ok (enumD 0 xs, []) S) := rfl
theorem evi_enum {e : E} : evi Γ (.enum e) σ S = M.bind (ev Γ e σ S) kIn := by
  conv => lhs; unfold evi
  first | rfl | (congr 1; done)
/-! ### statements -/
theorem runs_nil : runs Γ .nil σ S = some (.ok (.nx σ) S) := by unfold runs; rfl
theorem runs_cons {t : T} {ts : Ts} : runs Γ (.cons t ts) σ S = MO.then (run Γ t σ S) (runs Γ ts) := by
  conv => lhs; unfold runs
def kA (g : G) (σ : List Sl) (x : D) (S : Sto) : MO := nxO (setG g x σ) S
theorem kA_e {g : G} {x : D} : kA g σ x S = nxO (setG g x σ) S := rfl
theorem nxO_some : nxO (some σ) S = some (.ok (.nx σ) S) := rfl
theorem run_asg {g : G} {a : E} : run Γ (.asg g a) σ S = M.go (ev Γ a σ S) σ (kA g σ) := by
  conv => lhs; unfold run
  first | rfl | (congr 1; done)
def kAug (i : Nat) (o : Operator) (σ : List Sl) (x y : D) (S : Sto) : MO := match addW o x y with
  | some z => nxO (putS σ i (.v z)) S
  | none => none
theorem kAug_e {i : Nat} {o : Operator} {x y : D} : kAug i o σ x y S = (match addW o x y with
  | some z => nxO (putS σ i (.v z)) S
  | none => none) := rfl
def kAug0 (Γ : Gam) (i : Nat) (o : Operator) (e : E) (σ : List Sl) (S : Sto) (s : Option Sl) : MO := match s with
  | some (.v x) => M.go (ev Γ e σ S) σ (kAug i o σ x)
  | _ => none
theorem kAug0_e {i : Nat} {o : Operator} {e : E} {x : D} : kAug0 Γ i o e σ S (some (.v x)) = M.go (ev Γ e σ S) σ (kAug i o σ x) := rfl
theorem run_aug {i : Nat} {o : Operator} {e : E} : run Γ (.aug i o e) σ S = kAug0 Γ i o e σ S σ[i]? := by
  conv => lhs; unfold run
  first | rfl | (congr 1; done)
def kS3 (σ : List Sl) (y x j : D) (S : Sto) : MO := match setIt x j y S with
  | some S => .ok (.nx σ) S
  | none => none
theorem kS3_e {y x j : D} : kS3 σ y x j S = (match setIt x j y S with
  | some S => some (.ok (.nx σ) S)
  | none => none) := rfl
def kS2 (Γ : Gam) (k : E) (σ : List Sl) (y x : D) (S : Sto) : MO := M.go (ev Γ k σ S) σ (kS3 σ y x)
theorem kS2_e {k : E} {y x : D} : kS2 Γ k σ y x S = M.go (ev Γ k σ S) σ (kS3 σ y x) := rfl
def kS1 (Γ : Gam) (b k : E) (σ : List Sl) (y : D) (S : Sto) : MO := M.go (ev Γ b σ S) σ (kS2 Γ k σ y)
theorem kS1_e {b k : E} {y : D} : kS1 Γ b k σ y S = M.go (ev Γ b σ S) σ (kS2 Γ k σ y) := rfl
theorem run_setI {b k a : E} : run Γ (.setI b k a) σ S = M.go (ev Γ a σ S) σ (kS1 Γ b k σ) := by
  conv => lhs; unfold run
  first | rfl | (congr 1; done)
def kFs2 (Γ : Gam) (f : Str) (σ : List Sl) (y x : D) (S : Sto) : MO := match setFld Γ x f y S with
  | some S => .ok (.nx σ) S
  | none => none
theorem kFs2_e {f : Str} {y x : D} : kFs2 Γ f σ y x S = (match setFld Γ x f y S with
  | some S => some (.ok (.nx σ) S)
  | none => none) := rfl
def kFs1 (Γ : Gam) (b : E) (f : Str) (σ : List Sl) (y : D) (S : Sto) : MO := M.go (ev Γ b σ S) σ (kFs2 Γ f σ y)
theorem kFs1_e {b : E} {f : Str} {y : D} : kFs1 Γ b f σ y S = M.go (ev Γ b σ S) σ (kFs2 Γ f σ y) := rfl
theorem run_fset {b : E} {f : Str} {a : E} : run Γ (.fset b f a) σ S = M.go (ev Γ a σ S) σ (kFs1 Γ b f σ) := by
  conv => lhs; unfold run
  first | rfl | (congr 1; done)
def kX (σ : List Sl) (_ : D) (S : Sto) : MO := .ok (.nx σ) S
theorem kX_e {d : D} : kX σ d S = some (.ok (.nx σ) S) := rfl
theorem run_expr {a : E} : run Γ (.expr a) σ S = M.go (ev Γ a σ S) σ (kX σ) := by
  conv => lhs; unfold run
  first | rfl | (congr 1; done)
def kR (d : D) (S : Sto) : MO := .ok (.ret d) S
theorem kR_e {d : D} : kR d S = some (.ok (.ret d) S) := rfl
theorem run_ret {a : E} : run Γ (.ret a) σ S = M.go (ev Γ a σ S) σ kR := by
  conv => lhs; unfold run
  first | rfl | (congr 1; done)
theorem run_retN : run Γ .retN σ S = some (.ok (.ret .non) S) := by unfold run; rfl
theorem run_brk : run Γ .brk σ S = some (.ok (.brk σ) S) := by unfold run; rfl
theorem run_cnt : run Γ .cnt σ S = some (.ok (.cnt σ) S) := by unfold run; rfl
theorem run_pass : run Γ .pass σ S = some (.ok (.nx σ) S) := by unfold run; rfl
theorem tstV_e {x : M D} : tstV x = M.bind x tru := rfl
theorem tru_e {d : D} : tru d S = (match truth S d with
  | some b => .ok b S
  | none => none) := rfl
def kIf (Γ : Gam) (a b : Ts) (σ : List Sl) (k : Bool) (S : Sto) : MO := if k then runs Γ a σ S else runs Γ b σ S
theorem kIf_e {a b : Ts} {k : Bool} : kIf Γ a b σ k S = if k = true then runs Γ a σ S else runs Γ b σ S := rfl
theorem run_ite {c : E} {a b : Ts} : run Γ (.ite c a b) σ S = M.go (tstV (ev Γ c σ S)) σ (kIf Γ a b σ) := by
  conv => lhs; unfold run
  first | rfl | (congr 1; done)
def kFor (Γ : Gam) (g : G) (b : Ts) (σ : List Sl) (p : List D × Src) (S : Sto) : MO := forRun p.2 (fun x σ => setG g x σ) (runs Γ b) p.1 σ S
theorem kFor_e {g : G} {b : Ts} {p : List D × Src} : kFor Γ g b σ p S = forRun p.2 (fun x σ => setG g x σ) (runs Γ b) p.1 σ S := rfl
theorem run_for {g : G} {it : Hv.It} {b : Ts} : run Γ (.for_ g it b) σ S = M.go (evi Γ it σ S) σ (kFor Γ g b σ) := by
  conv => lhs; unfold run
  first | rfl | (congr 1; done)
def kRs (c : Nat) (f : Option Str) (σ : List Sl) (ds : List D) (S : Sto) : MO := match excOf c f ds with
  | some e => some (.exc e σ S)
  | none => none
theorem kRs_1 {c : Nat} {f : Str} {d : D} : kRs c (some f) σ [d] S = some (.exc ⟨c, [(f, d)]⟩ σ S) := rfl
theorem kRs_0 {c : Nat} {z : Str} : kRs c none σ [.str z] S = some (.exc ⟨c, []⟩ σ S) := rfl
def kRaise (o : Option Gv) (Γ : Gam) (c : Nat) (f : Option Str) (es : Es) (σ : List Sl) (S : Sto) : MO := match o with
  | some _ => M.go (evs Γ es σ S) σ (kRs c f σ)
  | none => none
theorem kRaise_e {g : Gv} {c : Nat} {f : Option Str} {es : Es} : kRaise (some g) Γ c f es σ S = M.go (evs Γ es σ S) σ (kRs c f σ) := rfl
theorem run_raise {x : Str} {c : Nat} {f : Option Str} {es : Es} : run Γ (.raise x c f es) σ S = kRaise (Γ (.exc x c f)) Γ c f es σ S := by
  conv => lhs; unfold run
  first | rfl | (congr 1; done)
def kFa2 (Γ : Gam) (n : Nat) (c : Nat) (f : Str) (o : Operator) (σ : List Sl) (d y : D) (S : Sto) : MO := match addW o d y, S[n]? with
  | some z, some (.obj c' _) => if c' = c then (match setFld Γ (.ref n) f z S with
      | some S => .ok (.nx σ) S
      | none => none) else none
  | _, _ => none
theorem kFa2_e {n c : Nat} {f : Str} {o : Operator} {d y z : D} {fs : List (Str × D)} (h : S[n]? = some (.obj c fs)) (h2 : addW o d y = some z) : kFa2 Γ n c f o σ d y S = (match setFld Γ (.ref n) f z S with
      | some S => some (.ok (.nx σ) S)
      | none => none) := by
  unfold kFa2
  rw [h, h2]
  simp only [if_true]
  rfl
def kFa1 (Γ : Gam) (f : Str) (o : Operator) (e : E) (σ : List Sl) (x : D) (S : Sto) : MO := match x with
      | .ref n => (match S[n]? with
          | some (.obj c fs) => (match Γ (.fld c f), fs.lookup f with
              | some _, some d => M.go (ev Γ e σ S) σ (kFa2 Γ n c f o σ d)
              | _, _ => none)
          | _ => none)
      | _ => none
theorem kFa1_e {n c : Nat} {f : Str} {o : Operator} {e : E} {d : D} {g : Gv} {fs : List (Str × D)} (h : S[n]? = some (.obj c fs)) (h1 : Γ (.fld c f) = some g) (h2 : fs.lookup f = some d) : kFa1 Γ f o e σ (.ref n) S = M.go (ev Γ e σ S) σ (kFa2 Γ n c f o σ d) := by
  unfold kFa1
  simp only [h, h1, h2]
theorem run_faug {b : E} {f : Str} {o : Operator} {e : E} : run Γ (.faug b f o e) σ S = M.go (ev Γ b σ S) σ (kFa1 Γ f o e σ) := by
  conv => lhs; unfold run
  first | rfl | (congr 1; done)
/-! ### try -/
def kTri (Γ : Gam) (hs : Hs) (x : MO) : MO := match x with
  | some (.exc e σ S) => runHs Γ hs e (noX σ) S
  | r => outO none r
theorem kTri_exc {hs : Hs} {e : Xc} : kTri Γ hs (some (.exc e σ S)) = runHs Γ hs e (noX σ) S := rfl
theorem kTri_nx {hs : Hs} : kTri Γ hs (some (.ok (.nx σ) S)) = some (.ok (.nx (noX σ)) S) := rfl
theorem kTri_ret {hs : Hs} {d : D} : kTri Γ hs (some (.ok (.ret d) S)) = some (.ok (.ret d) S) := rfl
theorem run_tri {b : Ts} {hs : Hs} (h : knH Γ hs = true) : run Γ (.tri b hs) σ S = kTri Γ hs (runs Γ b (noX σ) S) := by
  conv => lhs; unfold run
  rw [if_pos h]
  rfl
theorem knH_nil : knH Γ .nil = true := by unfold knH; rfl
theorem knH_cons {x : Str} {c : Nat} {i : Option Nat} {b : Ts} {hs : Hs} {g : Gv} (h : Γ (.cls x c) = some g) (h2 : knH Γ hs = true) : knH Γ (.cons x c i b hs) = true := by
  unfold knH
  rw [h, h2]
  rfl
theorem runHs_hit {x : Str} {c i : Nat} {b : Ts} {hs : Hs} {e : Xc} (h : xisV Γ e x (some c) = some true) (hi : i < σ.length) : runHs Γ (.cons x c (some i) b hs) e σ S = outO (some i) (runs Γ b (σ.set i (.x e)) S) := by
  conv => lhs; unfold runHs
  simp only [h, inI, putS_pos hi]
theorem runHs_hit0 {x : Str} {c : Nat} {b : Ts} {hs : Hs} {e : Xc} (h : xisV Γ e x (some c) = some true) : runHs Γ (.cons x c none b hs) e σ S = outO none (runs Γ b σ S) := by
  conv => lhs; unfold runHs
  simp only [h, inI]
theorem runHs_miss {x : Str} {c : Nat} {i : Option Nat} {b : Ts} {hs : Hs} {e : Xc} (h : xisV Γ e x (some c) = some false) : runHs Γ (.cons x c i b hs) e σ S = runHs Γ hs e σ S := by
  conv => lhs; unfold runHs
  simp only [h]
theorem runHs_nil {e : Xc} : runHs Γ .nil e σ S = some (.exc e σ S) := by unfold runHs; rfl
theorem outO_ret {i : Option Nat} {d : D} : outO i (some (.ok (.ret d) S)) = some (.ok (.ret d) S) := rfl
theorem outO_nx {i : Option Nat} : outO i (some (.ok (.nx σ) S)) = some (.ok (.nx (outI i (noX σ))) S) := rfl
theorem putS_0 {s t : Sl} : putS (s :: σ) 0 t = some (t :: σ) := if_pos (by simp)
theorem putS_s {s t : Sl} {i : Nat} : putS (s :: σ) (i + 1) t = (putS σ i t).map (s :: ·) := by
  unfold putS
  by_cases h : i < σ.length
  · rw [if_pos h, if_pos (by simpa using h)]; rfl
  · rw [if_neg h, if_neg (by simpa using h)]; rfl
theorem strNe {a b : Str} (h : ¬ a = b) : (a = b) = False := eq_false h
/-! ### classes, without premises -/
def kxs0 (o : Option Gv) : Option Bool := match o with
  | some g => match g [] [] with
    | some (.ok (.bl b) _) => some b
    | _ => none
  | none => none
theorem kxs0_e {b : Bool} : kxs0 (some (yn b)) = some b := rfl
theorem tel_e {n : Nm} : tel Γ n = kxs0 (Γ n) := by
  unfold tel
  generalize Γ n = o
  cases o <;> rfl
def kxs (o : Option Gv) (b : Option Bool) : Option Bool := match o with
  | some _ => b
  | none => none
theorem kxs_e {g : Gv} {b : Option Bool} : kxs (some g) b = b := rfl
theorem xisV_e {e : Xc} {x : Str} {c : Nat} : xisV Γ e x (some c) = kxs (Γ (.cls x c)) (kxs0 (Γ (.sub e.c c))) := by
  unfold xisV
  rw [tel_e]
  dsimp only
  unfold kxs
  rw [tel_e]
  try (generalize Γ (.cls x c) = o; cases o <;> rfl)
theorem xisV_n {e : Xc} {x : Str} : xisV Γ e x none = kxs0 (Γ (.subV e.c)) := tel_e
def kHs (Γ : Gam) (i : Option Nat) (b : Ts) (S : Sto) (o : Option (List Sl)) : MO := match o with
  | some σ => outO i (runs Γ b σ S)
  | none => none
theorem kHs_e {i : Option Nat} {b : Ts} : kHs Γ i b S (some σ) = outO i (runs Γ b σ S) := rfl
theorem runHs_cons {x : Str} {c : Nat} {i : Option Nat} {b : Ts} {hs : Hs} {e : Xc} : runHs Γ (.cons x c i b hs) e σ S = selB (xisV Γ e x (some c)) (kHs Γ i b S (inI i e σ)) (runHs Γ hs e σ S) := by
  conv => lhs; unfold runHs
  generalize xisV Γ e x (some c) = o
  cases o with
  | none => rfl
  | some k =>
    cases k with
    | false => rfl
    | true =>
      show (match inI i e σ with | some σ => _ | none => _) = kHs Γ i b S (inI i e σ)
      generalize inI i e σ = p
      cases p <;> rfl
theorem knH_c {x : Str} {c : Nat} {i : Option Nat} {b : Ts} {hs : Hs} : knH Γ (.cons x c i b hs) = ((Γ (.cls x c)).isSome && knH Γ hs) := by conv => lhs; unfold knH
theorem run_try {b : Ts} {hs : Hs} : run Γ (.tri b hs) σ S = if knH Γ hs = true then kTri Γ hs (runs Γ b (noX σ) S) else none := by
  conv => lhs; unfold run
  rfl
theorem inI_s {i : Nat} {e : Xc} : inI (some i) e σ = putS σ i (.x e) := rfl
theorem inI_n {e : Xc} : inI none e σ = some σ := rfl
/-! ### lists compared -/
theorem eq_rl {n k : Nat} {xs ys : List D} (e : S[n]? = some (.lst xs)) (h : okDs k xs = true) (h' : okDs k ys = true) (hk : k ≤ 63) : eqD S (.ref n) (.fl ys) = some (PyData.eqvAll (toPys xs) (toPys ys)) := by
  rw [eqD_py (n := k + 1) (py1_lst e (okDs_pl _ _ h)) (py1_pl (x := .fl ys) (by unfold pl; exact okDs_pl _ _ h')) (by unfold okD; exact h) (by unfold okD; exact h') (by omega)]
  unfold toPy PyData.eqv
  rfl
theorem eq_lr {n k : Nat} {xs ys : List D} (e : S[n]? = some (.lst xs)) (h : okDs k xs = true) (h' : okDs k ys = true) (hk : k ≤ 63) : eqD S (.fl ys) (.ref n) = some (PyData.eqvAll (toPys ys) (toPys xs)) := by
  rw [eqD_py (n := k + 1) (py1_pl (x := .fl ys) (by unfold pl; exact okDs_pl _ _ h')) (py1_lst e (okDs_pl _ _ h)) (by unfold okD; exact h') (by unfold okD; exact h) (by omega)]
  unfold toPy PyData.eqv
  rfl
theorem eq_rr {n m k : Nat} {xs ys : List D} (e : S[n]? = some (.lst xs)) (e' : S[m]? = some (.lst ys)) (h : okDs k xs = true) (h' : okDs k ys = true) (hk : k ≤ 63) : eqD S (.ref n) (.ref m) = some (PyData.eqvAll (toPys xs) (toPys ys)) := by
  rw [eqD_py (n := k + 1) (py1_lst e (okDs_pl _ _ h)) (py1_lst e' (okDs_pl _ _ h')) (by unfold okD; exact h) (by unfold okD; exact h') (by omega)]
  unfold toPy PyData.eqv
  rfl
theorem eq_ll {k : Nat} {xs ys : List D} (h : okDs k xs = true) (h' : okDs k ys = true) (hk : k ≤ 63) : eqD S (.fl xs) (.fl ys) = some (PyData.eqvAll (toPys xs) (toPys ys)) := by
  rw [eqD_py (n := k + 1) (py1_pl (x := .fl xs) (by unfold pl; exact okDs_pl _ _ h)) (py1_pl (x := .fl ys) (by unfold pl; exact okDs_pl _ _ h')) (by unfold okD; exact h) (by unfold okD; exact h') (by omega)]
  unfold toPy PyData.eqv
  rfl
theorem eq_new {k : Nat} {xs : List D} (h : okDs k xs = true) (hk : k ≤ 63) : eqD (S ++ [.lst xs]) (.ref S.length) (.fl xs) = some true := by
  rw [eq_rl at_new h h hk, eqvAll_toPys]
theorem eq_nil_n : eqD (S ++ [.lst []]) (.fl []) (.ref S.length) = some true := by
  rw [eq_lr (k := 0) at_new rfl rfl (by decide)]; rfl
theorem eq_cons_n {k : Nat} {x : D} {xs : List D} (h : okDs k (x :: xs) = true) (hk : k ≤ 63) : eqD (S ++ [.lst []]) (.fl (x :: xs)) (.ref S.length) = some false := by
  rw [eq_lr (k := k) at_new (by cases k <;> rfl) h hk]; rfl
/-! ### what is forgotten, one cell changed -/
theorem gcv_set_new {n : Nat} {c c' : C} (hc : clC S.length c) (h : clC S.length c') : gcv S (.ref (S.set n c).length) (S.set n c ++ [c']) = (.ref S.length, S.set n c ++ [c']) := by
  have hl : (S.set n c).length = S.length := by simp
  have k : Kept S (S.set n c ++ [c']) := fun i z hi e => (Kept.refl (S := S)).set hc i z hi (by rwa [List.getElem?_append_left (by rw [hl]; exact hi)] at e)
  unfold gcv
  rw [if_neg fun z => by have : (S.set n c).length < S.length := z.1; omega]
  simp only [at_new]
  rw [if_pos ⟨by omega, h, k⟩]
  congr 2
  rw [← hl, List.take_left']
  rfl
theorem strRep_S (t : List Nat) : ∀ n : Nat, strRep (SX.S t) n = SX.S ((List.replicate n t).flatten)
  | 0 => rfl
  | n + 1 => by unfold strRep; rw [strRep_S t n, S_app]; rfl
theorem intsD_map : ∀ l : List Int, Hv.intsD (l.map D.int) = some l
  | [] => rfl
  | i :: l => by rw [List.map_cons, Hv.intsD, intsD_map l]; rfl
theorem strsD_map : ∀ l : List Str, Hv.strsD (l.map D.str) = some l
  | [] => rfl
  | i :: l => by rw [List.map_cons, Hv.strsD, strsD_map l]; rfl
end
end Hv
namespace L14
open PySem PySem.Spec
open PyProof.Rows hiding St
open L2 Hv
abbrev N_plain_init : List Str := ["self", "text", "sign"]
def c_plain_init_1 : E := .lc [("sign", 2)] (.nm 2) (.str (.var 1)) .none (.op .tup (.cons (.var 2) (.cons (.str "") .nil)))
def b_plain_init : Ts :=
 (.cons (.fset (.var 0) "kept" (.gc (.frz c_plain_init_1)))
 .nil)
abbrev N_plain_rows : List Str := ["self"]
def b_plain_rows : Ts :=
 (.cons (.ret (.op .list (.cons (.fld (.var 0) "kept") .nil)))
 .nil)
abbrev N_plain_ask_gap : List Str := ["self", "at"]
def b_plain_ask_gap : Ts :=
 (.cons (.ite (.not (.cmp2 .LtE .LtE (.int 0) (.var 1) (.op .len (.cons (.fld (.var 0) "kept") .nil))))
  (.cons (.raise "OutOfPlace" 1 (some "at") (.cons (.var 1) .nil))
  .nil)
  .nil)
 .nil)
abbrev N_plain_ask_stretch : List Str := ["self", "at", "to"]
def b_plain_ask_stretch : Ts :=
 (.cons (.ite (.not (.cmp2 .LtE .Lt (.int 0) (.var 1) (.op .len (.cons (.fld (.var 0) "kept") .nil))))
  (.cons (.raise "OutOfPlace" 1 (some "at") (.cons (.var 1) .nil))
  .nil)
  .nil)
 (.cons (.ite (.not (.cmp2 .Lt .LtE (.var 1) (.var 2) (.op .len (.cons (.fld (.var 0) "kept") .nil))))
  (.cons (.raise "OutOfPlace" 1 (some "at") (.cons (.var 2) .nil))
  .nil)
  .nil)
 .nil))
abbrev N_plain_put : List Str := ["self", "at", "signs", "sign"]
def c_plain_put_1 : E := .lc [("sign", 3)] (.nm 3) (.str (.var 2)) .none (.op .tup (.cons (.var 3) (.cons (.str "") .nil)))
def b_plain_put : Ts :=
 (.cons (.expr (.gc (.mcall (.var 0) "ask_gap" (.cons (.var 1) .nil))))
 (.cons (.fset (.var 0) "kept" (.gc (.frz (.op (.bin .Add) (.cons (.op (.bin .Add) (.cons (.op (.sl false true) (.cons (.fld (.var 0) "kept") (.cons (.var 1) .nil))) (.cons c_plain_put_1 .nil))) (.cons (.op (.sl true false) (.cons (.fld (.var 0) "kept") (.cons (.var 1) .nil))) .nil))))))
 .nil))
abbrev N_plain_strike : List Str := ["self", "at", "to"]
def b_plain_strike : Ts :=
 (.cons (.expr (.gc (.mcall (.var 0) "ask_stretch" (.cons (.var 1) (.cons (.var 2) .nil)))))
 (.cons (.fset (.var 0) "kept" (.gc (.frz (.op (.bin .Add) (.cons (.op (.sl false true) (.cons (.fld (.var 0) "kept") (.cons (.var 1) .nil))) (.cons (.op (.sl true false) (.cons (.fld (.var 0) "kept") (.cons (.var 2) .nil))) .nil))))))
 .nil))
abbrev N_plain_dress : List Str := ["self", "at", "to", "word", "worn", "sign", "old"]
def c_plain_dress_1 : E := .lc [("sign", 5), ("old", 6)] (.tup [5, 6]) (.e (.gc (.frz (.op (.sl true true) (.cons (.fld (.var 0) "kept") (.cons (.var 1) (.cons (.var 2) .nil))))))) .none (.op .tup (.cons (.var 5) (.cons (.var 3) .nil)))
def b_plain_dress : Ts :=
 (.cons (.expr (.gc (.mcall (.var 0) "ask_stretch" (.cons (.var 1) (.cons (.var 2) .nil)))))
 (.cons (.asg (.nm 4) (.gc (.frz c_plain_dress_1)))
 (.cons (.fset (.var 0) "kept" (.gc (.frz (.op (.bin .Add) (.cons (.op (.bin .Add) (.cons (.op (.sl false true) (.cons (.fld (.var 0) "kept") (.cons (.var 1) .nil))) (.cons (.var 4) .nil))) (.cons (.op (.sl true false) (.cons (.fld (.var 0) "kept") (.cons (.var 2) .nil))) .nil))))))
 .nil)))
abbrev N_plain_move : List Str := ["self", "at", "to", "goal", "taken", "ahead", "left", "k"]
def c_plain_move_1 : E := .lc [("k", 7)] (.nm 7) (.rng1 (.var 3)) (.some (.not (.cmp2 .LtE .Lt (.var 1) (.var 7) (.var 2)))) (.var 7)
def b_plain_move : Ts :=
 (.cons (.expr (.gc (.mcall (.var 0) "ask_stretch" (.cons (.var 1) (.cons (.var 2) .nil)))))
 (.cons (.expr (.gc (.mcall (.var 0) "ask_gap" (.cons (.var 3) .nil))))
 (.cons (.asg (.nm 4) (.gc (.frz (.op (.sl true true) (.cons (.fld (.var 0) "kept") (.cons (.var 1) (.cons (.var 2) .nil)))))))
 (.cons (.asg (.nm 5) (.gc (.frz c_plain_move_1)))
 (.cons (.asg (.nm 6) (.gc (.frz (.op (.bin .Add) (.cons (.op (.sl false true) (.cons (.fld (.var 0) "kept") (.cons (.var 1) .nil))) (.cons (.op (.sl true false) (.cons (.fld (.var 0) "kept") (.cons (.var 2) .nil))) .nil))))))
 (.cons (.fset (.var 0) "kept" (.gc (.frz (.op (.bin .Add) (.cons (.op (.bin .Add) (.cons (.op (.sl false true) (.cons (.var 6) (.cons (.op .len (.cons (.var 5) .nil)) .nil))) (.cons (.var 4) .nil))) (.cons (.op (.sl true false) (.cons (.var 6) (.cons (.op .len (.cons (.var 5) .nil)) .nil))) .nil))))))
 .nil))))))
abbrev N_law_drawn : List Str := ["_law_cell", "_law_place", "_law_number_here"]
def b_law_drawn : Ts :=
 (.cons (.asg (.nm 2) (.op (.bin .Mod) (.cons (.op (.bin .Mult) (.cons (.op (.bin .Add) (.cons (.op (.bin .Add) (.cons (.var 0) (.cons (.op (.bin .Mult) (.cons (.int 7919) (.cons (.var 1) .nil))) .nil))) (.cons (.int 1) .nil))) (.cons (.int 48271) .nil))) (.cons (.int 2147483647) .nil))))
 (.cons (.ret (.op (.bin .Mod) (.cons (.op (.bin .Mult) (.cons (.var 2) (.cons (.op (.bin .Add) (.cons (.op (.bin .FloorDiv) (.cons (.var 2) (.cons (.int 1009) .nil))) (.cons (.int 69621) .nil))) .nil))) (.cons (.int 2147483647) .nil))))
 .nil))
abbrev N_law_number : List Str := ["_law_cell", "_law_place", "_law_many", "_law_way", "_law_number_here"]
def b_law_number : Ts :=
 (.cons (.asg (.nm 3) (.gc (.op (.bin .Mod) (.cons (.call "_law_drawn" (.cons (.var 0) (.cons (.var 1) .nil))) (.cons (.int 8) .nil)))))
 (.cons (.asg (.nm 4) (.gc (.frz (.call "_law_drawn" (.cons (.var 0) (.cons (.op (.bin .Add) (.cons (.var 1) (.cons (.int 1) .nil))) .nil))))))
 (.cons (.ite (.cmp .Eq (.var 3) (.int 0))
  (.cons (.ret (.op (.bin .Sub) (.cons (.op (.bin .Mod) (.cons (.var 0) (.cons (.op (.bin .Add) (.cons (.op (.bin .Mult) (.cons (.int 2) (.cons (.op (.bin .Pow) (.cons (.int 10) (.cons (.int 12) .nil))) .nil))) (.cons (.int 1) .nil))) .nil))) (.cons (.op (.bin .Pow) (.cons (.int 10) (.cons (.int 12) .nil))) .nil))))
  .nil)
  .nil)
 (.cons (.ite (.cmp .Eq (.var 3) (.int 1))
  (.cons (.ret (.op (.bin .Add) (.cons (.var 2) (.cons (.op (.bin .Mod) (.cons (.var 4) (.cons (.int 3) .nil))) .nil))))
  .nil)
  .nil)
 (.cons (.ite (.cmp .Eq (.var 3) (.int 2))
  (.cons (.ret (.op (.bin .Sub) (.cons (.int 0) (.cons (.op (.bin .Mod) (.cons (.var 4) (.cons (.int 3) .nil))) .nil))))
  .nil)
  .nil)
 (.cons (.ret (.op (.bin .Mod) (.cons (.var 4) (.cons (.op (.bin .Add) (.cons (.var 2) (.cons (.int 1) .nil))) .nil))))
 .nil))))))
abbrev N_law_due : List Str := ["_law_word", "_law_at", "_law_to", "_law_goal", "_law_many"]
def b_law_due : Ts :=
 (.cons (.ite (.cmp .Eq (.var 0) (.str "put"))
  (.cons (.ite (.not (.cmp2 .LtE .LtE (.int 0) (.var 1) (.var 4)))
   (.cons (.ret (.op .lst (.cons (.var 1) .nil)))
   .nil)
   .nil)
  (.cons (.ret (.op .lst .nil))
  .nil))
  .nil)
 (.cons (.ite (.not (.cmp2 .LtE .Lt (.int 0) (.var 1) (.var 4)))
  (.cons (.ret (.op .lst (.cons (.var 1) .nil)))
  .nil)
  .nil)
 (.cons (.ite (.not (.cmp2 .Lt .LtE (.var 1) (.var 2) (.var 4)))
  (.cons (.ret (.op .lst (.cons (.var 2) .nil)))
  .nil)
  .nil)
 (.cons (.ite (.and (.cmp .Eq (.var 0) (.str "move")) (.not (.cmp2 .LtE .LtE (.int 0) (.var 3) (.var 4))))
  (.cons (.ret (.op .lst (.cons (.var 3) .nil)))
  .nil)
  .nil)
 (.cons (.ret (.op .lst .nil))
 .nil)))))
abbrev N_law_does : List Str := ["_law_plain", "_law_word", "_law_at", "_law_to", "_law_goal"]
def b_law_does : Ts :=
 (.cons (.ite (.cmp .Eq (.var 1) (.str "put"))
  (.cons (.expr (.gc (.mcall (.var 0) "put" (.cons (.var 2) (.cons (.str "x\n") .nil)))))
  .nil)
  (.cons (.ite (.cmp .Eq (.var 1) (.str "strike"))
   (.cons (.expr (.gc (.mcall (.var 0) "strike" (.cons (.var 2) (.cons (.var 3) .nil)))))
   .nil)
   (.cons (.ite (.cmp .Eq (.var 1) (.str "dress"))
    (.cons (.expr (.gc (.mcall (.var 0) "dress" (.cons (.var 2) (.cons (.var 3) (.cons (.str "red") .nil))))))
    .nil)
    (.cons (.expr (.gc (.mcall (.var 0) "move" (.cons (.var 2) (.cons (.var 3) (.cons (.var 4) .nil))))))
    .nil))
   .nil))
  .nil))
 .nil)
abbrev N_law_refused : List Str := ["_law_plain", "_law_word", "_law_at", "_law_to", "_law_goal", "e", "_law_other"]
def b_law_refused : Ts :=
 (.cons (.tri (.cons (.expr (.gc (.call "_law_does" (.cons (.var 0) (.cons (.var 1) (.cons (.var 2) (.cons (.var 3) (.cons (.var 4) .nil))))))))
  .nil)
  (.cons "QuillError" 0 (some 5) (.cons (.asg (.nm 6) (.or (.xis 5 "NoStroke" (some 2)) (.or (.xis 5 "Decided" (some 3)) (.xis 5 "NotYours" (some 4)))))
  (.cons (.asg (.nm 6) (.or (.var 6) (.or (.xis 5 "Leaned" (some 5)) (.or (.xis 5 "OtherText" (some 6)) (.xis 5 "Twice" (some 7))))))
  (.cons (.asg (.nm 6) (.or (.var 6) (.or (.xis 5 "NoNote" (some 8)) (.or (.xis 5 "TooDeep" (some 9)) (.xis 5 "NoPaper" (some 10))))))
  (.cons (.ite (.or (.not (.xis 5 "OutOfPlace" (some 1))) (.or (.not (.xis 5 "ValueError" none)) (.or (.var 6) (.xis 5 "NoRow" (some 11)))))
   (.cons (.ret (.op .lst (.cons (.str "none") .nil)))
   .nil)
   .nil)
  (.cons (.ret (.op .lst (.cons (.xfld 5 "at") .nil)))
  .nil)))))
  .nil))
 (.cons (.ret (.op .lst .nil))
 .nil))
abbrev N_law : List Str := ["_law_script", "_law_cell", "_law_plain", "_law_rows", "_law_word", "_law_at", "_law_to", "_law_goal", "_law_due_here"]
def b_law_l1 : Ts :=
 (.cons (.asg (.nm 3) (.gc (.frz (.op .list (.cons (.mcall (.var 2) "rows" .nil) .nil)))))
 (.cons (.asg (.nm 4) (.gc (.frz (.op .ix (.cons (.op .lst (.cons (.str "put") (.cons (.str "strike") (.cons (.str "dress") (.cons (.str "move") .nil))))) (.cons (.op (.bin .Mod) (.cons (.call "_law_drawn" (.cons (.var 1) (.cons (.int 9) .nil))) (.cons (.int 4) .nil))) .nil))))))
 (.cons (.asg (.nm 5) (.gc (.frz (.call "_law_number" (.cons (.var 1) (.cons (.int 1) (.cons (.op .len (.cons (.var 3) .nil)) .nil)))))))
 (.cons (.asg (.nm 6) (.gc (.frz (.call "_law_number" (.cons (.var 1) (.cons (.int 3) (.cons (.op .len (.cons (.var 3) .nil)) .nil)))))))
 (.cons (.ite (.gc (.cmp .Eq (.op (.bin .Mod) (.cons (.call "_law_drawn" (.cons (.var 1) (.cons (.int 8) .nil))) (.cons (.int 2) .nil))) (.int 0)))
  (.cons (.asg (.nm 6) (.gc (.op (.bin .Add) (.cons (.op (.bin .Add) (.cons (.var 5) (.cons (.int 1) .nil))) (.cons (.op (.bin .Mod) (.cons (.call "_law_drawn" (.cons (.var 1) (.cons (.int 4) .nil))) (.cons (.int 3) .nil))) .nil)))))
  .nil)
  .nil)
 (.cons (.asg (.nm 7) (.gc (.frz (.call "_law_number" (.cons (.var 1) (.cons (.int 5) (.cons (.op .len (.cons (.var 3) .nil)) .nil)))))))
 (.cons (.asg (.nm 8) (.gc (.frz (.call "_law_due" (.cons (.var 4) (.cons (.var 5) (.cons (.var 6) (.cons (.var 7) (.cons (.op .len (.cons (.var 3) .nil)) .nil)))))))))
 (.cons (.ite (.gc (.cmp .NotEq (.call "_law_refused" (.cons (.var 2) (.cons (.var 4) (.cons (.var 5) (.cons (.var 6) (.cons (.var 7) .nil)))))) (.var 8)))
  (.cons (.ret (.bl false))
  .nil)
  .nil)
 (.cons (.ite (.gc (.and (.cmp .NotEq (.var 8) (.op .lst .nil)) (.cmp .NotEq (.mcall (.var 2) "rows" .nil) (.var 3))))
  (.cons (.ret (.bl false))
  .nil)
  .nil)
 (.cons (.ite (.gc (.and (.cmp .Eq (.var 8) (.op .lst .nil)) (.and (.cmp .NotEq (.var 4) (.str "move")) (.and (.cmp .NotEq (.var 4) (.str "dress")) (.cmp .Eq (.op .len (.cons (.mcall (.var 2) "rows" .nil) .nil)) (.op .len (.cons (.var 3) .nil)))))))
  (.cons (.ret (.bl false))
  .nil)
  .nil)
 .nil))))))))))
def b_law : Ts :=
 (.cons (.asg (.nm 1) (.gc (.op .sum (.cons (.op (.sl false true) (.cons (.var 0) (.cons (.int 1) .nil))) .nil))))
 (.cons (.asg (.nm 2) (.gc (.call "Plain" (.cons (.op (.bin .Add) (.cons (.op (.bin .Mult) (.cons (.op (.sl false true) (.cons (.str "abc\n") (.cons (.op (.bin .Add) (.cons (.int 1) (.cons (.op (.bin .Mod) (.cons (.op (.bin .FloorDiv) (.cons (.var 1) (.cons (.int 41) .nil))) (.cons (.int 4) .nil))) .nil))) .nil))) (.cons (.op (.bin .FloorDiv) (.cons (.op (.bin .Mod) (.cons (.var 1) (.cons (.int 41) .nil))) (.cons (.int 4) .nil))) .nil))) (.cons (.op (.bin .Mult) (.cons (.str "z") (.cons (.op (.bin .Mod) (.cons (.op (.bin .Mod) (.cons (.var 1) (.cons (.int 41) .nil))) (.cons (.int 4) .nil))) .nil))) .nil))) .nil))))
 (.cons (.for_ (.nm 1) (.e (.gc (.frz (.op (.sl true true) (.cons (.var 0) (.cons (.int 1) (.cons (.int 31) .nil))))))) b_law_l1)
 (.cons (.ret (.bl true))
 .nil))))
end L14
namespace L14
open PySem PySem.Spec
open PyProof.Rows hiding St
open L2 Hv
noncomputable def Gm1 : Gam := ext Gm0 (.fld 12 "kept") (fun _ _ => none)
noncomputable def Gm2 : Gam := ext Gm1 (.cls "QuillError" 0) (fun _ _ => none)
noncomputable def Gm3 : Gam := ext Gm2 (.cls "OutOfPlace" 1) (fun _ _ => none)
noncomputable def Gm4 : Gam := ext Gm3 (.cls "NoStroke" 2) (fun _ _ => none)
noncomputable def Gm5 : Gam := ext Gm4 (.cls "Decided" 3) (fun _ _ => none)
noncomputable def Gm6 : Gam := ext Gm5 (.cls "NotYours" 4) (fun _ _ => none)
noncomputable def Gm7 : Gam := ext Gm6 (.cls "Leaned" 5) (fun _ _ => none)
noncomputable def Gm8 : Gam := ext Gm7 (.cls "OtherText" 6) (fun _ _ => none)
noncomputable def Gm9 : Gam := ext Gm8 (.cls "Twice" 7) (fun _ _ => none)
noncomputable def Gm10 : Gam := ext Gm9 (.cls "NoNote" 8) (fun _ _ => none)
noncomputable def Gm11 : Gam := ext Gm10 (.cls "TooDeep" 9) (fun _ _ => none)
noncomputable def Gm12 : Gam := ext Gm11 (.cls "NoPaper" 10) (fun _ _ => none)
noncomputable def Gm13 : Gam := ext Gm12 (.cls "NoRow" 11) (fun _ _ => none)
noncomputable def Gm14 : Gam := ext Gm13 (.sub 1 0) (yn true)
noncomputable def Gm15 : Gam := ext Gm14 (.sub 1 1) (yn true)
noncomputable def Gm16 : Gam := ext Gm15 (.sub 1 2) (yn false)
noncomputable def Gm17 : Gam := ext Gm16 (.sub 1 3) (yn false)
noncomputable def Gm18 : Gam := ext Gm17 (.sub 1 4) (yn false)
noncomputable def Gm19 : Gam := ext Gm18 (.sub 1 5) (yn false)
noncomputable def Gm20 : Gam := ext Gm19 (.sub 1 6) (yn false)
noncomputable def Gm21 : Gam := ext Gm20 (.sub 1 7) (yn false)
noncomputable def Gm22 : Gam := ext Gm21 (.sub 1 8) (yn false)
noncomputable def Gm23 : Gam := ext Gm22 (.sub 1 9) (yn false)
noncomputable def Gm24 : Gam := ext Gm23 (.sub 1 10) (yn false)
noncomputable def Gm25 : Gam := ext Gm24 (.sub 1 11) (yn false)
noncomputable def Gm26 : Gam := ext Gm25 (.subV 1) (yn true)
noncomputable def Gm27 : Gam := ext Gm26 (.xf 1 "at") (fun _ _ => none)
noncomputable def Gm28 : Gam := ext Gm27 (.exc "OutOfPlace" 1 (some "at")) (fun _ _ => none)
noncomputable def g_plain_init : Gv := fnG Gm28 2 3 b_plain_init
theorem lk_plain_init_f_plain_kept : Gm28 (.fld 12 "kept") = some (fun _ _ => none) := (by repeat (first | refine (ext_ne (by decide +kernel)).trans ?_ | exact ext_same))
noncomputable def Gm29 : Gam := ext Gm28 (.fn "Plain") (mkOf 12 g_plain_init)
noncomputable def g_plain_rows : Gv := fnG Gm29 1 1 b_plain_rows
theorem lk_plain_rows_f_plain_kept : Gm29 (.fld 12 "kept") = some (fun _ _ => none) := (by repeat (first | refine (ext_ne (by decide +kernel)).trans ?_ | exact ext_same))
noncomputable def Gm30 : Gam := ext Gm29 (.me 12 "rows") g_plain_rows
noncomputable def g_plain_ask_gap : Gv := fnG Gm30 2 2 b_plain_ask_gap
theorem lk_plain_ask_gap_f_plain_kept : Gm30 (.fld 12 "kept") = some (fun _ _ => none) := (by repeat (first | refine (ext_ne (by decide +kernel)).trans ?_ | exact ext_same))
theorem lk_plain_ask_gap_r_outofplace : Gm30 (.exc "OutOfPlace" 1 (some "at")) = some (fun _ _ => none) := (by repeat (first | refine (ext_ne (by decide +kernel)).trans ?_ | exact ext_same))
noncomputable def Gm31 : Gam := ext Gm30 (.me 12 "ask_gap") g_plain_ask_gap
noncomputable def g_plain_ask_stretch : Gv := fnG Gm31 3 3 b_plain_ask_stretch
theorem lk_plain_ask_stretch_f_plain_kept : Gm31 (.fld 12 "kept") = some (fun _ _ => none) := (by repeat (first | refine (ext_ne (by decide +kernel)).trans ?_ | exact ext_same))
theorem lk_plain_ask_stretch_r_outofplace : Gm31 (.exc "OutOfPlace" 1 (some "at")) = some (fun _ _ => none) := (by repeat (first | refine (ext_ne (by decide +kernel)).trans ?_ | exact ext_same))
noncomputable def Gm32 : Gam := ext Gm31 (.me 12 "ask_stretch") g_plain_ask_stretch
noncomputable def g_plain_put : Gv := fnG Gm32 3 4 b_plain_put
theorem lk_plain_put_f_plain_kept : Gm32 (.fld 12 "kept") = some (fun _ _ => none) := (by repeat (first | refine (ext_ne (by decide +kernel)).trans ?_ | exact ext_same))
theorem lk_plain_put_plain_ask_gap : Gm32 (.me 12 "ask_gap") = some g_plain_ask_gap := (by repeat (first | refine (ext_ne (by decide +kernel)).trans ?_ | exact ext_same))
noncomputable def Gm33 : Gam := ext Gm32 (.me 12 "put") g_plain_put
noncomputable def g_plain_strike : Gv := fnG Gm33 3 3 b_plain_strike
theorem lk_plain_strike_f_plain_kept : Gm33 (.fld 12 "kept") = some (fun _ _ => none) := (by repeat (first | refine (ext_ne (by decide +kernel)).trans ?_ | exact ext_same))
theorem lk_plain_strike_plain_ask_stretch : Gm33 (.me 12 "ask_stretch") = some g_plain_ask_stretch := (by repeat (first | refine (ext_ne (by decide +kernel)).trans ?_ | exact ext_same))
noncomputable def Gm34 : Gam := ext Gm33 (.me 12 "strike") g_plain_strike
noncomputable def g_plain_dress : Gv := fnG Gm34 4 7 b_plain_dress
theorem lk_plain_dress_f_plain_kept : Gm34 (.fld 12 "kept") = some (fun _ _ => none) := (by repeat (first | refine (ext_ne (by decide +kernel)).trans ?_ | exact ext_same))
theorem lk_plain_dress_plain_ask_stretch : Gm34 (.me 12 "ask_stretch") = some g_plain_ask_stretch := (by repeat (first | refine (ext_ne (by decide +kernel)).trans ?_ | exact ext_same))
noncomputable def Gm35 : Gam := ext Gm34 (.me 12 "dress") (pad 4 [.str ""] g_plain_dress)
noncomputable def g_plain_move : Gv := fnG Gm35 4 8 b_plain_move
theorem lk_plain_move_f_plain_kept : Gm35 (.fld 12 "kept") = some (fun _ _ => none) := (by repeat (first | refine (ext_ne (by decide +kernel)).trans ?_ | exact ext_same))
theorem lk_plain_move_plain_ask_gap : Gm35 (.me 12 "ask_gap") = some g_plain_ask_gap := (by repeat (first | refine (ext_ne (by decide +kernel)).trans ?_ | exact ext_same))
theorem lk_plain_move_plain_ask_stretch : Gm35 (.me 12 "ask_stretch") = some g_plain_ask_stretch := (by repeat (first | refine (ext_ne (by decide +kernel)).trans ?_ | exact ext_same))
noncomputable def Gm36 : Gam := ext Gm35 (.me 12 "move") g_plain_move
noncomputable def g_law_drawn : Gv := fnG Gm36 2 3 b_law_drawn
noncomputable def Gm37 : Gam := ext Gm36 (.fn "_law_drawn") g_law_drawn
noncomputable def g_law_number : Gv := fnG Gm37 3 5 b_law_number
theorem lk_law_number_law_drawn : Gm37 (.fn "_law_drawn") = some g_law_drawn := (by repeat (first | refine (ext_ne (by decide +kernel)).trans ?_ | exact ext_same))
noncomputable def Gm38 : Gam := ext Gm37 (.fn "_law_number") g_law_number
noncomputable def g_law_due : Gv := fnG Gm38 5 5 b_law_due
noncomputable def Gm39 : Gam := ext Gm38 (.fn "_law_due") g_law_due
noncomputable def g_law_does : Gv := fnG Gm39 5 5 b_law_does
theorem lk_law_does_plain_put : Gm39 (.me 12 "put") = some g_plain_put := (by repeat (first | refine (ext_ne (by decide +kernel)).trans ?_ | exact ext_same))
theorem lk_law_does_plain_strike : Gm39 (.me 12 "strike") = some g_plain_strike := (by repeat (first | refine (ext_ne (by decide +kernel)).trans ?_ | exact ext_same))
theorem lk_law_does_plain_dress : Gm39 (.me 12 "dress") = some (pad 4 [.str ""] g_plain_dress) := (by repeat (first | refine (ext_ne (by decide +kernel)).trans ?_ | exact ext_same))
theorem lk_law_does_plain_move : Gm39 (.me 12 "move") = some g_plain_move := (by repeat (first | refine (ext_ne (by decide +kernel)).trans ?_ | exact ext_same))
noncomputable def Gm40 : Gam := ext Gm39 (.fn "_law_does") g_law_does
noncomputable def g_law_refused : Gv := fnG Gm40 5 7 b_law_refused
theorem lk_law_refused_n_quillerror : Gm40 (.cls "QuillError" 0) = some (fun _ _ => none) := (by repeat (first | refine (ext_ne (by decide +kernel)).trans ?_ | exact ext_same))
theorem lk_law_refused_n_outofplace : Gm40 (.cls "OutOfPlace" 1) = some (fun _ _ => none) := (by repeat (first | refine (ext_ne (by decide +kernel)).trans ?_ | exact ext_same))
theorem lk_law_refused_n_nostroke : Gm40 (.cls "NoStroke" 2) = some (fun _ _ => none) := (by repeat (first | refine (ext_ne (by decide +kernel)).trans ?_ | exact ext_same))
theorem lk_law_refused_n_decided : Gm40 (.cls "Decided" 3) = some (fun _ _ => none) := (by repeat (first | refine (ext_ne (by decide +kernel)).trans ?_ | exact ext_same))
theorem lk_law_refused_n_notyours : Gm40 (.cls "NotYours" 4) = some (fun _ _ => none) := (by repeat (first | refine (ext_ne (by decide +kernel)).trans ?_ | exact ext_same))
theorem lk_law_refused_n_leaned : Gm40 (.cls "Leaned" 5) = some (fun _ _ => none) := (by repeat (first | refine (ext_ne (by decide +kernel)).trans ?_ | exact ext_same))
theorem lk_law_refused_n_othertext : Gm40 (.cls "OtherText" 6) = some (fun _ _ => none) := (by repeat (first | refine (ext_ne (by decide +kernel)).trans ?_ | exact ext_same))
theorem lk_law_refused_n_twice : Gm40 (.cls "Twice" 7) = some (fun _ _ => none) := (by repeat (first | refine (ext_ne (by decide +kernel)).trans ?_ | exact ext_same))
theorem lk_law_refused_n_nonote : Gm40 (.cls "NoNote" 8) = some (fun _ _ => none) := (by repeat (first | refine (ext_ne (by decide +kernel)).trans ?_ | exact ext_same))
theorem lk_law_refused_n_toodeep : Gm40 (.cls "TooDeep" 9) = some (fun _ _ => none) := (by repeat (first | refine (ext_ne (by decide +kernel)).trans ?_ | exact ext_same))
theorem lk_law_refused_n_nopaper : Gm40 (.cls "NoPaper" 10) = some (fun _ _ => none) := (by repeat (first | refine (ext_ne (by decide +kernel)).trans ?_ | exact ext_same))
theorem lk_law_refused_n_norow : Gm40 (.cls "NoRow" 11) = some (fun _ _ => none) := (by repeat (first | refine (ext_ne (by decide +kernel)).trans ?_ | exact ext_same))
theorem lk_law_refused_u_outofplace_quillerror : Gm40 (.sub 1 0) = some (yn true) := (by repeat (first | refine (ext_ne (by decide +kernel)).trans ?_ | exact ext_same))
theorem lk_law_refused_u_outofplace_outofplace : Gm40 (.sub 1 1) = some (yn true) := (by repeat (first | refine (ext_ne (by decide +kernel)).trans ?_ | exact ext_same))
theorem lk_law_refused_u_outofplace_nostroke : Gm40 (.sub 1 2) = some (yn false) := (by repeat (first | refine (ext_ne (by decide +kernel)).trans ?_ | exact ext_same))
theorem lk_law_refused_u_outofplace_decided : Gm40 (.sub 1 3) = some (yn false) := (by repeat (first | refine (ext_ne (by decide +kernel)).trans ?_ | exact ext_same))
theorem lk_law_refused_u_outofplace_notyours : Gm40 (.sub 1 4) = some (yn false) := (by repeat (first | refine (ext_ne (by decide +kernel)).trans ?_ | exact ext_same))
theorem lk_law_refused_u_outofplace_leaned : Gm40 (.sub 1 5) = some (yn false) := (by repeat (first | refine (ext_ne (by decide +kernel)).trans ?_ | exact ext_same))
theorem lk_law_refused_u_outofplace_othertext : Gm40 (.sub 1 6) = some (yn false) := (by repeat (first | refine (ext_ne (by decide +kernel)).trans ?_ | exact ext_same))
theorem lk_law_refused_u_outofplace_twice : Gm40 (.sub 1 7) = some (yn false) := (by repeat (first | refine (ext_ne (by decide +kernel)).trans ?_ | exact ext_same))
theorem lk_law_refused_u_outofplace_nonote : Gm40 (.sub 1 8) = some (yn false) := (by repeat (first | refine (ext_ne (by decide +kernel)).trans ?_ | exact ext_same))
theorem lk_law_refused_u_outofplace_toodeep : Gm40 (.sub 1 9) = some (yn false) := (by repeat (first | refine (ext_ne (by decide +kernel)).trans ?_ | exact ext_same))
theorem lk_law_refused_u_outofplace_nopaper : Gm40 (.sub 1 10) = some (yn false) := (by repeat (first | refine (ext_ne (by decide +kernel)).trans ?_ | exact ext_same))
theorem lk_law_refused_u_outofplace_norow : Gm40 (.sub 1 11) = some (yn false) := (by repeat (first | refine (ext_ne (by decide +kernel)).trans ?_ | exact ext_same))
theorem lk_law_refused_v_outofplace : Gm40 (.subV 1) = some (yn true) := (by repeat (first | refine (ext_ne (by decide +kernel)).trans ?_ | exact ext_same))
theorem lk_law_refused_x_outofplace : Gm40 (.xf 1 "at") = some (fun _ _ => none) := (by repeat (first | refine (ext_ne (by decide +kernel)).trans ?_ | exact ext_same))
theorem lk_law_refused_law_does : Gm40 (.fn "_law_does") = some g_law_does := (by repeat (first | refine (ext_ne (by decide +kernel)).trans ?_ | exact ext_same))
noncomputable def Gm41 : Gam := ext Gm40 (.fn "_law_refused") g_law_refused
noncomputable def g_law : Gv := fnG Gm41 1 9 b_law
theorem lk_law_k_plain : Gm41 (.fn "Plain") = some (mkOf 12 g_plain_init) := (by repeat (first | refine (ext_ne (by decide +kernel)).trans ?_ | exact ext_same))
theorem lk_law_plain_rows : Gm41 (.me 12 "rows") = some g_plain_rows := (by repeat (first | refine (ext_ne (by decide +kernel)).trans ?_ | exact ext_same))
theorem lk_law_law_drawn : Gm41 (.fn "_law_drawn") = some g_law_drawn := (by repeat (first | refine (ext_ne (by decide +kernel)).trans ?_ | exact ext_same))
theorem lk_law_law_number : Gm41 (.fn "_law_number") = some g_law_number := (by repeat (first | refine (ext_ne (by decide +kernel)).trans ?_ | exact ext_same))
theorem lk_law_law_due : Gm41 (.fn "_law_due") = some g_law_due := (by repeat (first | refine (ext_ne (by decide +kernel)).trans ?_ | exact ext_same))
theorem lk_law_law_refused : Gm41 (.fn "_law_refused") = some g_law_refused := (by repeat (first | refine (ext_ne (by decide +kernel)).trans ?_ | exact ext_same))
end L14
-- TABLES L14
namespace L14
open PySem PySem.Spec
open PyProof.Rows hiding St
open L2 Hv
def pr (p : Nat × Str) : D := .tup [.str (SX.S [p.1]), .str p.2]
abbrev kr (l : List (Nat × Str)) : List D := l.map pr
theorem pl_kr (l : List (Nat × Str)) : pls (kr l) = true := pls_map (fun _ => rfl) l
theorem pl_fl_kr (l : List (Nat × Str)) : pl (.fl (kr l)) = true := by unfold pl; exact pl_kr l
abbrev plainC (l : List (Nat × Str)) : C := .obj 12 [("kept", .fl (kr l))]
theorem run_rows {S : Sto} {n : Nat} {l : List (Nat × Str)} (hs : S[n]? = some (plainC l)) : g_plain_rows S [.ref n] = some (.ok (.ref S.length) (S ++ [.lst (kr l)])) := by
  have hc : clC S.length (.lst (kr l)) := pl_lst (pl_kr l)
  unfold g_plain_rows b_plain_rows
  simp (disch := first | assumption | omega | exact id rfl | decide +kernel) only [List.map_cons, List.map_nil, List.length_cons, List.length_nil, bok, bex, mok, gok, gex, mook, thn_nx, thn_ret, thn_brk, thn_cnt, thn_exc, selB_some, kE2_e, kE1_e, evs_nil, evs_cons, kO1_e, evos_nil, evos_cons, kOp_e, ev_op, lift_some, ev_var, ev_non, ev_bl, ev_int, ev_str, kC2_e, pur_some', kC1_e, ev_cmp, kD2_e, kD1_e, ev_cmp2, kAnd_e, ev_and, kOr_e, ev_or, kNot_e, ev_not, kIfe_e, ev_ife, kG_e, kCall_e, ev_call, ev_qcall, kF3_e, kF2_e, kF_e, ev_fld, kMG_e, kM3_e, kM2_e, kM_e, ev_mcall, ev_frz, frz_new, frz_non, frz_int, frz_str, frz_bl, frz_tup, frz_fl, frz_kt, kGc_e, ev_gc, kGlob_e, ev_glob, kIsc3_e, kIsc2_e, kIsc_e, ev_isc, kXfld_e, ev_xfld, kXis_e, ev_xis, kIe_fl, evi_e, kIr_fl, evi_rev, kIt_tup, evi_tup, kIs_str, evi_str, kI1_int, evi_rng1, kI22_int, kI21_e, evi_rng2, kIn_fl, evi_enum, runs_nil, runs_cons, kA_e, nxO_some, run_asg, kAug_e, kAug0_e, run_aug, kS3_e, kS2_e, kS1_e, run_setI, kFs2_e, kFs1_e, run_fset, kX_e, run_expr, kR_e, run_ret, run_retN, run_brk, run_cnt, run_pass, tstV_e, tru_e, kIf_e, run_ite, kFor_e, run_for, kRs_1, kRs_0, kRaise_e, run_raise, run_faug, tel_e, kxs0_e, kxs_e, xisV_e, xisV_n, kHs_e, runHs_cons, runHs_nil, knH_c, knH_nil, run_try, inI_s, inI_n, kTri_exc, kTri_nx, kTri_ret, outO_ret, outO_nx, Hv.val, Hv.new, Hv.opW, op0, op1, op2, op3, Hv.binW, Hv.binI, Hv.ixW, slW2, slW, lenW, listW, tupleW, negW, sumW, minW, maxW, intW, Hv.intsD, Hv.cmpW, Hv.cmpG, Hv.cmpI, Hv.cmpS, isNonD, isiW, eq_nil_n, preW, isStrD, isIntD, isLstD, truth, setG, setGs, putS_0, putS_s, strNe, wipeS, Hv.noX, srcOf, seqS, tupD, addW, at_new, at_n1, at_n2, at_n3, at_n4, at_o1, at_o2, at_o3, at_o4, set_new, setFld, setFE, setFN, setF_nil, lookupE, lookupN, List.lookup_nil, outI, sizeLine_eq, gP_pos, Option.map_some, Option.map_none, Option.bind_some, Option.bind_none, Option.isSome_some, Option.isSome_none, Nat.reduceAdd, Nat.reduceSub, Nat.reduceLT, Nat.reduceLeDiff, Nat.reduceEqDiff, Nat.reduceBEq, Nat.reduceBNe, Int.reduceEq, Int.reduceLT, Int.reduceLE, Int.reduceAdd, Int.reduceMul, Int.reduceSub, Int.reduceNeg, Int.reduceToNat, Int.reducePow, List.replicate, List.cons_append, List.nil_append, List.getElem?_cons_zero, List.getElem?_cons_succ, List.getElem?_nil, List.set_cons_succ, List.set_cons_zero, if_true, if_false, ite_true, ite_false, Bool.false_eq_true, Bool.not_true, Bool.not_false, Bool.and_true, Bool.true_and, Bool.or_true, Bool.true_or, Bool.or_false, Bool.false_or, Bool.and_false, Bool.false_and, reduceCtorEq, eq_self, decide_true, decide_false, decide_not, List.take_succ_cons, List.take_zero, List.length_map, Int.toNat_natCast, fnG_0, fnG_1, fnG_2, fnG_3, fnG_4, fnG_5, fnG_6, fnG_7, fnG_8, out_ret, out_nx, out_exc, gcR_ok1, gcv_pl0, gcv_pl, gcv_p2, gcv_p3, gcv_p4, gcv_p5, gcv_p6, gcv_new, gcv_n2, gcv_n3, gcv_set0, gcv_set, gcv_set_new, gcR_x0, gcR_x00, gcR_x1, gcR_x10, bne_self_eq_false, beq_self_eq_true, bne_iff_ne, ne_eq, not_true_eq_false, not_false_eq_true, and_self, and_true, true_and, and_false, false_and, or_true, true_or, or_false, false_or, hs, lk_plain_rows_f_plain_kept]
theorem run_gap {S : Sto} {n : Nat} {l : List (Nat × Str)} {a : Int} (hs : S[n]? = some (plainC l)) (h0 : 0 ≤ a) (h1 : a ≤ l.length) : g_plain_ask_gap S [.ref n, .int a] = some (.ok .non S) := by
  unfold g_plain_ask_gap b_plain_ask_gap
  simp (disch := first | assumption | omega | exact id rfl | decide +kernel) only [List.map_cons, List.map_nil, List.length_cons, List.length_nil, bok, bex, mok, gok, gex, mook, thn_nx, thn_ret, thn_brk, thn_cnt, thn_exc, selB_some, kE2_e, kE1_e, evs_nil, evs_cons, kO1_e, evos_nil, evos_cons, kOp_e, ev_op, lift_some, ev_var, ev_non, ev_bl, ev_int, ev_str, kC2_e, pur_some', kC1_e, ev_cmp, kD2_e, kD1_e, ev_cmp2, kAnd_e, ev_and, kOr_e, ev_or, kNot_e, ev_not, kIfe_e, ev_ife, kG_e, kCall_e, ev_call, ev_qcall, kF3_e, kF2_e, kF_e, ev_fld, kMG_e, kM3_e, kM2_e, kM_e, ev_mcall, ev_frz, frz_new, frz_non, frz_int, frz_str, frz_bl, frz_tup, frz_fl, frz_kt, kGc_e, ev_gc, kGlob_e, ev_glob, kIsc3_e, kIsc2_e, kIsc_e, ev_isc, kXfld_e, ev_xfld, kXis_e, ev_xis, kIe_fl, evi_e, kIr_fl, evi_rev, kIt_tup, evi_tup, kIs_str, evi_str, kI1_int, evi_rng1, kI22_int, kI21_e, evi_rng2, kIn_fl, evi_enum, runs_nil, runs_cons, kA_e, nxO_some, run_asg, kAug_e, kAug0_e, run_aug, kS3_e, kS2_e, kS1_e, run_setI, kFs2_e, kFs1_e, run_fset, kX_e, run_expr, kR_e, run_ret, run_retN, run_brk, run_cnt, run_pass, tstV_e, tru_e, kIf_e, run_ite, kFor_e, run_for, kRs_1, kRs_0, kRaise_e, run_raise, run_faug, tel_e, kxs0_e, kxs_e, xisV_e, xisV_n, kHs_e, runHs_cons, runHs_nil, knH_c, knH_nil, run_try, inI_s, inI_n, kTri_exc, kTri_nx, kTri_ret, outO_ret, outO_nx, Hv.val, Hv.new, Hv.opW, op0, op1, op2, op3, Hv.binW, Hv.binI, Hv.ixW, slW2, slW, lenW, listW, tupleW, negW, sumW, minW, maxW, intW, Hv.intsD, Hv.cmpW, Hv.cmpG, Hv.cmpI, Hv.cmpS, isNonD, isiW, eq_nil_n, preW, isStrD, isIntD, isLstD, truth, setG, setGs, putS_0, putS_s, strNe, wipeS, Hv.noX, srcOf, seqS, tupD, addW, at_new, at_n1, at_n2, at_n3, at_n4, at_o1, at_o2, at_o3, at_o4, set_new, setFld, setFE, setFN, setF_nil, lookupE, lookupN, List.lookup_nil, outI, sizeLine_eq, gP_pos, Option.map_some, Option.map_none, Option.bind_some, Option.bind_none, Option.isSome_some, Option.isSome_none, Nat.reduceAdd, Nat.reduceSub, Nat.reduceLT, Nat.reduceLeDiff, Nat.reduceEqDiff, Nat.reduceBEq, Nat.reduceBNe, Int.reduceEq, Int.reduceLT, Int.reduceLE, Int.reduceAdd, Int.reduceMul, Int.reduceSub, Int.reduceNeg, Int.reduceToNat, Int.reducePow, List.replicate, List.cons_append, List.nil_append, List.getElem?_cons_zero, List.getElem?_cons_succ, List.getElem?_nil, List.set_cons_succ, List.set_cons_zero, if_true, if_false, ite_true, ite_false, Bool.false_eq_true, Bool.not_true, Bool.not_false, Bool.and_true, Bool.true_and, Bool.or_true, Bool.true_or, Bool.or_false, Bool.false_or, Bool.and_false, Bool.false_and, reduceCtorEq, eq_self, decide_true, decide_false, decide_not, List.take_succ_cons, List.take_zero, List.length_map, Int.toNat_natCast, fnG_0, fnG_1, fnG_2, fnG_3, fnG_4, fnG_5, fnG_6, fnG_7, fnG_8, out_ret, out_nx, out_exc, gcR_ok1, gcv_pl0, gcv_pl, gcv_p2, gcv_p3, gcv_p4, gcv_p5, gcv_p6, gcv_new, gcv_n2, gcv_n3, gcv_set0, gcv_set, gcv_set_new, gcR_x0, gcR_x00, gcR_x1, gcR_x10, bne_self_eq_false, beq_self_eq_true, bne_iff_ne, ne_eq, not_true_eq_false, not_false_eq_true, and_self, and_true, true_and, and_false, false_and, or_true, true_or, or_false, false_or, hs, lk_plain_ask_gap_f_plain_kept, lk_plain_ask_gap_r_outofplace, h0, h1, pl]
theorem run_gapX {S : Sto} {n : Nat} {l : List (Nat × Str)} {a : Int} (hs : S[n]? = some (plainC l)) (h : ¬ (0 ≤ a ∧ a ≤ l.length)) : g_plain_ask_gap S [.ref n, .int a] = some (.exc ⟨1, [("at", .int a)]⟩ S) := by
  unfold g_plain_ask_gap b_plain_ask_gap
  by_cases h0 : 0 ≤ a
  · have h1 : ¬ a ≤ l.length := fun z => h ⟨h0, z⟩
    simp (disch := first | assumption | omega | exact id rfl | decide +kernel) only [List.map_cons, List.map_nil, List.length_cons, List.length_nil, bok, bex, mok, gok, gex, mook, thn_nx, thn_ret, thn_brk, thn_cnt, thn_exc, selB_some, kE2_e, kE1_e, evs_nil, evs_cons, kO1_e, evos_nil, evos_cons, kOp_e, ev_op, lift_some, ev_var, ev_non, ev_bl, ev_int, ev_str, kC2_e, pur_some', kC1_e, ev_cmp, kD2_e, kD1_e, ev_cmp2, kAnd_e, ev_and, kOr_e, ev_or, kNot_e, ev_not, kIfe_e, ev_ife, kG_e, kCall_e, ev_call, ev_qcall, kF3_e, kF2_e, kF_e, ev_fld, kMG_e, kM3_e, kM2_e, kM_e, ev_mcall, ev_frz, frz_new, frz_non, frz_int, frz_str, frz_bl, frz_tup, frz_fl, frz_kt, kGc_e, ev_gc, kGlob_e, ev_glob, kIsc3_e, kIsc2_e, kIsc_e, ev_isc, kXfld_e, ev_xfld, kXis_e, ev_xis, kIe_fl, evi_e, kIr_fl, evi_rev, kIt_tup, evi_tup, kIs_str, evi_str, kI1_int, evi_rng1, kI22_int, kI21_e, evi_rng2, kIn_fl, evi_enum, runs_nil, runs_cons, kA_e, nxO_some, run_asg, kAug_e, kAug0_e, run_aug, kS3_e, kS2_e, kS1_e, run_setI, kFs2_e, kFs1_e, run_fset, kX_e, run_expr, kR_e, run_ret, run_retN, run_brk, run_cnt, run_pass, tstV_e, tru_e, kIf_e, run_ite, kFor_e, run_for, kRs_1, kRs_0, kRaise_e, run_raise, run_faug, tel_e, kxs0_e, kxs_e, xisV_e, xisV_n, kHs_e, runHs_cons, runHs_nil, knH_c, knH_nil, run_try, inI_s, inI_n, kTri_exc, kTri_nx, kTri_ret, outO_ret, outO_nx, Hv.val, Hv.new, Hv.opW, op0, op1, op2, op3, Hv.binW, Hv.binI, Hv.ixW, slW2, slW, lenW, listW, tupleW, negW, sumW, minW, maxW, intW, Hv.intsD, Hv.cmpW, Hv.cmpG, Hv.cmpI, Hv.cmpS, isNonD, isiW, eq_nil_n, preW, isStrD, isIntD, isLstD, truth, setG, setGs, putS_0, putS_s, strNe, wipeS, Hv.noX, srcOf, seqS, tupD, addW, at_new, at_n1, at_n2, at_n3, at_n4, at_o1, at_o2, at_o3, at_o4, set_new, setFld, setFE, setFN, setF_nil, lookupE, lookupN, List.lookup_nil, outI, sizeLine_eq, gP_pos, Option.map_some, Option.map_none, Option.bind_some, Option.bind_none, Option.isSome_some, Option.isSome_none, Nat.reduceAdd, Nat.reduceSub, Nat.reduceLT, Nat.reduceLeDiff, Nat.reduceEqDiff, Nat.reduceBEq, Nat.reduceBNe, Int.reduceEq, Int.reduceLT, Int.reduceLE, Int.reduceAdd, Int.reduceMul, Int.reduceSub, Int.reduceNeg, Int.reduceToNat, Int.reducePow, List.replicate, List.cons_append, List.nil_append, List.getElem?_cons_zero, List.getElem?_cons_succ, List.getElem?_nil, List.set_cons_succ, List.set_cons_zero, if_true, if_false, ite_true, ite_false, Bool.false_eq_true, Bool.not_true, Bool.not_false, Bool.and_true, Bool.true_and, Bool.or_true, Bool.true_or, Bool.or_false, Bool.false_or, Bool.and_false, Bool.false_and, reduceCtorEq, eq_self, decide_true, decide_false, decide_not, List.take_succ_cons, List.take_zero, List.length_map, Int.toNat_natCast, fnG_0, fnG_1, fnG_2, fnG_3, fnG_4, fnG_5, fnG_6, fnG_7, fnG_8, out_ret, out_nx, out_exc, gcR_ok1, gcv_pl0, gcv_pl, gcv_p2, gcv_p3, gcv_p4, gcv_p5, gcv_p6, gcv_new, gcv_n2, gcv_n3, gcv_set0, gcv_set, gcv_set_new, gcR_x0, gcR_x00, gcR_x1, gcR_x10, bne_self_eq_false, beq_self_eq_true, bne_iff_ne, ne_eq, not_true_eq_false, not_false_eq_true, and_self, and_true, true_and, and_false, false_and, or_true, true_or, or_false, false_or, hs, lk_plain_ask_gap_f_plain_kept, lk_plain_ask_gap_r_outofplace, h0, h1]
  · simp (disch := first | assumption | omega | exact id rfl | decide +kernel) only [List.map_cons, List.map_nil, List.length_cons, List.length_nil, bok, bex, mok, gok, gex, mook, thn_nx, thn_ret, thn_brk, thn_cnt, thn_exc, selB_some, kE2_e, kE1_e, evs_nil, evs_cons, kO1_e, evos_nil, evos_cons, kOp_e, ev_op, lift_some, ev_var, ev_non, ev_bl, ev_int, ev_str, kC2_e, pur_some', kC1_e, ev_cmp, kD2_e, kD1_e, ev_cmp2, kAnd_e, ev_and, kOr_e, ev_or, kNot_e, ev_not, kIfe_e, ev_ife, kG_e, kCall_e, ev_call, ev_qcall, kF3_e, kF2_e, kF_e, ev_fld, kMG_e, kM3_e, kM2_e, kM_e, ev_mcall, ev_frz, frz_new, frz_non, frz_int, frz_str, frz_bl, frz_tup, frz_fl, frz_kt, kGc_e, ev_gc, kGlob_e, ev_glob, kIsc3_e, kIsc2_e, kIsc_e, ev_isc, kXfld_e, ev_xfld, kXis_e, ev_xis, kIe_fl, evi_e, kIr_fl, evi_rev, kIt_tup, evi_tup, kIs_str, evi_str, kI1_int, evi_rng1, kI22_int, kI21_e, evi_rng2, kIn_fl, evi_enum, runs_nil, runs_cons, kA_e, nxO_some, run_asg, kAug_e, kAug0_e, run_aug, kS3_e, kS2_e, kS1_e, run_setI, kFs2_e, kFs1_e, run_fset, kX_e, run_expr, kR_e, run_ret, run_retN, run_brk, run_cnt, run_pass, tstV_e, tru_e, kIf_e, run_ite, kFor_e, run_for, kRs_1, kRs_0, kRaise_e, run_raise, run_faug, tel_e, kxs0_e, kxs_e, xisV_e, xisV_n, kHs_e, runHs_cons, runHs_nil, knH_c, knH_nil, run_try, inI_s, inI_n, kTri_exc, kTri_nx, kTri_ret, outO_ret, outO_nx, Hv.val, Hv.new, Hv.opW, op0, op1, op2, op3, Hv.binW, Hv.binI, Hv.ixW, slW2, slW, lenW, listW, tupleW, negW, sumW, minW, maxW, intW, Hv.intsD, Hv.cmpW, Hv.cmpG, Hv.cmpI, Hv.cmpS, isNonD, isiW, eq_nil_n, preW, isStrD, isIntD, isLstD, truth, setG, setGs, putS_0, putS_s, strNe, wipeS, Hv.noX, srcOf, seqS, tupD, addW, at_new, at_n1, at_n2, at_n3, at_n4, at_o1, at_o2, at_o3, at_o4, set_new, setFld, setFE, setFN, setF_nil, lookupE, lookupN, List.lookup_nil, outI, sizeLine_eq, gP_pos, Option.map_some, Option.map_none, Option.bind_some, Option.bind_none, Option.isSome_some, Option.isSome_none, Nat.reduceAdd, Nat.reduceSub, Nat.reduceLT, Nat.reduceLeDiff, Nat.reduceEqDiff, Nat.reduceBEq, Nat.reduceBNe, Int.reduceEq, Int.reduceLT, Int.reduceLE, Int.reduceAdd, Int.reduceMul, Int.reduceSub, Int.reduceNeg, Int.reduceToNat, Int.reducePow, List.replicate, List.cons_append, List.nil_append, List.getElem?_cons_zero, List.getElem?_cons_succ, List.getElem?_nil, List.set_cons_succ, List.set_cons_zero, if_true, if_false, ite_true, ite_false, Bool.false_eq_true, Bool.not_true, Bool.not_false, Bool.and_true, Bool.true_and, Bool.or_true, Bool.true_or, Bool.or_false, Bool.false_or, Bool.and_false, Bool.false_and, reduceCtorEq, eq_self, decide_true, decide_false, decide_not, List.take_succ_cons, List.take_zero, List.length_map, Int.toNat_natCast, fnG_0, fnG_1, fnG_2, fnG_3, fnG_4, fnG_5, fnG_6, fnG_7, fnG_8, out_ret, out_nx, out_exc, gcR_ok1, gcv_pl0, gcv_pl, gcv_p2, gcv_p3, gcv_p4, gcv_p5, gcv_p6, gcv_new, gcv_n2, gcv_n3, gcv_set0, gcv_set, gcv_set_new, gcR_x0, gcR_x00, gcR_x1, gcR_x10, bne_self_eq_false, beq_self_eq_true, bne_iff_ne, ne_eq, not_true_eq_false, not_false_eq_true, and_self, and_true, true_and, and_false, false_and, or_true, true_or, or_false, false_or, hs, lk_plain_ask_gap_f_plain_kept, lk_plain_ask_gap_r_outofplace, h0]

theorem run_stretch {S : Sto} {n : Nat} {l : List (Nat × Str)} {a b : Int} (hs : S[n]? = some (plainC l)) (h0 : 0 ≤ a) (h1 : a < b) (h2 : b ≤ l.length) : g_plain_ask_stretch S [.ref n, .int a, .int b] = some (.ok .non S) := by
  have h3 : a < l.length := by omega
  unfold g_plain_ask_stretch b_plain_ask_stretch
  simp (disch := first | assumption | omega | exact id rfl | decide +kernel) only [List.map_cons, List.map_nil, List.length_cons, List.length_nil, bok, bex, mok, gok, gex, mook, thn_nx, thn_ret, thn_brk, thn_cnt, thn_exc, selB_some, kE2_e, kE1_e, evs_nil, evs_cons, kO1_e, evos_nil, evos_cons, kOp_e, ev_op, lift_some, ev_var, ev_non, ev_bl, ev_int, ev_str, kC2_e, pur_some', kC1_e, ev_cmp, kD2_e, kD1_e, ev_cmp2, kAnd_e, ev_and, kOr_e, ev_or, kNot_e, ev_not, kIfe_e, ev_ife, kG_e, kCall_e, ev_call, ev_qcall, kF3_e, kF2_e, kF_e, ev_fld, kMG_e, kM3_e, kM2_e, kM_e, ev_mcall, ev_frz, frz_new, frz_non, frz_int, frz_str, frz_bl, frz_tup, frz_fl, frz_kt, kGc_e, ev_gc, kGlob_e, ev_glob, kIsc3_e, kIsc2_e, kIsc_e, ev_isc, kXfld_e, ev_xfld, kXis_e, ev_xis, kIe_fl, evi_e, kIr_fl, evi_rev, kIt_tup, evi_tup, kIs_str, evi_str, kI1_int, evi_rng1, kI22_int, kI21_e, evi_rng2, kIn_fl, evi_enum, runs_nil, runs_cons, kA_e, nxO_some, run_asg, kAug_e, kAug0_e, run_aug, kS3_e, kS2_e, kS1_e, run_setI, kFs2_e, kFs1_e, run_fset, kX_e, run_expr, kR_e, run_ret, run_retN, run_brk, run_cnt, run_pass, tstV_e, tru_e, kIf_e, run_ite, kFor_e, run_for, kRs_1, kRs_0, kRaise_e, run_raise, run_faug, tel_e, kxs0_e, kxs_e, xisV_e, xisV_n, kHs_e, runHs_cons, runHs_nil, knH_c, knH_nil, run_try, inI_s, inI_n, kTri_exc, kTri_nx, kTri_ret, outO_ret, outO_nx, Hv.val, Hv.new, Hv.opW, op0, op1, op2, op3, Hv.binW, Hv.binI, Hv.ixW, slW2, slW, lenW, listW, tupleW, negW, sumW, minW, maxW, intW, Hv.intsD, Hv.cmpW, Hv.cmpG, Hv.cmpI, Hv.cmpS, isNonD, isiW, eq_nil_n, preW, isStrD, isIntD, isLstD, truth, setG, setGs, putS_0, putS_s, strNe, wipeS, Hv.noX, srcOf, seqS, tupD, addW, at_new, at_n1, at_n2, at_n3, at_n4, at_o1, at_o2, at_o3, at_o4, set_new, setFld, setFE, setFN, setF_nil, lookupE, lookupN, List.lookup_nil, outI, sizeLine_eq, gP_pos, Option.map_some, Option.map_none, Option.bind_some, Option.bind_none, Option.isSome_some, Option.isSome_none, Nat.reduceAdd, Nat.reduceSub, Nat.reduceLT, Nat.reduceLeDiff, Nat.reduceEqDiff, Nat.reduceBEq, Nat.reduceBNe, Int.reduceEq, Int.reduceLT, Int.reduceLE, Int.reduceAdd, Int.reduceMul, Int.reduceSub, Int.reduceNeg, Int.reduceToNat, Int.reducePow, List.replicate, List.cons_append, List.nil_append, List.getElem?_cons_zero, List.getElem?_cons_succ, List.getElem?_nil, List.set_cons_succ, List.set_cons_zero, if_true, if_false, ite_true, ite_false, Bool.false_eq_true, Bool.not_true, Bool.not_false, Bool.and_true, Bool.true_and, Bool.or_true, Bool.true_or, Bool.or_false, Bool.false_or, Bool.and_false, Bool.false_and, reduceCtorEq, eq_self, decide_true, decide_false, decide_not, List.take_succ_cons, List.take_zero, List.length_map, Int.toNat_natCast, fnG_0, fnG_1, fnG_2, fnG_3, fnG_4, fnG_5, fnG_6, fnG_7, fnG_8, out_ret, out_nx, out_exc, gcR_ok1, gcv_pl0, gcv_pl, gcv_p2, gcv_p3, gcv_p4, gcv_p5, gcv_p6, gcv_new, gcv_n2, gcv_n3, gcv_set0, gcv_set, gcv_set_new, gcR_x0, gcR_x00, gcR_x1, gcR_x10, bne_self_eq_false, beq_self_eq_true, bne_iff_ne, ne_eq, not_true_eq_false, not_false_eq_true, and_self, and_true, true_and, and_false, false_and, or_true, true_or, or_false, false_or, hs, lk_plain_ask_stretch_f_plain_kept, lk_plain_ask_stretch_r_outofplace, h0, h1, h2, h3, pl]
theorem run_stretchX1 {S : Sto} {n : Nat} {l : List (Nat × Str)} {a b : Int} (hs : S[n]? = some (plainC l)) (h : ¬ (0 ≤ a ∧ a < l.length)) : g_plain_ask_stretch S [.ref n, .int a, .int b] = some (.exc ⟨1, [("at", .int a)]⟩ S) := by
  unfold g_plain_ask_stretch b_plain_ask_stretch
  by_cases h0 : 0 ≤ a
  · have h1 : ¬ a < l.length := fun z => h ⟨h0, z⟩
    simp (disch := first | assumption | omega | exact id rfl | decide +kernel) only [List.map_cons, List.map_nil, List.length_cons, List.length_nil, bok, bex, mok, gok, gex, mook, thn_nx, thn_ret, thn_brk, thn_cnt, thn_exc, selB_some, kE2_e, kE1_e, evs_nil, evs_cons, kO1_e, evos_nil, evos_cons, kOp_e, ev_op, lift_some, ev_var, ev_non, ev_bl, ev_int, ev_str, kC2_e, pur_some', kC1_e, ev_cmp, kD2_e, kD1_e, ev_cmp2, kAnd_e, ev_and, kOr_e, ev_or, kNot_e, ev_not, kIfe_e, ev_ife, kG_e, kCall_e, ev_call, ev_qcall, kF3_e, kF2_e, kF_e, ev_fld, kMG_e, kM3_e, kM2_e, kM_e, ev_mcall, ev_frz, frz_new, frz_non, frz_int, frz_str, frz_bl, frz_tup, frz_fl, frz_kt, kGc_e, ev_gc, kGlob_e, ev_glob, kIsc3_e, kIsc2_e, kIsc_e, ev_isc, kXfld_e, ev_xfld, kXis_e, ev_xis, kIe_fl, evi_e, kIr_fl, evi_rev, kIt_tup, evi_tup, kIs_str, evi_str, kI1_int, evi_rng1, kI22_int, kI21_e, evi_rng2, kIn_fl, evi_enum, runs_nil, runs_cons, kA_e, nxO_some, run_asg, kAug_e, kAug0_e, run_aug, kS3_e, kS2_e, kS1_e, run_setI, kFs2_e, kFs1_e, run_fset, kX_e, run_expr, kR_e, run_ret, run_retN, run_brk, run_cnt, run_pass, tstV_e, tru_e, kIf_e, run_ite, kFor_e, run_for, kRs_1, kRs_0, kRaise_e, run_raise, run_faug, tel_e, kxs0_e, kxs_e, xisV_e, xisV_n, kHs_e, runHs_cons, runHs_nil, knH_c, knH_nil, run_try, inI_s, inI_n, kTri_exc, kTri_nx, kTri_ret, outO_ret, outO_nx, Hv.val, Hv.new, Hv.opW, op0, op1, op2, op3, Hv.binW, Hv.binI, Hv.ixW, slW2, slW, lenW, listW, tupleW, negW, sumW, minW, maxW, intW, Hv.intsD, Hv.cmpW, Hv.cmpG, Hv.cmpI, Hv.cmpS, isNonD, isiW, eq_nil_n, preW, isStrD, isIntD, isLstD, truth, setG, setGs, putS_0, putS_s, strNe, wipeS, Hv.noX, srcOf, seqS, tupD, addW, at_new, at_n1, at_n2, at_n3, at_n4, at_o1, at_o2, at_o3, at_o4, set_new, setFld, setFE, setFN, setF_nil, lookupE, lookupN, List.lookup_nil, outI, sizeLine_eq, gP_pos, Option.map_some, Option.map_none, Option.bind_some, Option.bind_none, Option.isSome_some, Option.isSome_none, Nat.reduceAdd, Nat.reduceSub, Nat.reduceLT, Nat.reduceLeDiff, Nat.reduceEqDiff, Nat.reduceBEq, Nat.reduceBNe, Int.reduceEq, Int.reduceLT, Int.reduceLE, Int.reduceAdd, Int.reduceMul, Int.reduceSub, Int.reduceNeg, Int.reduceToNat, Int.reducePow, List.replicate, List.cons_append, List.nil_append, List.getElem?_cons_zero, List.getElem?_cons_succ, List.getElem?_nil, List.set_cons_succ, List.set_cons_zero, if_true, if_false, ite_true, ite_false, Bool.false_eq_true, Bool.not_true, Bool.not_false, Bool.and_true, Bool.true_and, Bool.or_true, Bool.true_or, Bool.or_false, Bool.false_or, Bool.and_false, Bool.false_and, reduceCtorEq, eq_self, decide_true, decide_false, decide_not, List.take_succ_cons, List.take_zero, List.length_map, Int.toNat_natCast, fnG_0, fnG_1, fnG_2, fnG_3, fnG_4, fnG_5, fnG_6, fnG_7, fnG_8, out_ret, out_nx, out_exc, gcR_ok1, gcv_pl0, gcv_pl, gcv_p2, gcv_p3, gcv_p4, gcv_p5, gcv_p6, gcv_new, gcv_n2, gcv_n3, gcv_set0, gcv_set, gcv_set_new, gcR_x0, gcR_x00, gcR_x1, gcR_x10, bne_self_eq_false, beq_self_eq_true, bne_iff_ne, ne_eq, not_true_eq_false, not_false_eq_true, and_self, and_true, true_and, and_false, false_and, or_true, true_or, or_false, false_or, hs, lk_plain_ask_stretch_f_plain_kept, lk_plain_ask_stretch_r_outofplace, h0, h1]
  · simp (disch := first | assumption | omega | exact id rfl | decide +kernel) only [List.map_cons, List.map_nil, List.length_cons, List.length_nil, bok, bex, mok, gok, gex, mook, thn_nx, thn_ret, thn_brk, thn_cnt, thn_exc, selB_some, kE2_e, kE1_e, evs_nil, evs_cons, kO1_e, evos_nil, evos_cons, kOp_e, ev_op, lift_some, ev_var, ev_non, ev_bl, ev_int, ev_str, kC2_e, pur_some', kC1_e, ev_cmp, kD2_e, kD1_e, ev_cmp2, kAnd_e, ev_and, kOr_e, ev_or, kNot_e, ev_not, kIfe_e, ev_ife, kG_e, kCall_e, ev_call, ev_qcall, kF3_e, kF2_e, kF_e, ev_fld, kMG_e, kM3_e, kM2_e, kM_e, ev_mcall, ev_frz, frz_new, frz_non, frz_int, frz_str, frz_bl, frz_tup, frz_fl, frz_kt, kGc_e, ev_gc, kGlob_e, ev_glob, kIsc3_e, kIsc2_e, kIsc_e, ev_isc, kXfld_e, ev_xfld, kXis_e, ev_xis, kIe_fl, evi_e, kIr_fl, evi_rev, kIt_tup, evi_tup, kIs_str, evi_str, kI1_int, evi_rng1, kI22_int, kI21_e, evi_rng2, kIn_fl, evi_enum, runs_nil, runs_cons, kA_e, nxO_some, run_asg, kAug_e, kAug0_e, run_aug, kS3_e, kS2_e, kS1_e, run_setI, kFs2_e, kFs1_e, run_fset, kX_e, run_expr, kR_e, run_ret, run_retN, run_brk, run_cnt, run_pass, tstV_e, tru_e, kIf_e, run_ite, kFor_e, run_for, kRs_1, kRs_0, kRaise_e, run_raise, run_faug, tel_e, kxs0_e, kxs_e, xisV_e, xisV_n, kHs_e, runHs_cons, runHs_nil, knH_c, knH_nil, run_try, inI_s, inI_n, kTri_exc, kTri_nx, kTri_ret, outO_ret, outO_nx, Hv.val, Hv.new, Hv.opW, op0, op1, op2, op3, Hv.binW, Hv.binI, Hv.ixW, slW2, slW, lenW, listW, tupleW, negW, sumW, minW, maxW, intW, Hv.intsD, Hv.cmpW, Hv.cmpG, Hv.cmpI, Hv.cmpS, isNonD, isiW, eq_nil_n, preW, isStrD, isIntD, isLstD, truth, setG, setGs, putS_0, putS_s, strNe, wipeS, Hv.noX, srcOf, seqS, tupD, addW, at_new, at_n1, at_n2, at_n3, at_n4, at_o1, at_o2, at_o3, at_o4, set_new, setFld, setFE, setFN, setF_nil, lookupE, lookupN, List.lookup_nil, outI, sizeLine_eq, gP_pos, Option.map_some, Option.map_none, Option.bind_some, Option.bind_none, Option.isSome_some, Option.isSome_none, Nat.reduceAdd, Nat.reduceSub, Nat.reduceLT, Nat.reduceLeDiff, Nat.reduceEqDiff, Nat.reduceBEq, Nat.reduceBNe, Int.reduceEq, Int.reduceLT, Int.reduceLE, Int.reduceAdd, Int.reduceMul, Int.reduceSub, Int.reduceNeg, Int.reduceToNat, Int.reducePow, List.replicate, List.cons_append, List.nil_append, List.getElem?_cons_zero, List.getElem?_cons_succ, List.getElem?_nil, List.set_cons_succ, List.set_cons_zero, if_true, if_false, ite_true, ite_false, Bool.false_eq_true, Bool.not_true, Bool.not_false, Bool.and_true, Bool.true_and, Bool.or_true, Bool.true_or, Bool.or_false, Bool.false_or, Bool.and_false, Bool.false_and, reduceCtorEq, eq_self, decide_true, decide_false, decide_not, List.take_succ_cons, List.take_zero, List.length_map, Int.toNat_natCast, fnG_0, fnG_1, fnG_2, fnG_3, fnG_4, fnG_5, fnG_6, fnG_7, fnG_8, out_ret, out_nx, out_exc, gcR_ok1, gcv_pl0, gcv_pl, gcv_p2, gcv_p3, gcv_p4, gcv_p5, gcv_p6, gcv_new, gcv_n2, gcv_n3, gcv_set0, gcv_set, gcv_set_new, gcR_x0, gcR_x00, gcR_x1, gcR_x10, bne_self_eq_false, beq_self_eq_true, bne_iff_ne, ne_eq, not_true_eq_false, not_false_eq_true, and_self, and_true, true_and, and_false, false_and, or_true, true_or, or_false, false_or, hs, lk_plain_ask_stretch_f_plain_kept, lk_plain_ask_stretch_r_outofplace, h0]
theorem run_stretchX2 {S : Sto} {n : Nat} {l : List (Nat × Str)} {a b : Int} (hs : S[n]? = some (plainC l)) (h0 : 0 ≤ a) (h1 : a < l.length) (h : ¬ (a < b ∧ b ≤ l.length)) : g_plain_ask_stretch S [.ref n, .int a, .int b] = some (.exc ⟨1, [("at", .int b)]⟩ S) := by
  unfold g_plain_ask_stretch b_plain_ask_stretch
  by_cases h2 : a < b
  · have h3 : ¬ b ≤ l.length := fun z => h ⟨h2, z⟩
    simp (disch := first | assumption | omega | exact id rfl | decide +kernel) only [List.map_cons, List.map_nil, List.length_cons, List.length_nil, bok, bex, mok, gok, gex, mook, thn_nx, thn_ret, thn_brk, thn_cnt, thn_exc, selB_some, kE2_e, kE1_e, evs_nil, evs_cons, kO1_e, evos_nil, evos_cons, kOp_e, ev_op, lift_some, ev_var, ev_non, ev_bl, ev_int, ev_str, kC2_e, pur_some', kC1_e, ev_cmp, kD2_e, kD1_e, ev_cmp2, kAnd_e, ev_and, kOr_e, ev_or, kNot_e, ev_not, kIfe_e, ev_ife, kG_e, kCall_e, ev_call, ev_qcall, kF3_e, kF2_e, kF_e, ev_fld, kMG_e, kM3_e, kM2_e, kM_e, ev_mcall, ev_frz, frz_new, frz_non, frz_int, frz_str, frz_bl, frz_tup, frz_fl, frz_kt, kGc_e, ev_gc, kGlob_e, ev_glob, kIsc3_e, kIsc2_e, kIsc_e, ev_isc, kXfld_e, ev_xfld, kXis_e, ev_xis, kIe_fl, evi_e, kIr_fl, evi_rev, kIt_tup, evi_tup, kIs_str, evi_str, kI1_int, evi_rng1, kI22_int, kI21_e, evi_rng2, kIn_fl, evi_enum, runs_nil, runs_cons, kA_e, nxO_some, run_asg, kAug_e, kAug0_e, run_aug, kS3_e, kS2_e, kS1_e, run_setI, kFs2_e, kFs1_e, run_fset, kX_e, run_expr, kR_e, run_ret, run_retN, run_brk, run_cnt, run_pass, tstV_e, tru_e, kIf_e, run_ite, kFor_e, run_for, kRs_1, kRs_0, kRaise_e, run_raise, run_faug, tel_e, kxs0_e, kxs_e, xisV_e, xisV_n, kHs_e, runHs_cons, runHs_nil, knH_c, knH_nil, run_try, inI_s, inI_n, kTri_exc, kTri_nx, kTri_ret, outO_ret, outO_nx, Hv.val, Hv.new, Hv.opW, op0, op1, op2, op3, Hv.binW, Hv.binI, Hv.ixW, slW2, slW, lenW, listW, tupleW, negW, sumW, minW, maxW, intW, Hv.intsD, Hv.cmpW, Hv.cmpG, Hv.cmpI, Hv.cmpS, isNonD, isiW, eq_nil_n, preW, isStrD, isIntD, isLstD, truth, setG, setGs, putS_0, putS_s, strNe, wipeS, Hv.noX, srcOf, seqS, tupD, addW, at_new, at_n1, at_n2, at_n3, at_n4, at_o1, at_o2, at_o3, at_o4, set_new, setFld, setFE, setFN, setF_nil, lookupE, lookupN, List.lookup_nil, outI, sizeLine_eq, gP_pos, Option.map_some, Option.map_none, Option.bind_some, Option.bind_none, Option.isSome_some, Option.isSome_none, Nat.reduceAdd, Nat.reduceSub, Nat.reduceLT, Nat.reduceLeDiff, Nat.reduceEqDiff, Nat.reduceBEq, Nat.reduceBNe, Int.reduceEq, Int.reduceLT, Int.reduceLE, Int.reduceAdd, Int.reduceMul, Int.reduceSub, Int.reduceNeg, Int.reduceToNat, Int.reducePow, List.replicate, List.cons_append, List.nil_append, List.getElem?_cons_zero, List.getElem?_cons_succ, List.getElem?_nil, List.set_cons_succ, List.set_cons_zero, if_true, if_false, ite_true, ite_false, Bool.false_eq_true, Bool.not_true, Bool.not_false, Bool.and_true, Bool.true_and, Bool.or_true, Bool.true_or, Bool.or_false, Bool.false_or, Bool.and_false, Bool.false_and, reduceCtorEq, eq_self, decide_true, decide_false, decide_not, List.take_succ_cons, List.take_zero, List.length_map, Int.toNat_natCast, fnG_0, fnG_1, fnG_2, fnG_3, fnG_4, fnG_5, fnG_6, fnG_7, fnG_8, out_ret, out_nx, out_exc, gcR_ok1, gcv_pl0, gcv_pl, gcv_p2, gcv_p3, gcv_p4, gcv_p5, gcv_p6, gcv_new, gcv_n2, gcv_n3, gcv_set0, gcv_set, gcv_set_new, gcR_x0, gcR_x00, gcR_x1, gcR_x10, bne_self_eq_false, beq_self_eq_true, bne_iff_ne, ne_eq, not_true_eq_false, not_false_eq_true, and_self, and_true, true_and, and_false, false_and, or_true, true_or, or_false, false_or, hs, lk_plain_ask_stretch_f_plain_kept, lk_plain_ask_stretch_r_outofplace, h0, h1, h2, h3]
  · simp (disch := first | assumption | omega | exact id rfl | decide +kernel) only [List.map_cons, List.map_nil, List.length_cons, List.length_nil, bok, bex, mok, gok, gex, mook, thn_nx, thn_ret, thn_brk, thn_cnt, thn_exc, selB_some, kE2_e, kE1_e, evs_nil, evs_cons, kO1_e, evos_nil, evos_cons, kOp_e, ev_op, lift_some, ev_var, ev_non, ev_bl, ev_int, ev_str, kC2_e, pur_some', kC1_e, ev_cmp, kD2_e, kD1_e, ev_cmp2, kAnd_e, ev_and, kOr_e, ev_or, kNot_e, ev_not, kIfe_e, ev_ife, kG_e, kCall_e, ev_call, ev_qcall, kF3_e, kF2_e, kF_e, ev_fld, kMG_e, kM3_e, kM2_e, kM_e, ev_mcall, ev_frz, frz_new, frz_non, frz_int, frz_str, frz_bl, frz_tup, frz_fl, frz_kt, kGc_e, ev_gc, kGlob_e, ev_glob, kIsc3_e, kIsc2_e, kIsc_e, ev_isc, kXfld_e, ev_xfld, kXis_e, ev_xis, kIe_fl, evi_e, kIr_fl, evi_rev, kIt_tup, evi_tup, kIs_str, evi_str, kI1_int, evi_rng1, kI22_int, kI21_e, evi_rng2, kIn_fl, evi_enum, runs_nil, runs_cons, kA_e, nxO_some, run_asg, kAug_e, kAug0_e, run_aug, kS3_e, kS2_e, kS1_e, run_setI, kFs2_e, kFs1_e, run_fset, kX_e, run_expr, kR_e, run_ret, run_retN, run_brk, run_cnt, run_pass, tstV_e, tru_e, kIf_e, run_ite, kFor_e, run_for, kRs_1, kRs_0, kRaise_e, run_raise, run_faug, tel_e, kxs0_e, kxs_e, xisV_e, xisV_n, kHs_e, runHs_cons, runHs_nil, knH_c, knH_nil, run_try, inI_s, inI_n, kTri_exc, kTri_nx, kTri_ret, outO_ret, outO_nx, Hv.val, Hv.new, Hv.opW, op0, op1, op2, op3, Hv.binW, Hv.binI, Hv.ixW, slW2, slW, lenW, listW, tupleW, negW, sumW, minW, maxW, intW, Hv.intsD, Hv.cmpW, Hv.cmpG, Hv.cmpI, Hv.cmpS, isNonD, isiW, eq_nil_n, preW, isStrD, isIntD, isLstD, truth, setG, setGs, putS_0, putS_s, strNe, wipeS, Hv.noX, srcOf, seqS, tupD, addW, at_new, at_n1, at_n2, at_n3, at_n4, at_o1, at_o2, at_o3, at_o4, set_new, setFld, setFE, setFN, setF_nil, lookupE, lookupN, List.lookup_nil, outI, sizeLine_eq, gP_pos, Option.map_some, Option.map_none, Option.bind_some, Option.bind_none, Option.isSome_some, Option.isSome_none, Nat.reduceAdd, Nat.reduceSub, Nat.reduceLT, Nat.reduceLeDiff, Nat.reduceEqDiff, Nat.reduceBEq, Nat.reduceBNe, Int.reduceEq, Int.reduceLT, Int.reduceLE, Int.reduceAdd, Int.reduceMul, Int.reduceSub, Int.reduceNeg, Int.reduceToNat, Int.reducePow, List.replicate, List.cons_append, List.nil_append, List.getElem?_cons_zero, List.getElem?_cons_succ, List.getElem?_nil, List.set_cons_succ, List.set_cons_zero, if_true, if_false, ite_true, ite_false, Bool.false_eq_true, Bool.not_true, Bool.not_false, Bool.and_true, Bool.true_and, Bool.or_true, Bool.true_or, Bool.or_false, Bool.false_or, Bool.and_false, Bool.false_and, reduceCtorEq, eq_self, decide_true, decide_false, decide_not, List.take_succ_cons, List.take_zero, List.length_map, Int.toNat_natCast, fnG_0, fnG_1, fnG_2, fnG_3, fnG_4, fnG_5, fnG_6, fnG_7, fnG_8, out_ret, out_nx, out_exc, gcR_ok1, gcv_pl0, gcv_pl, gcv_p2, gcv_p3, gcv_p4, gcv_p5, gcv_p6, gcv_new, gcv_n2, gcv_n3, gcv_set0, gcv_set, gcv_set_new, gcR_x0, gcR_x00, gcR_x1, gcR_x10, bne_self_eq_false, beq_self_eq_true, bne_iff_ne, ne_eq, not_true_eq_false, not_false_eq_true, and_self, and_true, true_and, and_false, false_and, or_true, true_or, or_false, false_or, hs, lk_plain_ask_stretch_f_plain_kept, lk_plain_ask_stretch_r_outofplace, h0, h1, h2]
def bare (l : List Nat) : List (Nat × Str) := l.map fun c => (c, "")
theorem kr_app (a b : List (Nat × Str)) : kr a ++ kr b = kr (a ++ b) := (List.map_append ..).symm
theorem kr_take (a : List (Nat × Str)) (n : Nat) : (kr a).take n = kr (a.take n) := (List.map_take ..).symm
theorem kr_drop (a : List (Nat × Str)) (n : Nat) : (kr a).drop n = kr (a.drop n) := (List.map_drop ..).symm
theorem kr_len (a : List (Nat × Str)) : (kr a).length = a.length := List.length_map _
theorem strD_S (t : List Nat) : strD (SX.S t) = t.map fun c => .str (SX.S [c]) := rfl
theorem kr_bare (t : List Nat) : (strD (SX.S t)).map (fun x => D.tup [x, .str ""]) = kr (bare t) := by rw [strD_S]; simp [kr, bare, pr, Function.comp_def]
theorem lc_signs {Γ : Gam} {S : Sto} {nm : Str} {i : Nat} {e : E} {σ : List Sl} {t : List Nat} (hi : i < σ.length) (he : ev Γ e σ S = some (.ok (.str (SX.S t)) S)) (hn : t.length ≤ 16777216) :
    ev Γ (.lc [(nm, i)] (.nm i) (.str e) .none (.op .tup (.cons (.var i) (.cons (.str "") .nil)))) σ S = some (.ok (.ref S.length) (S ++ [.lst (kr (bare t))])) := by
  rw [← kr_bare]
  refine ev_lcm (src := []) (fun x => D.tup [x, .str ""]) (by simp only [Hv.evi, he, bok, mok]) trivial (by rw [strD_S, List.length_map]; exact hn) fun x hx => ?_
  have hl : i < (wipeS (noX σ) [i]).length := by simp [wipeS, noX, hi]
  have e2 : ((wipeS (noX σ) [i]).set i (.v x))[i]? = some (.v x) := by rw [List.getElem?_set_self hl]
  refine ⟨(wipeS (noX σ) [i]).set i (.v x), putS_pos hl, ?_⟩
  generalize (wipeS (noX σ) [i]).set i (.v x) = σ' at e2
  simp (disch := first | assumption | omega | exact id rfl | decide +kernel) only [List.map_cons, List.map_nil, List.length_cons, List.length_nil, bok, bex, mok, gok, gex, mook, thn_nx, thn_ret, thn_brk, thn_cnt, thn_exc, selB_some, kE2_e, kE1_e, evs_nil, evs_cons, kO1_e, evos_nil, evos_cons, kOp_e, ev_op, lift_some, ev_var, ev_non, ev_bl, ev_int, ev_str, kC2_e, pur_some', kC1_e, ev_cmp, kD2_e, kD1_e, ev_cmp2, kAnd_e, ev_and, kOr_e, ev_or, kNot_e, ev_not, kIfe_e, ev_ife, kG_e, kCall_e, ev_call, ev_qcall, kF3_e, kF2_e, kF_e, ev_fld, kMG_e, kM3_e, kM2_e, kM_e, ev_mcall, ev_frz, frz_new, frz_non, frz_int, frz_str, frz_bl, frz_tup, frz_fl, frz_kt, kGc_e, ev_gc, kGlob_e, ev_glob, kIsc3_e, kIsc2_e, kIsc_e, ev_isc, kXfld_e, ev_xfld, kXis_e, ev_xis, kIe_fl, evi_e, kIr_fl, evi_rev, kIt_tup, evi_tup, kIs_str, evi_str, kI1_int, evi_rng1, kI22_int, kI21_e, evi_rng2, kIn_fl, evi_enum, runs_nil, runs_cons, kA_e, nxO_some, run_asg, kAug_e, kAug0_e, run_aug, kS3_e, kS2_e, kS1_e, run_setI, kFs2_e, kFs1_e, run_fset, kX_e, run_expr, kR_e, run_ret, run_retN, run_brk, run_cnt, run_pass, tstV_e, tru_e, kIf_e, run_ite, kFor_e, run_for, kRs_1, kRs_0, kRaise_e, run_raise, run_faug, tel_e, kxs0_e, kxs_e, xisV_e, xisV_n, kHs_e, runHs_cons, runHs_nil, knH_c, knH_nil, run_try, inI_s, inI_n, kTri_exc, kTri_nx, kTri_ret, outO_ret, outO_nx, Hv.val, Hv.new, Hv.opW, op0, op1, op2, op3, Hv.binW, Hv.binI, Hv.ixW, slW2, slW, lenW, listW, tupleW, negW, sumW, minW, maxW, intW, Hv.intsD, Hv.cmpW, Hv.cmpG, Hv.cmpI, Hv.cmpS, isNonD, isiW, eq_nil_n, preW, isStrD, isIntD, isLstD, truth, setG, setGs, putS_0, putS_s, strNe, wipeS, Hv.noX, srcOf, seqS, tupD, addW, at_new, at_n1, at_n2, at_n3, at_n4, at_o1, at_o2, at_o3, at_o4, set_new, setFld, setFE, setFN, setF_nil, lookupE, lookupN, List.lookup_nil, outI, sizeLine_eq, gP_pos, Option.map_some, Option.map_none, Option.bind_some, Option.bind_none, Option.isSome_some, Option.isSome_none, Nat.reduceAdd, Nat.reduceSub, Nat.reduceLT, Nat.reduceLeDiff, Nat.reduceEqDiff, Nat.reduceBEq, Nat.reduceBNe, Int.reduceEq, Int.reduceLT, Int.reduceLE, Int.reduceAdd, Int.reduceMul, Int.reduceSub, Int.reduceNeg, Int.reduceToNat, Int.reducePow, List.replicate, List.cons_append, List.nil_append, List.getElem?_cons_zero, List.getElem?_cons_succ, List.getElem?_nil, List.set_cons_succ, List.set_cons_zero, if_true, if_false, ite_true, ite_false, Bool.false_eq_true, Bool.not_true, Bool.not_false, Bool.and_true, Bool.true_and, Bool.or_true, Bool.true_or, Bool.or_false, Bool.false_or, Bool.and_false, Bool.false_and, reduceCtorEq, eq_self, decide_true, decide_false, decide_not, List.take_succ_cons, List.take_zero, List.length_map, Int.toNat_natCast, fnG_0, fnG_1, fnG_2, fnG_3, fnG_4, fnG_5, fnG_6, fnG_7, fnG_8, out_ret, out_nx, out_exc, gcR_ok1, gcv_pl0, gcv_pl, gcv_p2, gcv_p3, gcv_p4, gcv_p5, gcv_p6, gcv_new, gcv_n2, gcv_n3, gcv_set0, gcv_set, gcv_set_new, gcR_x0, gcR_x00, gcR_x1, gcR_x10, bne_self_eq_false, beq_self_eq_true, bne_iff_ne, ne_eq, not_true_eq_false, not_false_eq_true, and_self, and_true, true_and, and_false, false_and, or_true, true_or, or_false, false_or, e2]
theorem run_init {S : Sto} {t : List Nat} (hl : t.length ≤ 1000) : mkOf 12 g_plain_init S [.str (SX.S t)] = some (.ok (.ref S.length) (S ++ [plainC (bare t)])) := by
  refine mkOf_ok ?_
  have hp : pls (kr (bare t)) = true := pl_kr _
  have e : ev Gm28 (.gc (.frz c_plain_init_1)) [.v (.ref S.length), .v (.str (SX.S t)), .out] (S ++ [.obj 12 []]) = some (.ok (.fl (kr (bare t))) (S ++ [.obj 12 []])) :=
    ev_gcf0 (lc_signs (by simp) (by simp only [List.map_cons, List.map_nil, List.length_cons, List.length_nil, bok, bex, mok, gok, gex, mook, thn_nx, thn_ret, thn_brk, thn_cnt, thn_exc, selB_some, kE2_e, kE1_e, evs_nil, evs_cons, kO1_e, evos_nil, evos_cons, kOp_e, ev_op, lift_some, ev_var, ev_non, ev_bl, ev_int, ev_str, kC2_e, pur_some', kC1_e, ev_cmp, kD2_e, kD1_e, ev_cmp2, kAnd_e, ev_and, kOr_e, ev_or, kNot_e, ev_not, kIfe_e, ev_ife, kG_e, kCall_e, ev_call, ev_qcall, kF3_e, kF2_e, kF_e, ev_fld, kMG_e, kM3_e, kM2_e, kM_e, ev_mcall, ev_frz, frz_new, frz_non, frz_int, frz_str, frz_bl, frz_tup, frz_fl, frz_kt, kGc_e, ev_gc, kGlob_e, ev_glob, kIsc3_e, kIsc2_e, kIsc_e, ev_isc, kXfld_e, ev_xfld, kXis_e, ev_xis, kIe_fl, evi_e, kIr_fl, evi_rev, kIt_tup, evi_tup, kIs_str, evi_str, kI1_int, evi_rng1, kI22_int, kI21_e, evi_rng2, kIn_fl, evi_enum, runs_nil, runs_cons, kA_e, nxO_some, run_asg, kAug_e, kAug0_e, run_aug, kS3_e, kS2_e, kS1_e, run_setI, kFs2_e, kFs1_e, run_fset, kX_e, run_expr, kR_e, run_ret, run_retN, run_brk, run_cnt, run_pass, tstV_e, tru_e, kIf_e, run_ite, kFor_e, run_for, kRs_1, kRs_0, kRaise_e, run_raise, run_faug, tel_e, kxs0_e, kxs_e, xisV_e, xisV_n, kHs_e, runHs_cons, runHs_nil, knH_c, knH_nil, run_try, inI_s, inI_n, kTri_exc, kTri_nx, kTri_ret, outO_ret, outO_nx, Hv.val, Hv.new, Hv.opW, op0, op1, op2, op3, Hv.binW, Hv.binI, Hv.ixW, slW2, slW, lenW, listW, tupleW, negW, sumW, minW, maxW, intW, Hv.intsD, Hv.cmpW, Hv.cmpG, Hv.cmpI, Hv.cmpS, isNonD, isiW, eq_nil_n, preW, isStrD, isIntD, isLstD, truth, setG, setGs, putS_0, putS_s, strNe, wipeS, Hv.noX, srcOf, seqS, tupD, addW, at_new, at_n1, at_n2, at_n3, at_n4, at_o1, at_o2, at_o3, at_o4, set_new, setFld, setFE, setFN, setF_nil, lookupE, lookupN, List.lookup_nil, outI, sizeLine_eq, gP_pos, Option.map_some, Option.map_none, Option.bind_some, Option.bind_none, Option.isSome_some, Option.isSome_none, Nat.reduceAdd, Nat.reduceSub, Nat.reduceLT, Nat.reduceLeDiff, Nat.reduceEqDiff, Nat.reduceBEq, Nat.reduceBNe, Int.reduceEq, Int.reduceLT, Int.reduceLE, Int.reduceAdd, Int.reduceMul, Int.reduceSub, Int.reduceNeg, Int.reduceToNat, Int.reducePow, List.replicate, List.cons_append, List.nil_append, List.getElem?_cons_zero, List.getElem?_cons_succ, List.getElem?_nil, List.set_cons_succ, List.set_cons_zero, if_true, if_false, ite_true, ite_false, Bool.false_eq_true, Bool.not_true, Bool.not_false, Bool.and_true, Bool.true_and, Bool.or_true, Bool.true_or, Bool.or_false, Bool.false_or, Bool.and_false, Bool.false_and, reduceCtorEq, eq_self, decide_true, decide_false, decide_not, List.take_succ_cons, List.take_zero, List.length_map, Int.toNat_natCast, fnG_0, fnG_1, fnG_2, fnG_3, fnG_4, fnG_5, fnG_6, fnG_7, fnG_8, out_ret, out_nx, out_exc, gcR_ok1, gcv_pl0, gcv_pl, gcv_p2, gcv_p3, gcv_p4, gcv_p5, gcv_p6, gcv_new, gcv_n2, gcv_n3, gcv_set0, gcv_set, gcv_set_new, gcR_x0, gcR_x00, gcR_x1, gcR_x10, bne_self_eq_false, beq_self_eq_true, bne_iff_ne, ne_eq, not_true_eq_false, not_false_eq_true, and_self, and_true, true_and, and_false, false_and, or_true, true_or, or_false, false_or]) (by omega)) hp
  have hc : clC (S.length + 1) (plainC (bare t)) := clC_pl (by simpa [pl] using hp)
  generalize hx : E.gc (.frz c_plain_init_1) = x at e
  unfold g_plain_init b_plain_init
  rw [hx]
  simp (disch := first | assumption | omega | exact id rfl | decide +kernel) only [List.map_cons, List.map_nil, List.length_cons, List.length_nil, bok, bex, mok, gok, gex, mook, thn_nx, thn_ret, thn_brk, thn_cnt, thn_exc, selB_some, kE2_e, kE1_e, evs_nil, evs_cons, kO1_e, evos_nil, evos_cons, kOp_e, ev_op, lift_some, ev_var, ev_non, ev_bl, ev_int, ev_str, kC2_e, pur_some', kC1_e, ev_cmp, kD2_e, kD1_e, ev_cmp2, kAnd_e, ev_and, kOr_e, ev_or, kNot_e, ev_not, kIfe_e, ev_ife, kG_e, kCall_e, ev_call, ev_qcall, kF3_e, kF2_e, kF_e, ev_fld, kMG_e, kM3_e, kM2_e, kM_e, ev_mcall, ev_frz, frz_new, frz_non, frz_int, frz_str, frz_bl, frz_tup, frz_fl, frz_kt, kGc_e, ev_gc, kGlob_e, ev_glob, kIsc3_e, kIsc2_e, kIsc_e, ev_isc, kXfld_e, ev_xfld, kXis_e, ev_xis, kIe_fl, evi_e, kIr_fl, evi_rev, kIt_tup, evi_tup, kIs_str, evi_str, kI1_int, evi_rng1, kI22_int, kI21_e, evi_rng2, kIn_fl, evi_enum, runs_nil, runs_cons, kA_e, nxO_some, run_asg, kAug_e, kAug0_e, run_aug, kS3_e, kS2_e, kS1_e, run_setI, kFs2_e, kFs1_e, run_fset, kX_e, run_expr, kR_e, run_ret, run_retN, run_brk, run_cnt, run_pass, tstV_e, tru_e, kIf_e, run_ite, kFor_e, run_for, kRs_1, kRs_0, kRaise_e, run_raise, run_faug, tel_e, kxs0_e, kxs_e, xisV_e, xisV_n, kHs_e, runHs_cons, runHs_nil, knH_c, knH_nil, run_try, inI_s, inI_n, kTri_exc, kTri_nx, kTri_ret, outO_ret, outO_nx, Hv.val, Hv.new, Hv.opW, op0, op1, op2, op3, Hv.binW, Hv.binI, Hv.ixW, slW2, slW, lenW, listW, tupleW, negW, sumW, minW, maxW, intW, Hv.intsD, Hv.cmpW, Hv.cmpG, Hv.cmpI, Hv.cmpS, isNonD, isiW, eq_nil_n, preW, isStrD, isIntD, isLstD, truth, setG, setGs, putS_0, putS_s, strNe, wipeS, Hv.noX, srcOf, seqS, tupD, addW, at_new, at_n1, at_n2, at_n3, at_n4, at_o1, at_o2, at_o3, at_o4, set_new, setFld, setFE, setFN, setF_nil, lookupE, lookupN, List.lookup_nil, outI, sizeLine_eq, gP_pos, Option.map_some, Option.map_none, Option.bind_some, Option.bind_none, Option.isSome_some, Option.isSome_none, Nat.reduceAdd, Nat.reduceSub, Nat.reduceLT, Nat.reduceLeDiff, Nat.reduceEqDiff, Nat.reduceBEq, Nat.reduceBNe, Int.reduceEq, Int.reduceLT, Int.reduceLE, Int.reduceAdd, Int.reduceMul, Int.reduceSub, Int.reduceNeg, Int.reduceToNat, Int.reducePow, List.replicate, List.cons_append, List.nil_append, List.getElem?_cons_zero, List.getElem?_cons_succ, List.getElem?_nil, List.set_cons_succ, List.set_cons_zero, if_true, if_false, ite_true, ite_false, Bool.false_eq_true, Bool.not_true, Bool.not_false, Bool.and_true, Bool.true_and, Bool.or_true, Bool.true_or, Bool.or_false, Bool.false_or, Bool.and_false, Bool.false_and, reduceCtorEq, eq_self, decide_true, decide_false, decide_not, List.take_succ_cons, List.take_zero, List.length_map, Int.toNat_natCast, fnG_0, fnG_1, fnG_2, fnG_3, fnG_4, fnG_5, fnG_6, fnG_7, fnG_8, out_ret, out_nx, out_exc, gcR_ok1, gcv_pl0, gcv_pl, gcv_p2, gcv_p3, gcv_p4, gcv_p5, gcv_p6, gcv_new, gcv_n2, gcv_n3, gcv_set0, gcv_set, gcv_set_new, gcR_x0, gcR_x00, gcR_x1, gcR_x10, bne_self_eq_false, beq_self_eq_true, bne_iff_ne, ne_eq, not_true_eq_false, not_false_eq_true, and_self, and_true, true_and, and_false, false_and, or_true, true_or, or_false, false_or, e, lk_plain_init_f_plain_kept, gcv_init0]
end L14
-- TABLES L14
-- DISCH exact pl_fl_kr _
namespace L14
open PySem PySem.Spec
open PyProof.Rows hiding St
open L2 Hv
section
variable {S : Sto} {n : Nat} {l : List (Nat × Str)} {a b : Int}
theorem plainC_cl {m : Nat} (l : List (Nat × Str)) : clC m (plainC l) := clC_pl (by simpa [pl] using pl_kr l)
theorem bare_len (t : List Nat) : (bare t).length = t.length := by simp [bare]
theorem run_put {t : List Nat} (hs : S[n]? = some (plainC l)) (h0 : 0 ≤ a) (h1 : a ≤ l.length) (hl : l.length + t.length ≤ 100000) : g_plain_put S [.ref n, .int a, .str (SX.S t)] = some (.ok .non (S.set n (plainC (l.take a.toNat ++ bare t ++ l.drop a.toNat)))) := by
  have hn := at_lt hs
  have hg := run_gap hs h0 h1
  have e1 : ∀ Z : Sto, ev Gm32 c_plain_put_1 [.v (.ref n), .v (.int a), .v (.str (SX.S t)), .out] Z = some (.ok (.ref Z.length) (Z ++ [.lst (kr (bare t))])) := fun Z => lc_signs (by simp) (by simp only [List.map_cons, List.map_nil, List.length_cons, List.length_nil, bok, bex, mok, gok, gex, mook, thn_nx, thn_ret, thn_brk, thn_cnt, thn_exc, selB_some, kE2_e, kE1_e, evs_nil, evs_cons, kO1_e, evos_nil, evos_cons, kOp_e, ev_op, lift_some, ev_var, ev_non, ev_bl, ev_int, ev_str, kC2_e, pur_some', kC1_e, ev_cmp, kD2_e, kD1_e, ev_cmp2, kAnd_e, ev_and, kOr_e, ev_or, kNot_e, ev_not, kIfe_e, ev_ife, kG_e, kCall_e, ev_call, ev_qcall, kF3_e, kF2_e, kF_e, ev_fld, kMG_e, kM3_e, kM2_e, kM_e, ev_mcall, ev_frz, frz_new, frz_non, frz_int, frz_str, frz_bl, frz_tup, frz_fl, frz_kt, kGc_e, ev_gc, kGlob_e, ev_glob, kIsc3_e, kIsc2_e, kIsc_e, ev_isc, kXfld_e, ev_xfld, kXis_e, ev_xis, kIe_fl, evi_e, kIr_fl, evi_rev, kIt_tup, evi_tup, kIs_str, evi_str, kI1_int, evi_rng1, kI22_int, kI21_e, evi_rng2, kIn_fl, evi_enum, runs_nil, runs_cons, kA_e, nxO_some, run_asg, kAug_e, kAug0_e, run_aug, kS3_e, kS2_e, kS1_e, run_setI, kFs2_e, kFs1_e, run_fset, kX_e, run_expr, kR_e, run_ret, run_retN, run_brk, run_cnt, run_pass, tstV_e, tru_e, kIf_e, run_ite, kFor_e, run_for, kRs_1, kRs_0, kRaise_e, run_raise, run_faug, tel_e, kxs0_e, kxs_e, xisV_e, xisV_n, kHs_e, runHs_cons, runHs_nil, knH_c, knH_nil, run_try, inI_s, inI_n, kTri_exc, kTri_nx, kTri_ret, outO_ret, outO_nx, Hv.val, Hv.new, Hv.opW, op0, op1, op2, op3, Hv.binW, Hv.binI, Hv.ixW, slW2, slW, lenW, listW, tupleW, negW, sumW, minW, maxW, intW, Hv.intsD, Hv.cmpW, Hv.cmpG, Hv.cmpI, Hv.cmpS, isNonD, isiW, eq_nil_n, preW, isStrD, isIntD, isLstD, truth, setG, setGs, putS_0, putS_s, strNe, wipeS, Hv.noX, srcOf, seqS, tupD, addW, at_new, at_n1, at_n2, at_n3, at_n4, at_o1, at_o2, at_o3, at_o4, set_new, setFld, setFE, setFN, setF_nil, lookupE, lookupN, List.lookup_nil, outI, sizeLine_eq, gP_pos, Option.map_some, Option.map_none, Option.bind_some, Option.bind_none, Option.isSome_some, Option.isSome_none, Nat.reduceAdd, Nat.reduceSub, Nat.reduceLT, Nat.reduceLeDiff, Nat.reduceEqDiff, Nat.reduceBEq, Nat.reduceBNe, Int.reduceEq, Int.reduceLT, Int.reduceLE, Int.reduceAdd, Int.reduceMul, Int.reduceSub, Int.reduceNeg, Int.reduceToNat, Int.reducePow, List.replicate, List.cons_append, List.nil_append, List.getElem?_cons_zero, List.getElem?_cons_succ, List.getElem?_nil, List.set_cons_succ, List.set_cons_zero, if_true, if_false, ite_true, ite_false, Bool.false_eq_true, Bool.not_true, Bool.not_false, Bool.and_true, Bool.true_and, Bool.or_true, Bool.true_or, Bool.or_false, Bool.false_or, Bool.and_false, Bool.false_and, reduceCtorEq, eq_self, decide_true, decide_false, decide_not, List.take_succ_cons, List.take_zero, List.length_map, Int.toNat_natCast, fnG_0, fnG_1, fnG_2, fnG_3, fnG_4, fnG_5, fnG_6, fnG_7, fnG_8, out_ret, out_nx, out_exc, gcR_ok1, gcv_pl0, gcv_pl, gcv_p2, gcv_p3, gcv_p4, gcv_p5, gcv_p6, gcv_new, gcv_n2, gcv_n3, gcv_set0, gcv_set, gcv_set_new, gcR_x0, gcR_x00, gcR_x1, gcR_x10, bne_self_eq_false, beq_self_eq_true, bne_iff_ne, ne_eq, not_true_eq_false, not_false_eq_true, and_self, and_true, true_and, and_false, false_and, or_true, true_or, or_false, false_or]) (by omega)
  have c1 := cutD_to (xs := kr l) h0
  have c2 := cutD_from (xs := kr l) h0
  have g1 : (l.take a.toNat).length + (bare t).length ≤ 16777216 := by rw [List.length_take, bare_len]; omega
  have g2 : (l.take a.toNat ++ bare t).length + (l.drop a.toNat).length ≤ 16777216 := by rw [List.length_append, List.length_take, List.length_drop, bare_len]; omega
  have hc := plainC_cl (m := S.length) (l.take a.toNat ++ bare t ++ l.drop a.toNat)
  unfold g_plain_put b_plain_put
  simp (disch := first | assumption | omega | exact id rfl | exact pl_fl_kr _ | decide +kernel) only [List.map_cons, List.map_nil, List.length_cons, List.length_nil, bok, bex, mok, gok, gex, mook, thn_nx, thn_ret, thn_brk, thn_cnt, thn_exc, selB_some, kE2_e, kE1_e, evs_nil, evs_cons, kO1_e, evos_nil, evos_cons, kOp_e, ev_op, lift_some, ev_var, ev_non, ev_bl, ev_int, ev_str, kC2_e, pur_some', kC1_e, ev_cmp, kD2_e, kD1_e, ev_cmp2, kAnd_e, ev_and, kOr_e, ev_or, kNot_e, ev_not, kIfe_e, ev_ife, kG_e, kCall_e, ev_call, ev_qcall, kF3_e, kF2_e, kF_e, ev_fld, kMG_e, kM3_e, kM2_e, kM_e, ev_mcall, ev_frz, frz_new, frz_non, frz_int, frz_str, frz_bl, frz_tup, frz_fl, frz_kt, kGc_e, ev_gc, kGlob_e, ev_glob, kIsc3_e, kIsc2_e, kIsc_e, ev_isc, kXfld_e, ev_xfld, kXis_e, ev_xis, kIe_fl, evi_e, kIr_fl, evi_rev, kIt_tup, evi_tup, kIs_str, evi_str, kI1_int, evi_rng1, kI22_int, kI21_e, evi_rng2, kIn_fl, evi_enum, runs_nil, runs_cons, kA_e, nxO_some, run_asg, kAug_e, kAug0_e, run_aug, kS3_e, kS2_e, kS1_e, run_setI, kFs2_e, kFs1_e, run_fset, kX_e, run_expr, kR_e, run_ret, run_retN, run_brk, run_cnt, run_pass, tstV_e, tru_e, kIf_e, run_ite, kFor_e, run_for, kRs_1, kRs_0, kRaise_e, run_raise, run_faug, tel_e, kxs0_e, kxs_e, xisV_e, xisV_n, kHs_e, runHs_cons, runHs_nil, knH_c, knH_nil, run_try, inI_s, inI_n, kTri_exc, kTri_nx, kTri_ret, outO_ret, outO_nx, Hv.val, Hv.new, Hv.opW, op0, op1, op2, op3, Hv.binW, Hv.binI, Hv.ixW, slW2, slW, lenW, listW, tupleW, negW, sumW, minW, maxW, intW, Hv.intsD, Hv.cmpW, Hv.cmpG, Hv.cmpI, Hv.cmpS, isNonD, isiW, eq_nil_n, preW, isStrD, isIntD, isLstD, truth, setG, setGs, putS_0, putS_s, strNe, wipeS, Hv.noX, srcOf, seqS, tupD, addW, at_new, at_n1, at_n2, at_n3, at_n4, at_o1, at_o2, at_o3, at_o4, set_new, setFld, setFE, setFN, setF_nil, lookupE, lookupN, List.lookup_nil, outI, sizeLine_eq, gP_pos, Option.map_some, Option.map_none, Option.bind_some, Option.bind_none, Option.isSome_some, Option.isSome_none, Nat.reduceAdd, Nat.reduceSub, Nat.reduceLT, Nat.reduceLeDiff, Nat.reduceEqDiff, Nat.reduceBEq, Nat.reduceBNe, Int.reduceEq, Int.reduceLT, Int.reduceLE, Int.reduceAdd, Int.reduceMul, Int.reduceSub, Int.reduceNeg, Int.reduceToNat, Int.reducePow, List.replicate, List.cons_append, List.nil_append, List.getElem?_cons_zero, List.getElem?_cons_succ, List.getElem?_nil, List.set_cons_succ, List.set_cons_zero, if_true, if_false, ite_true, ite_false, Bool.false_eq_true, Bool.not_true, Bool.not_false, Bool.and_true, Bool.true_and, Bool.or_true, Bool.true_or, Bool.or_false, Bool.false_or, Bool.and_false, Bool.false_and, reduceCtorEq, eq_self, decide_true, decide_false, decide_not, List.take_succ_cons, List.take_zero, List.length_map, Int.toNat_natCast, fnG_0, fnG_1, fnG_2, fnG_3, fnG_4, fnG_5, fnG_6, fnG_7, fnG_8, out_ret, out_nx, out_exc, gcR_ok1, gcv_pl0, gcv_pl, gcv_p2, gcv_p3, gcv_p4, gcv_p5, gcv_p6, gcv_new, gcv_n2, gcv_n3, gcv_set0, gcv_set, gcv_set_new, gcR_x0, gcR_x00, gcR_x1, gcR_x10, bne_self_eq_false, beq_self_eq_true, bne_iff_ne, ne_eq, not_true_eq_false, not_false_eq_true, and_self, and_true, true_and, and_false, false_and, or_true, true_or, or_false, false_or, hs, hg, e1, c1, c2, kr_take, kr_drop, kr_app, lk_plain_put_f_plain_kept, lk_plain_put_plain_ask_gap]
theorem run_putX {t : Str} (hs : S[n]? = some (plainC l)) (h : ¬ (0 ≤ a ∧ a ≤ l.length)) : g_plain_put S [.ref n, .int a, .str t] = some (.exc ⟨1, [("at", .int a)]⟩ S) := by
  have hg := run_gapX hs h
  unfold g_plain_put b_plain_put
  simp (disch := first | assumption | omega | exact id rfl | exact pl_fl_kr _ | decide +kernel) only [List.map_cons, List.map_nil, List.length_cons, List.length_nil, bok, bex, mok, gok, gex, mook, thn_nx, thn_ret, thn_brk, thn_cnt, thn_exc, selB_some, kE2_e, kE1_e, evs_nil, evs_cons, kO1_e, evos_nil, evos_cons, kOp_e, ev_op, lift_some, ev_var, ev_non, ev_bl, ev_int, ev_str, kC2_e, pur_some', kC1_e, ev_cmp, kD2_e, kD1_e, ev_cmp2, kAnd_e, ev_and, kOr_e, ev_or, kNot_e, ev_not, kIfe_e, ev_ife, kG_e, kCall_e, ev_call, ev_qcall, kF3_e, kF2_e, kF_e, ev_fld, kMG_e, kM3_e, kM2_e, kM_e, ev_mcall, ev_frz, frz_new, frz_non, frz_int, frz_str, frz_bl, frz_tup, frz_fl, frz_kt, kGc_e, ev_gc, kGlob_e, ev_glob, kIsc3_e, kIsc2_e, kIsc_e, ev_isc, kXfld_e, ev_xfld, kXis_e, ev_xis, kIe_fl, evi_e, kIr_fl, evi_rev, kIt_tup, evi_tup, kIs_str, evi_str, kI1_int, evi_rng1, kI22_int, kI21_e, evi_rng2, kIn_fl, evi_enum, runs_nil, runs_cons, kA_e, nxO_some, run_asg, kAug_e, kAug0_e, run_aug, kS3_e, kS2_e, kS1_e, run_setI, kFs2_e, kFs1_e, run_fset, kX_e, run_expr, kR_e, run_ret, run_retN, run_brk, run_cnt, run_pass, tstV_e, tru_e, kIf_e, run_ite, kFor_e, run_for, kRs_1, kRs_0, kRaise_e, run_raise, run_faug, tel_e, kxs0_e, kxs_e, xisV_e, xisV_n, kHs_e, runHs_cons, runHs_nil, knH_c, knH_nil, run_try, inI_s, inI_n, kTri_exc, kTri_nx, kTri_ret, outO_ret, outO_nx, Hv.val, Hv.new, Hv.opW, op0, op1, op2, op3, Hv.binW, Hv.binI, Hv.ixW, slW2, slW, lenW, listW, tupleW, negW, sumW, minW, maxW, intW, Hv.intsD, Hv.cmpW, Hv.cmpG, Hv.cmpI, Hv.cmpS, isNonD, isiW, eq_nil_n, preW, isStrD, isIntD, isLstD, truth, setG, setGs, putS_0, putS_s, strNe, wipeS, Hv.noX, srcOf, seqS, tupD, addW, at_new, at_n1, at_n2, at_n3, at_n4, at_o1, at_o2, at_o3, at_o4, set_new, setFld, setFE, setFN, setF_nil, lookupE, lookupN, List.lookup_nil, outI, sizeLine_eq, gP_pos, Option.map_some, Option.map_none, Option.bind_some, Option.bind_none, Option.isSome_some, Option.isSome_none, Nat.reduceAdd, Nat.reduceSub, Nat.reduceLT, Nat.reduceLeDiff, Nat.reduceEqDiff, Nat.reduceBEq, Nat.reduceBNe, Int.reduceEq, Int.reduceLT, Int.reduceLE, Int.reduceAdd, Int.reduceMul, Int.reduceSub, Int.reduceNeg, Int.reduceToNat, Int.reducePow, List.replicate, List.cons_append, List.nil_append, List.getElem?_cons_zero, List.getElem?_cons_succ, List.getElem?_nil, List.set_cons_succ, List.set_cons_zero, if_true, if_false, ite_true, ite_false, Bool.false_eq_true, Bool.not_true, Bool.not_false, Bool.and_true, Bool.true_and, Bool.or_true, Bool.true_or, Bool.or_false, Bool.false_or, Bool.and_false, Bool.false_and, reduceCtorEq, eq_self, decide_true, decide_false, decide_not, List.take_succ_cons, List.take_zero, List.length_map, Int.toNat_natCast, fnG_0, fnG_1, fnG_2, fnG_3, fnG_4, fnG_5, fnG_6, fnG_7, fnG_8, out_ret, out_nx, out_exc, gcR_ok1, gcv_pl0, gcv_pl, gcv_p2, gcv_p3, gcv_p4, gcv_p5, gcv_p6, gcv_new, gcv_n2, gcv_n3, gcv_set0, gcv_set, gcv_set_new, gcR_x0, gcR_x00, gcR_x1, gcR_x10, bne_self_eq_false, beq_self_eq_true, bne_iff_ne, ne_eq, not_true_eq_false, not_false_eq_true, and_self, and_true, true_and, and_false, false_and, or_true, true_or, or_false, false_or, hs, hg, lk_plain_put_f_plain_kept, lk_plain_put_plain_ask_gap]
theorem run_strike (hs : S[n]? = some (plainC l)) (h0 : 0 ≤ a) (h1 : a < b) (h2 : b ≤ l.length) (hl : l.length ≤ 100000) : g_plain_strike S [.ref n, .int a, .int b] = some (.ok .non (S.set n (plainC (l.take a.toNat ++ l.drop b.toNat)))) := by
  have hn := at_lt hs
  have hg := run_stretch hs h0 h1 h2
  have h3 : 0 ≤ b := by omega
  have c1 := cutD_to (xs := kr l) h0
  have c2 := cutD_from (xs := kr l) h3
  have g1 : (l.take a.toNat).length + (l.drop b.toNat).length ≤ 16777216 := by rw [List.length_take, List.length_drop]; omega
  have hc := plainC_cl (m := S.length) (l.take a.toNat ++ l.drop b.toNat)
  unfold g_plain_strike b_plain_strike
  simp (disch := first | assumption | omega | exact id rfl | exact pl_fl_kr _ | decide +kernel) only [List.map_cons, List.map_nil, List.length_cons, List.length_nil, bok, bex, mok, gok, gex, mook, thn_nx, thn_ret, thn_brk, thn_cnt, thn_exc, selB_some, kE2_e, kE1_e, evs_nil, evs_cons, kO1_e, evos_nil, evos_cons, kOp_e, ev_op, lift_some, ev_var, ev_non, ev_bl, ev_int, ev_str, kC2_e, pur_some', kC1_e, ev_cmp, kD2_e, kD1_e, ev_cmp2, kAnd_e, ev_and, kOr_e, ev_or, kNot_e, ev_not, kIfe_e, ev_ife, kG_e, kCall_e, ev_call, ev_qcall, kF3_e, kF2_e, kF_e, ev_fld, kMG_e, kM3_e, kM2_e, kM_e, ev_mcall, ev_frz, frz_new, frz_non, frz_int, frz_str, frz_bl, frz_tup, frz_fl, frz_kt, kGc_e, ev_gc, kGlob_e, ev_glob, kIsc3_e, kIsc2_e, kIsc_e, ev_isc, kXfld_e, ev_xfld, kXis_e, ev_xis, kIe_fl, evi_e, kIr_fl, evi_rev, kIt_tup, evi_tup, kIs_str, evi_str, kI1_int, evi_rng1, kI22_int, kI21_e, evi_rng2, kIn_fl, evi_enum, runs_nil, runs_cons, kA_e, nxO_some, run_asg, kAug_e, kAug0_e, run_aug, kS3_e, kS2_e, kS1_e, run_setI, kFs2_e, kFs1_e, run_fset, kX_e, run_expr, kR_e, run_ret, run_retN, run_brk, run_cnt, run_pass, tstV_e, tru_e, kIf_e, run_ite, kFor_e, run_for, kRs_1, kRs_0, kRaise_e, run_raise, run_faug, tel_e, kxs0_e, kxs_e, xisV_e, xisV_n, kHs_e, runHs_cons, runHs_nil, knH_c, knH_nil, run_try, inI_s, inI_n, kTri_exc, kTri_nx, kTri_ret, outO_ret, outO_nx, Hv.val, Hv.new, Hv.opW, op0, op1, op2, op3, Hv.binW, Hv.binI, Hv.ixW, slW2, slW, lenW, listW, tupleW, negW, sumW, minW, maxW, intW, Hv.intsD, Hv.cmpW, Hv.cmpG, Hv.cmpI, Hv.cmpS, isNonD, isiW, eq_nil_n, preW, isStrD, isIntD, isLstD, truth, setG, setGs, putS_0, putS_s, strNe, wipeS, Hv.noX, srcOf, seqS, tupD, addW, at_new, at_n1, at_n2, at_n3, at_n4, at_o1, at_o2, at_o3, at_o4, set_new, setFld, setFE, setFN, setF_nil, lookupE, lookupN, List.lookup_nil, outI, sizeLine_eq, gP_pos, Option.map_some, Option.map_none, Option.bind_some, Option.bind_none, Option.isSome_some, Option.isSome_none, Nat.reduceAdd, Nat.reduceSub, Nat.reduceLT, Nat.reduceLeDiff, Nat.reduceEqDiff, Nat.reduceBEq, Nat.reduceBNe, Int.reduceEq, Int.reduceLT, Int.reduceLE, Int.reduceAdd, Int.reduceMul, Int.reduceSub, Int.reduceNeg, Int.reduceToNat, Int.reducePow, List.replicate, List.cons_append, List.nil_append, List.getElem?_cons_zero, List.getElem?_cons_succ, List.getElem?_nil, List.set_cons_succ, List.set_cons_zero, if_true, if_false, ite_true, ite_false, Bool.false_eq_true, Bool.not_true, Bool.not_false, Bool.and_true, Bool.true_and, Bool.or_true, Bool.true_or, Bool.or_false, Bool.false_or, Bool.and_false, Bool.false_and, reduceCtorEq, eq_self, decide_true, decide_false, decide_not, List.take_succ_cons, List.take_zero, List.length_map, Int.toNat_natCast, fnG_0, fnG_1, fnG_2, fnG_3, fnG_4, fnG_5, fnG_6, fnG_7, fnG_8, out_ret, out_nx, out_exc, gcR_ok1, gcv_pl0, gcv_pl, gcv_p2, gcv_p3, gcv_p4, gcv_p5, gcv_p6, gcv_new, gcv_n2, gcv_n3, gcv_set0, gcv_set, gcv_set_new, gcR_x0, gcR_x00, gcR_x1, gcR_x10, bne_self_eq_false, beq_self_eq_true, bne_iff_ne, ne_eq, not_true_eq_false, not_false_eq_true, and_self, and_true, true_and, and_false, false_and, or_true, true_or, or_false, false_or, hs, hg, c1, c2, kr_take, kr_drop, kr_app, lk_plain_strike_f_plain_kept, lk_plain_strike_plain_ask_stretch]
theorem run_strikeX1 (hs : S[n]? = some (plainC l)) (h : ¬ (0 ≤ a ∧ a < l.length)) : g_plain_strike S [.ref n, .int a, .int b] = some (.exc ⟨1, [("at", .int a)]⟩ S) := by
  have hg := run_stretchX1 (b := b) hs h
  unfold g_plain_strike b_plain_strike
  simp (disch := first | assumption | omega | exact id rfl | exact pl_fl_kr _ | decide +kernel) only [List.map_cons, List.map_nil, List.length_cons, List.length_nil, bok, bex, mok, gok, gex, mook, thn_nx, thn_ret, thn_brk, thn_cnt, thn_exc, selB_some, kE2_e, kE1_e, evs_nil, evs_cons, kO1_e, evos_nil, evos_cons, kOp_e, ev_op, lift_some, ev_var, ev_non, ev_bl, ev_int, ev_str, kC2_e, pur_some', kC1_e, ev_cmp, kD2_e, kD1_e, ev_cmp2, kAnd_e, ev_and, kOr_e, ev_or, kNot_e, ev_not, kIfe_e, ev_ife, kG_e, kCall_e, ev_call, ev_qcall, kF3_e, kF2_e, kF_e, ev_fld, kMG_e, kM3_e, kM2_e, kM_e, ev_mcall, ev_frz, frz_new, frz_non, frz_int, frz_str, frz_bl, frz_tup, frz_fl, frz_kt, kGc_e, ev_gc, kGlob_e, ev_glob, kIsc3_e, kIsc2_e, kIsc_e, ev_isc, kXfld_e, ev_xfld, kXis_e, ev_xis, kIe_fl, evi_e, kIr_fl, evi_rev, kIt_tup, evi_tup, kIs_str, evi_str, kI1_int, evi_rng1, kI22_int, kI21_e, evi_rng2, kIn_fl, evi_enum, runs_nil, runs_cons, kA_e, nxO_some, run_asg, kAug_e, kAug0_e, run_aug, kS3_e, kS2_e, kS1_e, run_setI, kFs2_e, kFs1_e, run_fset, kX_e, run_expr, kR_e, run_ret, run_retN, run_brk, run_cnt, run_pass, tstV_e, tru_e, kIf_e, run_ite, kFor_e, run_for, kRs_1, kRs_0, kRaise_e, run_raise, run_faug, tel_e, kxs0_e, kxs_e, xisV_e, xisV_n, kHs_e, runHs_cons, runHs_nil, knH_c, knH_nil, run_try, inI_s, inI_n, kTri_exc, kTri_nx, kTri_ret, outO_ret, outO_nx, Hv.val, Hv.new, Hv.opW, op0, op1, op2, op3, Hv.binW, Hv.binI, Hv.ixW, slW2, slW, lenW, listW, tupleW, negW, sumW, minW, maxW, intW, Hv.intsD, Hv.cmpW, Hv.cmpG, Hv.cmpI, Hv.cmpS, isNonD, isiW, eq_nil_n, preW, isStrD, isIntD, isLstD, truth, setG, setGs, putS_0, putS_s, strNe, wipeS, Hv.noX, srcOf, seqS, tupD, addW, at_new, at_n1, at_n2, at_n3, at_n4, at_o1, at_o2, at_o3, at_o4, set_new, setFld, setFE, setFN, setF_nil, lookupE, lookupN, List.lookup_nil, outI, sizeLine_eq, gP_pos, Option.map_some, Option.map_none, Option.bind_some, Option.bind_none, Option.isSome_some, Option.isSome_none, Nat.reduceAdd, Nat.reduceSub, Nat.reduceLT, Nat.reduceLeDiff, Nat.reduceEqDiff, Nat.reduceBEq, Nat.reduceBNe, Int.reduceEq, Int.reduceLT, Int.reduceLE, Int.reduceAdd, Int.reduceMul, Int.reduceSub, Int.reduceNeg, Int.reduceToNat, Int.reducePow, List.replicate, List.cons_append, List.nil_append, List.getElem?_cons_zero, List.getElem?_cons_succ, List.getElem?_nil, List.set_cons_succ, List.set_cons_zero, if_true, if_false, ite_true, ite_false, Bool.false_eq_true, Bool.not_true, Bool.not_false, Bool.and_true, Bool.true_and, Bool.or_true, Bool.true_or, Bool.or_false, Bool.false_or, Bool.and_false, Bool.false_and, reduceCtorEq, eq_self, decide_true, decide_false, decide_not, List.take_succ_cons, List.take_zero, List.length_map, Int.toNat_natCast, fnG_0, fnG_1, fnG_2, fnG_3, fnG_4, fnG_5, fnG_6, fnG_7, fnG_8, out_ret, out_nx, out_exc, gcR_ok1, gcv_pl0, gcv_pl, gcv_p2, gcv_p3, gcv_p4, gcv_p5, gcv_p6, gcv_new, gcv_n2, gcv_n3, gcv_set0, gcv_set, gcv_set_new, gcR_x0, gcR_x00, gcR_x1, gcR_x10, bne_self_eq_false, beq_self_eq_true, bne_iff_ne, ne_eq, not_true_eq_false, not_false_eq_true, and_self, and_true, true_and, and_false, false_and, or_true, true_or, or_false, false_or, hs, hg, lk_plain_strike_f_plain_kept, lk_plain_strike_plain_ask_stretch]
theorem run_strikeX2 (hs : S[n]? = some (plainC l)) (h0 : 0 ≤ a) (h1 : a < l.length) (h : ¬ (a < b ∧ b ≤ l.length)) : g_plain_strike S [.ref n, .int a, .int b] = some (.exc ⟨1, [("at", .int b)]⟩ S) := by
  have hg := run_stretchX2 hs h0 h1 h
  unfold g_plain_strike b_plain_strike
  simp (disch := first | assumption | omega | exact id rfl | exact pl_fl_kr _ | decide +kernel) only [List.map_cons, List.map_nil, List.length_cons, List.length_nil, bok, bex, mok, gok, gex, mook, thn_nx, thn_ret, thn_brk, thn_cnt, thn_exc, selB_some, kE2_e, kE1_e, evs_nil, evs_cons, kO1_e, evos_nil, evos_cons, kOp_e, ev_op, lift_some, ev_var, ev_non, ev_bl, ev_int, ev_str, kC2_e, pur_some', kC1_e, ev_cmp, kD2_e, kD1_e, ev_cmp2, kAnd_e, ev_and, kOr_e, ev_or, kNot_e, ev_not, kIfe_e, ev_ife, kG_e, kCall_e, ev_call, ev_qcall, kF3_e, kF2_e, kF_e, ev_fld, kMG_e, kM3_e, kM2_e, kM_e, ev_mcall, ev_frz, frz_new, frz_non, frz_int, frz_str, frz_bl, frz_tup, frz_fl, frz_kt, kGc_e, ev_gc, kGlob_e, ev_glob, kIsc3_e, kIsc2_e, kIsc_e, ev_isc, kXfld_e, ev_xfld, kXis_e, ev_xis, kIe_fl, evi_e, kIr_fl, evi_rev, kIt_tup, evi_tup, kIs_str, evi_str, kI1_int, evi_rng1, kI22_int, kI21_e, evi_rng2, kIn_fl, evi_enum, runs_nil, runs_cons, kA_e, nxO_some, run_asg, kAug_e, kAug0_e, run_aug, kS3_e, kS2_e, kS1_e, run_setI, kFs2_e, kFs1_e, run_fset, kX_e, run_expr, kR_e, run_ret, run_retN, run_brk, run_cnt, run_pass, tstV_e, tru_e, kIf_e, run_ite, kFor_e, run_for, kRs_1, kRs_0, kRaise_e, run_raise, run_faug, tel_e, kxs0_e, kxs_e, xisV_e, xisV_n, kHs_e, runHs_cons, runHs_nil, knH_c, knH_nil, run_try, inI_s, inI_n, kTri_exc, kTri_nx, kTri_ret, outO_ret, outO_nx, Hv.val, Hv.new, Hv.opW, op0, op1, op2, op3, Hv.binW, Hv.binI, Hv.ixW, slW2, slW, lenW, listW, tupleW, negW, sumW, minW, maxW, intW, Hv.intsD, Hv.cmpW, Hv.cmpG, Hv.cmpI, Hv.cmpS, isNonD, isiW, eq_nil_n, preW, isStrD, isIntD, isLstD, truth, setG, setGs, putS_0, putS_s, strNe, wipeS, Hv.noX, srcOf, seqS, tupD, addW, at_new, at_n1, at_n2, at_n3, at_n4, at_o1, at_o2, at_o3, at_o4, set_new, setFld, setFE, setFN, setF_nil, lookupE, lookupN, List.lookup_nil, outI, sizeLine_eq, gP_pos, Option.map_some, Option.map_none, Option.bind_some, Option.bind_none, Option.isSome_some, Option.isSome_none, Nat.reduceAdd, Nat.reduceSub, Nat.reduceLT, Nat.reduceLeDiff, Nat.reduceEqDiff, Nat.reduceBEq, Nat.reduceBNe, Int.reduceEq, Int.reduceLT, Int.reduceLE, Int.reduceAdd, Int.reduceMul, Int.reduceSub, Int.reduceNeg, Int.reduceToNat, Int.reducePow, List.replicate, List.cons_append, List.nil_append, List.getElem?_cons_zero, List.getElem?_cons_succ, List.getElem?_nil, List.set_cons_succ, List.set_cons_zero, if_true, if_false, ite_true, ite_false, Bool.false_eq_true, Bool.not_true, Bool.not_false, Bool.and_true, Bool.true_and, Bool.or_true, Bool.true_or, Bool.or_false, Bool.false_or, Bool.and_false, Bool.false_and, reduceCtorEq, eq_self, decide_true, decide_false, decide_not, List.take_succ_cons, List.take_zero, List.length_map, Int.toNat_natCast, fnG_0, fnG_1, fnG_2, fnG_3, fnG_4, fnG_5, fnG_6, fnG_7, fnG_8, out_ret, out_nx, out_exc, gcR_ok1, gcv_pl0, gcv_pl, gcv_p2, gcv_p3, gcv_p4, gcv_p5, gcv_p6, gcv_new, gcv_n2, gcv_n3, gcv_set0, gcv_set, gcv_set_new, gcR_x0, gcR_x00, gcR_x1, gcR_x10, bne_self_eq_false, beq_self_eq_true, bne_iff_ne, ne_eq, not_true_eq_false, not_false_eq_true, and_self, and_true, true_and, and_false, false_and, or_true, true_or, or_false, false_or, hs, hg, lk_plain_strike_f_plain_kept, lk_plain_strike_plain_ask_stretch]
def worn (w : Str) (l : List (Nat × Str)) : List (Nat × Str) := l.map fun p => (p.1, w)
theorem worn_len (w : Str) (l : List (Nat × Str)) : (worn w l).length = l.length := by simp [worn]
theorem run_dress {w : Str} (hs : S[n]? = some (plainC l)) (h0 : 0 ≤ a) (h1 : a < b) (h2 : b ≤ l.length) (hl : l.length ≤ 100000) : g_plain_dress S [.ref n, .int a, .int b, .str w] = some (.ok .non (S.set n (plainC (l.take a.toNat ++ worn w ((l.take b.toNat).drop a.toNat) ++ l.drop b.toNat)))) := by
  have hn := at_lt hs
  have hg := run_stretch hs h0 h1 h2
  have h3 : 0 ≤ b := by omega
  have c1 := cutD_to (xs := kr l) h0
  have c2 := cutD_from (xs := kr l) h3
  have c3 := cutD_pos (xs := kr l) h0 h3
  generalize hm : (l.take b.toNat).drop a.toNat = m at *
  have hml : m.length ≤ l.length := by rw [← hm]; simp; omega
  have e0 : evi Gm34 (.e (.gc (.frz (.op (.sl true true) (.cons (.fld (.var 0) "kept") (.cons (.var 1) (.cons (.var 2) .nil))))))) [.v (.ref n), .v (.int a), .v (.int b), .v (.str w), .out, .out, .out] S = some (.ok (kr m, []) S) := by
    simp (disch := first | assumption | omega | exact id rfl | exact pl_fl_kr _ | decide +kernel) only [List.map_cons, List.map_nil, List.length_cons, List.length_nil, bok, bex, mok, gok, gex, mook, thn_nx, thn_ret, thn_brk, thn_cnt, thn_exc, selB_some, kE2_e, kE1_e, evs_nil, evs_cons, kO1_e, evos_nil, evos_cons, kOp_e, ev_op, lift_some, ev_var, ev_non, ev_bl, ev_int, ev_str, kC2_e, pur_some', kC1_e, ev_cmp, kD2_e, kD1_e, ev_cmp2, kAnd_e, ev_and, kOr_e, ev_or, kNot_e, ev_not, kIfe_e, ev_ife, kG_e, kCall_e, ev_call, ev_qcall, kF3_e, kF2_e, kF_e, ev_fld, kMG_e, kM3_e, kM2_e, kM_e, ev_mcall, ev_frz, frz_new, frz_non, frz_int, frz_str, frz_bl, frz_tup, frz_fl, frz_kt, kGc_e, ev_gc, kGlob_e, ev_glob, kIsc3_e, kIsc2_e, kIsc_e, ev_isc, kXfld_e, ev_xfld, kXis_e, ev_xis, kIe_fl, evi_e, kIr_fl, evi_rev, kIt_tup, evi_tup, kIs_str, evi_str, kI1_int, evi_rng1, kI22_int, kI21_e, evi_rng2, kIn_fl, evi_enum, runs_nil, runs_cons, kA_e, nxO_some, run_asg, kAug_e, kAug0_e, run_aug, kS3_e, kS2_e, kS1_e, run_setI, kFs2_e, kFs1_e, run_fset, kX_e, run_expr, kR_e, run_ret, run_retN, run_brk, run_cnt, run_pass, tstV_e, tru_e, kIf_e, run_ite, kFor_e, run_for, kRs_1, kRs_0, kRaise_e, run_raise, run_faug, tel_e, kxs0_e, kxs_e, xisV_e, xisV_n, kHs_e, runHs_cons, runHs_nil, knH_c, knH_nil, run_try, inI_s, inI_n, kTri_exc, kTri_nx, kTri_ret, outO_ret, outO_nx, Hv.val, Hv.new, Hv.opW, op0, op1, op2, op3, Hv.binW, Hv.binI, Hv.ixW, slW2, slW, lenW, listW, tupleW, negW, sumW, minW, maxW, intW, Hv.intsD, Hv.cmpW, Hv.cmpG, Hv.cmpI, Hv.cmpS, isNonD, isiW, eq_nil_n, preW, isStrD, isIntD, isLstD, truth, setG, setGs, putS_0, putS_s, strNe, wipeS, Hv.noX, srcOf, seqS, tupD, addW, at_new, at_n1, at_n2, at_n3, at_n4, at_o1, at_o2, at_o3, at_o4, set_new, setFld, setFE, setFN, setF_nil, lookupE, lookupN, List.lookup_nil, outI, sizeLine_eq, gP_pos, Option.map_some, Option.map_none, Option.bind_some, Option.bind_none, Option.isSome_some, Option.isSome_none, Nat.reduceAdd, Nat.reduceSub, Nat.reduceLT, Nat.reduceLeDiff, Nat.reduceEqDiff, Nat.reduceBEq, Nat.reduceBNe, Int.reduceEq, Int.reduceLT, Int.reduceLE, Int.reduceAdd, Int.reduceMul, Int.reduceSub, Int.reduceNeg, Int.reduceToNat, Int.reducePow, List.replicate, List.cons_append, List.nil_append, List.getElem?_cons_zero, List.getElem?_cons_succ, List.getElem?_nil, List.set_cons_succ, List.set_cons_zero, if_true, if_false, ite_true, ite_false, Bool.false_eq_true, Bool.not_true, Bool.not_false, Bool.and_true, Bool.true_and, Bool.or_true, Bool.true_or, Bool.or_false, Bool.false_or, Bool.and_false, Bool.false_and, reduceCtorEq, eq_self, decide_true, decide_false, decide_not, List.take_succ_cons, List.take_zero, List.length_map, Int.toNat_natCast, fnG_0, fnG_1, fnG_2, fnG_3, fnG_4, fnG_5, fnG_6, fnG_7, fnG_8, out_ret, out_nx, out_exc, gcR_ok1, gcv_pl0, gcv_pl, gcv_p2, gcv_p3, gcv_p4, gcv_p5, gcv_p6, gcv_new, gcv_n2, gcv_n3, gcv_set0, gcv_set, gcv_set_new, gcR_x0, gcR_x00, gcR_x1, gcR_x10, bne_self_eq_false, beq_self_eq_true, bne_iff_ne, ne_eq, not_true_eq_false, not_false_eq_true, and_self, and_true, true_and, and_false, false_and, or_true, true_or, or_false, false_or, hs, c3, kr_take, kr_drop, hm, lk_plain_dress_f_plain_kept, lk_plain_dress_plain_ask_stretch]
  have e1 : ev Gm34 c_plain_dress_1 [.v (.ref n), .v (.int a), .v (.int b), .v (.str w), .out, .out, .out] S = some (.ok (.ref S.length) (S ++ [.lst (kr (worn w m))])) := by
    have e2 := ev_lcm (own := [("sign", 5), ("old", 6)]) (g := .tup [5, 6]) (e := .op .tup (.cons (.var 5) (.cons (.var 3) .nil))) (fun d => match d with | .tup (x :: _) => .tup [x, .str w] | d => d) e0 trivial (by rw [kr_len]; omega) fun x hx => by
      obtain ⟨p, hp, rfl⟩ := List.mem_map.mp hx
      refine ⟨[.v (.ref n), .v (.int a), .v (.int b), .v (.str w), .out, .v (.str (SX.S [p.1])), .v (.str p.2)], ?_, ?_⟩
      · simp (disch := first | assumption | omega | exact id rfl | exact pl_fl_kr _ | decide +kernel) only [List.map_cons, List.map_nil, List.length_cons, List.length_nil, bok, bex, mok, gok, gex, mook, thn_nx, thn_ret, thn_brk, thn_cnt, thn_exc, selB_some, kE2_e, kE1_e, evs_nil, evs_cons, kO1_e, evos_nil, evos_cons, kOp_e, ev_op, lift_some, ev_var, ev_non, ev_bl, ev_int, ev_str, kC2_e, pur_some', kC1_e, ev_cmp, kD2_e, kD1_e, ev_cmp2, kAnd_e, ev_and, kOr_e, ev_or, kNot_e, ev_not, kIfe_e, ev_ife, kG_e, kCall_e, ev_call, ev_qcall, kF3_e, kF2_e, kF_e, ev_fld, kMG_e, kM3_e, kM2_e, kM_e, ev_mcall, ev_frz, frz_new, frz_non, frz_int, frz_str, frz_bl, frz_tup, frz_fl, frz_kt, kGc_e, ev_gc, kGlob_e, ev_glob, kIsc3_e, kIsc2_e, kIsc_e, ev_isc, kXfld_e, ev_xfld, kXis_e, ev_xis, kIe_fl, evi_e, kIr_fl, evi_rev, kIt_tup, evi_tup, kIs_str, evi_str, kI1_int, evi_rng1, kI22_int, kI21_e, evi_rng2, kIn_fl, evi_enum, runs_nil, runs_cons, kA_e, nxO_some, run_asg, kAug_e, kAug0_e, run_aug, kS3_e, kS2_e, kS1_e, run_setI, kFs2_e, kFs1_e, run_fset, kX_e, run_expr, kR_e, run_ret, run_retN, run_brk, run_cnt, run_pass, tstV_e, tru_e, kIf_e, run_ite, kFor_e, run_for, kRs_1, kRs_0, kRaise_e, run_raise, run_faug, tel_e, kxs0_e, kxs_e, xisV_e, xisV_n, kHs_e, runHs_cons, runHs_nil, knH_c, knH_nil, run_try, inI_s, inI_n, kTri_exc, kTri_nx, kTri_ret, outO_ret, outO_nx, Hv.val, Hv.new, Hv.opW, op0, op1, op2, op3, Hv.binW, Hv.binI, Hv.ixW, slW2, slW, lenW, listW, tupleW, negW, sumW, minW, maxW, intW, Hv.intsD, Hv.cmpW, Hv.cmpG, Hv.cmpI, Hv.cmpS, isNonD, isiW, eq_nil_n, preW, isStrD, isIntD, isLstD, truth, setG, setGs, putS_0, putS_s, strNe, wipeS, Hv.noX, srcOf, seqS, tupD, addW, at_new, at_n1, at_n2, at_n3, at_n4, at_o1, at_o2, at_o3, at_o4, set_new, setFld, setFE, setFN, setF_nil, lookupE, lookupN, List.lookup_nil, outI, sizeLine_eq, gP_pos, Option.map_some, Option.map_none, Option.bind_some, Option.bind_none, Option.isSome_some, Option.isSome_none, Nat.reduceAdd, Nat.reduceSub, Nat.reduceLT, Nat.reduceLeDiff, Nat.reduceEqDiff, Nat.reduceBEq, Nat.reduceBNe, Int.reduceEq, Int.reduceLT, Int.reduceLE, Int.reduceAdd, Int.reduceMul, Int.reduceSub, Int.reduceNeg, Int.reduceToNat, Int.reducePow, List.replicate, List.cons_append, List.nil_append, List.getElem?_cons_zero, List.getElem?_cons_succ, List.getElem?_nil, List.set_cons_succ, List.set_cons_zero, if_true, if_false, ite_true, ite_false, Bool.false_eq_true, Bool.not_true, Bool.not_false, Bool.and_true, Bool.true_and, Bool.or_true, Bool.true_or, Bool.or_false, Bool.false_or, Bool.and_false, Bool.false_and, reduceCtorEq, eq_self, decide_true, decide_false, decide_not, List.take_succ_cons, List.take_zero, List.length_map, Int.toNat_natCast, fnG_0, fnG_1, fnG_2, fnG_3, fnG_4, fnG_5, fnG_6, fnG_7, fnG_8, out_ret, out_nx, out_exc, gcR_ok1, gcv_pl0, gcv_pl, gcv_p2, gcv_p3, gcv_p4, gcv_p5, gcv_p6, gcv_new, gcv_n2, gcv_n3, gcv_set0, gcv_set, gcv_set_new, gcR_x0, gcR_x00, gcR_x1, gcR_x10, bne_self_eq_false, beq_self_eq_true, bne_iff_ne, ne_eq, not_true_eq_false, not_false_eq_true, and_self, and_true, true_and, and_false, false_and, or_true, true_or, or_false, false_or, pr]
      · simp (disch := first | assumption | omega | exact id rfl | exact pl_fl_kr _ | decide +kernel) only [List.map_cons, List.map_nil, List.length_cons, List.length_nil, bok, bex, mok, gok, gex, mook, thn_nx, thn_ret, thn_brk, thn_cnt, thn_exc, selB_some, kE2_e, kE1_e, evs_nil, evs_cons, kO1_e, evos_nil, evos_cons, kOp_e, ev_op, lift_some, ev_var, ev_non, ev_bl, ev_int, ev_str, kC2_e, pur_some', kC1_e, ev_cmp, kD2_e, kD1_e, ev_cmp2, kAnd_e, ev_and, kOr_e, ev_or, kNot_e, ev_not, kIfe_e, ev_ife, kG_e, kCall_e, ev_call, ev_qcall, kF3_e, kF2_e, kF_e, ev_fld, kMG_e, kM3_e, kM2_e, kM_e, ev_mcall, ev_frz, frz_new, frz_non, frz_int, frz_str, frz_bl, frz_tup, frz_fl, frz_kt, kGc_e, ev_gc, kGlob_e, ev_glob, kIsc3_e, kIsc2_e, kIsc_e, ev_isc, kXfld_e, ev_xfld, kXis_e, ev_xis, kIe_fl, evi_e, kIr_fl, evi_rev, kIt_tup, evi_tup, kIs_str, evi_str, kI1_int, evi_rng1, kI22_int, kI21_e, evi_rng2, kIn_fl, evi_enum, runs_nil, runs_cons, kA_e, nxO_some, run_asg, kAug_e, kAug0_e, run_aug, kS3_e, kS2_e, kS1_e, run_setI, kFs2_e, kFs1_e, run_fset, kX_e, run_expr, kR_e, run_ret, run_retN, run_brk, run_cnt, run_pass, tstV_e, tru_e, kIf_e, run_ite, kFor_e, run_for, kRs_1, kRs_0, kRaise_e, run_raise, run_faug, tel_e, kxs0_e, kxs_e, xisV_e, xisV_n, kHs_e, runHs_cons, runHs_nil, knH_c, knH_nil, run_try, inI_s, inI_n, kTri_exc, kTri_nx, kTri_ret, outO_ret, outO_nx, Hv.val, Hv.new, Hv.opW, op0, op1, op2, op3, Hv.binW, Hv.binI, Hv.ixW, slW2, slW, lenW, listW, tupleW, negW, sumW, minW, maxW, intW, Hv.intsD, Hv.cmpW, Hv.cmpG, Hv.cmpI, Hv.cmpS, isNonD, isiW, eq_nil_n, preW, isStrD, isIntD, isLstD, truth, setG, setGs, putS_0, putS_s, strNe, wipeS, Hv.noX, srcOf, seqS, tupD, addW, at_new, at_n1, at_n2, at_n3, at_n4, at_o1, at_o2, at_o3, at_o4, set_new, setFld, setFE, setFN, setF_nil, lookupE, lookupN, List.lookup_nil, outI, sizeLine_eq, gP_pos, Option.map_some, Option.map_none, Option.bind_some, Option.bind_none, Option.isSome_some, Option.isSome_none, Nat.reduceAdd, Nat.reduceSub, Nat.reduceLT, Nat.reduceLeDiff, Nat.reduceEqDiff, Nat.reduceBEq, Nat.reduceBNe, Int.reduceEq, Int.reduceLT, Int.reduceLE, Int.reduceAdd, Int.reduceMul, Int.reduceSub, Int.reduceNeg, Int.reduceToNat, Int.reducePow, List.replicate, List.cons_append, List.nil_append, List.getElem?_cons_zero, List.getElem?_cons_succ, List.getElem?_nil, List.set_cons_succ, List.set_cons_zero, if_true, if_false, ite_true, ite_false, Bool.false_eq_true, Bool.not_true, Bool.not_false, Bool.and_true, Bool.true_and, Bool.or_true, Bool.true_or, Bool.or_false, Bool.false_or, Bool.and_false, Bool.false_and, reduceCtorEq, eq_self, decide_true, decide_false, decide_not, List.take_succ_cons, List.take_zero, List.length_map, Int.toNat_natCast, fnG_0, fnG_1, fnG_2, fnG_3, fnG_4, fnG_5, fnG_6, fnG_7, fnG_8, out_ret, out_nx, out_exc, gcR_ok1, gcv_pl0, gcv_pl, gcv_p2, gcv_p3, gcv_p4, gcv_p5, gcv_p6, gcv_new, gcv_n2, gcv_n3, gcv_set0, gcv_set, gcv_set_new, gcR_x0, gcR_x00, gcR_x1, gcR_x10, bne_self_eq_false, beq_self_eq_true, bne_iff_ne, ne_eq, not_true_eq_false, not_false_eq_true, and_self, and_true, true_and, and_false, false_and, or_true, true_or, or_false, false_or, pr]
    have e3 : (kr m).map (fun d => match d with | .tup (x :: _) => D.tup [x, .str w] | d => d) = kr (worn w m) := by simp [kr, worn, pr, Function.comp_def]
    rw [e3] at e2
    exact e2
  have g1 : (l.take a.toNat).length + (worn w m).length ≤ 16777216 := by rw [List.length_take, worn_len]; omega
  have g2 : (l.take a.toNat ++ worn w m).length + (l.drop b.toNat).length ≤ 16777216 := by rw [List.length_append, List.length_take, List.length_drop, worn_len]; omega
  have hc := plainC_cl (m := S.length) (l.take a.toNat ++ worn w m ++ l.drop b.toNat)
  unfold g_plain_dress b_plain_dress
  simp (disch := first | assumption | omega | exact id rfl | exact pl_fl_kr _ | decide +kernel) only [List.map_cons, List.map_nil, List.length_cons, List.length_nil, bok, bex, mok, gok, gex, mook, thn_nx, thn_ret, thn_brk, thn_cnt, thn_exc, selB_some, kE2_e, kE1_e, evs_nil, evs_cons, kO1_e, evos_nil, evos_cons, kOp_e, ev_op, lift_some, ev_var, ev_non, ev_bl, ev_int, ev_str, kC2_e, pur_some', kC1_e, ev_cmp, kD2_e, kD1_e, ev_cmp2, kAnd_e, ev_and, kOr_e, ev_or, kNot_e, ev_not, kIfe_e, ev_ife, kG_e, kCall_e, ev_call, ev_qcall, kF3_e, kF2_e, kF_e, ev_fld, kMG_e, kM3_e, kM2_e, kM_e, ev_mcall, ev_frz, frz_new, frz_non, frz_int, frz_str, frz_bl, frz_tup, frz_fl, frz_kt, kGc_e, ev_gc, kGlob_e, ev_glob, kIsc3_e, kIsc2_e, kIsc_e, ev_isc, kXfld_e, ev_xfld, kXis_e, ev_xis, kIe_fl, evi_e, kIr_fl, evi_rev, kIt_tup, evi_tup, kIs_str, evi_str, kI1_int, evi_rng1, kI22_int, kI21_e, evi_rng2, kIn_fl, evi_enum, runs_nil, runs_cons, kA_e, nxO_some, run_asg, kAug_e, kAug0_e, run_aug, kS3_e, kS2_e, kS1_e, run_setI, kFs2_e, kFs1_e, run_fset, kX_e, run_expr, kR_e, run_ret, run_retN, run_brk, run_cnt, run_pass, tstV_e, tru_e, kIf_e, run_ite, kFor_e, run_for, kRs_1, kRs_0, kRaise_e, run_raise, run_faug, tel_e, kxs0_e, kxs_e, xisV_e, xisV_n, kHs_e, runHs_cons, runHs_nil, knH_c, knH_nil, run_try, inI_s, inI_n, kTri_exc, kTri_nx, kTri_ret, outO_ret, outO_nx, Hv.val, Hv.new, Hv.opW, op0, op1, op2, op3, Hv.binW, Hv.binI, Hv.ixW, slW2, slW, lenW, listW, tupleW, negW, sumW, minW, maxW, intW, Hv.intsD, Hv.cmpW, Hv.cmpG, Hv.cmpI, Hv.cmpS, isNonD, isiW, eq_nil_n, preW, isStrD, isIntD, isLstD, truth, setG, setGs, putS_0, putS_s, strNe, wipeS, Hv.noX, srcOf, seqS, tupD, addW, at_new, at_n1, at_n2, at_n3, at_n4, at_o1, at_o2, at_o3, at_o4, set_new, setFld, setFE, setFN, setF_nil, lookupE, lookupN, List.lookup_nil, outI, sizeLine_eq, gP_pos, Option.map_some, Option.map_none, Option.bind_some, Option.bind_none, Option.isSome_some, Option.isSome_none, Nat.reduceAdd, Nat.reduceSub, Nat.reduceLT, Nat.reduceLeDiff, Nat.reduceEqDiff, Nat.reduceBEq, Nat.reduceBNe, Int.reduceEq, Int.reduceLT, Int.reduceLE, Int.reduceAdd, Int.reduceMul, Int.reduceSub, Int.reduceNeg, Int.reduceToNat, Int.reducePow, List.replicate, List.cons_append, List.nil_append, List.getElem?_cons_zero, List.getElem?_cons_succ, List.getElem?_nil, List.set_cons_succ, List.set_cons_zero, if_true, if_false, ite_true, ite_false, Bool.false_eq_true, Bool.not_true, Bool.not_false, Bool.and_true, Bool.true_and, Bool.or_true, Bool.true_or, Bool.or_false, Bool.false_or, Bool.and_false, Bool.false_and, reduceCtorEq, eq_self, decide_true, decide_false, decide_not, List.take_succ_cons, List.take_zero, List.length_map, Int.toNat_natCast, fnG_0, fnG_1, fnG_2, fnG_3, fnG_4, fnG_5, fnG_6, fnG_7, fnG_8, out_ret, out_nx, out_exc, gcR_ok1, gcv_pl0, gcv_pl, gcv_p2, gcv_p3, gcv_p4, gcv_p5, gcv_p6, gcv_new, gcv_n2, gcv_n3, gcv_set0, gcv_set, gcv_set_new, gcR_x0, gcR_x00, gcR_x1, gcR_x10, bne_self_eq_false, beq_self_eq_true, bne_iff_ne, ne_eq, not_true_eq_false, not_false_eq_true, and_self, and_true, true_and, and_false, false_and, or_true, true_or, or_false, false_or, hs, hg, e1, c1, c2, kr_take, kr_drop, kr_app, lk_plain_dress_f_plain_kept, lk_plain_dress_plain_ask_stretch]
theorem run_dressX1 {w : Str} (hs : S[n]? = some (plainC l)) (h : ¬ (0 ≤ a ∧ a < l.length)) : g_plain_dress S [.ref n, .int a, .int b, .str w] = some (.exc ⟨1, [("at", .int a)]⟩ S) := by
  have hg := run_stretchX1 (b := b) hs h
  unfold g_plain_dress b_plain_dress
  simp (disch := first | assumption | omega | exact id rfl | exact pl_fl_kr _ | decide +kernel) only [List.map_cons, List.map_nil, List.length_cons, List.length_nil, bok, bex, mok, gok, gex, mook, thn_nx, thn_ret, thn_brk, thn_cnt, thn_exc, selB_some, kE2_e, kE1_e, evs_nil, evs_cons, kO1_e, evos_nil, evos_cons, kOp_e, ev_op, lift_some, ev_var, ev_non, ev_bl, ev_int, ev_str, kC2_e, pur_some', kC1_e, ev_cmp, kD2_e, kD1_e, ev_cmp2, kAnd_e, ev_and, kOr_e, ev_or, kNot_e, ev_not, kIfe_e, ev_ife, kG_e, kCall_e, ev_call, ev_qcall, kF3_e, kF2_e, kF_e, ev_fld, kMG_e, kM3_e, kM2_e, kM_e, ev_mcall, ev_frz, frz_new, frz_non, frz_int, frz_str, frz_bl, frz_tup, frz_fl, frz_kt, kGc_e, ev_gc, kGlob_e, ev_glob, kIsc3_e, kIsc2_e, kIsc_e, ev_isc, kXfld_e, ev_xfld, kXis_e, ev_xis, kIe_fl, evi_e, kIr_fl, evi_rev, kIt_tup, evi_tup, kIs_str, evi_str, kI1_int, evi_rng1, kI22_int, kI21_e, evi_rng2, kIn_fl, evi_enum, runs_nil, runs_cons, kA_e, nxO_some, run_asg, kAug_e, kAug0_e, run_aug, kS3_e, kS2_e, kS1_e, run_setI, kFs2_e, kFs1_e, run_fset, kX_e, run_expr, kR_e, run_ret, run_retN, run_brk, run_cnt, run_pass, tstV_e, tru_e, kIf_e, run_ite, kFor_e, run_for, kRs_1, kRs_0, kRaise_e, run_raise, run_faug, tel_e, kxs0_e, kxs_e, xisV_e, xisV_n, kHs_e, runHs_cons, runHs_nil, knH_c, knH_nil, run_try, inI_s, inI_n, kTri_exc, kTri_nx, kTri_ret, outO_ret, outO_nx, Hv.val, Hv.new, Hv.opW, op0, op1, op2, op3, Hv.binW, Hv.binI, Hv.ixW, slW2, slW, lenW, listW, tupleW, negW, sumW, minW, maxW, intW, Hv.intsD, Hv.cmpW, Hv.cmpG, Hv.cmpI, Hv.cmpS, isNonD, isiW, eq_nil_n, preW, isStrD, isIntD, isLstD, truth, setG, setGs, putS_0, putS_s, strNe, wipeS, Hv.noX, srcOf, seqS, tupD, addW, at_new, at_n1, at_n2, at_n3, at_n4, at_o1, at_o2, at_o3, at_o4, set_new, setFld, setFE, setFN, setF_nil, lookupE, lookupN, List.lookup_nil, outI, sizeLine_eq, gP_pos, Option.map_some, Option.map_none, Option.bind_some, Option.bind_none, Option.isSome_some, Option.isSome_none, Nat.reduceAdd, Nat.reduceSub, Nat.reduceLT, Nat.reduceLeDiff, Nat.reduceEqDiff, Nat.reduceBEq, Nat.reduceBNe, Int.reduceEq, Int.reduceLT, Int.reduceLE, Int.reduceAdd, Int.reduceMul, Int.reduceSub, Int.reduceNeg, Int.reduceToNat, Int.reducePow, List.replicate, List.cons_append, List.nil_append, List.getElem?_cons_zero, List.getElem?_cons_succ, List.getElem?_nil, List.set_cons_succ, List.set_cons_zero, if_true, if_false, ite_true, ite_false, Bool.false_eq_true, Bool.not_true, Bool.not_false, Bool.and_true, Bool.true_and, Bool.or_true, Bool.true_or, Bool.or_false, Bool.false_or, Bool.and_false, Bool.false_and, reduceCtorEq, eq_self, decide_true, decide_false, decide_not, List.take_succ_cons, List.take_zero, List.length_map, Int.toNat_natCast, fnG_0, fnG_1, fnG_2, fnG_3, fnG_4, fnG_5, fnG_6, fnG_7, fnG_8, out_ret, out_nx, out_exc, gcR_ok1, gcv_pl0, gcv_pl, gcv_p2, gcv_p3, gcv_p4, gcv_p5, gcv_p6, gcv_new, gcv_n2, gcv_n3, gcv_set0, gcv_set, gcv_set_new, gcR_x0, gcR_x00, gcR_x1, gcR_x10, bne_self_eq_false, beq_self_eq_true, bne_iff_ne, ne_eq, not_true_eq_false, not_false_eq_true, and_self, and_true, true_and, and_false, false_and, or_true, true_or, or_false, false_or, hs, hg, lk_plain_dress_f_plain_kept, lk_plain_dress_plain_ask_stretch]
theorem run_dressX2 {w : Str} (hs : S[n]? = some (plainC l)) (h0 : 0 ≤ a) (h1 : a < l.length) (h : ¬ (a < b ∧ b ≤ l.length)) : g_plain_dress S [.ref n, .int a, .int b, .str w] = some (.exc ⟨1, [("at", .int b)]⟩ S) := by
  have hg := run_stretchX2 hs h0 h1 h
  unfold g_plain_dress b_plain_dress
  simp (disch := first | assumption | omega | exact id rfl | exact pl_fl_kr _ | decide +kernel) only [List.map_cons, List.map_nil, List.length_cons, List.length_nil, bok, bex, mok, gok, gex, mook, thn_nx, thn_ret, thn_brk, thn_cnt, thn_exc, selB_some, kE2_e, kE1_e, evs_nil, evs_cons, kO1_e, evos_nil, evos_cons, kOp_e, ev_op, lift_some, ev_var, ev_non, ev_bl, ev_int, ev_str, kC2_e, pur_some', kC1_e, ev_cmp, kD2_e, kD1_e, ev_cmp2, kAnd_e, ev_and, kOr_e, ev_or, kNot_e, ev_not, kIfe_e, ev_ife, kG_e, kCall_e, ev_call, ev_qcall, kF3_e, kF2_e, kF_e, ev_fld, kMG_e, kM3_e, kM2_e, kM_e, ev_mcall, ev_frz, frz_new, frz_non, frz_int, frz_str, frz_bl, frz_tup, frz_fl, frz_kt, kGc_e, ev_gc, kGlob_e, ev_glob, kIsc3_e, kIsc2_e, kIsc_e, ev_isc, kXfld_e, ev_xfld, kXis_e, ev_xis, kIe_fl, evi_e, kIr_fl, evi_rev, kIt_tup, evi_tup, kIs_str, evi_str, kI1_int, evi_rng1, kI22_int, kI21_e, evi_rng2, kIn_fl, evi_enum, runs_nil, runs_cons, kA_e, nxO_some, run_asg, kAug_e, kAug0_e, run_aug, kS3_e, kS2_e, kS1_e, run_setI, kFs2_e, kFs1_e, run_fset, kX_e, run_expr, kR_e, run_ret, run_retN, run_brk, run_cnt, run_pass, tstV_e, tru_e, kIf_e, run_ite, kFor_e, run_for, kRs_1, kRs_0, kRaise_e, run_raise, run_faug, tel_e, kxs0_e, kxs_e, xisV_e, xisV_n, kHs_e, runHs_cons, runHs_nil, knH_c, knH_nil, run_try, inI_s, inI_n, kTri_exc, kTri_nx, kTri_ret, outO_ret, outO_nx, Hv.val, Hv.new, Hv.opW, op0, op1, op2, op3, Hv.binW, Hv.binI, Hv.ixW, slW2, slW, lenW, listW, tupleW, negW, sumW, minW, maxW, intW, Hv.intsD, Hv.cmpW, Hv.cmpG, Hv.cmpI, Hv.cmpS, isNonD, isiW, eq_nil_n, preW, isStrD, isIntD, isLstD, truth, setG, setGs, putS_0, putS_s, strNe, wipeS, Hv.noX, srcOf, seqS, tupD, addW, at_new, at_n1, at_n2, at_n3, at_n4, at_o1, at_o2, at_o3, at_o4, set_new, setFld, setFE, setFN, setF_nil, lookupE, lookupN, List.lookup_nil, outI, sizeLine_eq, gP_pos, Option.map_some, Option.map_none, Option.bind_some, Option.bind_none, Option.isSome_some, Option.isSome_none, Nat.reduceAdd, Nat.reduceSub, Nat.reduceLT, Nat.reduceLeDiff, Nat.reduceEqDiff, Nat.reduceBEq, Nat.reduceBNe, Int.reduceEq, Int.reduceLT, Int.reduceLE, Int.reduceAdd, Int.reduceMul, Int.reduceSub, Int.reduceNeg, Int.reduceToNat, Int.reducePow, List.replicate, List.cons_append, List.nil_append, List.getElem?_cons_zero, List.getElem?_cons_succ, List.getElem?_nil, List.set_cons_succ, List.set_cons_zero, if_true, if_false, ite_true, ite_false, Bool.false_eq_true, Bool.not_true, Bool.not_false, Bool.and_true, Bool.true_and, Bool.or_true, Bool.true_or, Bool.or_false, Bool.false_or, Bool.and_false, Bool.false_and, reduceCtorEq, eq_self, decide_true, decide_false, decide_not, List.take_succ_cons, List.take_zero, List.length_map, Int.toNat_natCast, fnG_0, fnG_1, fnG_2, fnG_3, fnG_4, fnG_5, fnG_6, fnG_7, fnG_8, out_ret, out_nx, out_exc, gcR_ok1, gcv_pl0, gcv_pl, gcv_p2, gcv_p3, gcv_p4, gcv_p5, gcv_p6, gcv_new, gcv_n2, gcv_n3, gcv_set0, gcv_set, gcv_set_new, gcR_x0, gcR_x00, gcR_x1, gcR_x10, bne_self_eq_false, beq_self_eq_true, bne_iff_ne, ne_eq, not_true_eq_false, not_false_eq_true, and_self, and_true, true_and, and_false, false_and, or_true, true_or, or_false, false_or, hs, hg, lk_plain_dress_f_plain_kept, lk_plain_dress_plain_ask_stretch]
theorem run_moveX1 {g : Int} (hs : S[n]? = some (plainC l)) (h : ¬ (0 ≤ a ∧ a < l.length)) : g_plain_move S [.ref n, .int a, .int b, .int g] = some (.exc ⟨1, [("at", .int a)]⟩ S) := by
  have hg := run_stretchX1 (b := b) hs h
  unfold g_plain_move b_plain_move
  simp (disch := first | assumption | omega | exact id rfl | exact pl_fl_kr _ | decide +kernel) only [List.map_cons, List.map_nil, List.length_cons, List.length_nil, bok, bex, mok, gok, gex, mook, thn_nx, thn_ret, thn_brk, thn_cnt, thn_exc, selB_some, kE2_e, kE1_e, evs_nil, evs_cons, kO1_e, evos_nil, evos_cons, kOp_e, ev_op, lift_some, ev_var, ev_non, ev_bl, ev_int, ev_str, kC2_e, pur_some', kC1_e, ev_cmp, kD2_e, kD1_e, ev_cmp2, kAnd_e, ev_and, kOr_e, ev_or, kNot_e, ev_not, kIfe_e, ev_ife, kG_e, kCall_e, ev_call, ev_qcall, kF3_e, kF2_e, kF_e, ev_fld, kMG_e, kM3_e, kM2_e, kM_e, ev_mcall, ev_frz, frz_new, frz_non, frz_int, frz_str, frz_bl, frz_tup, frz_fl, frz_kt, kGc_e, ev_gc, kGlob_e, ev_glob, kIsc3_e, kIsc2_e, kIsc_e, ev_isc, kXfld_e, ev_xfld, kXis_e, ev_xis, kIe_fl, evi_e, kIr_fl, evi_rev, kIt_tup, evi_tup, kIs_str, evi_str, kI1_int, evi_rng1, kI22_int, kI21_e, evi_rng2, kIn_fl, evi_enum, runs_nil, runs_cons, kA_e, nxO_some, run_asg, kAug_e, kAug0_e, run_aug, kS3_e, kS2_e, kS1_e, run_setI, kFs2_e, kFs1_e, run_fset, kX_e, run_expr, kR_e, run_ret, run_retN, run_brk, run_cnt, run_pass, tstV_e, tru_e, kIf_e, run_ite, kFor_e, run_for, kRs_1, kRs_0, kRaise_e, run_raise, run_faug, tel_e, kxs0_e, kxs_e, xisV_e, xisV_n, kHs_e, runHs_cons, runHs_nil, knH_c, knH_nil, run_try, inI_s, inI_n, kTri_exc, kTri_nx, kTri_ret, outO_ret, outO_nx, Hv.val, Hv.new, Hv.opW, op0, op1, op2, op3, Hv.binW, Hv.binI, Hv.ixW, slW2, slW, lenW, listW, tupleW, negW, sumW, minW, maxW, intW, Hv.intsD, Hv.cmpW, Hv.cmpG, Hv.cmpI, Hv.cmpS, isNonD, isiW, eq_nil_n, preW, isStrD, isIntD, isLstD, truth, setG, setGs, putS_0, putS_s, strNe, wipeS, Hv.noX, srcOf, seqS, tupD, addW, at_new, at_n1, at_n2, at_n3, at_n4, at_o1, at_o2, at_o3, at_o4, set_new, setFld, setFE, setFN, setF_nil, lookupE, lookupN, List.lookup_nil, outI, sizeLine_eq, gP_pos, Option.map_some, Option.map_none, Option.bind_some, Option.bind_none, Option.isSome_some, Option.isSome_none, Nat.reduceAdd, Nat.reduceSub, Nat.reduceLT, Nat.reduceLeDiff, Nat.reduceEqDiff, Nat.reduceBEq, Nat.reduceBNe, Int.reduceEq, Int.reduceLT, Int.reduceLE, Int.reduceAdd, Int.reduceMul, Int.reduceSub, Int.reduceNeg, Int.reduceToNat, Int.reducePow, List.replicate, List.cons_append, List.nil_append, List.getElem?_cons_zero, List.getElem?_cons_succ, List.getElem?_nil, List.set_cons_succ, List.set_cons_zero, if_true, if_false, ite_true, ite_false, Bool.false_eq_true, Bool.not_true, Bool.not_false, Bool.and_true, Bool.true_and, Bool.or_true, Bool.true_or, Bool.or_false, Bool.false_or, Bool.and_false, Bool.false_and, reduceCtorEq, eq_self, decide_true, decide_false, decide_not, List.take_succ_cons, List.take_zero, List.length_map, Int.toNat_natCast, fnG_0, fnG_1, fnG_2, fnG_3, fnG_4, fnG_5, fnG_6, fnG_7, fnG_8, out_ret, out_nx, out_exc, gcR_ok1, gcv_pl0, gcv_pl, gcv_p2, gcv_p3, gcv_p4, gcv_p5, gcv_p6, gcv_new, gcv_n2, gcv_n3, gcv_set0, gcv_set, gcv_set_new, gcR_x0, gcR_x00, gcR_x1, gcR_x10, bne_self_eq_false, beq_self_eq_true, bne_iff_ne, ne_eq, not_true_eq_false, not_false_eq_true, and_self, and_true, true_and, and_false, false_and, or_true, true_or, or_false, false_or, hs, hg, lk_plain_move_f_plain_kept, lk_plain_move_plain_ask_gap, lk_plain_move_plain_ask_stretch]
theorem run_moveX2 {g : Int} (hs : S[n]? = some (plainC l)) (h0 : 0 ≤ a) (h1 : a < l.length) (h : ¬ (a < b ∧ b ≤ l.length)) : g_plain_move S [.ref n, .int a, .int b, .int g] = some (.exc ⟨1, [("at", .int b)]⟩ S) := by
  have hg := run_stretchX2 hs h0 h1 h
  unfold g_plain_move b_plain_move
  simp (disch := first | assumption | omega | exact id rfl | exact pl_fl_kr _ | decide +kernel) only [List.map_cons, List.map_nil, List.length_cons, List.length_nil, bok, bex, mok, gok, gex, mook, thn_nx, thn_ret, thn_brk, thn_cnt, thn_exc, selB_some, kE2_e, kE1_e, evs_nil, evs_cons, kO1_e, evos_nil, evos_cons, kOp_e, ev_op, lift_some, ev_var, ev_non, ev_bl, ev_int, ev_str, kC2_e, pur_some', kC1_e, ev_cmp, kD2_e, kD1_e, ev_cmp2, kAnd_e, ev_and, kOr_e, ev_or, kNot_e, ev_not, kIfe_e, ev_ife, kG_e, kCall_e, ev_call, ev_qcall, kF3_e, kF2_e, kF_e, ev_fld, kMG_e, kM3_e, kM2_e, kM_e, ev_mcall, ev_frz, frz_new, frz_non, frz_int, frz_str, frz_bl, frz_tup, frz_fl, frz_kt, kGc_e, ev_gc, kGlob_e, ev_glob, kIsc3_e, kIsc2_e, kIsc_e, ev_isc, kXfld_e, ev_xfld, kXis_e, ev_xis, kIe_fl, evi_e, kIr_fl, evi_rev, kIt_tup, evi_tup, kIs_str, evi_str, kI1_int, evi_rng1, kI22_int, kI21_e, evi_rng2, kIn_fl, evi_enum, runs_nil, runs_cons, kA_e, nxO_some, run_asg, kAug_e, kAug0_e, run_aug, kS3_e, kS2_e, kS1_e, run_setI, kFs2_e, kFs1_e, run_fset, kX_e, run_expr, kR_e, run_ret, run_retN, run_brk, run_cnt, run_pass, tstV_e, tru_e, kIf_e, run_ite, kFor_e, run_for, kRs_1, kRs_0, kRaise_e, run_raise, run_faug, tel_e, kxs0_e, kxs_e, xisV_e, xisV_n, kHs_e, runHs_cons, runHs_nil, knH_c, knH_nil, run_try, inI_s, inI_n, kTri_exc, kTri_nx, kTri_ret, outO_ret, outO_nx, Hv.val, Hv.new, Hv.opW, op0, op1, op2, op3, Hv.binW, Hv.binI, Hv.ixW, slW2, slW, lenW, listW, tupleW, negW, sumW, minW, maxW, intW, Hv.intsD, Hv.cmpW, Hv.cmpG, Hv.cmpI, Hv.cmpS, isNonD, isiW, eq_nil_n, preW, isStrD, isIntD, isLstD, truth, setG, setGs, putS_0, putS_s, strNe, wipeS, Hv.noX, srcOf, seqS, tupD, addW, at_new, at_n1, at_n2, at_n3, at_n4, at_o1, at_o2, at_o3, at_o4, set_new, setFld, setFE, setFN, setF_nil, lookupE, lookupN, List.lookup_nil, outI, sizeLine_eq, gP_pos, Option.map_some, Option.map_none, Option.bind_some, Option.bind_none, Option.isSome_some, Option.isSome_none, Nat.reduceAdd, Nat.reduceSub, Nat.reduceLT, Nat.reduceLeDiff, Nat.reduceEqDiff, Nat.reduceBEq, Nat.reduceBNe, Int.reduceEq, Int.reduceLT, Int.reduceLE, Int.reduceAdd, Int.reduceMul, Int.reduceSub, Int.reduceNeg, Int.reduceToNat, Int.reducePow, List.replicate, List.cons_append, List.nil_append, List.getElem?_cons_zero, List.getElem?_cons_succ, List.getElem?_nil, List.set_cons_succ, List.set_cons_zero, if_true, if_false, ite_true, ite_false, Bool.false_eq_true, Bool.not_true, Bool.not_false, Bool.and_true, Bool.true_and, Bool.or_true, Bool.true_or, Bool.or_false, Bool.false_or, Bool.and_false, Bool.false_and, reduceCtorEq, eq_self, decide_true, decide_false, decide_not, List.take_succ_cons, List.take_zero, List.length_map, Int.toNat_natCast, fnG_0, fnG_1, fnG_2, fnG_3, fnG_4, fnG_5, fnG_6, fnG_7, fnG_8, out_ret, out_nx, out_exc, gcR_ok1, gcv_pl0, gcv_pl, gcv_p2, gcv_p3, gcv_p4, gcv_p5, gcv_p6, gcv_new, gcv_n2, gcv_n3, gcv_set0, gcv_set, gcv_set_new, gcR_x0, gcR_x00, gcR_x1, gcR_x10, bne_self_eq_false, beq_self_eq_true, bne_iff_ne, ne_eq, not_true_eq_false, not_false_eq_true, and_self, and_true, true_and, and_false, false_and, or_true, true_or, or_false, false_or, hs, hg, lk_plain_move_f_plain_kept, lk_plain_move_plain_ask_gap, lk_plain_move_plain_ask_stretch]
theorem run_moveX3 {g : Int} (hs : S[n]? = some (plainC l)) (h0 : 0 ≤ a) (h1 : a < b) (h2 : b ≤ l.length) (h : ¬ (0 ≤ g ∧ g ≤ l.length)) : g_plain_move S [.ref n, .int a, .int b, .int g] = some (.exc ⟨1, [("at", .int g)]⟩ S) := by
  have hg := run_stretch hs h0 h1 h2
  have hg2 := run_gapX hs h
  unfold g_plain_move b_plain_move
  simp (disch := first | assumption | omega | exact id rfl | exact pl_fl_kr _ | decide +kernel) only [List.map_cons, List.map_nil, List.length_cons, List.length_nil, bok, bex, mok, gok, gex, mook, thn_nx, thn_ret, thn_brk, thn_cnt, thn_exc, selB_some, kE2_e, kE1_e, evs_nil, evs_cons, kO1_e, evos_nil, evos_cons, kOp_e, ev_op, lift_some, ev_var, ev_non, ev_bl, ev_int, ev_str, kC2_e, pur_some', kC1_e, ev_cmp, kD2_e, kD1_e, ev_cmp2, kAnd_e, ev_and, kOr_e, ev_or, kNot_e, ev_not, kIfe_e, ev_ife, kG_e, kCall_e, ev_call, ev_qcall, kF3_e, kF2_e, kF_e, ev_fld, kMG_e, kM3_e, kM2_e, kM_e, ev_mcall, ev_frz, frz_new, frz_non, frz_int, frz_str, frz_bl, frz_tup, frz_fl, frz_kt, kGc_e, ev_gc, kGlob_e, ev_glob, kIsc3_e, kIsc2_e, kIsc_e, ev_isc, kXfld_e, ev_xfld, kXis_e, ev_xis, kIe_fl, evi_e, kIr_fl, evi_rev, kIt_tup, evi_tup, kIs_str, evi_str, kI1_int, evi_rng1, kI22_int, kI21_e, evi_rng2, kIn_fl, evi_enum, runs_nil, runs_cons, kA_e, nxO_some, run_asg, kAug_e, kAug0_e, run_aug, kS3_e, kS2_e, kS1_e, run_setI, kFs2_e, kFs1_e, run_fset, kX_e, run_expr, kR_e, run_ret, run_retN, run_brk, run_cnt, run_pass, tstV_e, tru_e, kIf_e, run_ite, kFor_e, run_for, kRs_1, kRs_0, kRaise_e, run_raise, run_faug, tel_e, kxs0_e, kxs_e, xisV_e, xisV_n, kHs_e, runHs_cons, runHs_nil, knH_c, knH_nil, run_try, inI_s, inI_n, kTri_exc, kTri_nx, kTri_ret, outO_ret, outO_nx, Hv.val, Hv.new, Hv.opW, op0, op1, op2, op3, Hv.binW, Hv.binI, Hv.ixW, slW2, slW, lenW, listW, tupleW, negW, sumW, minW, maxW, intW, Hv.intsD, Hv.cmpW, Hv.cmpG, Hv.cmpI, Hv.cmpS, isNonD, isiW, eq_nil_n, preW, isStrD, isIntD, isLstD, truth, setG, setGs, putS_0, putS_s, strNe, wipeS, Hv.noX, srcOf, seqS, tupD, addW, at_new, at_n1, at_n2, at_n3, at_n4, at_o1, at_o2, at_o3, at_o4, set_new, setFld, setFE, setFN, setF_nil, lookupE, lookupN, List.lookup_nil, outI, sizeLine_eq, gP_pos, Option.map_some, Option.map_none, Option.bind_some, Option.bind_none, Option.isSome_some, Option.isSome_none, Nat.reduceAdd, Nat.reduceSub, Nat.reduceLT, Nat.reduceLeDiff, Nat.reduceEqDiff, Nat.reduceBEq, Nat.reduceBNe, Int.reduceEq, Int.reduceLT, Int.reduceLE, Int.reduceAdd, Int.reduceMul, Int.reduceSub, Int.reduceNeg, Int.reduceToNat, Int.reducePow, List.replicate, List.cons_append, List.nil_append, List.getElem?_cons_zero, List.getElem?_cons_succ, List.getElem?_nil, List.set_cons_succ, List.set_cons_zero, if_true, if_false, ite_true, ite_false, Bool.false_eq_true, Bool.not_true, Bool.not_false, Bool.and_true, Bool.true_and, Bool.or_true, Bool.true_or, Bool.or_false, Bool.false_or, Bool.and_false, Bool.false_and, reduceCtorEq, eq_self, decide_true, decide_false, decide_not, List.take_succ_cons, List.take_zero, List.length_map, Int.toNat_natCast, fnG_0, fnG_1, fnG_2, fnG_3, fnG_4, fnG_5, fnG_6, fnG_7, fnG_8, out_ret, out_nx, out_exc, gcR_ok1, gcv_pl0, gcv_pl, gcv_p2, gcv_p3, gcv_p4, gcv_p5, gcv_p6, gcv_new, gcv_n2, gcv_n3, gcv_set0, gcv_set, gcv_set_new, gcR_x0, gcR_x00, gcR_x1, gcR_x10, bne_self_eq_false, beq_self_eq_true, bne_iff_ne, ne_eq, not_true_eq_false, not_false_eq_true, and_self, and_true, true_and, and_false, false_and, or_true, true_or, or_false, false_or, hs, hg, hg2, lk_plain_move_f_plain_kept, lk_plain_move_plain_ask_gap, lk_plain_move_plain_ask_stretch]
theorem run_move {g : Int} (hs : S[n]? = some (plainC l)) (h0 : 0 ≤ a) (h1 : a < b) (h2 : b ≤ l.length) (hg0 : 0 ≤ g) (hg1 : g ≤ l.length) (hl : l.length ≤ 100000) : ∃ l', l'.length = l.length ∧ (∀ p ∈ l', p ∈ l) ∧ g_plain_move S [.ref n, .int a, .int b, .int g] = some (.ok .non (S.set n (plainC l'))) := by
  have hn := at_lt hs
  have hg := run_stretch hs h0 h1 h2
  have hg2 := run_gap hs hg0 hg1
  have h3 : 0 ≤ b := by omega
  have c1 := cutD_to (xs := kr l) h0
  have c2 := cutD_from (xs := kr l) h3
  have c3 := cutD_pos (xs := kr l) h0 h3
  generalize hm : (l.take b.toNat).drop a.toNat = m at *
  have hml : m.length = b.toNat - a.toNat := by rw [← hm]; simp; omega
  obtain ⟨ys, e1, hys, hyl⟩ : ∃ ys : List D, (ev Gm35 c_plain_move_1 [.v (.ref n), .v (.int a), .v (.int b), .v (.int g), .v (.fl (kr m)), .out, .out, .out] S = some (.ok (.ref S.length) (S ++ [.lst ys]))) ∧ pls ys = true ∧ ys.length ≤ 16777216 := by
    have e2 := ev_lcf (Γ := Gm35) (σ := [.v (.ref n), .v (.int a), .v (.int b), .v (.int g), .v (.fl (kr m)), .out, .out, .out]) (S := S) (own := [("k", 7)]) (g := .nm 7) (it := .rng1 (.var 3)) (c := .not (.cmp2 .LtE .Lt (.var 1) (.var 7) (.var 2))) (e := .var 7) (src := []) (S1 := S) (xs := rngD 0 g.toNat) (fun d => match d with | .int k => !(decide (a ≤ k) && decide (k < b)) | _ => false) (fun d => d) (by simp (disch := first | assumption | omega | exact id rfl | exact pl_fl_kr _ | decide +kernel) only [List.map_cons, List.map_nil, List.length_cons, List.length_nil, bok, bex, mok, gok, gex, mook, thn_nx, thn_ret, thn_brk, thn_cnt, thn_exc, selB_some, kE2_e, kE1_e, evs_nil, evs_cons, kO1_e, evos_nil, evos_cons, kOp_e, ev_op, lift_some, ev_var, ev_non, ev_bl, ev_int, ev_str, kC2_e, pur_some', kC1_e, ev_cmp, kD2_e, kD1_e, ev_cmp2, kAnd_e, ev_and, kOr_e, ev_or, kNot_e, ev_not, kIfe_e, ev_ife, kG_e, kCall_e, ev_call, ev_qcall, kF3_e, kF2_e, kF_e, ev_fld, kMG_e, kM3_e, kM2_e, kM_e, ev_mcall, ev_frz, frz_new, frz_non, frz_int, frz_str, frz_bl, frz_tup, frz_fl, frz_kt, kGc_e, ev_gc, kGlob_e, ev_glob, kIsc3_e, kIsc2_e, kIsc_e, ev_isc, kXfld_e, ev_xfld, kXis_e, ev_xis, kIe_fl, evi_e, kIr_fl, evi_rev, kIt_tup, evi_tup, kIs_str, evi_str, kI1_int, evi_rng1, kI22_int, kI21_e, evi_rng2, kIn_fl, evi_enum, runs_nil, runs_cons, kA_e, nxO_some, run_asg, kAug_e, kAug0_e, run_aug, kS3_e, kS2_e, kS1_e, run_setI, kFs2_e, kFs1_e, run_fset, kX_e, run_expr, kR_e, run_ret, run_retN, run_brk, run_cnt, run_pass, tstV_e, tru_e, kIf_e, run_ite, kFor_e, run_for, kRs_1, kRs_0, kRaise_e, run_raise, run_faug, tel_e, kxs0_e, kxs_e, xisV_e, xisV_n, kHs_e, runHs_cons, runHs_nil, knH_c, knH_nil, run_try, inI_s, inI_n, kTri_exc, kTri_nx, kTri_ret, outO_ret, outO_nx, Hv.val, Hv.new, Hv.opW, op0, op1, op2, op3, Hv.binW, Hv.binI, Hv.ixW, slW2, slW, lenW, listW, tupleW, negW, sumW, minW, maxW, intW, Hv.intsD, Hv.cmpW, Hv.cmpG, Hv.cmpI, Hv.cmpS, isNonD, isiW, eq_nil_n, preW, isStrD, isIntD, isLstD, truth, setG, setGs, putS_0, putS_s, strNe, wipeS, Hv.noX, srcOf, seqS, tupD, addW, at_new, at_n1, at_n2, at_n3, at_n4, at_o1, at_o2, at_o3, at_o4, set_new, setFld, setFE, setFN, setF_nil, lookupE, lookupN, List.lookup_nil, outI, sizeLine_eq, gP_pos, Option.map_some, Option.map_none, Option.bind_some, Option.bind_none, Option.isSome_some, Option.isSome_none, Nat.reduceAdd, Nat.reduceSub, Nat.reduceLT, Nat.reduceLeDiff, Nat.reduceEqDiff, Nat.reduceBEq, Nat.reduceBNe, Int.reduceEq, Int.reduceLT, Int.reduceLE, Int.reduceAdd, Int.reduceMul, Int.reduceSub, Int.reduceNeg, Int.reduceToNat, Int.reducePow, List.replicate, List.cons_append, List.nil_append, List.getElem?_cons_zero, List.getElem?_cons_succ, List.getElem?_nil, List.set_cons_succ, List.set_cons_zero, if_true, if_false, ite_true, ite_false, Bool.false_eq_true, Bool.not_true, Bool.not_false, Bool.and_true, Bool.true_and, Bool.or_true, Bool.true_or, Bool.or_false, Bool.false_or, Bool.and_false, Bool.false_and, reduceCtorEq, eq_self, decide_true, decide_false, decide_not, List.take_succ_cons, List.take_zero, List.length_map, Int.toNat_natCast, fnG_0, fnG_1, fnG_2, fnG_3, fnG_4, fnG_5, fnG_6, fnG_7, fnG_8, out_ret, out_nx, out_exc, gcR_ok1, gcv_pl0, gcv_pl, gcv_p2, gcv_p3, gcv_p4, gcv_p5, gcv_p6, gcv_new, gcv_n2, gcv_n3, gcv_set0, gcv_set, gcv_set_new, gcR_x0, gcR_x00, gcR_x1, gcR_x10, bne_self_eq_false, beq_self_eq_true, bne_iff_ne, ne_eq, not_true_eq_false, not_false_eq_true, and_self, and_true, true_and, and_false, false_and, or_true, true_or, or_false, false_or]) trivial (by rw [rngD_length]; omega) fun x hx => by
      obtain ⟨i, hi, rfl⟩ := rngD_mem hx
      refine ⟨[.v (.ref n), .v (.int a), .v (.int b), .v (.int g), .v (.fl (kr m)), .out, .out, .v (.int (0 + (i : Int)))], by simp (disch := first | assumption | omega | exact id rfl | exact pl_fl_kr _ | decide +kernel) only [List.map_cons, List.map_nil, List.length_cons, List.length_nil, bok, bex, mok, gok, gex, mook, thn_nx, thn_ret, thn_brk, thn_cnt, thn_exc, selB_some, kE2_e, kE1_e, evs_nil, evs_cons, kO1_e, evos_nil, evos_cons, kOp_e, ev_op, lift_some, ev_var, ev_non, ev_bl, ev_int, ev_str, kC2_e, pur_some', kC1_e, ev_cmp, kD2_e, kD1_e, ev_cmp2, kAnd_e, ev_and, kOr_e, ev_or, kNot_e, ev_not, kIfe_e, ev_ife, kG_e, kCall_e, ev_call, ev_qcall, kF3_e, kF2_e, kF_e, ev_fld, kMG_e, kM3_e, kM2_e, kM_e, ev_mcall, ev_frz, frz_new, frz_non, frz_int, frz_str, frz_bl, frz_tup, frz_fl, frz_kt, kGc_e, ev_gc, kGlob_e, ev_glob, kIsc3_e, kIsc2_e, kIsc_e, ev_isc, kXfld_e, ev_xfld, kXis_e, ev_xis, kIe_fl, evi_e, kIr_fl, evi_rev, kIt_tup, evi_tup, kIs_str, evi_str, kI1_int, evi_rng1, kI22_int, kI21_e, evi_rng2, kIn_fl, evi_enum, runs_nil, runs_cons, kA_e, nxO_some, run_asg, kAug_e, kAug0_e, run_aug, kS3_e, kS2_e, kS1_e, run_setI, kFs2_e, kFs1_e, run_fset, kX_e, run_expr, kR_e, run_ret, run_retN, run_brk, run_cnt, run_pass, tstV_e, tru_e, kIf_e, run_ite, kFor_e, run_for, kRs_1, kRs_0, kRaise_e, run_raise, run_faug, tel_e, kxs0_e, kxs_e, xisV_e, xisV_n, kHs_e, runHs_cons, runHs_nil, knH_c, knH_nil, run_try, inI_s, inI_n, kTri_exc, kTri_nx, kTri_ret, outO_ret, outO_nx, Hv.val, Hv.new, Hv.opW, op0, op1, op2, op3, Hv.binW, Hv.binI, Hv.ixW, slW2, slW, lenW, listW, tupleW, negW, sumW, minW, maxW, intW, Hv.intsD, Hv.cmpW, Hv.cmpG, Hv.cmpI, Hv.cmpS, isNonD, isiW, eq_nil_n, preW, isStrD, isIntD, isLstD, truth, setG, setGs, putS_0, putS_s, strNe, wipeS, Hv.noX, srcOf, seqS, tupD, addW, at_new, at_n1, at_n2, at_n3, at_n4, at_o1, at_o2, at_o3, at_o4, set_new, setFld, setFE, setFN, setF_nil, lookupE, lookupN, List.lookup_nil, outI, sizeLine_eq, gP_pos, Option.map_some, Option.map_none, Option.bind_some, Option.bind_none, Option.isSome_some, Option.isSome_none, Nat.reduceAdd, Nat.reduceSub, Nat.reduceLT, Nat.reduceLeDiff, Nat.reduceEqDiff, Nat.reduceBEq, Nat.reduceBNe, Int.reduceEq, Int.reduceLT, Int.reduceLE, Int.reduceAdd, Int.reduceMul, Int.reduceSub, Int.reduceNeg, Int.reduceToNat, Int.reducePow, List.replicate, List.cons_append, List.nil_append, List.getElem?_cons_zero, List.getElem?_cons_succ, List.getElem?_nil, List.set_cons_succ, List.set_cons_zero, if_true, if_false, ite_true, ite_false, Bool.false_eq_true, Bool.not_true, Bool.not_false, Bool.and_true, Bool.true_and, Bool.or_true, Bool.true_or, Bool.or_false, Bool.false_or, Bool.and_false, Bool.false_and, reduceCtorEq, eq_self, decide_true, decide_false, decide_not, List.take_succ_cons, List.take_zero, List.length_map, Int.toNat_natCast, fnG_0, fnG_1, fnG_2, fnG_3, fnG_4, fnG_5, fnG_6, fnG_7, fnG_8, out_ret, out_nx, out_exc, gcR_ok1, gcv_pl0, gcv_pl, gcv_p2, gcv_p3, gcv_p4, gcv_p5, gcv_p6, gcv_new, gcv_n2, gcv_n3, gcv_set0, gcv_set, gcv_set_new, gcR_x0, gcR_x00, gcR_x1, gcR_x10, bne_self_eq_false, beq_self_eq_true, bne_iff_ne, ne_eq, not_true_eq_false, not_false_eq_true, and_self, and_true, true_and, and_false, false_and, or_true, true_or, or_false, false_or], ?_, fun _ => by simp (disch := first | assumption | omega | exact id rfl | exact pl_fl_kr _ | decide +kernel) only [List.map_cons, List.map_nil, List.length_cons, List.length_nil, bok, bex, mok, gok, gex, mook, thn_nx, thn_ret, thn_brk, thn_cnt, thn_exc, selB_some, kE2_e, kE1_e, evs_nil, evs_cons, kO1_e, evos_nil, evos_cons, kOp_e, ev_op, lift_some, ev_var, ev_non, ev_bl, ev_int, ev_str, kC2_e, pur_some', kC1_e, ev_cmp, kD2_e, kD1_e, ev_cmp2, kAnd_e, ev_and, kOr_e, ev_or, kNot_e, ev_not, kIfe_e, ev_ife, kG_e, kCall_e, ev_call, ev_qcall, kF3_e, kF2_e, kF_e, ev_fld, kMG_e, kM3_e, kM2_e, kM_e, ev_mcall, ev_frz, frz_new, frz_non, frz_int, frz_str, frz_bl, frz_tup, frz_fl, frz_kt, kGc_e, ev_gc, kGlob_e, ev_glob, kIsc3_e, kIsc2_e, kIsc_e, ev_isc, kXfld_e, ev_xfld, kXis_e, ev_xis, kIe_fl, evi_e, kIr_fl, evi_rev, kIt_tup, evi_tup, kIs_str, evi_str, kI1_int, evi_rng1, kI22_int, kI21_e, evi_rng2, kIn_fl, evi_enum, runs_nil, runs_cons, kA_e, nxO_some, run_asg, kAug_e, kAug0_e, run_aug, kS3_e, kS2_e, kS1_e, run_setI, kFs2_e, kFs1_e, run_fset, kX_e, run_expr, kR_e, run_ret, run_retN, run_brk, run_cnt, run_pass, tstV_e, tru_e, kIf_e, run_ite, kFor_e, run_for, kRs_1, kRs_0, kRaise_e, run_raise, run_faug, tel_e, kxs0_e, kxs_e, xisV_e, xisV_n, kHs_e, runHs_cons, runHs_nil, knH_c, knH_nil, run_try, inI_s, inI_n, kTri_exc, kTri_nx, kTri_ret, outO_ret, outO_nx, Hv.val, Hv.new, Hv.opW, op0, op1, op2, op3, Hv.binW, Hv.binI, Hv.ixW, slW2, slW, lenW, listW, tupleW, negW, sumW, minW, maxW, intW, Hv.intsD, Hv.cmpW, Hv.cmpG, Hv.cmpI, Hv.cmpS, isNonD, isiW, eq_nil_n, preW, isStrD, isIntD, isLstD, truth, setG, setGs, putS_0, putS_s, strNe, wipeS, Hv.noX, srcOf, seqS, tupD, addW, at_new, at_n1, at_n2, at_n3, at_n4, at_o1, at_o2, at_o3, at_o4, set_new, setFld, setFE, setFN, setF_nil, lookupE, lookupN, List.lookup_nil, outI, sizeLine_eq, gP_pos, Option.map_some, Option.map_none, Option.bind_some, Option.bind_none, Option.isSome_some, Option.isSome_none, Nat.reduceAdd, Nat.reduceSub, Nat.reduceLT, Nat.reduceLeDiff, Nat.reduceEqDiff, Nat.reduceBEq, Nat.reduceBNe, Int.reduceEq, Int.reduceLT, Int.reduceLE, Int.reduceAdd, Int.reduceMul, Int.reduceSub, Int.reduceNeg, Int.reduceToNat, Int.reducePow, List.replicate, List.cons_append, List.nil_append, List.getElem?_cons_zero, List.getElem?_cons_succ, List.getElem?_nil, List.set_cons_succ, List.set_cons_zero, if_true, if_false, ite_true, ite_false, Bool.false_eq_true, Bool.not_true, Bool.not_false, Bool.and_true, Bool.true_and, Bool.or_true, Bool.true_or, Bool.or_false, Bool.false_or, Bool.and_false, Bool.false_and, reduceCtorEq, eq_self, decide_true, decide_false, decide_not, List.take_succ_cons, List.take_zero, List.length_map, Int.toNat_natCast, fnG_0, fnG_1, fnG_2, fnG_3, fnG_4, fnG_5, fnG_6, fnG_7, fnG_8, out_ret, out_nx, out_exc, gcR_ok1, gcv_pl0, gcv_pl, gcv_p2, gcv_p3, gcv_p4, gcv_p5, gcv_p6, gcv_new, gcv_n2, gcv_n3, gcv_set0, gcv_set, gcv_set_new, gcR_x0, gcR_x00, gcR_x1, gcR_x10, bne_self_eq_false, beq_self_eq_true, bne_iff_ne, ne_eq, not_true_eq_false, not_false_eq_true, and_self, and_true, true_and, and_false, false_and, or_true, true_or, or_false, false_or]⟩
      unfold evc
      by_cases k1 : a ≤ 0 + (i : Int)
      · by_cases k2 : 0 + (i : Int) < b
        · simp (disch := first | assumption | omega | exact id rfl | exact pl_fl_kr _ | decide +kernel) only [List.map_cons, List.map_nil, List.length_cons, List.length_nil, bok, bex, mok, gok, gex, mook, thn_nx, thn_ret, thn_brk, thn_cnt, thn_exc, selB_some, kE2_e, kE1_e, evs_nil, evs_cons, kO1_e, evos_nil, evos_cons, kOp_e, ev_op, lift_some, ev_var, ev_non, ev_bl, ev_int, ev_str, kC2_e, pur_some', kC1_e, ev_cmp, kD2_e, kD1_e, ev_cmp2, kAnd_e, ev_and, kOr_e, ev_or, kNot_e, ev_not, kIfe_e, ev_ife, kG_e, kCall_e, ev_call, ev_qcall, kF3_e, kF2_e, kF_e, ev_fld, kMG_e, kM3_e, kM2_e, kM_e, ev_mcall, ev_frz, frz_new, frz_non, frz_int, frz_str, frz_bl, frz_tup, frz_fl, frz_kt, kGc_e, ev_gc, kGlob_e, ev_glob, kIsc3_e, kIsc2_e, kIsc_e, ev_isc, kXfld_e, ev_xfld, kXis_e, ev_xis, kIe_fl, evi_e, kIr_fl, evi_rev, kIt_tup, evi_tup, kIs_str, evi_str, kI1_int, evi_rng1, kI22_int, kI21_e, evi_rng2, kIn_fl, evi_enum, runs_nil, runs_cons, kA_e, nxO_some, run_asg, kAug_e, kAug0_e, run_aug, kS3_e, kS2_e, kS1_e, run_setI, kFs2_e, kFs1_e, run_fset, kX_e, run_expr, kR_e, run_ret, run_retN, run_brk, run_cnt, run_pass, tstV_e, tru_e, kIf_e, run_ite, kFor_e, run_for, kRs_1, kRs_0, kRaise_e, run_raise, run_faug, tel_e, kxs0_e, kxs_e, xisV_e, xisV_n, kHs_e, runHs_cons, runHs_nil, knH_c, knH_nil, run_try, inI_s, inI_n, kTri_exc, kTri_nx, kTri_ret, outO_ret, outO_nx, Hv.val, Hv.new, Hv.opW, op0, op1, op2, op3, Hv.binW, Hv.binI, Hv.ixW, slW2, slW, lenW, listW, tupleW, negW, sumW, minW, maxW, intW, Hv.intsD, Hv.cmpW, Hv.cmpG, Hv.cmpI, Hv.cmpS, isNonD, isiW, eq_nil_n, preW, isStrD, isIntD, isLstD, truth, setG, setGs, putS_0, putS_s, strNe, wipeS, Hv.noX, srcOf, seqS, tupD, addW, at_new, at_n1, at_n2, at_n3, at_n4, at_o1, at_o2, at_o3, at_o4, set_new, setFld, setFE, setFN, setF_nil, lookupE, lookupN, List.lookup_nil, outI, sizeLine_eq, gP_pos, Option.map_some, Option.map_none, Option.bind_some, Option.bind_none, Option.isSome_some, Option.isSome_none, Nat.reduceAdd, Nat.reduceSub, Nat.reduceLT, Nat.reduceLeDiff, Nat.reduceEqDiff, Nat.reduceBEq, Nat.reduceBNe, Int.reduceEq, Int.reduceLT, Int.reduceLE, Int.reduceAdd, Int.reduceMul, Int.reduceSub, Int.reduceNeg, Int.reduceToNat, Int.reducePow, List.replicate, List.cons_append, List.nil_append, List.getElem?_cons_zero, List.getElem?_cons_succ, List.getElem?_nil, List.set_cons_succ, List.set_cons_zero, if_true, if_false, ite_true, ite_false, Bool.false_eq_true, Bool.not_true, Bool.not_false, Bool.and_true, Bool.true_and, Bool.or_true, Bool.true_or, Bool.or_false, Bool.false_or, Bool.and_false, Bool.false_and, reduceCtorEq, eq_self, decide_true, decide_false, decide_not, List.take_succ_cons, List.take_zero, List.length_map, Int.toNat_natCast, fnG_0, fnG_1, fnG_2, fnG_3, fnG_4, fnG_5, fnG_6, fnG_7, fnG_8, out_ret, out_nx, out_exc, gcR_ok1, gcv_pl0, gcv_pl, gcv_p2, gcv_p3, gcv_p4, gcv_p5, gcv_p6, gcv_new, gcv_n2, gcv_n3, gcv_set0, gcv_set, gcv_set_new, gcR_x0, gcR_x00, gcR_x1, gcR_x10, bne_self_eq_false, beq_self_eq_true, bne_iff_ne, ne_eq, not_true_eq_false, not_false_eq_true, and_self, and_true, true_and, and_false, false_and, or_true, true_or, or_false, false_or, k1, k2]
        · simp (disch := first | assumption | omega | exact id rfl | exact pl_fl_kr _ | decide +kernel) only [List.map_cons, List.map_nil, List.length_cons, List.length_nil, bok, bex, mok, gok, gex, mook, thn_nx, thn_ret, thn_brk, thn_cnt, thn_exc, selB_some, kE2_e, kE1_e, evs_nil, evs_cons, kO1_e, evos_nil, evos_cons, kOp_e, ev_op, lift_some, ev_var, ev_non, ev_bl, ev_int, ev_str, kC2_e, pur_some', kC1_e, ev_cmp, kD2_e, kD1_e, ev_cmp2, kAnd_e, ev_and, kOr_e, ev_or, kNot_e, ev_not, kIfe_e, ev_ife, kG_e, kCall_e, ev_call, ev_qcall, kF3_e, kF2_e, kF_e, ev_fld, kMG_e, kM3_e, kM2_e, kM_e, ev_mcall, ev_frz, frz_new, frz_non, frz_int, frz_str, frz_bl, frz_tup, frz_fl, frz_kt, kGc_e, ev_gc, kGlob_e, ev_glob, kIsc3_e, kIsc2_e, kIsc_e, ev_isc, kXfld_e, ev_xfld, kXis_e, ev_xis, kIe_fl, evi_e, kIr_fl, evi_rev, kIt_tup, evi_tup, kIs_str, evi_str, kI1_int, evi_rng1, kI22_int, kI21_e, evi_rng2, kIn_fl, evi_enum, runs_nil, runs_cons, kA_e, nxO_some, run_asg, kAug_e, kAug0_e, run_aug, kS3_e, kS2_e, kS1_e, run_setI, kFs2_e, kFs1_e, run_fset, kX_e, run_expr, kR_e, run_ret, run_retN, run_brk, run_cnt, run_pass, tstV_e, tru_e, kIf_e, run_ite, kFor_e, run_for, kRs_1, kRs_0, kRaise_e, run_raise, run_faug, tel_e, kxs0_e, kxs_e, xisV_e, xisV_n, kHs_e, runHs_cons, runHs_nil, knH_c, knH_nil, run_try, inI_s, inI_n, kTri_exc, kTri_nx, kTri_ret, outO_ret, outO_nx, Hv.val, Hv.new, Hv.opW, op0, op1, op2, op3, Hv.binW, Hv.binI, Hv.ixW, slW2, slW, lenW, listW, tupleW, negW, sumW, minW, maxW, intW, Hv.intsD, Hv.cmpW, Hv.cmpG, Hv.cmpI, Hv.cmpS, isNonD, isiW, eq_nil_n, preW, isStrD, isIntD, isLstD, truth, setG, setGs, putS_0, putS_s, strNe, wipeS, Hv.noX, srcOf, seqS, tupD, addW, at_new, at_n1, at_n2, at_n3, at_n4, at_o1, at_o2, at_o3, at_o4, set_new, setFld, setFE, setFN, setF_nil, lookupE, lookupN, List.lookup_nil, outI, sizeLine_eq, gP_pos, Option.map_some, Option.map_none, Option.bind_some, Option.bind_none, Option.isSome_some, Option.isSome_none, Nat.reduceAdd, Nat.reduceSub, Nat.reduceLT, Nat.reduceLeDiff, Nat.reduceEqDiff, Nat.reduceBEq, Nat.reduceBNe, Int.reduceEq, Int.reduceLT, Int.reduceLE, Int.reduceAdd, Int.reduceMul, Int.reduceSub, Int.reduceNeg, Int.reduceToNat, Int.reducePow, List.replicate, List.cons_append, List.nil_append, List.getElem?_cons_zero, List.getElem?_cons_succ, List.getElem?_nil, List.set_cons_succ, List.set_cons_zero, if_true, if_false, ite_true, ite_false, Bool.false_eq_true, Bool.not_true, Bool.not_false, Bool.and_true, Bool.true_and, Bool.or_true, Bool.true_or, Bool.or_false, Bool.false_or, Bool.and_false, Bool.false_and, reduceCtorEq, eq_self, decide_true, decide_false, decide_not, List.take_succ_cons, List.take_zero, List.length_map, Int.toNat_natCast, fnG_0, fnG_1, fnG_2, fnG_3, fnG_4, fnG_5, fnG_6, fnG_7, fnG_8, out_ret, out_nx, out_exc, gcR_ok1, gcv_pl0, gcv_pl, gcv_p2, gcv_p3, gcv_p4, gcv_p5, gcv_p6, gcv_new, gcv_n2, gcv_n3, gcv_set0, gcv_set, gcv_set_new, gcR_x0, gcR_x00, gcR_x1, gcR_x10, bne_self_eq_false, beq_self_eq_true, bne_iff_ne, ne_eq, not_true_eq_false, not_false_eq_true, and_self, and_true, true_and, and_false, false_and, or_true, true_or, or_false, false_or, k1, k2]
      · simp (disch := first | assumption | omega | exact id rfl | exact pl_fl_kr _ | decide +kernel) only [List.map_cons, List.map_nil, List.length_cons, List.length_nil, bok, bex, mok, gok, gex, mook, thn_nx, thn_ret, thn_brk, thn_cnt, thn_exc, selB_some, kE2_e, kE1_e, evs_nil, evs_cons, kO1_e, evos_nil, evos_cons, kOp_e, ev_op, lift_some, ev_var, ev_non, ev_bl, ev_int, ev_str, kC2_e, pur_some', kC1_e, ev_cmp, kD2_e, kD1_e, ev_cmp2, kAnd_e, ev_and, kOr_e, ev_or, kNot_e, ev_not, kIfe_e, ev_ife, kG_e, kCall_e, ev_call, ev_qcall, kF3_e, kF2_e, kF_e, ev_fld, kMG_e, kM3_e, kM2_e, kM_e, ev_mcall, ev_frz, frz_new, frz_non, frz_int, frz_str, frz_bl, frz_tup, frz_fl, frz_kt, kGc_e, ev_gc, kGlob_e, ev_glob, kIsc3_e, kIsc2_e, kIsc_e, ev_isc, kXfld_e, ev_xfld, kXis_e, ev_xis, kIe_fl, evi_e, kIr_fl, evi_rev, kIt_tup, evi_tup, kIs_str, evi_str, kI1_int, evi_rng1, kI22_int, kI21_e, evi_rng2, kIn_fl, evi_enum, runs_nil, runs_cons, kA_e, nxO_some, run_asg, kAug_e, kAug0_e, run_aug, kS3_e, kS2_e, kS1_e, run_setI, kFs2_e, kFs1_e, run_fset, kX_e, run_expr, kR_e, run_ret, run_retN, run_brk, run_cnt, run_pass, tstV_e, tru_e, kIf_e, run_ite, kFor_e, run_for, kRs_1, kRs_0, kRaise_e, run_raise, run_faug, tel_e, kxs0_e, kxs_e, xisV_e, xisV_n, kHs_e, runHs_cons, runHs_nil, knH_c, knH_nil, run_try, inI_s, inI_n, kTri_exc, kTri_nx, kTri_ret, outO_ret, outO_nx, Hv.val, Hv.new, Hv.opW, op0, op1, op2, op3, Hv.binW, Hv.binI, Hv.ixW, slW2, slW, lenW, listW, tupleW, negW, sumW, minW, maxW, intW, Hv.intsD, Hv.cmpW, Hv.cmpG, Hv.cmpI, Hv.cmpS, isNonD, isiW, eq_nil_n, preW, isStrD, isIntD, isLstD, truth, setG, setGs, putS_0, putS_s, strNe, wipeS, Hv.noX, srcOf, seqS, tupD, addW, at_new, at_n1, at_n2, at_n3, at_n4, at_o1, at_o2, at_o3, at_o4, set_new, setFld, setFE, setFN, setF_nil, lookupE, lookupN, List.lookup_nil, outI, sizeLine_eq, gP_pos, Option.map_some, Option.map_none, Option.bind_some, Option.bind_none, Option.isSome_some, Option.isSome_none, Nat.reduceAdd, Nat.reduceSub, Nat.reduceLT, Nat.reduceLeDiff, Nat.reduceEqDiff, Nat.reduceBEq, Nat.reduceBNe, Int.reduceEq, Int.reduceLT, Int.reduceLE, Int.reduceAdd, Int.reduceMul, Int.reduceSub, Int.reduceNeg, Int.reduceToNat, Int.reducePow, List.replicate, List.cons_append, List.nil_append, List.getElem?_cons_zero, List.getElem?_cons_succ, List.getElem?_nil, List.set_cons_succ, List.set_cons_zero, if_true, if_false, ite_true, ite_false, Bool.false_eq_true, Bool.not_true, Bool.not_false, Bool.and_true, Bool.true_and, Bool.or_true, Bool.true_or, Bool.or_false, Bool.false_or, Bool.and_false, Bool.false_and, reduceCtorEq, eq_self, decide_true, decide_false, decide_not, List.take_succ_cons, List.take_zero, List.length_map, Int.toNat_natCast, fnG_0, fnG_1, fnG_2, fnG_3, fnG_4, fnG_5, fnG_6, fnG_7, fnG_8, out_ret, out_nx, out_exc, gcR_ok1, gcv_pl0, gcv_pl, gcv_p2, gcv_p3, gcv_p4, gcv_p5, gcv_p6, gcv_new, gcv_n2, gcv_n3, gcv_set0, gcv_set, gcv_set_new, gcR_x0, gcR_x00, gcR_x1, gcR_x10, bne_self_eq_false, beq_self_eq_true, bne_iff_ne, ne_eq, not_true_eq_false, not_false_eq_true, and_self, and_true, true_and, and_false, false_and, or_true, true_or, or_false, false_or, k1]
    refine ⟨_, e2, pls_all.mpr fun x hx => ?_, by
      rw [List.length_map]
      refine Nat.le_trans (List.length_filter_le _ _) ?_
      rw [rngD_length]; omega⟩
    obtain ⟨y, hy, rfl⟩ := List.mem_map.mp hx
    obtain ⟨i, hi, rfl⟩ := rngD_mem (List.mem_filter.mp hy).1
    rfl
  generalize hr : l.take a.toNat ++ l.drop b.toNat = r at *
  have hrl : r.length = l.length - (b.toNat - a.toNat) := by rw [← hr]; simp; omega
  have c4 := cutD_to (xs := kr r) (j := (ys.length : Int)) (by omega)
  have c5 := cutD_from (xs := kr r) (i := (ys.length : Int)) (by omega)
  have g1 : (l.take a.toNat).length + (l.drop b.toNat).length ≤ 16777216 := by simp; omega
  have g2 : (r.take ys.length).length + m.length ≤ 16777216 := by simp; omega
  have g3 : (r.take ys.length ++ m).length + (r.drop ys.length).length ≤ 16777216 := by simp; omega
  refine ⟨r.take ys.length ++ m ++ r.drop ys.length, by simp; omega, fun p hp => ?_, ?_⟩
  · have hr' : ∀ p ∈ r, p ∈ l := fun p h => by
      rw [← hr] at h
      rcases List.mem_append.mp h with h | h
      · exact List.mem_of_mem_take h
      · exact List.mem_of_mem_drop h
    rcases List.mem_append.mp hp with h | h
    · rcases List.mem_append.mp h with h | h
      · exact hr' p (List.mem_of_mem_take h)
      · rw [← hm] at h; exact List.mem_of_mem_take (List.mem_of_mem_drop h)
    · exact hr' p (List.mem_of_mem_drop h)
  have hc := plainC_cl (m := S.length) (r.take ys.length ++ m ++ r.drop ys.length)
  have hq : pl (.fl ys) = true := by unfold pl; exact hys
  rw [Int.toNat_natCast] at c4 c5
  unfold g_plain_move b_plain_move
  simp (disch := first | assumption | omega | exact id rfl | exact pl_fl_kr _ | decide +kernel) only [List.map_cons, List.map_nil, List.length_cons, List.length_nil, bok, bex, mok, gok, gex, mook, thn_nx, thn_ret, thn_brk, thn_cnt, thn_exc, selB_some, kE2_e, kE1_e, evs_nil, evs_cons, kO1_e, evos_nil, evos_cons, kOp_e, ev_op, lift_some, ev_var, ev_non, ev_bl, ev_int, ev_str, kC2_e, pur_some', kC1_e, ev_cmp, kD2_e, kD1_e, ev_cmp2, kAnd_e, ev_and, kOr_e, ev_or, kNot_e, ev_not, kIfe_e, ev_ife, kG_e, kCall_e, ev_call, ev_qcall, kF3_e, kF2_e, kF_e, ev_fld, kMG_e, kM3_e, kM2_e, kM_e, ev_mcall, ev_frz, frz_new, frz_non, frz_int, frz_str, frz_bl, frz_tup, frz_fl, frz_kt, kGc_e, ev_gc, kGlob_e, ev_glob, kIsc3_e, kIsc2_e, kIsc_e, ev_isc, kXfld_e, ev_xfld, kXis_e, ev_xis, kIe_fl, evi_e, kIr_fl, evi_rev, kIt_tup, evi_tup, kIs_str, evi_str, kI1_int, evi_rng1, kI22_int, kI21_e, evi_rng2, kIn_fl, evi_enum, runs_nil, runs_cons, kA_e, nxO_some, run_asg, kAug_e, kAug0_e, run_aug, kS3_e, kS2_e, kS1_e, run_setI, kFs2_e, kFs1_e, run_fset, kX_e, run_expr, kR_e, run_ret, run_retN, run_brk, run_cnt, run_pass, tstV_e, tru_e, kIf_e, run_ite, kFor_e, run_for, kRs_1, kRs_0, kRaise_e, run_raise, run_faug, tel_e, kxs0_e, kxs_e, xisV_e, xisV_n, kHs_e, runHs_cons, runHs_nil, knH_c, knH_nil, run_try, inI_s, inI_n, kTri_exc, kTri_nx, kTri_ret, outO_ret, outO_nx, Hv.val, Hv.new, Hv.opW, op0, op1, op2, op3, Hv.binW, Hv.binI, Hv.ixW, slW2, slW, lenW, listW, tupleW, negW, sumW, minW, maxW, intW, Hv.intsD, Hv.cmpW, Hv.cmpG, Hv.cmpI, Hv.cmpS, isNonD, isiW, eq_nil_n, preW, isStrD, isIntD, isLstD, truth, setG, setGs, putS_0, putS_s, strNe, wipeS, Hv.noX, srcOf, seqS, tupD, addW, at_new, at_n1, at_n2, at_n3, at_n4, at_o1, at_o2, at_o3, at_o4, set_new, setFld, setFE, setFN, setF_nil, lookupE, lookupN, List.lookup_nil, outI, sizeLine_eq, gP_pos, Option.map_some, Option.map_none, Option.bind_some, Option.bind_none, Option.isSome_some, Option.isSome_none, Nat.reduceAdd, Nat.reduceSub, Nat.reduceLT, Nat.reduceLeDiff, Nat.reduceEqDiff, Nat.reduceBEq, Nat.reduceBNe, Int.reduceEq, Int.reduceLT, Int.reduceLE, Int.reduceAdd, Int.reduceMul, Int.reduceSub, Int.reduceNeg, Int.reduceToNat, Int.reducePow, List.replicate, List.cons_append, List.nil_append, List.getElem?_cons_zero, List.getElem?_cons_succ, List.getElem?_nil, List.set_cons_succ, List.set_cons_zero, if_true, if_false, ite_true, ite_false, Bool.false_eq_true, Bool.not_true, Bool.not_false, Bool.and_true, Bool.true_and, Bool.or_true, Bool.true_or, Bool.or_false, Bool.false_or, Bool.and_false, Bool.false_and, reduceCtorEq, eq_self, decide_true, decide_false, decide_not, List.take_succ_cons, List.take_zero, List.length_map, Int.toNat_natCast, fnG_0, fnG_1, fnG_2, fnG_3, fnG_4, fnG_5, fnG_6, fnG_7, fnG_8, out_ret, out_nx, out_exc, gcR_ok1, gcv_pl0, gcv_pl, gcv_p2, gcv_p3, gcv_p4, gcv_p5, gcv_p6, gcv_new, gcv_n2, gcv_n3, gcv_set0, gcv_set, gcv_set_new, gcR_x0, gcR_x00, gcR_x1, gcR_x10, bne_self_eq_false, beq_self_eq_true, bne_iff_ne, ne_eq, not_true_eq_false, not_false_eq_true, and_self, and_true, true_and, and_false, false_and, or_true, true_or, or_false, false_or, hs, hg, hg2, e1, c1, c2, c3, c4, c5, kr_take, kr_drop, kr_app, hr, hm, lk_plain_move_f_plain_kept, lk_plain_move_plain_ask_gap, lk_plain_move_plain_ask_stretch]
end
end L14
-- TABLES L14
-- DISCH exact pl_fl_kr _
namespace L14
open PySem PySem.Spec
open PyProof.Rows hiding St
open L2 Hv
section
variable {S : Sto} {n : Nat} {l : List (Nat × Str)} {a b : Int}
theorem run_drawn {c p : Int} : g_law_drawn S [.int c, .int p] = some (.ok (.int (drawn c p)) S) := by
  unfold g_law_drawn b_law_drawn drawn
  simp (disch := first | assumption | omega | exact id rfl | exact pl_fl_kr _ | decide +kernel) only [List.map_cons, List.map_nil, List.length_cons, List.length_nil, bok, bex, mok, gok, gex, mook, thn_nx, thn_ret, thn_brk, thn_cnt, thn_exc, selB_some, kE2_e, kE1_e, evs_nil, evs_cons, kO1_e, evos_nil, evos_cons, kOp_e, ev_op, lift_some, ev_var, ev_non, ev_bl, ev_int, ev_str, kC2_e, pur_some', kC1_e, ev_cmp, kD2_e, kD1_e, ev_cmp2, kAnd_e, ev_and, kOr_e, ev_or, kNot_e, ev_not, kIfe_e, ev_ife, kG_e, kCall_e, ev_call, ev_qcall, kF3_e, kF2_e, kF_e, ev_fld, kMG_e, kM3_e, kM2_e, kM_e, ev_mcall, ev_frz, frz_new, frz_non, frz_int, frz_str, frz_bl, frz_tup, frz_fl, frz_kt, kGc_e, ev_gc, kGlob_e, ev_glob, kIsc3_e, kIsc2_e, kIsc_e, ev_isc, kXfld_e, ev_xfld, kXis_e, ev_xis, kIe_fl, evi_e, kIr_fl, evi_rev, kIt_tup, evi_tup, kIs_str, evi_str, kI1_int, evi_rng1, kI22_int, kI21_e, evi_rng2, kIn_fl, evi_enum, runs_nil, runs_cons, kA_e, nxO_some, run_asg, kAug_e, kAug0_e, run_aug, kS3_e, kS2_e, kS1_e, run_setI, kFs2_e, kFs1_e, run_fset, kX_e, run_expr, kR_e, run_ret, run_retN, run_brk, run_cnt, run_pass, tstV_e, tru_e, kIf_e, run_ite, kFor_e, run_for, kRs_1, kRs_0, kRaise_e, run_raise, run_faug, tel_e, kxs0_e, kxs_e, xisV_e, xisV_n, kHs_e, runHs_cons, runHs_nil, knH_c, knH_nil, run_try, inI_s, inI_n, kTri_exc, kTri_nx, kTri_ret, outO_ret, outO_nx, Hv.val, Hv.new, Hv.opW, op0, op1, op2, op3, Hv.binW, Hv.binI, Hv.ixW, slW2, slW, lenW, listW, tupleW, negW, sumW, minW, maxW, intW, Hv.intsD, Hv.cmpW, Hv.cmpG, Hv.cmpI, Hv.cmpS, isNonD, isiW, eq_nil_n, preW, isStrD, isIntD, isLstD, truth, setG, setGs, putS_0, putS_s, strNe, wipeS, Hv.noX, srcOf, seqS, tupD, addW, at_new, at_n1, at_n2, at_n3, at_n4, at_o1, at_o2, at_o3, at_o4, set_new, setFld, setFE, setFN, setF_nil, lookupE, lookupN, List.lookup_nil, outI, sizeLine_eq, gP_pos, Option.map_some, Option.map_none, Option.bind_some, Option.bind_none, Option.isSome_some, Option.isSome_none, Nat.reduceAdd, Nat.reduceSub, Nat.reduceLT, Nat.reduceLeDiff, Nat.reduceEqDiff, Nat.reduceBEq, Nat.reduceBNe, Int.reduceEq, Int.reduceLT, Int.reduceLE, Int.reduceAdd, Int.reduceMul, Int.reduceSub, Int.reduceNeg, Int.reduceToNat, Int.reducePow, List.replicate, List.cons_append, List.nil_append, List.getElem?_cons_zero, List.getElem?_cons_succ, List.getElem?_nil, List.set_cons_succ, List.set_cons_zero, if_true, if_false, ite_true, ite_false, Bool.false_eq_true, Bool.not_true, Bool.not_false, Bool.and_true, Bool.true_and, Bool.or_true, Bool.true_or, Bool.or_false, Bool.false_or, Bool.and_false, Bool.false_and, reduceCtorEq, eq_self, decide_true, decide_false, decide_not, List.take_succ_cons, List.take_zero, List.length_map, Int.toNat_natCast, fnG_0, fnG_1, fnG_2, fnG_3, fnG_4, fnG_5, fnG_6, fnG_7, fnG_8, out_ret, out_nx, out_exc, gcR_ok1, gcv_pl0, gcv_pl, gcv_p2, gcv_p3, gcv_p4, gcv_p5, gcv_p6, gcv_new, gcv_n2, gcv_n3, gcv_set0, gcv_set, gcv_set_new, gcR_x0, gcR_x00, gcR_x1, gcR_x10, bne_self_eq_false, beq_self_eq_true, bne_iff_ne, ne_eq, not_true_eq_false, not_false_eq_true, and_self, and_true, true_and, and_false, false_and, or_true, true_or, or_false, false_or]
def number (c p m : Int) : Int := if drawn c p % 8 = 0 then c % (2 * 10 ^ 12 + 1) - 10 ^ 12 else if drawn c p % 8 = 1 then m + drawn c (p + 1) % 3 else if drawn c p % 8 = 2 then 0 - drawn c (p + 1) % 3 else drawn c (p + 1) % (m + 1)
theorem run_number {c p m : Int} (hm : 0 ≤ m) : g_law_number S [.int c, .int p, .int m] = some (.ok (.int (number c p m)) S) := by
  have hd := @run_drawn S
  unfold g_law_number b_law_number number
  by_cases h0 : drawn c p % 8 = 0
  · simp (disch := first | assumption | omega | exact id rfl | exact pl_fl_kr _ | decide +kernel) only [List.map_cons, List.map_nil, List.length_cons, List.length_nil, bok, bex, mok, gok, gex, mook, thn_nx, thn_ret, thn_brk, thn_cnt, thn_exc, selB_some, kE2_e, kE1_e, evs_nil, evs_cons, kO1_e, evos_nil, evos_cons, kOp_e, ev_op, lift_some, ev_var, ev_non, ev_bl, ev_int, ev_str, kC2_e, pur_some', kC1_e, ev_cmp, kD2_e, kD1_e, ev_cmp2, kAnd_e, ev_and, kOr_e, ev_or, kNot_e, ev_not, kIfe_e, ev_ife, kG_e, kCall_e, ev_call, ev_qcall, kF3_e, kF2_e, kF_e, ev_fld, kMG_e, kM3_e, kM2_e, kM_e, ev_mcall, ev_frz, frz_new, frz_non, frz_int, frz_str, frz_bl, frz_tup, frz_fl, frz_kt, kGc_e, ev_gc, kGlob_e, ev_glob, kIsc3_e, kIsc2_e, kIsc_e, ev_isc, kXfld_e, ev_xfld, kXis_e, ev_xis, kIe_fl, evi_e, kIr_fl, evi_rev, kIt_tup, evi_tup, kIs_str, evi_str, kI1_int, evi_rng1, kI22_int, kI21_e, evi_rng2, kIn_fl, evi_enum, runs_nil, runs_cons, kA_e, nxO_some, run_asg, kAug_e, kAug0_e, run_aug, kS3_e, kS2_e, kS1_e, run_setI, kFs2_e, kFs1_e, run_fset, kX_e, run_expr, kR_e, run_ret, run_retN, run_brk, run_cnt, run_pass, tstV_e, tru_e, kIf_e, run_ite, kFor_e, run_for, kRs_1, kRs_0, kRaise_e, run_raise, run_faug, tel_e, kxs0_e, kxs_e, xisV_e, xisV_n, kHs_e, runHs_cons, runHs_nil, knH_c, knH_nil, run_try, inI_s, inI_n, kTri_exc, kTri_nx, kTri_ret, outO_ret, outO_nx, Hv.val, Hv.new, Hv.opW, op0, op1, op2, op3, Hv.binW, Hv.binI, Hv.ixW, slW2, slW, lenW, listW, tupleW, negW, sumW, minW, maxW, intW, Hv.intsD, Hv.cmpW, Hv.cmpG, Hv.cmpI, Hv.cmpS, isNonD, isiW, eq_nil_n, preW, isStrD, isIntD, isLstD, truth, setG, setGs, putS_0, putS_s, strNe, wipeS, Hv.noX, srcOf, seqS, tupD, addW, at_new, at_n1, at_n2, at_n3, at_n4, at_o1, at_o2, at_o3, at_o4, set_new, setFld, setFE, setFN, setF_nil, lookupE, lookupN, List.lookup_nil, outI, sizeLine_eq, gP_pos, Option.map_some, Option.map_none, Option.bind_some, Option.bind_none, Option.isSome_some, Option.isSome_none, Nat.reduceAdd, Nat.reduceSub, Nat.reduceLT, Nat.reduceLeDiff, Nat.reduceEqDiff, Nat.reduceBEq, Nat.reduceBNe, Int.reduceEq, Int.reduceLT, Int.reduceLE, Int.reduceAdd, Int.reduceMul, Int.reduceSub, Int.reduceNeg, Int.reduceToNat, Int.reducePow, List.replicate, List.cons_append, List.nil_append, List.getElem?_cons_zero, List.getElem?_cons_succ, List.getElem?_nil, List.set_cons_succ, List.set_cons_zero, if_true, if_false, ite_true, ite_false, Bool.false_eq_true, Bool.not_true, Bool.not_false, Bool.and_true, Bool.true_and, Bool.or_true, Bool.true_or, Bool.or_false, Bool.false_or, Bool.and_false, Bool.false_and, reduceCtorEq, eq_self, decide_true, decide_false, decide_not, List.take_succ_cons, List.take_zero, List.length_map, Int.toNat_natCast, fnG_0, fnG_1, fnG_2, fnG_3, fnG_4, fnG_5, fnG_6, fnG_7, fnG_8, out_ret, out_nx, out_exc, gcR_ok1, gcv_pl0, gcv_pl, gcv_p2, gcv_p3, gcv_p4, gcv_p5, gcv_p6, gcv_new, gcv_n2, gcv_n3, gcv_set0, gcv_set, gcv_set_new, gcR_x0, gcR_x00, gcR_x1, gcR_x10, bne_self_eq_false, beq_self_eq_true, bne_iff_ne, ne_eq, not_true_eq_false, not_false_eq_true, and_self, and_true, true_and, and_false, false_and, or_true, true_or, or_false, false_or, hd, h0, lk_law_number_law_drawn]
  · by_cases h1 : drawn c p % 8 = 1
    · simp (disch := first | assumption | omega | exact id rfl | exact pl_fl_kr _ | decide +kernel) only [List.map_cons, List.map_nil, List.length_cons, List.length_nil, bok, bex, mok, gok, gex, mook, thn_nx, thn_ret, thn_brk, thn_cnt, thn_exc, selB_some, kE2_e, kE1_e, evs_nil, evs_cons, kO1_e, evos_nil, evos_cons, kOp_e, ev_op, lift_some, ev_var, ev_non, ev_bl, ev_int, ev_str, kC2_e, pur_some', kC1_e, ev_cmp, kD2_e, kD1_e, ev_cmp2, kAnd_e, ev_and, kOr_e, ev_or, kNot_e, ev_not, kIfe_e, ev_ife, kG_e, kCall_e, ev_call, ev_qcall, kF3_e, kF2_e, kF_e, ev_fld, kMG_e, kM3_e, kM2_e, kM_e, ev_mcall, ev_frz, frz_new, frz_non, frz_int, frz_str, frz_bl, frz_tup, frz_fl, frz_kt, kGc_e, ev_gc, kGlob_e, ev_glob, kIsc3_e, kIsc2_e, kIsc_e, ev_isc, kXfld_e, ev_xfld, kXis_e, ev_xis, kIe_fl, evi_e, kIr_fl, evi_rev, kIt_tup, evi_tup, kIs_str, evi_str, kI1_int, evi_rng1, kI22_int, kI21_e, evi_rng2, kIn_fl, evi_enum, runs_nil, runs_cons, kA_e, nxO_some, run_asg, kAug_e, kAug0_e, run_aug, kS3_e, kS2_e, kS1_e, run_setI, kFs2_e, kFs1_e, run_fset, kX_e, run_expr, kR_e, run_ret, run_retN, run_brk, run_cnt, run_pass, tstV_e, tru_e, kIf_e, run_ite, kFor_e, run_for, kRs_1, kRs_0, kRaise_e, run_raise, run_faug, tel_e, kxs0_e, kxs_e, xisV_e, xisV_n, kHs_e, runHs_cons, runHs_nil, knH_c, knH_nil, run_try, inI_s, inI_n, kTri_exc, kTri_nx, kTri_ret, outO_ret, outO_nx, Hv.val, Hv.new, Hv.opW, op0, op1, op2, op3, Hv.binW, Hv.binI, Hv.ixW, slW2, slW, lenW, listW, tupleW, negW, sumW, minW, maxW, intW, Hv.intsD, Hv.cmpW, Hv.cmpG, Hv.cmpI, Hv.cmpS, isNonD, isiW, eq_nil_n, preW, isStrD, isIntD, isLstD, truth, setG, setGs, putS_0, putS_s, strNe, wipeS, Hv.noX, srcOf, seqS, tupD, addW, at_new, at_n1, at_n2, at_n3, at_n4, at_o1, at_o2, at_o3, at_o4, set_new, setFld, setFE, setFN, setF_nil, lookupE, lookupN, List.lookup_nil, outI, sizeLine_eq, gP_pos, Option.map_some, Option.map_none, Option.bind_some, Option.bind_none, Option.isSome_some, Option.isSome_none, Nat.reduceAdd, Nat.reduceSub, Nat.reduceLT, Nat.reduceLeDiff, Nat.reduceEqDiff, Nat.reduceBEq, Nat.reduceBNe, Int.reduceEq, Int.reduceLT, Int.reduceLE, Int.reduceAdd, Int.reduceMul, Int.reduceSub, Int.reduceNeg, Int.reduceToNat, Int.reducePow, List.replicate, List.cons_append, List.nil_append, List.getElem?_cons_zero, List.getElem?_cons_succ, List.getElem?_nil, List.set_cons_succ, List.set_cons_zero, if_true, if_false, ite_true, ite_false, Bool.false_eq_true, Bool.not_true, Bool.not_false, Bool.and_true, Bool.true_and, Bool.or_true, Bool.true_or, Bool.or_false, Bool.false_or, Bool.and_false, Bool.false_and, reduceCtorEq, eq_self, decide_true, decide_false, decide_not, List.take_succ_cons, List.take_zero, List.length_map, Int.toNat_natCast, fnG_0, fnG_1, fnG_2, fnG_3, fnG_4, fnG_5, fnG_6, fnG_7, fnG_8, out_ret, out_nx, out_exc, gcR_ok1, gcv_pl0, gcv_pl, gcv_p2, gcv_p3, gcv_p4, gcv_p5, gcv_p6, gcv_new, gcv_n2, gcv_n3, gcv_set0, gcv_set, gcv_set_new, gcR_x0, gcR_x00, gcR_x1, gcR_x10, bne_self_eq_false, beq_self_eq_true, bne_iff_ne, ne_eq, not_true_eq_false, not_false_eq_true, and_self, and_true, true_and, and_false, false_and, or_true, true_or, or_false, false_or, hd, h0, h1, lk_law_number_law_drawn]
    · by_cases h2 : drawn c p % 8 = 2
      · simp (disch := first | assumption | omega | exact id rfl | exact pl_fl_kr _ | decide +kernel) only [List.map_cons, List.map_nil, List.length_cons, List.length_nil, bok, bex, mok, gok, gex, mook, thn_nx, thn_ret, thn_brk, thn_cnt, thn_exc, selB_some, kE2_e, kE1_e, evs_nil, evs_cons, kO1_e, evos_nil, evos_cons, kOp_e, ev_op, lift_some, ev_var, ev_non, ev_bl, ev_int, ev_str, kC2_e, pur_some', kC1_e, ev_cmp, kD2_e, kD1_e, ev_cmp2, kAnd_e, ev_and, kOr_e, ev_or, kNot_e, ev_not, kIfe_e, ev_ife, kG_e, kCall_e, ev_call, ev_qcall, kF3_e, kF2_e, kF_e, ev_fld, kMG_e, kM3_e, kM2_e, kM_e, ev_mcall, ev_frz, frz_new, frz_non, frz_int, frz_str, frz_bl, frz_tup, frz_fl, frz_kt, kGc_e, ev_gc, kGlob_e, ev_glob, kIsc3_e, kIsc2_e, kIsc_e, ev_isc, kXfld_e, ev_xfld, kXis_e, ev_xis, kIe_fl, evi_e, kIr_fl, evi_rev, kIt_tup, evi_tup, kIs_str, evi_str, kI1_int, evi_rng1, kI22_int, kI21_e, evi_rng2, kIn_fl, evi_enum, runs_nil, runs_cons, kA_e, nxO_some, run_asg, kAug_e, kAug0_e, run_aug, kS3_e, kS2_e, kS1_e, run_setI, kFs2_e, kFs1_e, run_fset, kX_e, run_expr, kR_e, run_ret, run_retN, run_brk, run_cnt, run_pass, tstV_e, tru_e, kIf_e, run_ite, kFor_e, run_for, kRs_1, kRs_0, kRaise_e, run_raise, run_faug, tel_e, kxs0_e, kxs_e, xisV_e, xisV_n, kHs_e, runHs_cons, runHs_nil, knH_c, knH_nil, run_try, inI_s, inI_n, kTri_exc, kTri_nx, kTri_ret, outO_ret, outO_nx, Hv.val, Hv.new, Hv.opW, op0, op1, op2, op3, Hv.binW, Hv.binI, Hv.ixW, slW2, slW, lenW, listW, tupleW, negW, sumW, minW, maxW, intW, Hv.intsD, Hv.cmpW, Hv.cmpG, Hv.cmpI, Hv.cmpS, isNonD, isiW, eq_nil_n, preW, isStrD, isIntD, isLstD, truth, setG, setGs, putS_0, putS_s, strNe, wipeS, Hv.noX, srcOf, seqS, tupD, addW, at_new, at_n1, at_n2, at_n3, at_n4, at_o1, at_o2, at_o3, at_o4, set_new, setFld, setFE, setFN, setF_nil, lookupE, lookupN, List.lookup_nil, outI, sizeLine_eq, gP_pos, Option.map_some, Option.map_none, Option.bind_some, Option.bind_none, Option.isSome_some, Option.isSome_none, Nat.reduceAdd, Nat.reduceSub, Nat.reduceLT, Nat.reduceLeDiff, Nat.reduceEqDiff, Nat.reduceBEq, Nat.reduceBNe, Int.reduceEq, Int.reduceLT, Int.reduceLE, Int.reduceAdd, Int.reduceMul, Int.reduceSub, Int.reduceNeg, Int.reduceToNat, Int.reducePow, List.replicate, List.cons_append, List.nil_append, List.getElem?_cons_zero, List.getElem?_cons_succ, List.getElem?_nil, List.set_cons_succ, List.set_cons_zero, if_true, if_false, ite_true, ite_false, Bool.false_eq_true, Bool.not_true, Bool.not_false, Bool.and_true, Bool.true_and, Bool.or_true, Bool.true_or, Bool.or_false, Bool.false_or, Bool.and_false, Bool.false_and, reduceCtorEq, eq_self, decide_true, decide_false, decide_not, List.take_succ_cons, List.take_zero, List.length_map, Int.toNat_natCast, fnG_0, fnG_1, fnG_2, fnG_3, fnG_4, fnG_5, fnG_6, fnG_7, fnG_8, out_ret, out_nx, out_exc, gcR_ok1, gcv_pl0, gcv_pl, gcv_p2, gcv_p3, gcv_p4, gcv_p5, gcv_p6, gcv_new, gcv_n2, gcv_n3, gcv_set0, gcv_set, gcv_set_new, gcR_x0, gcR_x00, gcR_x1, gcR_x10, bne_self_eq_false, beq_self_eq_true, bne_iff_ne, ne_eq, not_true_eq_false, not_false_eq_true, and_self, and_true, true_and, and_false, false_and, or_true, true_or, or_false, false_or, hd, h0, h1, h2, lk_law_number_law_drawn]
      · simp (disch := first | assumption | omega | exact id rfl | exact pl_fl_kr _ | decide +kernel) only [List.map_cons, List.map_nil, List.length_cons, List.length_nil, bok, bex, mok, gok, gex, mook, thn_nx, thn_ret, thn_brk, thn_cnt, thn_exc, selB_some, kE2_e, kE1_e, evs_nil, evs_cons, kO1_e, evos_nil, evos_cons, kOp_e, ev_op, lift_some, ev_var, ev_non, ev_bl, ev_int, ev_str, kC2_e, pur_some', kC1_e, ev_cmp, kD2_e, kD1_e, ev_cmp2, kAnd_e, ev_and, kOr_e, ev_or, kNot_e, ev_not, kIfe_e, ev_ife, kG_e, kCall_e, ev_call, ev_qcall, kF3_e, kF2_e, kF_e, ev_fld, kMG_e, kM3_e, kM2_e, kM_e, ev_mcall, ev_frz, frz_new, frz_non, frz_int, frz_str, frz_bl, frz_tup, frz_fl, frz_kt, kGc_e, ev_gc, kGlob_e, ev_glob, kIsc3_e, kIsc2_e, kIsc_e, ev_isc, kXfld_e, ev_xfld, kXis_e, ev_xis, kIe_fl, evi_e, kIr_fl, evi_rev, kIt_tup, evi_tup, kIs_str, evi_str, kI1_int, evi_rng1, kI22_int, kI21_e, evi_rng2, kIn_fl, evi_enum, runs_nil, runs_cons, kA_e, nxO_some, run_asg, kAug_e, kAug0_e, run_aug, kS3_e, kS2_e, kS1_e, run_setI, kFs2_e, kFs1_e, run_fset, kX_e, run_expr, kR_e, run_ret, run_retN, run_brk, run_cnt, run_pass, tstV_e, tru_e, kIf_e, run_ite, kFor_e, run_for, kRs_1, kRs_0, kRaise_e, run_raise, run_faug, tel_e, kxs0_e, kxs_e, xisV_e, xisV_n, kHs_e, runHs_cons, runHs_nil, knH_c, knH_nil, run_try, inI_s, inI_n, kTri_exc, kTri_nx, kTri_ret, outO_ret, outO_nx, Hv.val, Hv.new, Hv.opW, op0, op1, op2, op3, Hv.binW, Hv.binI, Hv.ixW, slW2, slW, lenW, listW, tupleW, negW, sumW, minW, maxW, intW, Hv.intsD, Hv.cmpW, Hv.cmpG, Hv.cmpI, Hv.cmpS, isNonD, isiW, eq_nil_n, preW, isStrD, isIntD, isLstD, truth, setG, setGs, putS_0, putS_s, strNe, wipeS, Hv.noX, srcOf, seqS, tupD, addW, at_new, at_n1, at_n2, at_n3, at_n4, at_o1, at_o2, at_o3, at_o4, set_new, setFld, setFE, setFN, setF_nil, lookupE, lookupN, List.lookup_nil, outI, sizeLine_eq, gP_pos, Option.map_some, Option.map_none, Option.bind_some, Option.bind_none, Option.isSome_some, Option.isSome_none, Nat.reduceAdd, Nat.reduceSub, Nat.reduceLT, Nat.reduceLeDiff, Nat.reduceEqDiff, Nat.reduceBEq, Nat.reduceBNe, Int.reduceEq, Int.reduceLT, Int.reduceLE, Int.reduceAdd, Int.reduceMul, Int.reduceSub, Int.reduceNeg, Int.reduceToNat, Int.reducePow, List.replicate, List.cons_append, List.nil_append, List.getElem?_cons_zero, List.getElem?_cons_succ, List.getElem?_nil, List.set_cons_succ, List.set_cons_zero, if_true, if_false, ite_true, ite_false, Bool.false_eq_true, Bool.not_true, Bool.not_false, Bool.and_true, Bool.true_and, Bool.or_true, Bool.true_or, Bool.or_false, Bool.false_or, Bool.and_false, Bool.false_and, reduceCtorEq, eq_self, decide_true, decide_false, decide_not, List.take_succ_cons, List.take_zero, List.length_map, Int.toNat_natCast, fnG_0, fnG_1, fnG_2, fnG_3, fnG_4, fnG_5, fnG_6, fnG_7, fnG_8, out_ret, out_nx, out_exc, gcR_ok1, gcv_pl0, gcv_pl, gcv_p2, gcv_p3, gcv_p4, gcv_p5, gcv_p6, gcv_new, gcv_n2, gcv_n3, gcv_set0, gcv_set, gcv_set_new, gcR_x0, gcR_x00, gcR_x1, gcR_x10, bne_self_eq_false, beq_self_eq_true, bne_iff_ne, ne_eq, not_true_eq_false, not_false_eq_true, and_self, and_true, true_and, and_false, false_and, or_true, true_or, or_false, false_or, hd, h0, h1, h2, lk_law_number_law_drawn]
/-- what is due -/
def due (w : Str) (a t g m : Int) : List Int :=
  if w = "put" then (if 0 ≤ a ∧ a ≤ m then [] else [a])
  else if ¬ (0 ≤ a ∧ a < m) then [a]
  else if ¬ (a < t ∧ t ≤ m) then [t]
  else if w = "move" ∧ ¬ (0 ≤ g ∧ g ≤ m) then [g]
  else []
theorem run_due {w : Str} {a t g m : Int} : g_law_due S [.str w, .int a, .int t, .int g, .int m] = some (.ok (.ref S.length) (S ++ [.lst ((due w a t g m).map D.int)])) := by
  have hc : ∀ z : List Int, clC S.length (.lst (z.map D.int)) := fun z => pl_lst (pls_map (fun _ => rfl) z)
  have hc0 : clC S.length (.lst []) := hc []
  have hc1 : ∀ z : Int, clC S.length (.lst [.int z]) := fun z => hc [z]
  have q1 := hc1 a
  have q2 := hc1 t
  have q3 := hc1 g
  unfold g_law_due b_law_due due
  by_cases hw : w = "put"
  · subst hw
    by_cases h1 : 0 ≤ a
    · by_cases h2 : a ≤ m
      · simp (disch := first | assumption | omega | exact id rfl | exact pl_fl_kr _ | decide +kernel) only [List.map_cons, List.map_nil, List.length_cons, List.length_nil, bok, bex, mok, gok, gex, mook, thn_nx, thn_ret, thn_brk, thn_cnt, thn_exc, selB_some, kE2_e, kE1_e, evs_nil, evs_cons, kO1_e, evos_nil, evos_cons, kOp_e, ev_op, lift_some, ev_var, ev_non, ev_bl, ev_int, ev_str, kC2_e, pur_some', kC1_e, ev_cmp, kD2_e, kD1_e, ev_cmp2, kAnd_e, ev_and, kOr_e, ev_or, kNot_e, ev_not, kIfe_e, ev_ife, kG_e, kCall_e, ev_call, ev_qcall, kF3_e, kF2_e, kF_e, ev_fld, kMG_e, kM3_e, kM2_e, kM_e, ev_mcall, ev_frz, frz_new, frz_non, frz_int, frz_str, frz_bl, frz_tup, frz_fl, frz_kt, kGc_e, ev_gc, kGlob_e, ev_glob, kIsc3_e, kIsc2_e, kIsc_e, ev_isc, kXfld_e, ev_xfld, kXis_e, ev_xis, kIe_fl, evi_e, kIr_fl, evi_rev, kIt_tup, evi_tup, kIs_str, evi_str, kI1_int, evi_rng1, kI22_int, kI21_e, evi_rng2, kIn_fl, evi_enum, runs_nil, runs_cons, kA_e, nxO_some, run_asg, kAug_e, kAug0_e, run_aug, kS3_e, kS2_e, kS1_e, run_setI, kFs2_e, kFs1_e, run_fset, kX_e, run_expr, kR_e, run_ret, run_retN, run_brk, run_cnt, run_pass, tstV_e, tru_e, kIf_e, run_ite, kFor_e, run_for, kRs_1, kRs_0, kRaise_e, run_raise, run_faug, tel_e, kxs0_e, kxs_e, xisV_e, xisV_n, kHs_e, runHs_cons, runHs_nil, knH_c, knH_nil, run_try, inI_s, inI_n, kTri_exc, kTri_nx, kTri_ret, outO_ret, outO_nx, Hv.val, Hv.new, Hv.opW, op0, op1, op2, op3, Hv.binW, Hv.binI, Hv.ixW, slW2, slW, lenW, listW, tupleW, negW, sumW, minW, maxW, intW, Hv.intsD, Hv.cmpW, Hv.cmpG, Hv.cmpI, Hv.cmpS, isNonD, isiW, eq_nil_n, preW, isStrD, isIntD, isLstD, truth, setG, setGs, putS_0, putS_s, strNe, wipeS, Hv.noX, srcOf, seqS, tupD, addW, at_new, at_n1, at_n2, at_n3, at_n4, at_o1, at_o2, at_o3, at_o4, set_new, setFld, setFE, setFN, setF_nil, lookupE, lookupN, List.lookup_nil, outI, sizeLine_eq, gP_pos, Option.map_some, Option.map_none, Option.bind_some, Option.bind_none, Option.isSome_some, Option.isSome_none, Nat.reduceAdd, Nat.reduceSub, Nat.reduceLT, Nat.reduceLeDiff, Nat.reduceEqDiff, Nat.reduceBEq, Nat.reduceBNe, Int.reduceEq, Int.reduceLT, Int.reduceLE, Int.reduceAdd, Int.reduceMul, Int.reduceSub, Int.reduceNeg, Int.reduceToNat, Int.reducePow, List.replicate, List.cons_append, List.nil_append, List.getElem?_cons_zero, List.getElem?_cons_succ, List.getElem?_nil, List.set_cons_succ, List.set_cons_zero, if_true, if_false, ite_true, ite_false, Bool.false_eq_true, Bool.not_true, Bool.not_false, Bool.and_true, Bool.true_and, Bool.or_true, Bool.true_or, Bool.or_false, Bool.false_or, Bool.and_false, Bool.false_and, reduceCtorEq, eq_self, decide_true, decide_false, decide_not, List.take_succ_cons, List.take_zero, List.length_map, Int.toNat_natCast, fnG_0, fnG_1, fnG_2, fnG_3, fnG_4, fnG_5, fnG_6, fnG_7, fnG_8, out_ret, out_nx, out_exc, gcR_ok1, gcv_pl0, gcv_pl, gcv_p2, gcv_p3, gcv_p4, gcv_p5, gcv_p6, gcv_new, gcv_n2, gcv_n3, gcv_set0, gcv_set, gcv_set_new, gcR_x0, gcR_x00, gcR_x1, gcR_x10, bne_self_eq_false, beq_self_eq_true, bne_iff_ne, ne_eq, not_true_eq_false, not_false_eq_true, and_self, and_true, true_and, and_false, false_and, or_true, true_or, or_false, false_or, h1, h2]
      · simp (disch := first | assumption | omega | exact id rfl | exact pl_fl_kr _ | decide +kernel) only [List.map_cons, List.map_nil, List.length_cons, List.length_nil, bok, bex, mok, gok, gex, mook, thn_nx, thn_ret, thn_brk, thn_cnt, thn_exc, selB_some, kE2_e, kE1_e, evs_nil, evs_cons, kO1_e, evos_nil, evos_cons, kOp_e, ev_op, lift_some, ev_var, ev_non, ev_bl, ev_int, ev_str, kC2_e, pur_some', kC1_e, ev_cmp, kD2_e, kD1_e, ev_cmp2, kAnd_e, ev_and, kOr_e, ev_or, kNot_e, ev_not, kIfe_e, ev_ife, kG_e, kCall_e, ev_call, ev_qcall, kF3_e, kF2_e, kF_e, ev_fld, kMG_e, kM3_e, kM2_e, kM_e, ev_mcall, ev_frz, frz_new, frz_non, frz_int, frz_str, frz_bl, frz_tup, frz_fl, frz_kt, kGc_e, ev_gc, kGlob_e, ev_glob, kIsc3_e, kIsc2_e, kIsc_e, ev_isc, kXfld_e, ev_xfld, kXis_e, ev_xis, kIe_fl, evi_e, kIr_fl, evi_rev, kIt_tup, evi_tup, kIs_str, evi_str, kI1_int, evi_rng1, kI22_int, kI21_e, evi_rng2, kIn_fl, evi_enum, runs_nil, runs_cons, kA_e, nxO_some, run_asg, kAug_e, kAug0_e, run_aug, kS3_e, kS2_e, kS1_e, run_setI, kFs2_e, kFs1_e, run_fset, kX_e, run_expr, kR_e, run_ret, run_retN, run_brk, run_cnt, run_pass, tstV_e, tru_e, kIf_e, run_ite, kFor_e, run_for, kRs_1, kRs_0, kRaise_e, run_raise, run_faug, tel_e, kxs0_e, kxs_e, xisV_e, xisV_n, kHs_e, runHs_cons, runHs_nil, knH_c, knH_nil, run_try, inI_s, inI_n, kTri_exc, kTri_nx, kTri_ret, outO_ret, outO_nx, Hv.val, Hv.new, Hv.opW, op0, op1, op2, op3, Hv.binW, Hv.binI, Hv.ixW, slW2, slW, lenW, listW, tupleW, negW, sumW, minW, maxW, intW, Hv.intsD, Hv.cmpW, Hv.cmpG, Hv.cmpI, Hv.cmpS, isNonD, isiW, eq_nil_n, preW, isStrD, isIntD, isLstD, truth, setG, setGs, putS_0, putS_s, strNe, wipeS, Hv.noX, srcOf, seqS, tupD, addW, at_new, at_n1, at_n2, at_n3, at_n4, at_o1, at_o2, at_o3, at_o4, set_new, setFld, setFE, setFN, setF_nil, lookupE, lookupN, List.lookup_nil, outI, sizeLine_eq, gP_pos, Option.map_some, Option.map_none, Option.bind_some, Option.bind_none, Option.isSome_some, Option.isSome_none, Nat.reduceAdd, Nat.reduceSub, Nat.reduceLT, Nat.reduceLeDiff, Nat.reduceEqDiff, Nat.reduceBEq, Nat.reduceBNe, Int.reduceEq, Int.reduceLT, Int.reduceLE, Int.reduceAdd, Int.reduceMul, Int.reduceSub, Int.reduceNeg, Int.reduceToNat, Int.reducePow, List.replicate, List.cons_append, List.nil_append, List.getElem?_cons_zero, List.getElem?_cons_succ, List.getElem?_nil, List.set_cons_succ, List.set_cons_zero, if_true, if_false, ite_true, ite_false, Bool.false_eq_true, Bool.not_true, Bool.not_false, Bool.and_true, Bool.true_and, Bool.or_true, Bool.true_or, Bool.or_false, Bool.false_or, Bool.and_false, Bool.false_and, reduceCtorEq, eq_self, decide_true, decide_false, decide_not, List.take_succ_cons, List.take_zero, List.length_map, Int.toNat_natCast, fnG_0, fnG_1, fnG_2, fnG_3, fnG_4, fnG_5, fnG_6, fnG_7, fnG_8, out_ret, out_nx, out_exc, gcR_ok1, gcv_pl0, gcv_pl, gcv_p2, gcv_p3, gcv_p4, gcv_p5, gcv_p6, gcv_new, gcv_n2, gcv_n3, gcv_set0, gcv_set, gcv_set_new, gcR_x0, gcR_x00, gcR_x1, gcR_x10, bne_self_eq_false, beq_self_eq_true, bne_iff_ne, ne_eq, not_true_eq_false, not_false_eq_true, and_self, and_true, true_and, and_false, false_and, or_true, true_or, or_false, false_or, h1, h2]
    · simp (disch := first | assumption | omega | exact id rfl | exact pl_fl_kr _ | decide +kernel) only [List.map_cons, List.map_nil, List.length_cons, List.length_nil, bok, bex, mok, gok, gex, mook, thn_nx, thn_ret, thn_brk, thn_cnt, thn_exc, selB_some, kE2_e, kE1_e, evs_nil, evs_cons, kO1_e, evos_nil, evos_cons, kOp_e, ev_op, lift_some, ev_var, ev_non, ev_bl, ev_int, ev_str, kC2_e, pur_some', kC1_e, ev_cmp, kD2_e, kD1_e, ev_cmp2, kAnd_e, ev_and, kOr_e, ev_or, kNot_e, ev_not, kIfe_e, ev_ife, kG_e, kCall_e, ev_call, ev_qcall, kF3_e, kF2_e, kF_e, ev_fld, kMG_e, kM3_e, kM2_e, kM_e, ev_mcall, ev_frz, frz_new, frz_non, frz_int, frz_str, frz_bl, frz_tup, frz_fl, frz_kt, kGc_e, ev_gc, kGlob_e, ev_glob, kIsc3_e, kIsc2_e, kIsc_e, ev_isc, kXfld_e, ev_xfld, kXis_e, ev_xis, kIe_fl, evi_e, kIr_fl, evi_rev, kIt_tup, evi_tup, kIs_str, evi_str, kI1_int, evi_rng1, kI22_int, kI21_e, evi_rng2, kIn_fl, evi_enum, runs_nil, runs_cons, kA_e, nxO_some, run_asg, kAug_e, kAug0_e, run_aug, kS3_e, kS2_e, kS1_e, run_setI, kFs2_e, kFs1_e, run_fset, kX_e, run_expr, kR_e, run_ret, run_retN, run_brk, run_cnt, run_pass, tstV_e, tru_e, kIf_e, run_ite, kFor_e, run_for, kRs_1, kRs_0, kRaise_e, run_raise, run_faug, tel_e, kxs0_e, kxs_e, xisV_e, xisV_n, kHs_e, runHs_cons, runHs_nil, knH_c, knH_nil, run_try, inI_s, inI_n, kTri_exc, kTri_nx, kTri_ret, outO_ret, outO_nx, Hv.val, Hv.new, Hv.opW, op0, op1, op2, op3, Hv.binW, Hv.binI, Hv.ixW, slW2, slW, lenW, listW, tupleW, negW, sumW, minW, maxW, intW, Hv.intsD, Hv.cmpW, Hv.cmpG, Hv.cmpI, Hv.cmpS, isNonD, isiW, eq_nil_n, preW, isStrD, isIntD, isLstD, truth, setG, setGs, putS_0, putS_s, strNe, wipeS, Hv.noX, srcOf, seqS, tupD, addW, at_new, at_n1, at_n2, at_n3, at_n4, at_o1, at_o2, at_o3, at_o4, set_new, setFld, setFE, setFN, setF_nil, lookupE, lookupN, List.lookup_nil, outI, sizeLine_eq, gP_pos, Option.map_some, Option.map_none, Option.bind_some, Option.bind_none, Option.isSome_some, Option.isSome_none, Nat.reduceAdd, Nat.reduceSub, Nat.reduceLT, Nat.reduceLeDiff, Nat.reduceEqDiff, Nat.reduceBEq, Nat.reduceBNe, Int.reduceEq, Int.reduceLT, Int.reduceLE, Int.reduceAdd, Int.reduceMul, Int.reduceSub, Int.reduceNeg, Int.reduceToNat, Int.reducePow, List.replicate, List.cons_append, List.nil_append, List.getElem?_cons_zero, List.getElem?_cons_succ, List.getElem?_nil, List.set_cons_succ, List.set_cons_zero, if_true, if_false, ite_true, ite_false, Bool.false_eq_true, Bool.not_true, Bool.not_false, Bool.and_true, Bool.true_and, Bool.or_true, Bool.true_or, Bool.or_false, Bool.false_or, Bool.and_false, Bool.false_and, reduceCtorEq, eq_self, decide_true, decide_false, decide_not, List.take_succ_cons, List.take_zero, List.length_map, Int.toNat_natCast, fnG_0, fnG_1, fnG_2, fnG_3, fnG_4, fnG_5, fnG_6, fnG_7, fnG_8, out_ret, out_nx, out_exc, gcR_ok1, gcv_pl0, gcv_pl, gcv_p2, gcv_p3, gcv_p4, gcv_p5, gcv_p6, gcv_new, gcv_n2, gcv_n3, gcv_set0, gcv_set, gcv_set_new, gcR_x0, gcR_x00, gcR_x1, gcR_x10, bne_self_eq_false, beq_self_eq_true, bne_iff_ne, ne_eq, not_true_eq_false, not_false_eq_true, and_self, and_true, true_and, and_false, false_and, or_true, true_or, or_false, false_or, h1]
  · by_cases h1 : 0 ≤ a
    · by_cases h2 : a < m
      · by_cases h3 : a < t
        · by_cases h4 : t ≤ m
          · by_cases hw2 : w = "move"
            · by_cases h5 : 0 ≤ g
              · by_cases h6 : g ≤ m
                · simp (disch := first | assumption | omega | exact id rfl | exact pl_fl_kr _ | decide +kernel) only [List.map_cons, List.map_nil, List.length_cons, List.length_nil, bok, bex, mok, gok, gex, mook, thn_nx, thn_ret, thn_brk, thn_cnt, thn_exc, selB_some, kE2_e, kE1_e, evs_nil, evs_cons, kO1_e, evos_nil, evos_cons, kOp_e, ev_op, lift_some, ev_var, ev_non, ev_bl, ev_int, ev_str, kC2_e, pur_some', kC1_e, ev_cmp, kD2_e, kD1_e, ev_cmp2, kAnd_e, ev_and, kOr_e, ev_or, kNot_e, ev_not, kIfe_e, ev_ife, kG_e, kCall_e, ev_call, ev_qcall, kF3_e, kF2_e, kF_e, ev_fld, kMG_e, kM3_e, kM2_e, kM_e, ev_mcall, ev_frz, frz_new, frz_non, frz_int, frz_str, frz_bl, frz_tup, frz_fl, frz_kt, kGc_e, ev_gc, kGlob_e, ev_glob, kIsc3_e, kIsc2_e, kIsc_e, ev_isc, kXfld_e, ev_xfld, kXis_e, ev_xis, kIe_fl, evi_e, kIr_fl, evi_rev, kIt_tup, evi_tup, kIs_str, evi_str, kI1_int, evi_rng1, kI22_int, kI21_e, evi_rng2, kIn_fl, evi_enum, runs_nil, runs_cons, kA_e, nxO_some, run_asg, kAug_e, kAug0_e, run_aug, kS3_e, kS2_e, kS1_e, run_setI, kFs2_e, kFs1_e, run_fset, kX_e, run_expr, kR_e, run_ret, run_retN, run_brk, run_cnt, run_pass, tstV_e, tru_e, kIf_e, run_ite, kFor_e, run_for, kRs_1, kRs_0, kRaise_e, run_raise, run_faug, tel_e, kxs0_e, kxs_e, xisV_e, xisV_n, kHs_e, runHs_cons, runHs_nil, knH_c, knH_nil, run_try, inI_s, inI_n, kTri_exc, kTri_nx, kTri_ret, outO_ret, outO_nx, Hv.val, Hv.new, Hv.opW, op0, op1, op2, op3, Hv.binW, Hv.binI, Hv.ixW, slW2, slW, lenW, listW, tupleW, negW, sumW, minW, maxW, intW, Hv.intsD, Hv.cmpW, Hv.cmpG, Hv.cmpI, Hv.cmpS, isNonD, isiW, eq_nil_n, preW, isStrD, isIntD, isLstD, truth, setG, setGs, putS_0, putS_s, strNe, wipeS, Hv.noX, srcOf, seqS, tupD, addW, at_new, at_n1, at_n2, at_n3, at_n4, at_o1, at_o2, at_o3, at_o4, set_new, setFld, setFE, setFN, setF_nil, lookupE, lookupN, List.lookup_nil, outI, sizeLine_eq, gP_pos, Option.map_some, Option.map_none, Option.bind_some, Option.bind_none, Option.isSome_some, Option.isSome_none, Nat.reduceAdd, Nat.reduceSub, Nat.reduceLT, Nat.reduceLeDiff, Nat.reduceEqDiff, Nat.reduceBEq, Nat.reduceBNe, Int.reduceEq, Int.reduceLT, Int.reduceLE, Int.reduceAdd, Int.reduceMul, Int.reduceSub, Int.reduceNeg, Int.reduceToNat, Int.reducePow, List.replicate, List.cons_append, List.nil_append, List.getElem?_cons_zero, List.getElem?_cons_succ, List.getElem?_nil, List.set_cons_succ, List.set_cons_zero, if_true, if_false, ite_true, ite_false, Bool.false_eq_true, Bool.not_true, Bool.not_false, Bool.and_true, Bool.true_and, Bool.or_true, Bool.true_or, Bool.or_false, Bool.false_or, Bool.and_false, Bool.false_and, reduceCtorEq, eq_self, decide_true, decide_false, decide_not, List.take_succ_cons, List.take_zero, List.length_map, Int.toNat_natCast, fnG_0, fnG_1, fnG_2, fnG_3, fnG_4, fnG_5, fnG_6, fnG_7, fnG_8, out_ret, out_nx, out_exc, gcR_ok1, gcv_pl0, gcv_pl, gcv_p2, gcv_p3, gcv_p4, gcv_p5, gcv_p6, gcv_new, gcv_n2, gcv_n3, gcv_set0, gcv_set, gcv_set_new, gcR_x0, gcR_x00, gcR_x1, gcR_x10, bne_self_eq_false, beq_self_eq_true, bne_iff_ne, ne_eq, not_true_eq_false, not_false_eq_true, and_self, and_true, true_and, and_false, false_and, or_true, true_or, or_false, false_or, hw, h1, h2, h3, h4, hw2, h5, h6]
                · simp (disch := first | assumption | omega | exact id rfl | exact pl_fl_kr _ | decide +kernel) only [List.map_cons, List.map_nil, List.length_cons, List.length_nil, bok, bex, mok, gok, gex, mook, thn_nx, thn_ret, thn_brk, thn_cnt, thn_exc, selB_some, kE2_e, kE1_e, evs_nil, evs_cons, kO1_e, evos_nil, evos_cons, kOp_e, ev_op, lift_some, ev_var, ev_non, ev_bl, ev_int, ev_str, kC2_e, pur_some', kC1_e, ev_cmp, kD2_e, kD1_e, ev_cmp2, kAnd_e, ev_and, kOr_e, ev_or, kNot_e, ev_not, kIfe_e, ev_ife, kG_e, kCall_e, ev_call, ev_qcall, kF3_e, kF2_e, kF_e, ev_fld, kMG_e, kM3_e, kM2_e, kM_e, ev_mcall, ev_frz, frz_new, frz_non, frz_int, frz_str, frz_bl, frz_tup, frz_fl, frz_kt, kGc_e, ev_gc, kGlob_e, ev_glob, kIsc3_e, kIsc2_e, kIsc_e, ev_isc, kXfld_e, ev_xfld, kXis_e, ev_xis, kIe_fl, evi_e, kIr_fl, evi_rev, kIt_tup, evi_tup, kIs_str, evi_str, kI1_int, evi_rng1, kI22_int, kI21_e, evi_rng2, kIn_fl, evi_enum, runs_nil, runs_cons, kA_e, nxO_some, run_asg, kAug_e, kAug0_e, run_aug, kS3_e, kS2_e, kS1_e, run_setI, kFs2_e, kFs1_e, run_fset, kX_e, run_expr, kR_e, run_ret, run_retN, run_brk, run_cnt, run_pass, tstV_e, tru_e, kIf_e, run_ite, kFor_e, run_for, kRs_1, kRs_0, kRaise_e, run_raise, run_faug, tel_e, kxs0_e, kxs_e, xisV_e, xisV_n, kHs_e, runHs_cons, runHs_nil, knH_c, knH_nil, run_try, inI_s, inI_n, kTri_exc, kTri_nx, kTri_ret, outO_ret, outO_nx, Hv.val, Hv.new, Hv.opW, op0, op1, op2, op3, Hv.binW, Hv.binI, Hv.ixW, slW2, slW, lenW, listW, tupleW, negW, sumW, minW, maxW, intW, Hv.intsD, Hv.cmpW, Hv.cmpG, Hv.cmpI, Hv.cmpS, isNonD, isiW, eq_nil_n, preW, isStrD, isIntD, isLstD, truth, setG, setGs, putS_0, putS_s, strNe, wipeS, Hv.noX, srcOf, seqS, tupD, addW, at_new, at_n1, at_n2, at_n3, at_n4, at_o1, at_o2, at_o3, at_o4, set_new, setFld, setFE, setFN, setF_nil, lookupE, lookupN, List.lookup_nil, outI, sizeLine_eq, gP_pos, Option.map_some, Option.map_none, Option.bind_some, Option.bind_none, Option.isSome_some, Option.isSome_none, Nat.reduceAdd, Nat.reduceSub, Nat.reduceLT, Nat.reduceLeDiff, Nat.reduceEqDiff, Nat.reduceBEq, Nat.reduceBNe, Int.reduceEq, Int.reduceLT, Int.reduceLE, Int.reduceAdd, Int.reduceMul, Int.reduceSub, Int.reduceNeg, Int.reduceToNat, Int.reducePow, List.replicate, List.cons_append, List.nil_append, List.getElem?_cons_zero, List.getElem?_cons_succ, List.getElem?_nil, List.set_cons_succ, List.set_cons_zero, if_true, if_false, ite_true, ite_false, Bool.false_eq_true, Bool.not_true, Bool.not_false, Bool.and_true, Bool.true_and, Bool.or_true, Bool.true_or, Bool.or_false, Bool.false_or, Bool.and_false, Bool.false_and, reduceCtorEq, eq_self, decide_true, decide_false, decide_not, List.take_succ_cons, List.take_zero, List.length_map, Int.toNat_natCast, fnG_0, fnG_1, fnG_2, fnG_3, fnG_4, fnG_5, fnG_6, fnG_7, fnG_8, out_ret, out_nx, out_exc, gcR_ok1, gcv_pl0, gcv_pl, gcv_p2, gcv_p3, gcv_p4, gcv_p5, gcv_p6, gcv_new, gcv_n2, gcv_n3, gcv_set0, gcv_set, gcv_set_new, gcR_x0, gcR_x00, gcR_x1, gcR_x10, bne_self_eq_false, beq_self_eq_true, bne_iff_ne, ne_eq, not_true_eq_false, not_false_eq_true, and_self, and_true, true_and, and_false, false_and, or_true, true_or, or_false, false_or, hw, h1, h2, h3, h4, hw2, h5, h6]
              · simp (disch := first | assumption | omega | exact id rfl | exact pl_fl_kr _ | decide +kernel) only [List.map_cons, List.map_nil, List.length_cons, List.length_nil, bok, bex, mok, gok, gex, mook, thn_nx, thn_ret, thn_brk, thn_cnt, thn_exc, selB_some, kE2_e, kE1_e, evs_nil, evs_cons, kO1_e, evos_nil, evos_cons, kOp_e, ev_op, lift_some, ev_var, ev_non, ev_bl, ev_int, ev_str, kC2_e, pur_some', kC1_e, ev_cmp, kD2_e, kD1_e, ev_cmp2, kAnd_e, ev_and, kOr_e, ev_or, kNot_e, ev_not, kIfe_e, ev_ife, kG_e, kCall_e, ev_call, ev_qcall, kF3_e, kF2_e, kF_e, ev_fld, kMG_e, kM3_e, kM2_e, kM_e, ev_mcall, ev_frz, frz_new, frz_non, frz_int, frz_str, frz_bl, frz_tup, frz_fl, frz_kt, kGc_e, ev_gc, kGlob_e, ev_glob, kIsc3_e, kIsc2_e, kIsc_e, ev_isc, kXfld_e, ev_xfld, kXis_e, ev_xis, kIe_fl, evi_e, kIr_fl, evi_rev, kIt_tup, evi_tup, kIs_str, evi_str, kI1_int, evi_rng1, kI22_int, kI21_e, evi_rng2, kIn_fl, evi_enum, runs_nil, runs_cons, kA_e, nxO_some, run_asg, kAug_e, kAug0_e, run_aug, kS3_e, kS2_e, kS1_e, run_setI, kFs2_e, kFs1_e, run_fset, kX_e, run_expr, kR_e, run_ret, run_retN, run_brk, run_cnt, run_pass, tstV_e, tru_e, kIf_e, run_ite, kFor_e, run_for, kRs_1, kRs_0, kRaise_e, run_raise, run_faug, tel_e, kxs0_e, kxs_e, xisV_e, xisV_n, kHs_e, runHs_cons, runHs_nil, knH_c, knH_nil, run_try, inI_s, inI_n, kTri_exc, kTri_nx, kTri_ret, outO_ret, outO_nx, Hv.val, Hv.new, Hv.opW, op0, op1, op2, op3, Hv.binW, Hv.binI, Hv.ixW, slW2, slW, lenW, listW, tupleW, negW, sumW, minW, maxW, intW, Hv.intsD, Hv.cmpW, Hv.cmpG, Hv.cmpI, Hv.cmpS, isNonD, isiW, eq_nil_n, preW, isStrD, isIntD, isLstD, truth, setG, setGs, putS_0, putS_s, strNe, wipeS, Hv.noX, srcOf, seqS, tupD, addW, at_new, at_n1, at_n2, at_n3, at_n4, at_o1, at_o2, at_o3, at_o4, set_new, setFld, setFE, setFN, setF_nil, lookupE, lookupN, List.lookup_nil, outI, sizeLine_eq, gP_pos, Option.map_some, Option.map_none, Option.bind_some, Option.bind_none, Option.isSome_some, Option.isSome_none, Nat.reduceAdd, Nat.reduceSub, Nat.reduceLT, Nat.reduceLeDiff, Nat.reduceEqDiff, Nat.reduceBEq, Nat.reduceBNe, Int.reduceEq, Int.reduceLT, Int.reduceLE, Int.reduceAdd, Int.reduceMul, Int.reduceSub, Int.reduceNeg, Int.reduceToNat, Int.reducePow, List.replicate, List.cons_append, List.nil_append, List.getElem?_cons_zero, List.getElem?_cons_succ, List.getElem?_nil, List.set_cons_succ, List.set_cons_zero, if_true, if_false, ite_true, ite_false, Bool.false_eq_true, Bool.not_true, Bool.not_false, Bool.and_true, Bool.true_and, Bool.or_true, Bool.true_or, Bool.or_false, Bool.false_or, Bool.and_false, Bool.false_and, reduceCtorEq, eq_self, decide_true, decide_false, decide_not, List.take_succ_cons, List.take_zero, List.length_map, Int.toNat_natCast, fnG_0, fnG_1, fnG_2, fnG_3, fnG_4, fnG_5, fnG_6, fnG_7, fnG_8, out_ret, out_nx, out_exc, gcR_ok1, gcv_pl0, gcv_pl, gcv_p2, gcv_p3, gcv_p4, gcv_p5, gcv_p6, gcv_new, gcv_n2, gcv_n3, gcv_set0, gcv_set, gcv_set_new, gcR_x0, gcR_x00, gcR_x1, gcR_x10, bne_self_eq_false, beq_self_eq_true, bne_iff_ne, ne_eq, not_true_eq_false, not_false_eq_true, and_self, and_true, true_and, and_false, false_and, or_true, true_or, or_false, false_or, hw, h1, h2, h3, h4, hw2, h5]
            · simp (disch := first | assumption | omega | exact id rfl | exact pl_fl_kr _ | decide +kernel) only [List.map_cons, List.map_nil, List.length_cons, List.length_nil, bok, bex, mok, gok, gex, mook, thn_nx, thn_ret, thn_brk, thn_cnt, thn_exc, selB_some, kE2_e, kE1_e, evs_nil, evs_cons, kO1_e, evos_nil, evos_cons, kOp_e, ev_op, lift_some, ev_var, ev_non, ev_bl, ev_int, ev_str, kC2_e, pur_some', kC1_e, ev_cmp, kD2_e, kD1_e, ev_cmp2, kAnd_e, ev_and, kOr_e, ev_or, kNot_e, ev_not, kIfe_e, ev_ife, kG_e, kCall_e, ev_call, ev_qcall, kF3_e, kF2_e, kF_e, ev_fld, kMG_e, kM3_e, kM2_e, kM_e, ev_mcall, ev_frz, frz_new, frz_non, frz_int, frz_str, frz_bl, frz_tup, frz_fl, frz_kt, kGc_e, ev_gc, kGlob_e, ev_glob, kIsc3_e, kIsc2_e, kIsc_e, ev_isc, kXfld_e, ev_xfld, kXis_e, ev_xis, kIe_fl, evi_e, kIr_fl, evi_rev, kIt_tup, evi_tup, kIs_str, evi_str, kI1_int, evi_rng1, kI22_int, kI21_e, evi_rng2, kIn_fl, evi_enum, runs_nil, runs_cons, kA_e, nxO_some, run_asg, kAug_e, kAug0_e, run_aug, kS3_e, kS2_e, kS1_e, run_setI, kFs2_e, kFs1_e, run_fset, kX_e, run_expr, kR_e, run_ret, run_retN, run_brk, run_cnt, run_pass, tstV_e, tru_e, kIf_e, run_ite, kFor_e, run_for, kRs_1, kRs_0, kRaise_e, run_raise, run_faug, tel_e, kxs0_e, kxs_e, xisV_e, xisV_n, kHs_e, runHs_cons, runHs_nil, knH_c, knH_nil, run_try, inI_s, inI_n, kTri_exc, kTri_nx, kTri_ret, outO_ret, outO_nx, Hv.val, Hv.new, Hv.opW, op0, op1, op2, op3, Hv.binW, Hv.binI, Hv.ixW, slW2, slW, lenW, listW, tupleW, negW, sumW, minW, maxW, intW, Hv.intsD, Hv.cmpW, Hv.cmpG, Hv.cmpI, Hv.cmpS, isNonD, isiW, eq_nil_n, preW, isStrD, isIntD, isLstD, truth, setG, setGs, putS_0, putS_s, strNe, wipeS, Hv.noX, srcOf, seqS, tupD, addW, at_new, at_n1, at_n2, at_n3, at_n4, at_o1, at_o2, at_o3, at_o4, set_new, setFld, setFE, setFN, setF_nil, lookupE, lookupN, List.lookup_nil, outI, sizeLine_eq, gP_pos, Option.map_some, Option.map_none, Option.bind_some, Option.bind_none, Option.isSome_some, Option.isSome_none, Nat.reduceAdd, Nat.reduceSub, Nat.reduceLT, Nat.reduceLeDiff, Nat.reduceEqDiff, Nat.reduceBEq, Nat.reduceBNe, Int.reduceEq, Int.reduceLT, Int.reduceLE, Int.reduceAdd, Int.reduceMul, Int.reduceSub, Int.reduceNeg, Int.reduceToNat, Int.reducePow, List.replicate, List.cons_append, List.nil_append, List.getElem?_cons_zero, List.getElem?_cons_succ, List.getElem?_nil, List.set_cons_succ, List.set_cons_zero, if_true, if_false, ite_true, ite_false, Bool.false_eq_true, Bool.not_true, Bool.not_false, Bool.and_true, Bool.true_and, Bool.or_true, Bool.true_or, Bool.or_false, Bool.false_or, Bool.and_false, Bool.false_and, reduceCtorEq, eq_self, decide_true, decide_false, decide_not, List.take_succ_cons, List.take_zero, List.length_map, Int.toNat_natCast, fnG_0, fnG_1, fnG_2, fnG_3, fnG_4, fnG_5, fnG_6, fnG_7, fnG_8, out_ret, out_nx, out_exc, gcR_ok1, gcv_pl0, gcv_pl, gcv_p2, gcv_p3, gcv_p4, gcv_p5, gcv_p6, gcv_new, gcv_n2, gcv_n3, gcv_set0, gcv_set, gcv_set_new, gcR_x0, gcR_x00, gcR_x1, gcR_x10, bne_self_eq_false, beq_self_eq_true, bne_iff_ne, ne_eq, not_true_eq_false, not_false_eq_true, and_self, and_true, true_and, and_false, false_and, or_true, true_or, or_false, false_or, hw, h1, h2, h3, h4, hw2]
          · simp (disch := first | assumption | omega | exact id rfl | exact pl_fl_kr _ | decide +kernel) only [List.map_cons, List.map_nil, List.length_cons, List.length_nil, bok, bex, mok, gok, gex, mook, thn_nx, thn_ret, thn_brk, thn_cnt, thn_exc, selB_some, kE2_e, kE1_e, evs_nil, evs_cons, kO1_e, evos_nil, evos_cons, kOp_e, ev_op, lift_some, ev_var, ev_non, ev_bl, ev_int, ev_str, kC2_e, pur_some', kC1_e, ev_cmp, kD2_e, kD1_e, ev_cmp2, kAnd_e, ev_and, kOr_e, ev_or, kNot_e, ev_not, kIfe_e, ev_ife, kG_e, kCall_e, ev_call, ev_qcall, kF3_e, kF2_e, kF_e, ev_fld, kMG_e, kM3_e, kM2_e, kM_e, ev_mcall, ev_frz, frz_new, frz_non, frz_int, frz_str, frz_bl, frz_tup, frz_fl, frz_kt, kGc_e, ev_gc, kGlob_e, ev_glob, kIsc3_e, kIsc2_e, kIsc_e, ev_isc, kXfld_e, ev_xfld, kXis_e, ev_xis, kIe_fl, evi_e, kIr_fl, evi_rev, kIt_tup, evi_tup, kIs_str, evi_str, kI1_int, evi_rng1, kI22_int, kI21_e, evi_rng2, kIn_fl, evi_enum, runs_nil, runs_cons, kA_e, nxO_some, run_asg, kAug_e, kAug0_e, run_aug, kS3_e, kS2_e, kS1_e, run_setI, kFs2_e, kFs1_e, run_fset, kX_e, run_expr, kR_e, run_ret, run_retN, run_brk, run_cnt, run_pass, tstV_e, tru_e, kIf_e, run_ite, kFor_e, run_for, kRs_1, kRs_0, kRaise_e, run_raise, run_faug, tel_e, kxs0_e, kxs_e, xisV_e, xisV_n, kHs_e, runHs_cons, runHs_nil, knH_c, knH_nil, run_try, inI_s, inI_n, kTri_exc, kTri_nx, kTri_ret, outO_ret, outO_nx, Hv.val, Hv.new, Hv.opW, op0, op1, op2, op3, Hv.binW, Hv.binI, Hv.ixW, slW2, slW, lenW, listW, tupleW, negW, sumW, minW, maxW, intW, Hv.intsD, Hv.cmpW, Hv.cmpG, Hv.cmpI, Hv.cmpS, isNonD, isiW, eq_nil_n, preW, isStrD, isIntD, isLstD, truth, setG, setGs, putS_0, putS_s, strNe, wipeS, Hv.noX, srcOf, seqS, tupD, addW, at_new, at_n1, at_n2, at_n3, at_n4, at_o1, at_o2, at_o3, at_o4, set_new, setFld, setFE, setFN, setF_nil, lookupE, lookupN, List.lookup_nil, outI, sizeLine_eq, gP_pos, Option.map_some, Option.map_none, Option.bind_some, Option.bind_none, Option.isSome_some, Option.isSome_none, Nat.reduceAdd, Nat.reduceSub, Nat.reduceLT, Nat.reduceLeDiff, Nat.reduceEqDiff, Nat.reduceBEq, Nat.reduceBNe, Int.reduceEq, Int.reduceLT, Int.reduceLE, Int.reduceAdd, Int.reduceMul, Int.reduceSub, Int.reduceNeg, Int.reduceToNat, Int.reducePow, List.replicate, List.cons_append, List.nil_append, List.getElem?_cons_zero, List.getElem?_cons_succ, List.getElem?_nil, List.set_cons_succ, List.set_cons_zero, if_true, if_false, ite_true, ite_false, Bool.false_eq_true, Bool.not_true, Bool.not_false, Bool.and_true, Bool.true_and, Bool.or_true, Bool.true_or, Bool.or_false, Bool.false_or, Bool.and_false, Bool.false_and, reduceCtorEq, eq_self, decide_true, decide_false, decide_not, List.take_succ_cons, List.take_zero, List.length_map, Int.toNat_natCast, fnG_0, fnG_1, fnG_2, fnG_3, fnG_4, fnG_5, fnG_6, fnG_7, fnG_8, out_ret, out_nx, out_exc, gcR_ok1, gcv_pl0, gcv_pl, gcv_p2, gcv_p3, gcv_p4, gcv_p5, gcv_p6, gcv_new, gcv_n2, gcv_n3, gcv_set0, gcv_set, gcv_set_new, gcR_x0, gcR_x00, gcR_x1, gcR_x10, bne_self_eq_false, beq_self_eq_true, bne_iff_ne, ne_eq, not_true_eq_false, not_false_eq_true, and_self, and_true, true_and, and_false, false_and, or_true, true_or, or_false, false_or, hw, h1, h2, h3, h4]
        · simp (disch := first | assumption | omega | exact id rfl | exact pl_fl_kr _ | decide +kernel) only [List.map_cons, List.map_nil, List.length_cons, List.length_nil, bok, bex, mok, gok, gex, mook, thn_nx, thn_ret, thn_brk, thn_cnt, thn_exc, selB_some, kE2_e, kE1_e, evs_nil, evs_cons, kO1_e, evos_nil, evos_cons, kOp_e, ev_op, lift_some, ev_var, ev_non, ev_bl, ev_int, ev_str, kC2_e, pur_some', kC1_e, ev_cmp, kD2_e, kD1_e, ev_cmp2, kAnd_e, ev_and, kOr_e, ev_or, kNot_e, ev_not, kIfe_e, ev_ife, kG_e, kCall_e, ev_call, ev_qcall, kF3_e, kF2_e, kF_e, ev_fld, kMG_e, kM3_e, kM2_e, kM_e, ev_mcall, ev_frz, frz_new, frz_non, frz_int, frz_str, frz_bl, frz_tup, frz_fl, frz_kt, kGc_e, ev_gc, kGlob_e, ev_glob, kIsc3_e, kIsc2_e, kIsc_e, ev_isc, kXfld_e, ev_xfld, kXis_e, ev_xis, kIe_fl, evi_e, kIr_fl, evi_rev, kIt_tup, evi_tup, kIs_str, evi_str, kI1_int, evi_rng1, kI22_int, kI21_e, evi_rng2, kIn_fl, evi_enum, runs_nil, runs_cons, kA_e, nxO_some, run_asg, kAug_e, kAug0_e, run_aug, kS3_e, kS2_e, kS1_e, run_setI, kFs2_e, kFs1_e, run_fset, kX_e, run_expr, kR_e, run_ret, run_retN, run_brk, run_cnt, run_pass, tstV_e, tru_e, kIf_e, run_ite, kFor_e, run_for, kRs_1, kRs_0, kRaise_e, run_raise, run_faug, tel_e, kxs0_e, kxs_e, xisV_e, xisV_n, kHs_e, runHs_cons, runHs_nil, knH_c, knH_nil, run_try, inI_s, inI_n, kTri_exc, kTri_nx, kTri_ret, outO_ret, outO_nx, Hv.val, Hv.new, Hv.opW, op0, op1, op2, op3, Hv.binW, Hv.binI, Hv.ixW, slW2, slW, lenW, listW, tupleW, negW, sumW, minW, maxW, intW, Hv.intsD, Hv.cmpW, Hv.cmpG, Hv.cmpI, Hv.cmpS, isNonD, isiW, eq_nil_n, preW, isStrD, isIntD, isLstD, truth, setG, setGs, putS_0, putS_s, strNe, wipeS, Hv.noX, srcOf, seqS, tupD, addW, at_new, at_n1, at_n2, at_n3, at_n4, at_o1, at_o2, at_o3, at_o4, set_new, setFld, setFE, setFN, setF_nil, lookupE, lookupN, List.lookup_nil, outI, sizeLine_eq, gP_pos, Option.map_some, Option.map_none, Option.bind_some, Option.bind_none, Option.isSome_some, Option.isSome_none, Nat.reduceAdd, Nat.reduceSub, Nat.reduceLT, Nat.reduceLeDiff, Nat.reduceEqDiff, Nat.reduceBEq, Nat.reduceBNe, Int.reduceEq, Int.reduceLT, Int.reduceLE, Int.reduceAdd, Int.reduceMul, Int.reduceSub, Int.reduceNeg, Int.reduceToNat, Int.reducePow, List.replicate, List.cons_append, List.nil_append, List.getElem?_cons_zero, List.getElem?_cons_succ, List.getElem?_nil, List.set_cons_succ, List.set_cons_zero, if_true, if_false, ite_true, ite_false, Bool.false_eq_true, Bool.not_true, Bool.not_false, Bool.and_true, Bool.true_and, Bool.or_true, Bool.true_or, Bool.or_false, Bool.false_or, Bool.and_false, Bool.false_and, reduceCtorEq, eq_self, decide_true, decide_false, decide_not, List.take_succ_cons, List.take_zero, List.length_map, Int.toNat_natCast, fnG_0, fnG_1, fnG_2, fnG_3, fnG_4, fnG_5, fnG_6, fnG_7, fnG_8, out_ret, out_nx, out_exc, gcR_ok1, gcv_pl0, gcv_pl, gcv_p2, gcv_p3, gcv_p4, gcv_p5, gcv_p6, gcv_new, gcv_n2, gcv_n3, gcv_set0, gcv_set, gcv_set_new, gcR_x0, gcR_x00, gcR_x1, gcR_x10, bne_self_eq_false, beq_self_eq_true, bne_iff_ne, ne_eq, not_true_eq_false, not_false_eq_true, and_self, and_true, true_and, and_false, false_and, or_true, true_or, or_false, false_or, hw, h1, h2, h3]
      · simp (disch := first | assumption | omega | exact id rfl | exact pl_fl_kr _ | decide +kernel) only [List.map_cons, List.map_nil, List.length_cons, List.length_nil, bok, bex, mok, gok, gex, mook, thn_nx, thn_ret, thn_brk, thn_cnt, thn_exc, selB_some, kE2_e, kE1_e, evs_nil, evs_cons, kO1_e, evos_nil, evos_cons, kOp_e, ev_op, lift_some, ev_var, ev_non, ev_bl, ev_int, ev_str, kC2_e, pur_some', kC1_e, ev_cmp, kD2_e, kD1_e, ev_cmp2, kAnd_e, ev_and, kOr_e, ev_or, kNot_e, ev_not, kIfe_e, ev_ife, kG_e, kCall_e, ev_call, ev_qcall, kF3_e, kF2_e, kF_e, ev_fld, kMG_e, kM3_e, kM2_e, kM_e, ev_mcall, ev_frz, frz_new, frz_non, frz_int, frz_str, frz_bl, frz_tup, frz_fl, frz_kt, kGc_e, ev_gc, kGlob_e, ev_glob, kIsc3_e, kIsc2_e, kIsc_e, ev_isc, kXfld_e, ev_xfld, kXis_e, ev_xis, kIe_fl, evi_e, kIr_fl, evi_rev, kIt_tup, evi_tup, kIs_str, evi_str, kI1_int, evi_rng1, kI22_int, kI21_e, evi_rng2, kIn_fl, evi_enum, runs_nil, runs_cons, kA_e, nxO_some, run_asg, kAug_e, kAug0_e, run_aug, kS3_e, kS2_e, kS1_e, run_setI, kFs2_e, kFs1_e, run_fset, kX_e, run_expr, kR_e, run_ret, run_retN, run_brk, run_cnt, run_pass, tstV_e, tru_e, kIf_e, run_ite, kFor_e, run_for, kRs_1, kRs_0, kRaise_e, run_raise, run_faug, tel_e, kxs0_e, kxs_e, xisV_e, xisV_n, kHs_e, runHs_cons, runHs_nil, knH_c, knH_nil, run_try, inI_s, inI_n, kTri_exc, kTri_nx, kTri_ret, outO_ret, outO_nx, Hv.val, Hv.new, Hv.opW, op0, op1, op2, op3, Hv.binW, Hv.binI, Hv.ixW, slW2, slW, lenW, listW, tupleW, negW, sumW, minW, maxW, intW, Hv.intsD, Hv.cmpW, Hv.cmpG, Hv.cmpI, Hv.cmpS, isNonD, isiW, eq_nil_n, preW, isStrD, isIntD, isLstD, truth, setG, setGs, putS_0, putS_s, strNe, wipeS, Hv.noX, srcOf, seqS, tupD, addW, at_new, at_n1, at_n2, at_n3, at_n4, at_o1, at_o2, at_o3, at_o4, set_new, setFld, setFE, setFN, setF_nil, lookupE, lookupN, List.lookup_nil, outI, sizeLine_eq, gP_pos, Option.map_some, Option.map_none, Option.bind_some, Option.bind_none, Option.isSome_some, Option.isSome_none, Nat.reduceAdd, Nat.reduceSub, Nat.reduceLT, Nat.reduceLeDiff, Nat.reduceEqDiff, Nat.reduceBEq, Nat.reduceBNe, Int.reduceEq, Int.reduceLT, Int.reduceLE, Int.reduceAdd, Int.reduceMul, Int.reduceSub, Int.reduceNeg, Int.reduceToNat, Int.reducePow, List.replicate, List.cons_append, List.nil_append, List.getElem?_cons_zero, List.getElem?_cons_succ, List.getElem?_nil, List.set_cons_succ, List.set_cons_zero, if_true, if_false, ite_true, ite_false, Bool.false_eq_true, Bool.not_true, Bool.not_false, Bool.and_true, Bool.true_and, Bool.or_true, Bool.true_or, Bool.or_false, Bool.false_or, Bool.and_false, Bool.false_and, reduceCtorEq, eq_self, decide_true, decide_false, decide_not, List.take_succ_cons, List.take_zero, List.length_map, Int.toNat_natCast, fnG_0, fnG_1, fnG_2, fnG_3, fnG_4, fnG_5, fnG_6, fnG_7, fnG_8, out_ret, out_nx, out_exc, gcR_ok1, gcv_pl0, gcv_pl, gcv_p2, gcv_p3, gcv_p4, gcv_p5, gcv_p6, gcv_new, gcv_n2, gcv_n3, gcv_set0, gcv_set, gcv_set_new, gcR_x0, gcR_x00, gcR_x1, gcR_x10, bne_self_eq_false, beq_self_eq_true, bne_iff_ne, ne_eq, not_true_eq_false, not_false_eq_true, and_self, and_true, true_and, and_false, false_and, or_true, true_or, or_false, false_or, hw, h1, h2]
    · simp (disch := first | assumption | omega | exact id rfl | exact pl_fl_kr _ | decide +kernel) only [List.map_cons, List.map_nil, List.length_cons, List.length_nil, bok, bex, mok, gok, gex, mook, thn_nx, thn_ret, thn_brk, thn_cnt, thn_exc, selB_some, kE2_e, kE1_e, evs_nil, evs_cons, kO1_e, evos_nil, evos_cons, kOp_e, ev_op, lift_some, ev_var, ev_non, ev_bl, ev_int, ev_str, kC2_e, pur_some', kC1_e, ev_cmp, kD2_e, kD1_e, ev_cmp2, kAnd_e, ev_and, kOr_e, ev_or, kNot_e, ev_not, kIfe_e, ev_ife, kG_e, kCall_e, ev_call, ev_qcall, kF3_e, kF2_e, kF_e, ev_fld, kMG_e, kM3_e, kM2_e, kM_e, ev_mcall, ev_frz, frz_new, frz_non, frz_int, frz_str, frz_bl, frz_tup, frz_fl, frz_kt, kGc_e, ev_gc, kGlob_e, ev_glob, kIsc3_e, kIsc2_e, kIsc_e, ev_isc, kXfld_e, ev_xfld, kXis_e, ev_xis, kIe_fl, evi_e, kIr_fl, evi_rev, kIt_tup, evi_tup, kIs_str, evi_str, kI1_int, evi_rng1, kI22_int, kI21_e, evi_rng2, kIn_fl, evi_enum, runs_nil, runs_cons, kA_e, nxO_some, run_asg, kAug_e, kAug0_e, run_aug, kS3_e, kS2_e, kS1_e, run_setI, kFs2_e, kFs1_e, run_fset, kX_e, run_expr, kR_e, run_ret, run_retN, run_brk, run_cnt, run_pass, tstV_e, tru_e, kIf_e, run_ite, kFor_e, run_for, kRs_1, kRs_0, kRaise_e, run_raise, run_faug, tel_e, kxs0_e, kxs_e, xisV_e, xisV_n, kHs_e, runHs_cons, runHs_nil, knH_c, knH_nil, run_try, inI_s, inI_n, kTri_exc, kTri_nx, kTri_ret, outO_ret, outO_nx, Hv.val, Hv.new, Hv.opW, op0, op1, op2, op3, Hv.binW, Hv.binI, Hv.ixW, slW2, slW, lenW, listW, tupleW, negW, sumW, minW, maxW, intW, Hv.intsD, Hv.cmpW, Hv.cmpG, Hv.cmpI, Hv.cmpS, isNonD, isiW, eq_nil_n, preW, isStrD, isIntD, isLstD, truth, setG, setGs, putS_0, putS_s, strNe, wipeS, Hv.noX, srcOf, seqS, tupD, addW, at_new, at_n1, at_n2, at_n3, at_n4, at_o1, at_o2, at_o3, at_o4, set_new, setFld, setFE, setFN, setF_nil, lookupE, lookupN, List.lookup_nil, outI, sizeLine_eq, gP_pos, Option.map_some, Option.map_none, Option.bind_some, Option.bind_none, Option.isSome_some, Option.isSome_none, Nat.reduceAdd, Nat.reduceSub, Nat.reduceLT, Nat.reduceLeDiff, Nat.reduceEqDiff, Nat.reduceBEq, Nat.reduceBNe, Int.reduceEq, Int.reduceLT, Int.reduceLE, Int.reduceAdd, Int.reduceMul, Int.reduceSub, Int.reduceNeg, Int.reduceToNat, Int.reducePow, List.replicate, List.cons_append, List.nil_append, List.getElem?_cons_zero, List.getElem?_cons_succ, List.getElem?_nil, List.set_cons_succ, List.set_cons_zero, if_true, if_false, ite_true, ite_false, Bool.false_eq_true, Bool.not_true, Bool.not_false, Bool.and_true, Bool.true_and, Bool.or_true, Bool.true_or, Bool.or_false, Bool.false_or, Bool.and_false, Bool.false_and, reduceCtorEq, eq_self, decide_true, decide_false, decide_not, List.take_succ_cons, List.take_zero, List.length_map, Int.toNat_natCast, fnG_0, fnG_1, fnG_2, fnG_3, fnG_4, fnG_5, fnG_6, fnG_7, fnG_8, out_ret, out_nx, out_exc, gcR_ok1, gcv_pl0, gcv_pl, gcv_p2, gcv_p3, gcv_p4, gcv_p5, gcv_p6, gcv_new, gcv_n2, gcv_n3, gcv_set0, gcv_set, gcv_set_new, gcR_x0, gcR_x00, gcR_x1, gcR_x10, bne_self_eq_false, beq_self_eq_true, bne_iff_ne, ne_eq, not_true_eq_false, not_false_eq_true, and_self, and_true, true_and, and_false, false_and, or_true, true_or, or_false, false_or, hw, h1]
end
end L14
-- TABLES L14
-- DISCH exact pl_fl_kr _
namespace L14
open PySem PySem.Spec
open PyProof.Rows hiding St
open L2 Hv
section
variable {S : Sto} {n : Nat} {l : List (Nat × Str)} {w : Str} {a t g : Int}
def okW (w : Str) : Prop := w = "put" ∨ w = "strike" ∨ w = "dress" ∨ w = "move"
theorem at_S (c : Nat) : True := trivial
/-- refused -/
theorem run_doesX {x : Int} (hw : okW w) (hs : S[n]? = some (plainC l)) (hd : due w a t g l.length = [x]) : g_law_does S [.ref n, .str w, .int a, .int t, .int g] = some (.exc ⟨1, [("at", .int x)]⟩ S) := by
  unfold due at hd
  unfold g_law_does b_law_does
  by_cases h1 : w = "put"
  · subst h1
    rw [if_pos rfl] at hd
    split at hd
    · cases hd
    · rename_i h
      cases hd
      have e := run_putX (t := "x\n") hs h
      simp (disch := first | assumption | omega | exact id rfl | exact pl_fl_kr _ | decide +kernel) only [List.map_cons, List.map_nil, List.length_cons, List.length_nil, bok, bex, mok, gok, gex, mook, thn_nx, thn_ret, thn_brk, thn_cnt, thn_exc, selB_some, kE2_e, kE1_e, evs_nil, evs_cons, kO1_e, evos_nil, evos_cons, kOp_e, ev_op, lift_some, ev_var, ev_non, ev_bl, ev_int, ev_str, kC2_e, pur_some', kC1_e, ev_cmp, kD2_e, kD1_e, ev_cmp2, kAnd_e, ev_and, kOr_e, ev_or, kNot_e, ev_not, kIfe_e, ev_ife, kG_e, kCall_e, ev_call, ev_qcall, kF3_e, kF2_e, kF_e, ev_fld, kMG_e, kM3_e, kM2_e, kM_e, ev_mcall, ev_frz, frz_new, frz_non, frz_int, frz_str, frz_bl, frz_tup, frz_fl, frz_kt, kGc_e, ev_gc, kGlob_e, ev_glob, kIsc3_e, kIsc2_e, kIsc_e, ev_isc, kXfld_e, ev_xfld, kXis_e, ev_xis, kIe_fl, evi_e, kIr_fl, evi_rev, kIt_tup, evi_tup, kIs_str, evi_str, kI1_int, evi_rng1, kI22_int, kI21_e, evi_rng2, kIn_fl, evi_enum, runs_nil, runs_cons, kA_e, nxO_some, run_asg, kAug_e, kAug0_e, run_aug, kS3_e, kS2_e, kS1_e, run_setI, kFs2_e, kFs1_e, run_fset, kX_e, run_expr, kR_e, run_ret, run_retN, run_brk, run_cnt, run_pass, tstV_e, tru_e, kIf_e, run_ite, kFor_e, run_for, kRs_1, kRs_0, kRaise_e, run_raise, run_faug, tel_e, kxs0_e, kxs_e, xisV_e, xisV_n, kHs_e, runHs_cons, runHs_nil, knH_c, knH_nil, run_try, inI_s, inI_n, kTri_exc, kTri_nx, kTri_ret, outO_ret, outO_nx, Hv.val, Hv.new, Hv.opW, op0, op1, op2, op3, Hv.binW, Hv.binI, Hv.ixW, slW2, slW, lenW, listW, tupleW, negW, sumW, minW, maxW, intW, Hv.intsD, Hv.cmpW, Hv.cmpG, Hv.cmpI, Hv.cmpS, isNonD, isiW, eq_nil_n, preW, isStrD, isIntD, isLstD, truth, setG, setGs, putS_0, putS_s, strNe, wipeS, Hv.noX, srcOf, seqS, tupD, addW, at_new, at_n1, at_n2, at_n3, at_n4, at_o1, at_o2, at_o3, at_o4, set_new, setFld, setFE, setFN, setF_nil, lookupE, lookupN, List.lookup_nil, outI, sizeLine_eq, gP_pos, Option.map_some, Option.map_none, Option.bind_some, Option.bind_none, Option.isSome_some, Option.isSome_none, Nat.reduceAdd, Nat.reduceSub, Nat.reduceLT, Nat.reduceLeDiff, Nat.reduceEqDiff, Nat.reduceBEq, Nat.reduceBNe, Int.reduceEq, Int.reduceLT, Int.reduceLE, Int.reduceAdd, Int.reduceMul, Int.reduceSub, Int.reduceNeg, Int.reduceToNat, Int.reducePow, List.replicate, List.cons_append, List.nil_append, List.getElem?_cons_zero, List.getElem?_cons_succ, List.getElem?_nil, List.set_cons_succ, List.set_cons_zero, if_true, if_false, ite_true, ite_false, Bool.false_eq_true, Bool.not_true, Bool.not_false, Bool.and_true, Bool.true_and, Bool.or_true, Bool.true_or, Bool.or_false, Bool.false_or, Bool.and_false, Bool.false_and, reduceCtorEq, eq_self, decide_true, decide_false, decide_not, List.take_succ_cons, List.take_zero, List.length_map, Int.toNat_natCast, fnG_0, fnG_1, fnG_2, fnG_3, fnG_4, fnG_5, fnG_6, fnG_7, fnG_8, out_ret, out_nx, out_exc, gcR_ok1, gcv_pl0, gcv_pl, gcv_p2, gcv_p3, gcv_p4, gcv_p5, gcv_p6, gcv_new, gcv_n2, gcv_n3, gcv_set0, gcv_set, gcv_set_new, gcR_x0, gcR_x00, gcR_x1, gcR_x10, bne_self_eq_false, beq_self_eq_true, bne_iff_ne, ne_eq, not_true_eq_false, not_false_eq_true, and_self, and_true, true_and, and_false, false_and, or_true, true_or, or_false, false_or, hs, e, lk_law_does_plain_put, lk_law_does_plain_strike, lk_law_does_plain_dress, lk_law_does_plain_move]
  · rw [if_neg h1] at hd
    split at hd
    · rename_i h
      cases hd
      have e1 := run_strikeX1 (b := t) hs h
      have e2 := run_dressX1 (b := t) (w := "red") hs h
      have e3 := run_moveX1 (b := t) (g := g) hs h
      have q : pad 4 [.str ""] g_plain_dress S [.ref n, .int a, .int t, .str "red"] = _ := (pad_all rfl).trans e2
      rcases hw with rfl | rfl | rfl | rfl
      · exact absurd rfl h1
      · simp (disch := first | assumption | omega | exact id rfl | exact pl_fl_kr _ | decide +kernel) only [List.map_cons, List.map_nil, List.length_cons, List.length_nil, bok, bex, mok, gok, gex, mook, thn_nx, thn_ret, thn_brk, thn_cnt, thn_exc, selB_some, kE2_e, kE1_e, evs_nil, evs_cons, kO1_e, evos_nil, evos_cons, kOp_e, ev_op, lift_some, ev_var, ev_non, ev_bl, ev_int, ev_str, kC2_e, pur_some', kC1_e, ev_cmp, kD2_e, kD1_e, ev_cmp2, kAnd_e, ev_and, kOr_e, ev_or, kNot_e, ev_not, kIfe_e, ev_ife, kG_e, kCall_e, ev_call, ev_qcall, kF3_e, kF2_e, kF_e, ev_fld, kMG_e, kM3_e, kM2_e, kM_e, ev_mcall, ev_frz, frz_new, frz_non, frz_int, frz_str, frz_bl, frz_tup, frz_fl, frz_kt, kGc_e, ev_gc, kGlob_e, ev_glob, kIsc3_e, kIsc2_e, kIsc_e, ev_isc, kXfld_e, ev_xfld, kXis_e, ev_xis, kIe_fl, evi_e, kIr_fl, evi_rev, kIt_tup, evi_tup, kIs_str, evi_str, kI1_int, evi_rng1, kI22_int, kI21_e, evi_rng2, kIn_fl, evi_enum, runs_nil, runs_cons, kA_e, nxO_some, run_asg, kAug_e, kAug0_e, run_aug, kS3_e, kS2_e, kS1_e, run_setI, kFs2_e, kFs1_e, run_fset, kX_e, run_expr, kR_e, run_ret, run_retN, run_brk, run_cnt, run_pass, tstV_e, tru_e, kIf_e, run_ite, kFor_e, run_for, kRs_1, kRs_0, kRaise_e, run_raise, run_faug, tel_e, kxs0_e, kxs_e, xisV_e, xisV_n, kHs_e, runHs_cons, runHs_nil, knH_c, knH_nil, run_try, inI_s, inI_n, kTri_exc, kTri_nx, kTri_ret, outO_ret, outO_nx, Hv.val, Hv.new, Hv.opW, op0, op1, op2, op3, Hv.binW, Hv.binI, Hv.ixW, slW2, slW, lenW, listW, tupleW, negW, sumW, minW, maxW, intW, Hv.intsD, Hv.cmpW, Hv.cmpG, Hv.cmpI, Hv.cmpS, isNonD, isiW, eq_nil_n, preW, isStrD, isIntD, isLstD, truth, setG, setGs, putS_0, putS_s, strNe, wipeS, Hv.noX, srcOf, seqS, tupD, addW, at_new, at_n1, at_n2, at_n3, at_n4, at_o1, at_o2, at_o3, at_o4, set_new, setFld, setFE, setFN, setF_nil, lookupE, lookupN, List.lookup_nil, outI, sizeLine_eq, gP_pos, Option.map_some, Option.map_none, Option.bind_some, Option.bind_none, Option.isSome_some, Option.isSome_none, Nat.reduceAdd, Nat.reduceSub, Nat.reduceLT, Nat.reduceLeDiff, Nat.reduceEqDiff, Nat.reduceBEq, Nat.reduceBNe, Int.reduceEq, Int.reduceLT, Int.reduceLE, Int.reduceAdd, Int.reduceMul, Int.reduceSub, Int.reduceNeg, Int.reduceToNat, Int.reducePow, List.replicate, List.cons_append, List.nil_append, List.getElem?_cons_zero, List.getElem?_cons_succ, List.getElem?_nil, List.set_cons_succ, List.set_cons_zero, if_true, if_false, ite_true, ite_false, Bool.false_eq_true, Bool.not_true, Bool.not_false, Bool.and_true, Bool.true_and, Bool.or_true, Bool.true_or, Bool.or_false, Bool.false_or, Bool.and_false, Bool.false_and, reduceCtorEq, eq_self, decide_true, decide_false, decide_not, List.take_succ_cons, List.take_zero, List.length_map, Int.toNat_natCast, fnG_0, fnG_1, fnG_2, fnG_3, fnG_4, fnG_5, fnG_6, fnG_7, fnG_8, out_ret, out_nx, out_exc, gcR_ok1, gcv_pl0, gcv_pl, gcv_p2, gcv_p3, gcv_p4, gcv_p5, gcv_p6, gcv_new, gcv_n2, gcv_n3, gcv_set0, gcv_set, gcv_set_new, gcR_x0, gcR_x00, gcR_x1, gcR_x10, bne_self_eq_false, beq_self_eq_true, bne_iff_ne, ne_eq, not_true_eq_false, not_false_eq_true, and_self, and_true, true_and, and_false, false_and, or_true, true_or, or_false, false_or, hs, e1, lk_law_does_plain_put, lk_law_does_plain_strike, lk_law_does_plain_dress, lk_law_does_plain_move]
      · simp (disch := first | assumption | omega | exact id rfl | exact pl_fl_kr _ | decide +kernel) only [List.map_cons, List.map_nil, List.length_cons, List.length_nil, bok, bex, mok, gok, gex, mook, thn_nx, thn_ret, thn_brk, thn_cnt, thn_exc, selB_some, kE2_e, kE1_e, evs_nil, evs_cons, kO1_e, evos_nil, evos_cons, kOp_e, ev_op, lift_some, ev_var, ev_non, ev_bl, ev_int, ev_str, kC2_e, pur_some', kC1_e, ev_cmp, kD2_e, kD1_e, ev_cmp2, kAnd_e, ev_and, kOr_e, ev_or, kNot_e, ev_not, kIfe_e, ev_ife, kG_e, kCall_e, ev_call, ev_qcall, kF3_e, kF2_e, kF_e, ev_fld, kMG_e, kM3_e, kM2_e, kM_e, ev_mcall, ev_frz, frz_new, frz_non, frz_int, frz_str, frz_bl, frz_tup, frz_fl, frz_kt, kGc_e, ev_gc, kGlob_e, ev_glob, kIsc3_e, kIsc2_e, kIsc_e, ev_isc, kXfld_e, ev_xfld, kXis_e, ev_xis, kIe_fl, evi_e, kIr_fl, evi_rev, kIt_tup, evi_tup, kIs_str, evi_str, kI1_int, evi_rng1, kI22_int, kI21_e, evi_rng2, kIn_fl, evi_enum, runs_nil, runs_cons, kA_e, nxO_some, run_asg, kAug_e, kAug0_e, run_aug, kS3_e, kS2_e, kS1_e, run_setI, kFs2_e, kFs1_e, run_fset, kX_e, run_expr, kR_e, run_ret, run_retN, run_brk, run_cnt, run_pass, tstV_e, tru_e, kIf_e, run_ite, kFor_e, run_for, kRs_1, kRs_0, kRaise_e, run_raise, run_faug, tel_e, kxs0_e, kxs_e, xisV_e, xisV_n, kHs_e, runHs_cons, runHs_nil, knH_c, knH_nil, run_try, inI_s, inI_n, kTri_exc, kTri_nx, kTri_ret, outO_ret, outO_nx, Hv.val, Hv.new, Hv.opW, op0, op1, op2, op3, Hv.binW, Hv.binI, Hv.ixW, slW2, slW, lenW, listW, tupleW, negW, sumW, minW, maxW, intW, Hv.intsD, Hv.cmpW, Hv.cmpG, Hv.cmpI, Hv.cmpS, isNonD, isiW, eq_nil_n, preW, isStrD, isIntD, isLstD, truth, setG, setGs, putS_0, putS_s, strNe, wipeS, Hv.noX, srcOf, seqS, tupD, addW, at_new, at_n1, at_n2, at_n3, at_n4, at_o1, at_o2, at_o3, at_o4, set_new, setFld, setFE, setFN, setF_nil, lookupE, lookupN, List.lookup_nil, outI, sizeLine_eq, gP_pos, Option.map_some, Option.map_none, Option.bind_some, Option.bind_none, Option.isSome_some, Option.isSome_none, Nat.reduceAdd, Nat.reduceSub, Nat.reduceLT, Nat.reduceLeDiff, Nat.reduceEqDiff, Nat.reduceBEq, Nat.reduceBNe, Int.reduceEq, Int.reduceLT, Int.reduceLE, Int.reduceAdd, Int.reduceMul, Int.reduceSub, Int.reduceNeg, Int.reduceToNat, Int.reducePow, List.replicate, List.cons_append, List.nil_append, List.getElem?_cons_zero, List.getElem?_cons_succ, List.getElem?_nil, List.set_cons_succ, List.set_cons_zero, if_true, if_false, ite_true, ite_false, Bool.false_eq_true, Bool.not_true, Bool.not_false, Bool.and_true, Bool.true_and, Bool.or_true, Bool.true_or, Bool.or_false, Bool.false_or, Bool.and_false, Bool.false_and, reduceCtorEq, eq_self, decide_true, decide_false, decide_not, List.take_succ_cons, List.take_zero, List.length_map, Int.toNat_natCast, fnG_0, fnG_1, fnG_2, fnG_3, fnG_4, fnG_5, fnG_6, fnG_7, fnG_8, out_ret, out_nx, out_exc, gcR_ok1, gcv_pl0, gcv_pl, gcv_p2, gcv_p3, gcv_p4, gcv_p5, gcv_p6, gcv_new, gcv_n2, gcv_n3, gcv_set0, gcv_set, gcv_set_new, gcR_x0, gcR_x00, gcR_x1, gcR_x10, bne_self_eq_false, beq_self_eq_true, bne_iff_ne, ne_eq, not_true_eq_false, not_false_eq_true, and_self, and_true, true_and, and_false, false_and, or_true, true_or, or_false, false_or, hs, q, lk_law_does_plain_put, lk_law_does_plain_strike, lk_law_does_plain_dress, lk_law_does_plain_move]
      · simp (disch := first | assumption | omega | exact id rfl | exact pl_fl_kr _ | decide +kernel) only [List.map_cons, List.map_nil, List.length_cons, List.length_nil, bok, bex, mok, gok, gex, mook, thn_nx, thn_ret, thn_brk, thn_cnt, thn_exc, selB_some, kE2_e, kE1_e, evs_nil, evs_cons, kO1_e, evos_nil, evos_cons, kOp_e, ev_op, lift_some, ev_var, ev_non, ev_bl, ev_int, ev_str, kC2_e, pur_some', kC1_e, ev_cmp, kD2_e, kD1_e, ev_cmp2, kAnd_e, ev_and, kOr_e, ev_or, kNot_e, ev_not, kIfe_e, ev_ife, kG_e, kCall_e, ev_call, ev_qcall, kF3_e, kF2_e, kF_e, ev_fld, kMG_e, kM3_e, kM2_e, kM_e, ev_mcall, ev_frz, frz_new, frz_non, frz_int, frz_str, frz_bl, frz_tup, frz_fl, frz_kt, kGc_e, ev_gc, kGlob_e, ev_glob, kIsc3_e, kIsc2_e, kIsc_e, ev_isc, kXfld_e, ev_xfld, kXis_e, ev_xis, kIe_fl, evi_e, kIr_fl, evi_rev, kIt_tup, evi_tup, kIs_str, evi_str, kI1_int, evi_rng1, kI22_int, kI21_e, evi_rng2, kIn_fl, evi_enum, runs_nil, runs_cons, kA_e, nxO_some, run_asg, kAug_e, kAug0_e, run_aug, kS3_e, kS2_e, kS1_e, run_setI, kFs2_e, kFs1_e, run_fset, kX_e, run_expr, kR_e, run_ret, run_retN, run_brk, run_cnt, run_pass, tstV_e, tru_e, kIf_e, run_ite, kFor_e, run_for, kRs_1, kRs_0, kRaise_e, run_raise, run_faug, tel_e, kxs0_e, kxs_e, xisV_e, xisV_n, kHs_e, runHs_cons, runHs_nil, knH_c, knH_nil, run_try, inI_s, inI_n, kTri_exc, kTri_nx, kTri_ret, outO_ret, outO_nx, Hv.val, Hv.new, Hv.opW, op0, op1, op2, op3, Hv.binW, Hv.binI, Hv.ixW, slW2, slW, lenW, listW, tupleW, negW, sumW, minW, maxW, intW, Hv.intsD, Hv.cmpW, Hv.cmpG, Hv.cmpI, Hv.cmpS, isNonD, isiW, eq_nil_n, preW, isStrD, isIntD, isLstD, truth, setG, setGs, putS_0, putS_s, strNe, wipeS, Hv.noX, srcOf, seqS, tupD, addW, at_new, at_n1, at_n2, at_n3, at_n4, at_o1, at_o2, at_o3, at_o4, set_new, setFld, setFE, setFN, setF_nil, lookupE, lookupN, List.lookup_nil, outI, sizeLine_eq, gP_pos, Option.map_some, Option.map_none, Option.bind_some, Option.bind_none, Option.isSome_some, Option.isSome_none, Nat.reduceAdd, Nat.reduceSub, Nat.reduceLT, Nat.reduceLeDiff, Nat.reduceEqDiff, Nat.reduceBEq, Nat.reduceBNe, Int.reduceEq, Int.reduceLT, Int.reduceLE, Int.reduceAdd, Int.reduceMul, Int.reduceSub, Int.reduceNeg, Int.reduceToNat, Int.reducePow, List.replicate, List.cons_append, List.nil_append, List.getElem?_cons_zero, List.getElem?_cons_succ, List.getElem?_nil, List.set_cons_succ, List.set_cons_zero, if_true, if_false, ite_true, ite_false, Bool.false_eq_true, Bool.not_true, Bool.not_false, Bool.and_true, Bool.true_and, Bool.or_true, Bool.true_or, Bool.or_false, Bool.false_or, Bool.and_false, Bool.false_and, reduceCtorEq, eq_self, decide_true, decide_false, decide_not, List.take_succ_cons, List.take_zero, List.length_map, Int.toNat_natCast, fnG_0, fnG_1, fnG_2, fnG_3, fnG_4, fnG_5, fnG_6, fnG_7, fnG_8, out_ret, out_nx, out_exc, gcR_ok1, gcv_pl0, gcv_pl, gcv_p2, gcv_p3, gcv_p4, gcv_p5, gcv_p6, gcv_new, gcv_n2, gcv_n3, gcv_set0, gcv_set, gcv_set_new, gcR_x0, gcR_x00, gcR_x1, gcR_x10, bne_self_eq_false, beq_self_eq_true, bne_iff_ne, ne_eq, not_true_eq_false, not_false_eq_true, and_self, and_true, true_and, and_false, false_and, or_true, true_or, or_false, false_or, hs, e3, lk_law_does_plain_put, lk_law_does_plain_strike, lk_law_does_plain_dress, lk_law_does_plain_move]
    · rename_i h
      obtain ⟨k1, k2⟩ : 0 ≤ a ∧ a < l.length := Classical.not_not.mp h
      split at hd
      · rename_i h'
        cases hd
        have e1 := run_strikeX2 hs k1 k2 h'
        have e2 := run_dressX2 (w := "red") hs k1 k2 h'
        have e3 := run_moveX2 (g := g) hs k1 k2 h'
        have q : pad 4 [.str ""] g_plain_dress S [.ref n, .int a, .int t, .str "red"] = _ := (pad_all rfl).trans e2
        rcases hw with rfl | rfl | rfl | rfl
        · exact absurd rfl h1
        · simp (disch := first | assumption | omega | exact id rfl | exact pl_fl_kr _ | decide +kernel) only [List.map_cons, List.map_nil, List.length_cons, List.length_nil, bok, bex, mok, gok, gex, mook, thn_nx, thn_ret, thn_brk, thn_cnt, thn_exc, selB_some, kE2_e, kE1_e, evs_nil, evs_cons, kO1_e, evos_nil, evos_cons, kOp_e, ev_op, lift_some, ev_var, ev_non, ev_bl, ev_int, ev_str, kC2_e, pur_some', kC1_e, ev_cmp, kD2_e, kD1_e, ev_cmp2, kAnd_e, ev_and, kOr_e, ev_or, kNot_e, ev_not, kIfe_e, ev_ife, kG_e, kCall_e, ev_call, ev_qcall, kF3_e, kF2_e, kF_e, ev_fld, kMG_e, kM3_e, kM2_e, kM_e, ev_mcall, ev_frz, frz_new, frz_non, frz_int, frz_str, frz_bl, frz_tup, frz_fl, frz_kt, kGc_e, ev_gc, kGlob_e, ev_glob, kIsc3_e, kIsc2_e, kIsc_e, ev_isc, kXfld_e, ev_xfld, kXis_e, ev_xis, kIe_fl, evi_e, kIr_fl, evi_rev, kIt_tup, evi_tup, kIs_str, evi_str, kI1_int, evi_rng1, kI22_int, kI21_e, evi_rng2, kIn_fl, evi_enum, runs_nil, runs_cons, kA_e, nxO_some, run_asg, kAug_e, kAug0_e, run_aug, kS3_e, kS2_e, kS1_e, run_setI, kFs2_e, kFs1_e, run_fset, kX_e, run_expr, kR_e, run_ret, run_retN, run_brk, run_cnt, run_pass, tstV_e, tru_e, kIf_e, run_ite, kFor_e, run_for, kRs_1, kRs_0, kRaise_e, run_raise, run_faug, tel_e, kxs0_e, kxs_e, xisV_e, xisV_n, kHs_e, runHs_cons, runHs_nil, knH_c, knH_nil, run_try, inI_s, inI_n, kTri_exc, kTri_nx, kTri_ret, outO_ret, outO_nx, Hv.val, Hv.new, Hv.opW, op0, op1, op2, op3, Hv.binW, Hv.binI, Hv.ixW, slW2, slW, lenW, listW, tupleW, negW, sumW, minW, maxW, intW, Hv.intsD, Hv.cmpW, Hv.cmpG, Hv.cmpI, Hv.cmpS, isNonD, isiW, eq_nil_n, preW, isStrD, isIntD, isLstD, truth, setG, setGs, putS_0, putS_s, strNe, wipeS, Hv.noX, srcOf, seqS, tupD, addW, at_new, at_n1, at_n2, at_n3, at_n4, at_o1, at_o2, at_o3, at_o4, set_new, setFld, setFE, setFN, setF_nil, lookupE, lookupN, List.lookup_nil, outI, sizeLine_eq, gP_pos, Option.map_some, Option.map_none, Option.bind_some, Option.bind_none, Option.isSome_some, Option.isSome_none, Nat.reduceAdd, Nat.reduceSub, Nat.reduceLT, Nat.reduceLeDiff, Nat.reduceEqDiff, Nat.reduceBEq, Nat.reduceBNe, Int.reduceEq, Int.reduceLT, Int.reduceLE, Int.reduceAdd, Int.reduceMul, Int.reduceSub, Int.reduceNeg, Int.reduceToNat, Int.reducePow, List.replicate, List.cons_append, List.nil_append, List.getElem?_cons_zero, List.getElem?_cons_succ, List.getElem?_nil, List.set_cons_succ, List.set_cons_zero, if_true, if_false, ite_true, ite_false, Bool.false_eq_true, Bool.not_true, Bool.not_false, Bool.and_true, Bool.true_and, Bool.or_true, Bool.true_or, Bool.or_false, Bool.false_or, Bool.and_false, Bool.false_and, reduceCtorEq, eq_self, decide_true, decide_false, decide_not, List.take_succ_cons, List.take_zero, List.length_map, Int.toNat_natCast, fnG_0, fnG_1, fnG_2, fnG_3, fnG_4, fnG_5, fnG_6, fnG_7, fnG_8, out_ret, out_nx, out_exc, gcR_ok1, gcv_pl0, gcv_pl, gcv_p2, gcv_p3, gcv_p4, gcv_p5, gcv_p6, gcv_new, gcv_n2, gcv_n3, gcv_set0, gcv_set, gcv_set_new, gcR_x0, gcR_x00, gcR_x1, gcR_x10, bne_self_eq_false, beq_self_eq_true, bne_iff_ne, ne_eq, not_true_eq_false, not_false_eq_true, and_self, and_true, true_and, and_false, false_and, or_true, true_or, or_false, false_or, hs, e1, lk_law_does_plain_put, lk_law_does_plain_strike, lk_law_does_plain_dress, lk_law_does_plain_move]
        · simp (disch := first | assumption | omega | exact id rfl | exact pl_fl_kr _ | decide +kernel) only [List.map_cons, List.map_nil, List.length_cons, List.length_nil, bok, bex, mok, gok, gex, mook, thn_nx, thn_ret, thn_brk, thn_cnt, thn_exc, selB_some, kE2_e, kE1_e, evs_nil, evs_cons, kO1_e, evos_nil, evos_cons, kOp_e, ev_op, lift_some, ev_var, ev_non, ev_bl, ev_int, ev_str, kC2_e, pur_some', kC1_e, ev_cmp, kD2_e, kD1_e, ev_cmp2, kAnd_e, ev_and, kOr_e, ev_or, kNot_e, ev_not, kIfe_e, ev_ife, kG_e, kCall_e, ev_call, ev_qcall, kF3_e, kF2_e, kF_e, ev_fld, kMG_e, kM3_e, kM2_e, kM_e, ev_mcall, ev_frz, frz_new, frz_non, frz_int, frz_str, frz_bl, frz_tup, frz_fl, frz_kt, kGc_e, ev_gc, kGlob_e, ev_glob, kIsc3_e, kIsc2_e, kIsc_e, ev_isc, kXfld_e, ev_xfld, kXis_e, ev_xis, kIe_fl, evi_e, kIr_fl, evi_rev, kIt_tup, evi_tup, kIs_str, evi_str, kI1_int, evi_rng1, kI22_int, kI21_e, evi_rng2, kIn_fl, evi_enum, runs_nil, runs_cons, kA_e, nxO_some, run_asg, kAug_e, kAug0_e, run_aug, kS3_e, kS2_e, kS1_e, run_setI, kFs2_e, kFs1_e, run_fset, kX_e, run_expr, kR_e, run_ret, run_retN, run_brk, run_cnt, run_pass, tstV_e, tru_e, kIf_e, run_ite, kFor_e, run_for, kRs_1, kRs_0, kRaise_e, run_raise, run_faug, tel_e, kxs0_e, kxs_e, xisV_e, xisV_n, kHs_e, runHs_cons, runHs_nil, knH_c, knH_nil, run_try, inI_s, inI_n, kTri_exc, kTri_nx, kTri_ret, outO_ret, outO_nx, Hv.val, Hv.new, Hv.opW, op0, op1, op2, op3, Hv.binW, Hv.binI, Hv.ixW, slW2, slW, lenW, listW, tupleW, negW, sumW, minW, maxW, intW, Hv.intsD, Hv.cmpW, Hv.cmpG, Hv.cmpI, Hv.cmpS, isNonD, isiW, eq_nil_n, preW, isStrD, isIntD, isLstD, truth, setG, setGs, putS_0, putS_s, strNe, wipeS, Hv.noX, srcOf, seqS, tupD, addW, at_new, at_n1, at_n2, at_n3, at_n4, at_o1, at_o2, at_o3, at_o4, set_new, setFld, setFE, setFN, setF_nil, lookupE, lookupN, List.lookup_nil, outI, sizeLine_eq, gP_pos, Option.map_some, Option.map_none, Option.bind_some, Option.bind_none, Option.isSome_some, Option.isSome_none, Nat.reduceAdd, Nat.reduceSub, Nat.reduceLT, Nat.reduceLeDiff, Nat.reduceEqDiff, Nat.reduceBEq, Nat.reduceBNe, Int.reduceEq, Int.reduceLT, Int.reduceLE, Int.reduceAdd, Int.reduceMul, Int.reduceSub, Int.reduceNeg, Int.reduceToNat, Int.reducePow, List.replicate, List.cons_append, List.nil_append, List.getElem?_cons_zero, List.getElem?_cons_succ, List.getElem?_nil, List.set_cons_succ, List.set_cons_zero, if_true, if_false, ite_true, ite_false, Bool.false_eq_true, Bool.not_true, Bool.not_false, Bool.and_true, Bool.true_and, Bool.or_true, Bool.true_or, Bool.or_false, Bool.false_or, Bool.and_false, Bool.false_and, reduceCtorEq, eq_self, decide_true, decide_false, decide_not, List.take_succ_cons, List.take_zero, List.length_map, Int.toNat_natCast, fnG_0, fnG_1, fnG_2, fnG_3, fnG_4, fnG_5, fnG_6, fnG_7, fnG_8, out_ret, out_nx, out_exc, gcR_ok1, gcv_pl0, gcv_pl, gcv_p2, gcv_p3, gcv_p4, gcv_p5, gcv_p6, gcv_new, gcv_n2, gcv_n3, gcv_set0, gcv_set, gcv_set_new, gcR_x0, gcR_x00, gcR_x1, gcR_x10, bne_self_eq_false, beq_self_eq_true, bne_iff_ne, ne_eq, not_true_eq_false, not_false_eq_true, and_self, and_true, true_and, and_false, false_and, or_true, true_or, or_false, false_or, hs, q, lk_law_does_plain_put, lk_law_does_plain_strike, lk_law_does_plain_dress, lk_law_does_plain_move]
        · simp (disch := first | assumption | omega | exact id rfl | exact pl_fl_kr _ | decide +kernel) only [List.map_cons, List.map_nil, List.length_cons, List.length_nil, bok, bex, mok, gok, gex, mook, thn_nx, thn_ret, thn_brk, thn_cnt, thn_exc, selB_some, kE2_e, kE1_e, evs_nil, evs_cons, kO1_e, evos_nil, evos_cons, kOp_e, ev_op, lift_some, ev_var, ev_non, ev_bl, ev_int, ev_str, kC2_e, pur_some', kC1_e, ev_cmp, kD2_e, kD1_e, ev_cmp2, kAnd_e, ev_and, kOr_e, ev_or, kNot_e, ev_not, kIfe_e, ev_ife, kG_e, kCall_e, ev_call, ev_qcall, kF3_e, kF2_e, kF_e, ev_fld, kMG_e, kM3_e, kM2_e, kM_e, ev_mcall, ev_frz, frz_new, frz_non, frz_int, frz_str, frz_bl, frz_tup, frz_fl, frz_kt, kGc_e, ev_gc, kGlob_e, ev_glob, kIsc3_e, kIsc2_e, kIsc_e, ev_isc, kXfld_e, ev_xfld, kXis_e, ev_xis, kIe_fl, evi_e, kIr_fl, evi_rev, kIt_tup, evi_tup, kIs_str, evi_str, kI1_int, evi_rng1, kI22_int, kI21_e, evi_rng2, kIn_fl, evi_enum, runs_nil, runs_cons, kA_e, nxO_some, run_asg, kAug_e, kAug0_e, run_aug, kS3_e, kS2_e, kS1_e, run_setI, kFs2_e, kFs1_e, run_fset, kX_e, run_expr, kR_e, run_ret, run_retN, run_brk, run_cnt, run_pass, tstV_e, tru_e, kIf_e, run_ite, kFor_e, run_for, kRs_1, kRs_0, kRaise_e, run_raise, run_faug, tel_e, kxs0_e, kxs_e, xisV_e, xisV_n, kHs_e, runHs_cons, runHs_nil, knH_c, knH_nil, run_try, inI_s, inI_n, kTri_exc, kTri_nx, kTri_ret, outO_ret, outO_nx, Hv.val, Hv.new, Hv.opW, op0, op1, op2, op3, Hv.binW, Hv.binI, Hv.ixW, slW2, slW, lenW, listW, tupleW, negW, sumW, minW, maxW, intW, Hv.intsD, Hv.cmpW, Hv.cmpG, Hv.cmpI, Hv.cmpS, isNonD, isiW, eq_nil_n, preW, isStrD, isIntD, isLstD, truth, setG, setGs, putS_0, putS_s, strNe, wipeS, Hv.noX, srcOf, seqS, tupD, addW, at_new, at_n1, at_n2, at_n3, at_n4, at_o1, at_o2, at_o3, at_o4, set_new, setFld, setFE, setFN, setF_nil, lookupE, lookupN, List.lookup_nil, outI, sizeLine_eq, gP_pos, Option.map_some, Option.map_none, Option.bind_some, Option.bind_none, Option.isSome_some, Option.isSome_none, Nat.reduceAdd, Nat.reduceSub, Nat.reduceLT, Nat.reduceLeDiff, Nat.reduceEqDiff, Nat.reduceBEq, Nat.reduceBNe, Int.reduceEq, Int.reduceLT, Int.reduceLE, Int.reduceAdd, Int.reduceMul, Int.reduceSub, Int.reduceNeg, Int.reduceToNat, Int.reducePow, List.replicate, List.cons_append, List.nil_append, List.getElem?_cons_zero, List.getElem?_cons_succ, List.getElem?_nil, List.set_cons_succ, List.set_cons_zero, if_true, if_false, ite_true, ite_false, Bool.false_eq_true, Bool.not_true, Bool.not_false, Bool.and_true, Bool.true_and, Bool.or_true, Bool.true_or, Bool.or_false, Bool.false_or, Bool.and_false, Bool.false_and, reduceCtorEq, eq_self, decide_true, decide_false, decide_not, List.take_succ_cons, List.take_zero, List.length_map, Int.toNat_natCast, fnG_0, fnG_1, fnG_2, fnG_3, fnG_4, fnG_5, fnG_6, fnG_7, fnG_8, out_ret, out_nx, out_exc, gcR_ok1, gcv_pl0, gcv_pl, gcv_p2, gcv_p3, gcv_p4, gcv_p5, gcv_p6, gcv_new, gcv_n2, gcv_n3, gcv_set0, gcv_set, gcv_set_new, gcR_x0, gcR_x00, gcR_x1, gcR_x10, bne_self_eq_false, beq_self_eq_true, bne_iff_ne, ne_eq, not_true_eq_false, not_false_eq_true, and_self, and_true, true_and, and_false, false_and, or_true, true_or, or_false, false_or, hs, e3, lk_law_does_plain_put, lk_law_does_plain_strike, lk_law_does_plain_dress, lk_law_does_plain_move]
      · rename_i h'
        obtain ⟨k3, k4⟩ : a < t ∧ t ≤ l.length := Classical.not_not.mp h'
        split at hd
        · rename_i h2
          cases hd
          obtain ⟨rfl, h2⟩ := h2
          have e3 := run_moveX3 hs k1 k3 k4 h2
          simp (disch := first | assumption | omega | exact id rfl | exact pl_fl_kr _ | decide +kernel) only [List.map_cons, List.map_nil, List.length_cons, List.length_nil, bok, bex, mok, gok, gex, mook, thn_nx, thn_ret, thn_brk, thn_cnt, thn_exc, selB_some, kE2_e, kE1_e, evs_nil, evs_cons, kO1_e, evos_nil, evos_cons, kOp_e, ev_op, lift_some, ev_var, ev_non, ev_bl, ev_int, ev_str, kC2_e, pur_some', kC1_e, ev_cmp, kD2_e, kD1_e, ev_cmp2, kAnd_e, ev_and, kOr_e, ev_or, kNot_e, ev_not, kIfe_e, ev_ife, kG_e, kCall_e, ev_call, ev_qcall, kF3_e, kF2_e, kF_e, ev_fld, kMG_e, kM3_e, kM2_e, kM_e, ev_mcall, ev_frz, frz_new, frz_non, frz_int, frz_str, frz_bl, frz_tup, frz_fl, frz_kt, kGc_e, ev_gc, kGlob_e, ev_glob, kIsc3_e, kIsc2_e, kIsc_e, ev_isc, kXfld_e, ev_xfld, kXis_e, ev_xis, kIe_fl, evi_e, kIr_fl, evi_rev, kIt_tup, evi_tup, kIs_str, evi_str, kI1_int, evi_rng1, kI22_int, kI21_e, evi_rng2, kIn_fl, evi_enum, runs_nil, runs_cons, kA_e, nxO_some, run_asg, kAug_e, kAug0_e, run_aug, kS3_e, kS2_e, kS1_e, run_setI, kFs2_e, kFs1_e, run_fset, kX_e, run_expr, kR_e, run_ret, run_retN, run_brk, run_cnt, run_pass, tstV_e, tru_e, kIf_e, run_ite, kFor_e, run_for, kRs_1, kRs_0, kRaise_e, run_raise, run_faug, tel_e, kxs0_e, kxs_e, xisV_e, xisV_n, kHs_e, runHs_cons, runHs_nil, knH_c, knH_nil, run_try, inI_s, inI_n, kTri_exc, kTri_nx, kTri_ret, outO_ret, outO_nx, Hv.val, Hv.new, Hv.opW, op0, op1, op2, op3, Hv.binW, Hv.binI, Hv.ixW, slW2, slW, lenW, listW, tupleW, negW, sumW, minW, maxW, intW, Hv.intsD, Hv.cmpW, Hv.cmpG, Hv.cmpI, Hv.cmpS, isNonD, isiW, eq_nil_n, preW, isStrD, isIntD, isLstD, truth, setG, setGs, putS_0, putS_s, strNe, wipeS, Hv.noX, srcOf, seqS, tupD, addW, at_new, at_n1, at_n2, at_n3, at_n4, at_o1, at_o2, at_o3, at_o4, set_new, setFld, setFE, setFN, setF_nil, lookupE, lookupN, List.lookup_nil, outI, sizeLine_eq, gP_pos, Option.map_some, Option.map_none, Option.bind_some, Option.bind_none, Option.isSome_some, Option.isSome_none, Nat.reduceAdd, Nat.reduceSub, Nat.reduceLT, Nat.reduceLeDiff, Nat.reduceEqDiff, Nat.reduceBEq, Nat.reduceBNe, Int.reduceEq, Int.reduceLT, Int.reduceLE, Int.reduceAdd, Int.reduceMul, Int.reduceSub, Int.reduceNeg, Int.reduceToNat, Int.reducePow, List.replicate, List.cons_append, List.nil_append, List.getElem?_cons_zero, List.getElem?_cons_succ, List.getElem?_nil, List.set_cons_succ, List.set_cons_zero, if_true, if_false, ite_true, ite_false, Bool.false_eq_true, Bool.not_true, Bool.not_false, Bool.and_true, Bool.true_and, Bool.or_true, Bool.true_or, Bool.or_false, Bool.false_or, Bool.and_false, Bool.false_and, reduceCtorEq, eq_self, decide_true, decide_false, decide_not, List.take_succ_cons, List.take_zero, List.length_map, Int.toNat_natCast, fnG_0, fnG_1, fnG_2, fnG_3, fnG_4, fnG_5, fnG_6, fnG_7, fnG_8, out_ret, out_nx, out_exc, gcR_ok1, gcv_pl0, gcv_pl, gcv_p2, gcv_p3, gcv_p4, gcv_p5, gcv_p6, gcv_new, gcv_n2, gcv_n3, gcv_set0, gcv_set, gcv_set_new, gcR_x0, gcR_x00, gcR_x1, gcR_x10, bne_self_eq_false, beq_self_eq_true, bne_iff_ne, ne_eq, not_true_eq_false, not_false_eq_true, and_self, and_true, true_and, and_false, false_and, or_true, true_or, or_false, false_or, hs, e3, lk_law_does_plain_put, lk_law_does_plain_strike, lk_law_does_plain_dress, lk_law_does_plain_move]
        · cases hd
/-- done -/
def okL (l : List (Nat × Str)) : Prop := ∀ p ∈ l, p.1 < 1114112 ∧ PyData.strOk p.2 = true
theorem okL_app {l m : List (Nat × Str)} (h : okL l) (k : okL m) : okL (l ++ m) := fun p hp => (List.mem_append.mp hp).elim (h p) (k p)
theorem okL_take {l : List (Nat × Str)} {k : Nat} (h : okL l) : okL (l.take k) := fun p hp => h p (List.mem_of_mem_take hp)
theorem okL_drop {l : List (Nat × Str)} {k : Nat} (h : okL l) : okL (l.drop k) := fun p hp => h p (List.mem_of_mem_drop hp)
theorem okL_bare {t : List Nat} (h : ∀ c ∈ t, c < 1114112) : okL (bare t) := fun p hp => by
  obtain ⟨c, hc, rfl⟩ := List.mem_map.mp hp
  exact ⟨h c hc, show PyData.strOk "" = true by decide +kernel⟩
theorem okL_worn {l : List (Nat × Str)} (h : okL l) : okL (worn "red" l) := fun p hp => by
  obtain ⟨c, hc, rfl⟩ := List.mem_map.mp hp
  exact ⟨(h c hc).1, show PyData.strOk "red" = true by decide +kernel⟩
theorem run_does (hw : okW w) (hs : S[n]? = some (plainC l)) (hl : l.length ≤ 90000) (ho : okL l) (hd : due w a t g l.length = []) : ∃ l', (w = "put" → l'.length = l.length + 2) ∧ (w = "strike" → l'.length < l.length) ∧ l'.length ≤ l.length + 2 ∧ okL l' ∧
    g_law_does S [.ref n, .str w, .int a, .int t, .int g] = some (.ok .non (S.set n (plainC l'))) := by
  have hc : ∀ l', clC S.length (plainC l') := fun l' => plainC_cl l'
  unfold due at hd
  unfold g_law_does b_law_does
  by_cases h1 : w = "put"
  · subst h1
    rw [if_pos rfl] at hd
    split at hd
    · rename_i h
      have e := run_put (t := [120, 10]) hs h.1 h.2 (by simp; omega)
      have q := hc (l.take a.toNat ++ bare [120, 10] ++ l.drop a.toNat)
      refine ⟨l.take a.toNat ++ bare [120, 10] ++ l.drop a.toNat, fun _ => by simp [bare]; omega, fun h => absurd h (by decide +kernel), by simp [bare]; omega, okL_app (okL_app (okL_take ho) (okL_bare (by decide))) (okL_drop ho), ?_⟩
      have ex : ("x\n" : Str) = SX.S [120, 10] := by decide +kernel
      rw [ex]
      simp (disch := first | assumption | omega | exact id rfl | exact pl_fl_kr _ | decide +kernel) only [List.map_cons, List.map_nil, List.length_cons, List.length_nil, bok, bex, mok, gok, gex, mook, thn_nx, thn_ret, thn_brk, thn_cnt, thn_exc, selB_some, kE2_e, kE1_e, evs_nil, evs_cons, kO1_e, evos_nil, evos_cons, kOp_e, ev_op, lift_some, ev_var, ev_non, ev_bl, ev_int, ev_str, kC2_e, pur_some', kC1_e, ev_cmp, kD2_e, kD1_e, ev_cmp2, kAnd_e, ev_and, kOr_e, ev_or, kNot_e, ev_not, kIfe_e, ev_ife, kG_e, kCall_e, ev_call, ev_qcall, kF3_e, kF2_e, kF_e, ev_fld, kMG_e, kM3_e, kM2_e, kM_e, ev_mcall, ev_frz, frz_new, frz_non, frz_int, frz_str, frz_bl, frz_tup, frz_fl, frz_kt, kGc_e, ev_gc, kGlob_e, ev_glob, kIsc3_e, kIsc2_e, kIsc_e, ev_isc, kXfld_e, ev_xfld, kXis_e, ev_xis, kIe_fl, evi_e, kIr_fl, evi_rev, kIt_tup, evi_tup, kIs_str, evi_str, kI1_int, evi_rng1, kI22_int, kI21_e, evi_rng2, kIn_fl, evi_enum, runs_nil, runs_cons, kA_e, nxO_some, run_asg, kAug_e, kAug0_e, run_aug, kS3_e, kS2_e, kS1_e, run_setI, kFs2_e, kFs1_e, run_fset, kX_e, run_expr, kR_e, run_ret, run_retN, run_brk, run_cnt, run_pass, tstV_e, tru_e, kIf_e, run_ite, kFor_e, run_for, kRs_1, kRs_0, kRaise_e, run_raise, run_faug, tel_e, kxs0_e, kxs_e, xisV_e, xisV_n, kHs_e, runHs_cons, runHs_nil, knH_c, knH_nil, run_try, inI_s, inI_n, kTri_exc, kTri_nx, kTri_ret, outO_ret, outO_nx, Hv.val, Hv.new, Hv.opW, op0, op1, op2, op3, Hv.binW, Hv.binI, Hv.ixW, slW2, slW, lenW, listW, tupleW, negW, sumW, minW, maxW, intW, Hv.intsD, Hv.cmpW, Hv.cmpG, Hv.cmpI, Hv.cmpS, isNonD, isiW, eq_nil_n, preW, isStrD, isIntD, isLstD, truth, setG, setGs, putS_0, putS_s, strNe, wipeS, Hv.noX, srcOf, seqS, tupD, addW, at_new, at_n1, at_n2, at_n3, at_n4, at_o1, at_o2, at_o3, at_o4, set_new, setFld, setFE, setFN, setF_nil, lookupE, lookupN, List.lookup_nil, outI, sizeLine_eq, gP_pos, Option.map_some, Option.map_none, Option.bind_some, Option.bind_none, Option.isSome_some, Option.isSome_none, Nat.reduceAdd, Nat.reduceSub, Nat.reduceLT, Nat.reduceLeDiff, Nat.reduceEqDiff, Nat.reduceBEq, Nat.reduceBNe, Int.reduceEq, Int.reduceLT, Int.reduceLE, Int.reduceAdd, Int.reduceMul, Int.reduceSub, Int.reduceNeg, Int.reduceToNat, Int.reducePow, List.replicate, List.cons_append, List.nil_append, List.getElem?_cons_zero, List.getElem?_cons_succ, List.getElem?_nil, List.set_cons_succ, List.set_cons_zero, if_true, if_false, ite_true, ite_false, Bool.false_eq_true, Bool.not_true, Bool.not_false, Bool.and_true, Bool.true_and, Bool.or_true, Bool.true_or, Bool.or_false, Bool.false_or, Bool.and_false, Bool.false_and, reduceCtorEq, eq_self, decide_true, decide_false, decide_not, List.take_succ_cons, List.take_zero, List.length_map, Int.toNat_natCast, fnG_0, fnG_1, fnG_2, fnG_3, fnG_4, fnG_5, fnG_6, fnG_7, fnG_8, out_ret, out_nx, out_exc, gcR_ok1, gcv_pl0, gcv_pl, gcv_p2, gcv_p3, gcv_p4, gcv_p5, gcv_p6, gcv_new, gcv_n2, gcv_n3, gcv_set0, gcv_set, gcv_set_new, gcR_x0, gcR_x00, gcR_x1, gcR_x10, bne_self_eq_false, beq_self_eq_true, bne_iff_ne, ne_eq, not_true_eq_false, not_false_eq_true, and_self, and_true, true_and, and_false, false_and, or_true, true_or, or_false, false_or, hs, e, lk_law_does_plain_put, lk_law_does_plain_strike, lk_law_does_plain_dress, lk_law_does_plain_move]
    · cases hd
  · rw [if_neg h1] at hd
    split at hd
    · cases hd
    · rename_i h
      obtain ⟨k1, k2⟩ : 0 ≤ a ∧ a < l.length := Classical.not_not.mp h
      split at hd
      · cases hd
      · rename_i h'
        obtain ⟨k3, k4⟩ : a < t ∧ t ≤ l.length := Classical.not_not.mp h'
        rcases hw with rfl | rfl | rfl | rfl
        · exact absurd rfl h1
        · have e := run_strike hs k1 k3 k4 (by omega)
          have q := hc (l.take a.toNat ++ l.drop t.toNat)
          refine ⟨l.take a.toNat ++ l.drop t.toNat, fun h => absurd h (by decide +kernel), fun _ => by simp; omega, by simp; omega, okL_app (okL_take ho) (okL_drop ho), ?_⟩
          simp (disch := first | assumption | omega | exact id rfl | exact pl_fl_kr _ | decide +kernel) only [List.map_cons, List.map_nil, List.length_cons, List.length_nil, bok, bex, mok, gok, gex, mook, thn_nx, thn_ret, thn_brk, thn_cnt, thn_exc, selB_some, kE2_e, kE1_e, evs_nil, evs_cons, kO1_e, evos_nil, evos_cons, kOp_e, ev_op, lift_some, ev_var, ev_non, ev_bl, ev_int, ev_str, kC2_e, pur_some', kC1_e, ev_cmp, kD2_e, kD1_e, ev_cmp2, kAnd_e, ev_and, kOr_e, ev_or, kNot_e, ev_not, kIfe_e, ev_ife, kG_e, kCall_e, ev_call, ev_qcall, kF3_e, kF2_e, kF_e, ev_fld, kMG_e, kM3_e, kM2_e, kM_e, ev_mcall, ev_frz, frz_new, frz_non, frz_int, frz_str, frz_bl, frz_tup, frz_fl, frz_kt, kGc_e, ev_gc, kGlob_e, ev_glob, kIsc3_e, kIsc2_e, kIsc_e, ev_isc, kXfld_e, ev_xfld, kXis_e, ev_xis, kIe_fl, evi_e, kIr_fl, evi_rev, kIt_tup, evi_tup, kIs_str, evi_str, kI1_int, evi_rng1, kI22_int, kI21_e, evi_rng2, kIn_fl, evi_enum, runs_nil, runs_cons, kA_e, nxO_some, run_asg, kAug_e, kAug0_e, run_aug, kS3_e, kS2_e, kS1_e, run_setI, kFs2_e, kFs1_e, run_fset, kX_e, run_expr, kR_e, run_ret, run_retN, run_brk, run_cnt, run_pass, tstV_e, tru_e, kIf_e, run_ite, kFor_e, run_for, kRs_1, kRs_0, kRaise_e, run_raise, run_faug, tel_e, kxs0_e, kxs_e, xisV_e, xisV_n, kHs_e, runHs_cons, runHs_nil, knH_c, knH_nil, run_try, inI_s, inI_n, kTri_exc, kTri_nx, kTri_ret, outO_ret, outO_nx, Hv.val, Hv.new, Hv.opW, op0, op1, op2, op3, Hv.binW, Hv.binI, Hv.ixW, slW2, slW, lenW, listW, tupleW, negW, sumW, minW, maxW, intW, Hv.intsD, Hv.cmpW, Hv.cmpG, Hv.cmpI, Hv.cmpS, isNonD, isiW, eq_nil_n, preW, isStrD, isIntD, isLstD, truth, setG, setGs, putS_0, putS_s, strNe, wipeS, Hv.noX, srcOf, seqS, tupD, addW, at_new, at_n1, at_n2, at_n3, at_n4, at_o1, at_o2, at_o3, at_o4, set_new, setFld, setFE, setFN, setF_nil, lookupE, lookupN, List.lookup_nil, outI, sizeLine_eq, gP_pos, Option.map_some, Option.map_none, Option.bind_some, Option.bind_none, Option.isSome_some, Option.isSome_none, Nat.reduceAdd, Nat.reduceSub, Nat.reduceLT, Nat.reduceLeDiff, Nat.reduceEqDiff, Nat.reduceBEq, Nat.reduceBNe, Int.reduceEq, Int.reduceLT, Int.reduceLE, Int.reduceAdd, Int.reduceMul, Int.reduceSub, Int.reduceNeg, Int.reduceToNat, Int.reducePow, List.replicate, List.cons_append, List.nil_append, List.getElem?_cons_zero, List.getElem?_cons_succ, List.getElem?_nil, List.set_cons_succ, List.set_cons_zero, if_true, if_false, ite_true, ite_false, Bool.false_eq_true, Bool.not_true, Bool.not_false, Bool.and_true, Bool.true_and, Bool.or_true, Bool.true_or, Bool.or_false, Bool.false_or, Bool.and_false, Bool.false_and, reduceCtorEq, eq_self, decide_true, decide_false, decide_not, List.take_succ_cons, List.take_zero, List.length_map, Int.toNat_natCast, fnG_0, fnG_1, fnG_2, fnG_3, fnG_4, fnG_5, fnG_6, fnG_7, fnG_8, out_ret, out_nx, out_exc, gcR_ok1, gcv_pl0, gcv_pl, gcv_p2, gcv_p3, gcv_p4, gcv_p5, gcv_p6, gcv_new, gcv_n2, gcv_n3, gcv_set0, gcv_set, gcv_set_new, gcR_x0, gcR_x00, gcR_x1, gcR_x10, bne_self_eq_false, beq_self_eq_true, bne_iff_ne, ne_eq, not_true_eq_false, not_false_eq_true, and_self, and_true, true_and, and_false, false_and, or_true, true_or, or_false, false_or, hs, e, lk_law_does_plain_put, lk_law_does_plain_strike, lk_law_does_plain_dress, lk_law_does_plain_move]
        · have e := run_dress (w := "red") hs k1 k3 k4 (by omega)
          have q := hc (l.take a.toNat ++ worn "red" ((l.take t.toNat).drop a.toNat) ++ l.drop t.toNat)
          refine ⟨l.take a.toNat ++ worn "red" ((l.take t.toNat).drop a.toNat) ++ l.drop t.toNat, fun h => absurd h (by decide +kernel), fun h => absurd h (by decide +kernel), by simp [worn]; omega, okL_app (okL_app (okL_take ho) (okL_worn (okL_drop (okL_take ho)))) (okL_drop ho), ?_⟩
          have e' : pad 4 [.str ""] g_plain_dress S [.ref n, .int a, .int t, .str "red"] = _ := (pad_all rfl).trans e
          simp (disch := first | assumption | omega | exact id rfl | exact pl_fl_kr _ | decide +kernel) only [List.map_cons, List.map_nil, List.length_cons, List.length_nil, bok, bex, mok, gok, gex, mook, thn_nx, thn_ret, thn_brk, thn_cnt, thn_exc, selB_some, kE2_e, kE1_e, evs_nil, evs_cons, kO1_e, evos_nil, evos_cons, kOp_e, ev_op, lift_some, ev_var, ev_non, ev_bl, ev_int, ev_str, kC2_e, pur_some', kC1_e, ev_cmp, kD2_e, kD1_e, ev_cmp2, kAnd_e, ev_and, kOr_e, ev_or, kNot_e, ev_not, kIfe_e, ev_ife, kG_e, kCall_e, ev_call, ev_qcall, kF3_e, kF2_e, kF_e, ev_fld, kMG_e, kM3_e, kM2_e, kM_e, ev_mcall, ev_frz, frz_new, frz_non, frz_int, frz_str, frz_bl, frz_tup, frz_fl, frz_kt, kGc_e, ev_gc, kGlob_e, ev_glob, kIsc3_e, kIsc2_e, kIsc_e, ev_isc, kXfld_e, ev_xfld, kXis_e, ev_xis, kIe_fl, evi_e, kIr_fl, evi_rev, kIt_tup, evi_tup, kIs_str, evi_str, kI1_int, evi_rng1, kI22_int, kI21_e, evi_rng2, kIn_fl, evi_enum, runs_nil, runs_cons, kA_e, nxO_some, run_asg, kAug_e, kAug0_e, run_aug, kS3_e, kS2_e, kS1_e, run_setI, kFs2_e, kFs1_e, run_fset, kX_e, run_expr, kR_e, run_ret, run_retN, run_brk, run_cnt, run_pass, tstV_e, tru_e, kIf_e, run_ite, kFor_e, run_for, kRs_1, kRs_0, kRaise_e, run_raise, run_faug, tel_e, kxs0_e, kxs_e, xisV_e, xisV_n, kHs_e, runHs_cons, runHs_nil, knH_c, knH_nil, run_try, inI_s, inI_n, kTri_exc, kTri_nx, kTri_ret, outO_ret, outO_nx, Hv.val, Hv.new, Hv.opW, op0, op1, op2, op3, Hv.binW, Hv.binI, Hv.ixW, slW2, slW, lenW, listW, tupleW, negW, sumW, minW, maxW, intW, Hv.intsD, Hv.cmpW, Hv.cmpG, Hv.cmpI, Hv.cmpS, isNonD, isiW, eq_nil_n, preW, isStrD, isIntD, isLstD, truth, setG, setGs, putS_0, putS_s, strNe, wipeS, Hv.noX, srcOf, seqS, tupD, addW, at_new, at_n1, at_n2, at_n3, at_n4, at_o1, at_o2, at_o3, at_o4, set_new, setFld, setFE, setFN, setF_nil, lookupE, lookupN, List.lookup_nil, outI, sizeLine_eq, gP_pos, Option.map_some, Option.map_none, Option.bind_some, Option.bind_none, Option.isSome_some, Option.isSome_none, Nat.reduceAdd, Nat.reduceSub, Nat.reduceLT, Nat.reduceLeDiff, Nat.reduceEqDiff, Nat.reduceBEq, Nat.reduceBNe, Int.reduceEq, Int.reduceLT, Int.reduceLE, Int.reduceAdd, Int.reduceMul, Int.reduceSub, Int.reduceNeg, Int.reduceToNat, Int.reducePow, List.replicate, List.cons_append, List.nil_append, List.getElem?_cons_zero, List.getElem?_cons_succ, List.getElem?_nil, List.set_cons_succ, List.set_cons_zero, if_true, if_false, ite_true, ite_false, Bool.false_eq_true, Bool.not_true, Bool.not_false, Bool.and_true, Bool.true_and, Bool.or_true, Bool.true_or, Bool.or_false, Bool.false_or, Bool.and_false, Bool.false_and, reduceCtorEq, eq_self, decide_true, decide_false, decide_not, List.take_succ_cons, List.take_zero, List.length_map, Int.toNat_natCast, fnG_0, fnG_1, fnG_2, fnG_3, fnG_4, fnG_5, fnG_6, fnG_7, fnG_8, out_ret, out_nx, out_exc, gcR_ok1, gcv_pl0, gcv_pl, gcv_p2, gcv_p3, gcv_p4, gcv_p5, gcv_p6, gcv_new, gcv_n2, gcv_n3, gcv_set0, gcv_set, gcv_set_new, gcR_x0, gcR_x00, gcR_x1, gcR_x10, bne_self_eq_false, beq_self_eq_true, bne_iff_ne, ne_eq, not_true_eq_false, not_false_eq_true, and_self, and_true, true_and, and_false, false_and, or_true, true_or, or_false, false_or, hs, e', lk_law_does_plain_put, lk_law_does_plain_strike, lk_law_does_plain_dress, lk_law_does_plain_move]
        · split at hd
          · cases hd
          · rename_i h2
            have h2' : 0 ≤ g ∧ g ≤ l.length := Classical.byContradiction fun z => h2 ⟨rfl, z⟩
            obtain ⟨l', z1, z2, e⟩ := run_move hs k1 k3 k4 h2'.1 h2'.2 (by omega)
            have q := hc l'
            refine ⟨l', fun h => absurd h (by decide +kernel), fun h => absurd h (by decide +kernel), by omega, fun p hp => ho p (z2 p hp), ?_⟩
            simp (disch := first | assumption | omega | exact id rfl | exact pl_fl_kr _ | decide +kernel) only [List.map_cons, List.map_nil, List.length_cons, List.length_nil, bok, bex, mok, gok, gex, mook, thn_nx, thn_ret, thn_brk, thn_cnt, thn_exc, selB_some, kE2_e, kE1_e, evs_nil, evs_cons, kO1_e, evos_nil, evos_cons, kOp_e, ev_op, lift_some, ev_var, ev_non, ev_bl, ev_int, ev_str, kC2_e, pur_some', kC1_e, ev_cmp, kD2_e, kD1_e, ev_cmp2, kAnd_e, ev_and, kOr_e, ev_or, kNot_e, ev_not, kIfe_e, ev_ife, kG_e, kCall_e, ev_call, ev_qcall, kF3_e, kF2_e, kF_e, ev_fld, kMG_e, kM3_e, kM2_e, kM_e, ev_mcall, ev_frz, frz_new, frz_non, frz_int, frz_str, frz_bl, frz_tup, frz_fl, frz_kt, kGc_e, ev_gc, kGlob_e, ev_glob, kIsc3_e, kIsc2_e, kIsc_e, ev_isc, kXfld_e, ev_xfld, kXis_e, ev_xis, kIe_fl, evi_e, kIr_fl, evi_rev, kIt_tup, evi_tup, kIs_str, evi_str, kI1_int, evi_rng1, kI22_int, kI21_e, evi_rng2, kIn_fl, evi_enum, runs_nil, runs_cons, kA_e, nxO_some, run_asg, kAug_e, kAug0_e, run_aug, kS3_e, kS2_e, kS1_e, run_setI, kFs2_e, kFs1_e, run_fset, kX_e, run_expr, kR_e, run_ret, run_retN, run_brk, run_cnt, run_pass, tstV_e, tru_e, kIf_e, run_ite, kFor_e, run_for, kRs_1, kRs_0, kRaise_e, run_raise, run_faug, tel_e, kxs0_e, kxs_e, xisV_e, xisV_n, kHs_e, runHs_cons, runHs_nil, knH_c, knH_nil, run_try, inI_s, inI_n, kTri_exc, kTri_nx, kTri_ret, outO_ret, outO_nx, Hv.val, Hv.new, Hv.opW, op0, op1, op2, op3, Hv.binW, Hv.binI, Hv.ixW, slW2, slW, lenW, listW, tupleW, negW, sumW, minW, maxW, intW, Hv.intsD, Hv.cmpW, Hv.cmpG, Hv.cmpI, Hv.cmpS, isNonD, isiW, eq_nil_n, preW, isStrD, isIntD, isLstD, truth, setG, setGs, putS_0, putS_s, strNe, wipeS, Hv.noX, srcOf, seqS, tupD, addW, at_new, at_n1, at_n2, at_n3, at_n4, at_o1, at_o2, at_o3, at_o4, set_new, setFld, setFE, setFN, setF_nil, lookupE, lookupN, List.lookup_nil, outI, sizeLine_eq, gP_pos, Option.map_some, Option.map_none, Option.bind_some, Option.bind_none, Option.isSome_some, Option.isSome_none, Nat.reduceAdd, Nat.reduceSub, Nat.reduceLT, Nat.reduceLeDiff, Nat.reduceEqDiff, Nat.reduceBEq, Nat.reduceBNe, Int.reduceEq, Int.reduceLT, Int.reduceLE, Int.reduceAdd, Int.reduceMul, Int.reduceSub, Int.reduceNeg, Int.reduceToNat, Int.reducePow, List.replicate, List.cons_append, List.nil_append, List.getElem?_cons_zero, List.getElem?_cons_succ, List.getElem?_nil, List.set_cons_succ, List.set_cons_zero, if_true, if_false, ite_true, ite_false, Bool.false_eq_true, Bool.not_true, Bool.not_false, Bool.and_true, Bool.true_and, Bool.or_true, Bool.true_or, Bool.or_false, Bool.false_or, Bool.and_false, Bool.false_and, reduceCtorEq, eq_self, decide_true, decide_false, decide_not, List.take_succ_cons, List.take_zero, List.length_map, Int.toNat_natCast, fnG_0, fnG_1, fnG_2, fnG_3, fnG_4, fnG_5, fnG_6, fnG_7, fnG_8, out_ret, out_nx, out_exc, gcR_ok1, gcv_pl0, gcv_pl, gcv_p2, gcv_p3, gcv_p4, gcv_p5, gcv_p6, gcv_new, gcv_n2, gcv_n3, gcv_set0, gcv_set, gcv_set_new, gcR_x0, gcR_x00, gcR_x1, gcR_x10, bne_self_eq_false, beq_self_eq_true, bne_iff_ne, ne_eq, not_true_eq_false, not_false_eq_true, and_self, and_true, true_and, and_false, false_and, or_true, true_or, or_false, false_or, hs, e, lk_law_does_plain_put, lk_law_does_plain_strike, lk_law_does_plain_dress, lk_law_does_plain_move]
theorem run_refX {x : Int} (hw : okW w) (hs : S[n]? = some (plainC l)) (hd : due w a t g l.length = [x]) : g_law_refused S [.ref n, .str w, .int a, .int t, .int g] = some (.ok (.ref S.length) (S ++ [.lst [.int x]])) := by
  have e := run_doesX hw hs hd
  have q : clC S.length (.lst [.int x]) := pl_lst rfl
  unfold g_law_refused b_law_refused
  simp (disch := first | assumption | omega | exact id rfl | exact pl_fl_kr _ | decide +kernel) only [List.map_cons, List.map_nil, List.length_cons, List.length_nil, bok, bex, mok, gok, gex, mook, thn_nx, thn_ret, thn_brk, thn_cnt, thn_exc, selB_some, kE2_e, kE1_e, evs_nil, evs_cons, kO1_e, evos_nil, evos_cons, kOp_e, ev_op, lift_some, ev_var, ev_non, ev_bl, ev_int, ev_str, kC2_e, pur_some', kC1_e, ev_cmp, kD2_e, kD1_e, ev_cmp2, kAnd_e, ev_and, kOr_e, ev_or, kNot_e, ev_not, kIfe_e, ev_ife, kG_e, kCall_e, ev_call, ev_qcall, kF3_e, kF2_e, kF_e, ev_fld, kMG_e, kM3_e, kM2_e, kM_e, ev_mcall, ev_frz, frz_new, frz_non, frz_int, frz_str, frz_bl, frz_tup, frz_fl, frz_kt, kGc_e, ev_gc, kGlob_e, ev_glob, kIsc3_e, kIsc2_e, kIsc_e, ev_isc, kXfld_e, ev_xfld, kXis_e, ev_xis, kIe_fl, evi_e, kIr_fl, evi_rev, kIt_tup, evi_tup, kIs_str, evi_str, kI1_int, evi_rng1, kI22_int, kI21_e, evi_rng2, kIn_fl, evi_enum, runs_nil, runs_cons, kA_e, nxO_some, run_asg, kAug_e, kAug0_e, run_aug, kS3_e, kS2_e, kS1_e, run_setI, kFs2_e, kFs1_e, run_fset, kX_e, run_expr, kR_e, run_ret, run_retN, run_brk, run_cnt, run_pass, tstV_e, tru_e, kIf_e, run_ite, kFor_e, run_for, kRs_1, kRs_0, kRaise_e, run_raise, run_faug, tel_e, kxs0_e, kxs_e, xisV_e, xisV_n, kHs_e, runHs_cons, runHs_nil, knH_c, knH_nil, run_try, inI_s, inI_n, kTri_exc, kTri_nx, kTri_ret, outO_ret, outO_nx, Hv.val, Hv.new, Hv.opW, op0, op1, op2, op3, Hv.binW, Hv.binI, Hv.ixW, slW2, slW, lenW, listW, tupleW, negW, sumW, minW, maxW, intW, Hv.intsD, Hv.cmpW, Hv.cmpG, Hv.cmpI, Hv.cmpS, isNonD, isiW, eq_nil_n, preW, isStrD, isIntD, isLstD, truth, setG, setGs, putS_0, putS_s, strNe, wipeS, Hv.noX, srcOf, seqS, tupD, addW, at_new, at_n1, at_n2, at_n3, at_n4, at_o1, at_o2, at_o3, at_o4, set_new, setFld, setFE, setFN, setF_nil, lookupE, lookupN, List.lookup_nil, outI, sizeLine_eq, gP_pos, Option.map_some, Option.map_none, Option.bind_some, Option.bind_none, Option.isSome_some, Option.isSome_none, Nat.reduceAdd, Nat.reduceSub, Nat.reduceLT, Nat.reduceLeDiff, Nat.reduceEqDiff, Nat.reduceBEq, Nat.reduceBNe, Int.reduceEq, Int.reduceLT, Int.reduceLE, Int.reduceAdd, Int.reduceMul, Int.reduceSub, Int.reduceNeg, Int.reduceToNat, Int.reducePow, List.replicate, List.cons_append, List.nil_append, List.getElem?_cons_zero, List.getElem?_cons_succ, List.getElem?_nil, List.set_cons_succ, List.set_cons_zero, if_true, if_false, ite_true, ite_false, Bool.false_eq_true, Bool.not_true, Bool.not_false, Bool.and_true, Bool.true_and, Bool.or_true, Bool.true_or, Bool.or_false, Bool.false_or, Bool.and_false, Bool.false_and, reduceCtorEq, eq_self, decide_true, decide_false, decide_not, List.take_succ_cons, List.take_zero, List.length_map, Int.toNat_natCast, fnG_0, fnG_1, fnG_2, fnG_3, fnG_4, fnG_5, fnG_6, fnG_7, fnG_8, out_ret, out_nx, out_exc, gcR_ok1, gcv_pl0, gcv_pl, gcv_p2, gcv_p3, gcv_p4, gcv_p5, gcv_p6, gcv_new, gcv_n2, gcv_n3, gcv_set0, gcv_set, gcv_set_new, gcR_x0, gcR_x00, gcR_x1, gcR_x10, bne_self_eq_false, beq_self_eq_true, bne_iff_ne, ne_eq, not_true_eq_false, not_false_eq_true, and_self, and_true, true_and, and_false, false_and, or_true, true_or, or_false, false_or, hs, e, lk_law_refused_n_quillerror, lk_law_refused_n_outofplace, lk_law_refused_n_nostroke, lk_law_refused_n_decided, lk_law_refused_n_notyours, lk_law_refused_n_leaned, lk_law_refused_n_othertext, lk_law_refused_n_twice, lk_law_refused_n_nonote, lk_law_refused_n_toodeep, lk_law_refused_n_nopaper, lk_law_refused_n_norow, lk_law_refused_u_outofplace_quillerror, lk_law_refused_u_outofplace_outofplace, lk_law_refused_u_outofplace_nostroke, lk_law_refused_u_outofplace_decided, lk_law_refused_u_outofplace_notyours, lk_law_refused_u_outofplace_leaned, lk_law_refused_u_outofplace_othertext, lk_law_refused_u_outofplace_twice, lk_law_refused_u_outofplace_nonote, lk_law_refused_u_outofplace_toodeep, lk_law_refused_u_outofplace_nopaper, lk_law_refused_u_outofplace_norow, lk_law_refused_v_outofplace, lk_law_refused_x_outofplace, lk_law_refused_law_does]
end
end L14
-- TABLES L14
-- DISCH exact pl_fl_kr _
namespace L14
open PySem PySem.Spec
open PyProof.Rows hiding St
open L2 Hv
section
variable {S : Sto} {n : Nat} {l : List (Nat × Str)} {w : Str} {a t g : Int}
theorem run_refO (hw : okW w) (hs : S[n]? = some (plainC l)) (hl : l.length ≤ 90000) (ho : okL l) (hd : due w a t g l.length = []) : ∃ l', (w = "put" → l'.length = l.length + 2) ∧ (w = "strike" → l'.length < l.length) ∧ l'.length ≤ l.length + 2 ∧ okL l' ∧
    g_law_refused S [.ref n, .str w, .int a, .int t, .int g] = some (.ok (.ref S.length) (S.set n (plainC l') ++ [.lst []])) := by
  obtain ⟨l', z1, z2, z3, z4, e⟩ := run_does hw hs hl ho hd
  refine ⟨l', z1, z2, z3, z4, ?_⟩
  have q : clC S.length (.lst []) := pl_lst rfl
  have q2 : clC S.length (plainC l') := plainC_cl l'
  unfold g_law_refused b_law_refused
  simp (disch := first | assumption | omega | exact id rfl | exact pl_fl_kr _ | decide +kernel) only [List.map_cons, List.map_nil, List.length_cons, List.length_nil, bok, bex, mok, gok, gex, mook, thn_nx, thn_ret, thn_brk, thn_cnt, thn_exc, selB_some, kE2_e, kE1_e, evs_nil, evs_cons, kO1_e, evos_nil, evos_cons, kOp_e, ev_op, lift_some, ev_var, ev_non, ev_bl, ev_int, ev_str, kC2_e, pur_some', kC1_e, ev_cmp, kD2_e, kD1_e, ev_cmp2, kAnd_e, ev_and, kOr_e, ev_or, kNot_e, ev_not, kIfe_e, ev_ife, kG_e, kCall_e, ev_call, ev_qcall, kF3_e, kF2_e, kF_e, ev_fld, kMG_e, kM3_e, kM2_e, kM_e, ev_mcall, ev_frz, frz_new, frz_non, frz_int, frz_str, frz_bl, frz_tup, frz_fl, frz_kt, kGc_e, ev_gc, kGlob_e, ev_glob, kIsc3_e, kIsc2_e, kIsc_e, ev_isc, kXfld_e, ev_xfld, kXis_e, ev_xis, kIe_fl, evi_e, kIr_fl, evi_rev, kIt_tup, evi_tup, kIs_str, evi_str, kI1_int, evi_rng1, kI22_int, kI21_e, evi_rng2, kIn_fl, evi_enum, runs_nil, runs_cons, kA_e, nxO_some, run_asg, kAug_e, kAug0_e, run_aug, kS3_e, kS2_e, kS1_e, run_setI, kFs2_e, kFs1_e, run_fset, kX_e, run_expr, kR_e, run_ret, run_retN, run_brk, run_cnt, run_pass, tstV_e, tru_e, kIf_e, run_ite, kFor_e, run_for, kRs_1, kRs_0, kRaise_e, run_raise, run_faug, tel_e, kxs0_e, kxs_e, xisV_e, xisV_n, kHs_e, runHs_cons, runHs_nil, knH_c, knH_nil, run_try, inI_s, inI_n, kTri_exc, kTri_nx, kTri_ret, outO_ret, outO_nx, Hv.val, Hv.new, Hv.opW, op0, op1, op2, op3, Hv.binW, Hv.binI, Hv.ixW, slW2, slW, lenW, listW, tupleW, negW, sumW, minW, maxW, intW, Hv.intsD, Hv.cmpW, Hv.cmpG, Hv.cmpI, Hv.cmpS, isNonD, isiW, eq_nil_n, preW, isStrD, isIntD, isLstD, truth, setG, setGs, putS_0, putS_s, strNe, wipeS, Hv.noX, srcOf, seqS, tupD, addW, at_new, at_n1, at_n2, at_n3, at_n4, at_o1, at_o2, at_o3, at_o4, set_new, setFld, setFE, setFN, setF_nil, lookupE, lookupN, List.lookup_nil, outI, sizeLine_eq, gP_pos, Option.map_some, Option.map_none, Option.bind_some, Option.bind_none, Option.isSome_some, Option.isSome_none, Nat.reduceAdd, Nat.reduceSub, Nat.reduceLT, Nat.reduceLeDiff, Nat.reduceEqDiff, Nat.reduceBEq, Nat.reduceBNe, Int.reduceEq, Int.reduceLT, Int.reduceLE, Int.reduceAdd, Int.reduceMul, Int.reduceSub, Int.reduceNeg, Int.reduceToNat, Int.reducePow, List.replicate, List.cons_append, List.nil_append, List.getElem?_cons_zero, List.getElem?_cons_succ, List.getElem?_nil, List.set_cons_succ, List.set_cons_zero, if_true, if_false, ite_true, ite_false, Bool.false_eq_true, Bool.not_true, Bool.not_false, Bool.and_true, Bool.true_and, Bool.or_true, Bool.true_or, Bool.or_false, Bool.false_or, Bool.and_false, Bool.false_and, reduceCtorEq, eq_self, decide_true, decide_false, decide_not, List.take_succ_cons, List.take_zero, List.length_map, Int.toNat_natCast, fnG_0, fnG_1, fnG_2, fnG_3, fnG_4, fnG_5, fnG_6, fnG_7, fnG_8, out_ret, out_nx, out_exc, gcR_ok1, gcv_pl0, gcv_pl, gcv_p2, gcv_p3, gcv_p4, gcv_p5, gcv_p6, gcv_new, gcv_n2, gcv_n3, gcv_set0, gcv_set, gcv_set_new, gcR_x0, gcR_x00, gcR_x1, gcR_x10, bne_self_eq_false, beq_self_eq_true, bne_iff_ne, ne_eq, not_true_eq_false, not_false_eq_true, and_self, and_true, true_and, and_false, false_and, or_true, true_or, or_false, false_or, hs, e, lk_law_refused_n_quillerror, lk_law_refused_n_outofplace, lk_law_refused_n_nostroke, lk_law_refused_n_decided, lk_law_refused_n_notyours, lk_law_refused_n_leaned, lk_law_refused_n_othertext, lk_law_refused_n_twice, lk_law_refused_n_nonote, lk_law_refused_n_toodeep, lk_law_refused_n_nopaper, lk_law_refused_n_norow, lk_law_refused_u_outofplace_quillerror, lk_law_refused_u_outofplace_outofplace, lk_law_refused_u_outofplace_nostroke, lk_law_refused_u_outofplace_decided, lk_law_refused_u_outofplace_notyours, lk_law_refused_u_outofplace_leaned, lk_law_refused_u_outofplace_othertext, lk_law_refused_u_outofplace_twice, lk_law_refused_u_outofplace_nonote, lk_law_refused_u_outofplace_toodeep, lk_law_refused_u_outofplace_nopaper, lk_law_refused_u_outofplace_norow, lk_law_refused_v_outofplace, lk_law_refused_x_outofplace, lk_law_refused_law_does]
theorem pl_ints (z : List Int) : pls (z.map D.int) = true := pls_map (fun _ => rfl) z
theorem okD_ints (z : List Int) : okDs 1 (z.map D.int) = true := okDs_map fun _ _ => rfl
theorem okD_kr (h : okL l) : okDs 1 (kr l) = true := okDs_map fun p hp => by
  have h1 := S_ok (l := [p.1]) (by simpa using (h p hp).1)
  have h2 := (h p hp).2
  simp [pr, okD, okDs, h1, h2]
theorem due_cases (w : Str) (a t g m : Int) : due w a t g m = [] ∨ ∃ x, due w a t g m = [x] := by
  unfold due
  split
  · split
    · exact .inl rfl
    · exact .inr ⟨_, rfl⟩
  · split
    · exact .inr ⟨_, rfl⟩
    · split
      · exact .inr ⟨_, rfl⟩
      · split
        · exact .inr ⟨_, rfl⟩
        · exact .inl rfl
theorem word_at (c : Int) : ∃ w, okW w ∧ L2.atI [D.str "put", .str "strike", .str "dress", .str "move"] (drawn c 9 % 4) = some (.str w) := by
  have h1 := Int.emod_nonneg (drawn c 9) (by decide : (4 : Int) ≠ 0)
  have h2 := Int.emod_lt_of_pos (drawn c 9) (by decide : (0 : Int) < 4)
  generalize drawn c 9 % 4 = k at *
  have : k = 0 ∨ k = 1 ∨ k = 2 ∨ k = 3 := by omega
  rcases this with rfl | rfl | rfl | rfl
  · exact ⟨"put", .inl rfl, rfl⟩
  · exact ⟨"strike", .inr (.inl rfl), rfl⟩
  · exact ⟨"dress", .inr (.inr (.inl rfl)), rfl⟩
  · exact ⟨"move", .inr (.inr (.inr rfl)), rfl⟩
theorem run_step {s0 s3 s4 s5 s6 s7 s8 : Sl} {c : Int} (hs : S[n]? = some (plainC l)) (hl : l.length ≤ 90000) (ho : okL l) : ∃ l' t3 t4 t5 t6 t7 t8, l'.length ≤ l.length + 2 ∧ okL l' ∧
    runs Gm41 b_law_l1 [s0, .v (.int c), .v (.ref n), s3, s4, s5, s6, s7, s8] S = some (.ok (.nx [s0, .v (.int c), .v (.ref n), t3, t4, t5, t6, t7, t8]) (S.set n (plainC l'))) := by
  have hn := at_lt hs
  have e1 := run_rows hs
  obtain ⟨w, hw, e2⟩ := word_at c
  have e3 := @run_drawn S
  have e3' : ∀ T : Sto, ∀ c p, g_law_drawn T [.int c, .int p] = some (.ok (.int (drawn c p)) T) := fun T c p => run_drawn
  have e4 : ∀ p, g_law_number S [.int c, .int p, .int l.length] = some (.ok (.int (number c p l.length)) S) := fun p => run_number (by omega)
  have e5 : ∀ a t g, g_law_due S [.str w, .int a, .int t, .int g, .int l.length] = some (.ok (.ref S.length) (S ++ [.lst ((due w a t g l.length).map D.int)])) := fun a t g => run_due
  have q1 : clC S.length (.lst (kr l)) := pl_lst (pl_kr l)
  have q2 : ∀ z : List Int, pl (.fl (z.map D.int)) = true := fun z => by unfold pl; exact pl_ints z
  -- the numbers
  have main : ∀ (t : Int) (z : Sl), ∃ l' t3 t4 t5 t6 t7 t8, l'.length ≤ l.length + 2 ∧ okL l' ∧
      runs Gm41 (match b_law_l1 with | .cons _ (.cons _ (.cons _ (.cons _ (.cons _ r)))) => r | r => r) [s0, .v (.int c), .v (.ref n), .v (.fl (kr l)), .v (.str w), .v (.int (number c 1 l.length)), .v (.int t), s7, s8] S = some (.ok (.nx [s0, .v (.int c), .v (.ref n), t3, t4, t5, t6, t7, t8]) (S.set n (plainC l'))) := by
    intro t z
    generalize number c 1 l.length = a
    generalize hg : number c 5 l.length = g at *
    have e4g := e4 5
    rw [hg] at e4g
    have e5' := e5 a t g
    have q2' := q2 (due w a t g l.length)
    have hm : ((kr l).length : Int) = l.length := by rw [kr_len]
    unfold b_law_l1
    dsimp only
    rcases due_cases w a t g l.length with hd | ⟨x, hd⟩
    · obtain ⟨l', z1, z2, z3, z4, e6⟩ := run_refO hw hs hl ho hd
      have hs' : (S.set n (plainC l'))[n]? = some (plainC l') := at_set hs
      have hs2 : (S.set n (plainC l') ++ [C.lst []])[n]? = some (plainC l') := at_old hs'
      have e7 := run_rows hs2
      have q3 : clC S.length (plainC l') := plainC_cl l'
      refine ⟨l', .v (.fl (kr l)), .v (.str w), .v (.int a), .v (.int t), .v (.int g), .v (.fl []), z3, z4, ?_⟩
      rw [hd] at e5' q2'
      have e8 : eqD (S.set n (plainC l') ++ [C.lst []]) (.ref S.length) (.fl []) = some true := by
        have := eq_new (S := S.set n (plainC l')) (k := 0) (xs := []) rfl (by decide)
        rwa [show (S.set n (plainC l')).length = S.length by simp] at this
      have e9 : eqD (S.set n (plainC l') ++ [C.lst []]) (.fl []) (.ref (S.set n (plainC l')).length) = some true := eq_nil_n
      rcases hw with rfl | rfl | rfl | rfl
      · have k1 : ¬ (l'.length : Int) = l.length := by have := z1 rfl; omega
        simp (disch := first | assumption | omega | exact id rfl | exact pl_fl_kr _ | decide +kernel) only [List.map_cons, List.map_nil, List.length_cons, List.length_nil, bok, bex, mok, gok, gex, mook, thn_nx, thn_ret, thn_brk, thn_cnt, thn_exc, selB_some, kE2_e, kE1_e, evs_nil, evs_cons, kO1_e, evos_nil, evos_cons, kOp_e, ev_op, lift_some, ev_var, ev_non, ev_bl, ev_int, ev_str, kC2_e, pur_some', kC1_e, ev_cmp, kD2_e, kD1_e, ev_cmp2, kAnd_e, ev_and, kOr_e, ev_or, kNot_e, ev_not, kIfe_e, ev_ife, kG_e, kCall_e, ev_call, ev_qcall, kF3_e, kF2_e, kF_e, ev_fld, kMG_e, kM3_e, kM2_e, kM_e, ev_mcall, ev_frz, frz_new, frz_non, frz_int, frz_str, frz_bl, frz_tup, frz_fl, frz_kt, kGc_e, ev_gc, kGlob_e, ev_glob, kIsc3_e, kIsc2_e, kIsc_e, ev_isc, kXfld_e, ev_xfld, kXis_e, ev_xis, kIe_fl, evi_e, kIr_fl, evi_rev, kIt_tup, evi_tup, kIs_str, evi_str, kI1_int, evi_rng1, kI22_int, kI21_e, evi_rng2, kIn_fl, evi_enum, runs_nil, runs_cons, kA_e, nxO_some, run_asg, kAug_e, kAug0_e, run_aug, kS3_e, kS2_e, kS1_e, run_setI, kFs2_e, kFs1_e, run_fset, kX_e, run_expr, kR_e, run_ret, run_retN, run_brk, run_cnt, run_pass, tstV_e, tru_e, kIf_e, run_ite, kFor_e, run_for, kRs_1, kRs_0, kRaise_e, run_raise, run_faug, tel_e, kxs0_e, kxs_e, xisV_e, xisV_n, kHs_e, runHs_cons, runHs_nil, knH_c, knH_nil, run_try, inI_s, inI_n, kTri_exc, kTri_nx, kTri_ret, outO_ret, outO_nx, Hv.val, Hv.new, Hv.opW, op0, op1, op2, op3, Hv.binW, Hv.binI, Hv.ixW, slW2, slW, lenW, listW, tupleW, negW, sumW, minW, maxW, intW, Hv.intsD, Hv.cmpW, Hv.cmpG, Hv.cmpI, Hv.cmpS, isNonD, isiW, eq_nil_n, preW, isStrD, isIntD, isLstD, truth, setG, setGs, putS_0, putS_s, strNe, wipeS, Hv.noX, srcOf, seqS, tupD, addW, at_new, at_n1, at_n2, at_n3, at_n4, at_o1, at_o2, at_o3, at_o4, set_new, setFld, setFE, setFN, setF_nil, lookupE, lookupN, List.lookup_nil, outI, sizeLine_eq, gP_pos, Option.map_some, Option.map_none, Option.bind_some, Option.bind_none, Option.isSome_some, Option.isSome_none, Nat.reduceAdd, Nat.reduceSub, Nat.reduceLT, Nat.reduceLeDiff, Nat.reduceEqDiff, Nat.reduceBEq, Nat.reduceBNe, Int.reduceEq, Int.reduceLT, Int.reduceLE, Int.reduceAdd, Int.reduceMul, Int.reduceSub, Int.reduceNeg, Int.reduceToNat, Int.reducePow, List.replicate, List.cons_append, List.nil_append, List.getElem?_cons_zero, List.getElem?_cons_succ, List.getElem?_nil, List.set_cons_succ, List.set_cons_zero, if_true, if_false, ite_true, ite_false, Bool.false_eq_true, Bool.not_true, Bool.not_false, Bool.and_true, Bool.true_and, Bool.or_true, Bool.true_or, Bool.or_false, Bool.false_or, Bool.and_false, Bool.false_and, reduceCtorEq, eq_self, decide_true, decide_false, decide_not, List.take_succ_cons, List.take_zero, List.length_map, Int.toNat_natCast, fnG_0, fnG_1, fnG_2, fnG_3, fnG_4, fnG_5, fnG_6, fnG_7, fnG_8, out_ret, out_nx, out_exc, gcR_ok1, gcv_pl0, gcv_pl, gcv_p2, gcv_p3, gcv_p4, gcv_p5, gcv_p6, gcv_new, gcv_n2, gcv_n3, gcv_set0, gcv_set, gcv_set_new, gcR_x0, gcR_x00, gcR_x1, gcR_x10, bne_self_eq_false, beq_self_eq_true, bne_iff_ne, ne_eq, not_true_eq_false, not_false_eq_true, and_self, and_true, true_and, and_false, false_and, or_true, true_or, or_false, false_or, hs, hs', hs2, e4g, e5', e6, e7, e8, e9, k1, kr_len, lk_law_number_law_drawn, lk_law_does_plain_put, lk_law_does_plain_strike, lk_law_does_plain_dress, lk_law_does_plain_move, lk_law_refused_n_quillerror, lk_law_refused_n_outofplace, lk_law_refused_n_nostroke, lk_law_refused_n_decided, lk_law_refused_n_notyours, lk_law_refused_n_leaned, lk_law_refused_n_othertext, lk_law_refused_n_twice, lk_law_refused_n_nonote, lk_law_refused_n_toodeep, lk_law_refused_n_nopaper, lk_law_refused_n_norow, lk_law_refused_u_outofplace_quillerror, lk_law_refused_u_outofplace_outofplace, lk_law_refused_u_outofplace_nostroke, lk_law_refused_u_outofplace_decided, lk_law_refused_u_outofplace_notyours, lk_law_refused_u_outofplace_leaned, lk_law_refused_u_outofplace_othertext, lk_law_refused_u_outofplace_twice, lk_law_refused_u_outofplace_nonote, lk_law_refused_u_outofplace_toodeep, lk_law_refused_u_outofplace_nopaper, lk_law_refused_u_outofplace_norow, lk_law_refused_v_outofplace, lk_law_refused_x_outofplace, lk_law_refused_law_does, lk_law_k_plain, lk_law_plain_rows, lk_law_law_drawn, lk_law_law_number, lk_law_law_due, lk_law_law_refused]
      · have k1 : ¬ (l'.length : Int) = l.length := by have := z2 rfl; omega
        simp (disch := first | assumption | omega | exact id rfl | exact pl_fl_kr _ | decide +kernel) only [List.map_cons, List.map_nil, List.length_cons, List.length_nil, bok, bex, mok, gok, gex, mook, thn_nx, thn_ret, thn_brk, thn_cnt, thn_exc, selB_some, kE2_e, kE1_e, evs_nil, evs_cons, kO1_e, evos_nil, evos_cons, kOp_e, ev_op, lift_some, ev_var, ev_non, ev_bl, ev_int, ev_str, kC2_e, pur_some', kC1_e, ev_cmp, kD2_e, kD1_e, ev_cmp2, kAnd_e, ev_and, kOr_e, ev_or, kNot_e, ev_not, kIfe_e, ev_ife, kG_e, kCall_e, ev_call, ev_qcall, kF3_e, kF2_e, kF_e, ev_fld, kMG_e, kM3_e, kM2_e, kM_e, ev_mcall, ev_frz, frz_new, frz_non, frz_int, frz_str, frz_bl, frz_tup, frz_fl, frz_kt, kGc_e, ev_gc, kGlob_e, ev_glob, kIsc3_e, kIsc2_e, kIsc_e, ev_isc, kXfld_e, ev_xfld, kXis_e, ev_xis, kIe_fl, evi_e, kIr_fl, evi_rev, kIt_tup, evi_tup, kIs_str, evi_str, kI1_int, evi_rng1, kI22_int, kI21_e, evi_rng2, kIn_fl, evi_enum, runs_nil, runs_cons, kA_e, nxO_some, run_asg, kAug_e, kAug0_e, run_aug, kS3_e, kS2_e, kS1_e, run_setI, kFs2_e, kFs1_e, run_fset, kX_e, run_expr, kR_e, run_ret, run_retN, run_brk, run_cnt, run_pass, tstV_e, tru_e, kIf_e, run_ite, kFor_e, run_for, kRs_1, kRs_0, kRaise_e, run_raise, run_faug, tel_e, kxs0_e, kxs_e, xisV_e, xisV_n, kHs_e, runHs_cons, runHs_nil, knH_c, knH_nil, run_try, inI_s, inI_n, kTri_exc, kTri_nx, kTri_ret, outO_ret, outO_nx, Hv.val, Hv.new, Hv.opW, op0, op1, op2, op3, Hv.binW, Hv.binI, Hv.ixW, slW2, slW, lenW, listW, tupleW, negW, sumW, minW, maxW, intW, Hv.intsD, Hv.cmpW, Hv.cmpG, Hv.cmpI, Hv.cmpS, isNonD, isiW, eq_nil_n, preW, isStrD, isIntD, isLstD, truth, setG, setGs, putS_0, putS_s, strNe, wipeS, Hv.noX, srcOf, seqS, tupD, addW, at_new, at_n1, at_n2, at_n3, at_n4, at_o1, at_o2, at_o3, at_o4, set_new, setFld, setFE, setFN, setF_nil, lookupE, lookupN, List.lookup_nil, outI, sizeLine_eq, gP_pos, Option.map_some, Option.map_none, Option.bind_some, Option.bind_none, Option.isSome_some, Option.isSome_none, Nat.reduceAdd, Nat.reduceSub, Nat.reduceLT, Nat.reduceLeDiff, Nat.reduceEqDiff, Nat.reduceBEq, Nat.reduceBNe, Int.reduceEq, Int.reduceLT, Int.reduceLE, Int.reduceAdd, Int.reduceMul, Int.reduceSub, Int.reduceNeg, Int.reduceToNat, Int.reducePow, List.replicate, List.cons_append, List.nil_append, List.getElem?_cons_zero, List.getElem?_cons_succ, List.getElem?_nil, List.set_cons_succ, List.set_cons_zero, if_true, if_false, ite_true, ite_false, Bool.false_eq_true, Bool.not_true, Bool.not_false, Bool.and_true, Bool.true_and, Bool.or_true, Bool.true_or, Bool.or_false, Bool.false_or, Bool.and_false, Bool.false_and, reduceCtorEq, eq_self, decide_true, decide_false, decide_not, List.take_succ_cons, List.take_zero, List.length_map, Int.toNat_natCast, fnG_0, fnG_1, fnG_2, fnG_3, fnG_4, fnG_5, fnG_6, fnG_7, fnG_8, out_ret, out_nx, out_exc, gcR_ok1, gcv_pl0, gcv_pl, gcv_p2, gcv_p3, gcv_p4, gcv_p5, gcv_p6, gcv_new, gcv_n2, gcv_n3, gcv_set0, gcv_set, gcv_set_new, gcR_x0, gcR_x00, gcR_x1, gcR_x10, bne_self_eq_false, beq_self_eq_true, bne_iff_ne, ne_eq, not_true_eq_false, not_false_eq_true, and_self, and_true, true_and, and_false, false_and, or_true, true_or, or_false, false_or, hs, hs', hs2, e4g, e5', e6, e7, e8, e9, k1, kr_len, lk_law_number_law_drawn, lk_law_does_plain_put, lk_law_does_plain_strike, lk_law_does_plain_dress, lk_law_does_plain_move, lk_law_refused_n_quillerror, lk_law_refused_n_outofplace, lk_law_refused_n_nostroke, lk_law_refused_n_decided, lk_law_refused_n_notyours, lk_law_refused_n_leaned, lk_law_refused_n_othertext, lk_law_refused_n_twice, lk_law_refused_n_nonote, lk_law_refused_n_toodeep, lk_law_refused_n_nopaper, lk_law_refused_n_norow, lk_law_refused_u_outofplace_quillerror, lk_law_refused_u_outofplace_outofplace, lk_law_refused_u_outofplace_nostroke, lk_law_refused_u_outofplace_decided, lk_law_refused_u_outofplace_notyours, lk_law_refused_u_outofplace_leaned, lk_law_refused_u_outofplace_othertext, lk_law_refused_u_outofplace_twice, lk_law_refused_u_outofplace_nonote, lk_law_refused_u_outofplace_toodeep, lk_law_refused_u_outofplace_nopaper, lk_law_refused_u_outofplace_norow, lk_law_refused_v_outofplace, lk_law_refused_x_outofplace, lk_law_refused_law_does, lk_law_k_plain, lk_law_plain_rows, lk_law_law_drawn, lk_law_law_number, lk_law_law_due, lk_law_law_refused]
      · simp (disch := first | assumption | omega | exact id rfl | exact pl_fl_kr _ | decide +kernel) only [List.map_cons, List.map_nil, List.length_cons, List.length_nil, bok, bex, mok, gok, gex, mook, thn_nx, thn_ret, thn_brk, thn_cnt, thn_exc, selB_some, kE2_e, kE1_e, evs_nil, evs_cons, kO1_e, evos_nil, evos_cons, kOp_e, ev_op, lift_some, ev_var, ev_non, ev_bl, ev_int, ev_str, kC2_e, pur_some', kC1_e, ev_cmp, kD2_e, kD1_e, ev_cmp2, kAnd_e, ev_and, kOr_e, ev_or, kNot_e, ev_not, kIfe_e, ev_ife, kG_e, kCall_e, ev_call, ev_qcall, kF3_e, kF2_e, kF_e, ev_fld, kMG_e, kM3_e, kM2_e, kM_e, ev_mcall, ev_frz, frz_new, frz_non, frz_int, frz_str, frz_bl, frz_tup, frz_fl, frz_kt, kGc_e, ev_gc, kGlob_e, ev_glob, kIsc3_e, kIsc2_e, kIsc_e, ev_isc, kXfld_e, ev_xfld, kXis_e, ev_xis, kIe_fl, evi_e, kIr_fl, evi_rev, kIt_tup, evi_tup, kIs_str, evi_str, kI1_int, evi_rng1, kI22_int, kI21_e, evi_rng2, kIn_fl, evi_enum, runs_nil, runs_cons, kA_e, nxO_some, run_asg, kAug_e, kAug0_e, run_aug, kS3_e, kS2_e, kS1_e, run_setI, kFs2_e, kFs1_e, run_fset, kX_e, run_expr, kR_e, run_ret, run_retN, run_brk, run_cnt, run_pass, tstV_e, tru_e, kIf_e, run_ite, kFor_e, run_for, kRs_1, kRs_0, kRaise_e, run_raise, run_faug, tel_e, kxs0_e, kxs_e, xisV_e, xisV_n, kHs_e, runHs_cons, runHs_nil, knH_c, knH_nil, run_try, inI_s, inI_n, kTri_exc, kTri_nx, kTri_ret, outO_ret, outO_nx, Hv.val, Hv.new, Hv.opW, op0, op1, op2, op3, Hv.binW, Hv.binI, Hv.ixW, slW2, slW, lenW, listW, tupleW, negW, sumW, minW, maxW, intW, Hv.intsD, Hv.cmpW, Hv.cmpG, Hv.cmpI, Hv.cmpS, isNonD, isiW, eq_nil_n, preW, isStrD, isIntD, isLstD, truth, setG, setGs, putS_0, putS_s, strNe, wipeS, Hv.noX, srcOf, seqS, tupD, addW, at_new, at_n1, at_n2, at_n3, at_n4, at_o1, at_o2, at_o3, at_o4, set_new, setFld, setFE, setFN, setF_nil, lookupE, lookupN, List.lookup_nil, outI, sizeLine_eq, gP_pos, Option.map_some, Option.map_none, Option.bind_some, Option.bind_none, Option.isSome_some, Option.isSome_none, Nat.reduceAdd, Nat.reduceSub, Nat.reduceLT, Nat.reduceLeDiff, Nat.reduceEqDiff, Nat.reduceBEq, Nat.reduceBNe, Int.reduceEq, Int.reduceLT, Int.reduceLE, Int.reduceAdd, Int.reduceMul, Int.reduceSub, Int.reduceNeg, Int.reduceToNat, Int.reducePow, List.replicate, List.cons_append, List.nil_append, List.getElem?_cons_zero, List.getElem?_cons_succ, List.getElem?_nil, List.set_cons_succ, List.set_cons_zero, if_true, if_false, ite_true, ite_false, Bool.false_eq_true, Bool.not_true, Bool.not_false, Bool.and_true, Bool.true_and, Bool.or_true, Bool.true_or, Bool.or_false, Bool.false_or, Bool.and_false, Bool.false_and, reduceCtorEq, eq_self, decide_true, decide_false, decide_not, List.take_succ_cons, List.take_zero, List.length_map, Int.toNat_natCast, fnG_0, fnG_1, fnG_2, fnG_3, fnG_4, fnG_5, fnG_6, fnG_7, fnG_8, out_ret, out_nx, out_exc, gcR_ok1, gcv_pl0, gcv_pl, gcv_p2, gcv_p3, gcv_p4, gcv_p5, gcv_p6, gcv_new, gcv_n2, gcv_n3, gcv_set0, gcv_set, gcv_set_new, gcR_x0, gcR_x00, gcR_x1, gcR_x10, bne_self_eq_false, beq_self_eq_true, bne_iff_ne, ne_eq, not_true_eq_false, not_false_eq_true, and_self, and_true, true_and, and_false, false_and, or_true, true_or, or_false, false_or, hs, hs', hs2, e4g, e5', e6, e7, e8, e9, kr_len, lk_law_number_law_drawn, lk_law_does_plain_put, lk_law_does_plain_strike, lk_law_does_plain_dress, lk_law_does_plain_move, lk_law_refused_n_quillerror, lk_law_refused_n_outofplace, lk_law_refused_n_nostroke, lk_law_refused_n_decided, lk_law_refused_n_notyours, lk_law_refused_n_leaned, lk_law_refused_n_othertext, lk_law_refused_n_twice, lk_law_refused_n_nonote, lk_law_refused_n_toodeep, lk_law_refused_n_nopaper, lk_law_refused_n_norow, lk_law_refused_u_outofplace_quillerror, lk_law_refused_u_outofplace_outofplace, lk_law_refused_u_outofplace_nostroke, lk_law_refused_u_outofplace_decided, lk_law_refused_u_outofplace_notyours, lk_law_refused_u_outofplace_leaned, lk_law_refused_u_outofplace_othertext, lk_law_refused_u_outofplace_twice, lk_law_refused_u_outofplace_nonote, lk_law_refused_u_outofplace_toodeep, lk_law_refused_u_outofplace_nopaper, lk_law_refused_u_outofplace_norow, lk_law_refused_v_outofplace, lk_law_refused_x_outofplace, lk_law_refused_law_does, lk_law_k_plain, lk_law_plain_rows, lk_law_law_drawn, lk_law_law_number, lk_law_law_due, lk_law_law_refused]
      · simp (disch := first | assumption | omega | exact id rfl | exact pl_fl_kr _ | decide +kernel) only [List.map_cons, List.map_nil, List.length_cons, List.length_nil, bok, bex, mok, gok, gex, mook, thn_nx, thn_ret, thn_brk, thn_cnt, thn_exc, selB_some, kE2_e, kE1_e, evs_nil, evs_cons, kO1_e, evos_nil, evos_cons, kOp_e, ev_op, lift_some, ev_var, ev_non, ev_bl, ev_int, ev_str, kC2_e, pur_some', kC1_e, ev_cmp, kD2_e, kD1_e, ev_cmp2, kAnd_e, ev_and, kOr_e, ev_or, kNot_e, ev_not, kIfe_e, ev_ife, kG_e, kCall_e, ev_call, ev_qcall, kF3_e, kF2_e, kF_e, ev_fld, kMG_e, kM3_e, kM2_e, kM_e, ev_mcall, ev_frz, frz_new, frz_non, frz_int, frz_str, frz_bl, frz_tup, frz_fl, frz_kt, kGc_e, ev_gc, kGlob_e, ev_glob, kIsc3_e, kIsc2_e, kIsc_e, ev_isc, kXfld_e, ev_xfld, kXis_e, ev_xis, kIe_fl, evi_e, kIr_fl, evi_rev, kIt_tup, evi_tup, kIs_str, evi_str, kI1_int, evi_rng1, kI22_int, kI21_e, evi_rng2, kIn_fl, evi_enum, runs_nil, runs_cons, kA_e, nxO_some, run_asg, kAug_e, kAug0_e, run_aug, kS3_e, kS2_e, kS1_e, run_setI, kFs2_e, kFs1_e, run_fset, kX_e, run_expr, kR_e, run_ret, run_retN, run_brk, run_cnt, run_pass, tstV_e, tru_e, kIf_e, run_ite, kFor_e, run_for, kRs_1, kRs_0, kRaise_e, run_raise, run_faug, tel_e, kxs0_e, kxs_e, xisV_e, xisV_n, kHs_e, runHs_cons, runHs_nil, knH_c, knH_nil, run_try, inI_s, inI_n, kTri_exc, kTri_nx, kTri_ret, outO_ret, outO_nx, Hv.val, Hv.new, Hv.opW, op0, op1, op2, op3, Hv.binW, Hv.binI, Hv.ixW, slW2, slW, lenW, listW, tupleW, negW, sumW, minW, maxW, intW, Hv.intsD, Hv.cmpW, Hv.cmpG, Hv.cmpI, Hv.cmpS, isNonD, isiW, eq_nil_n, preW, isStrD, isIntD, isLstD, truth, setG, setGs, putS_0, putS_s, strNe, wipeS, Hv.noX, srcOf, seqS, tupD, addW, at_new, at_n1, at_n2, at_n3, at_n4, at_o1, at_o2, at_o3, at_o4, set_new, setFld, setFE, setFN, setF_nil, lookupE, lookupN, List.lookup_nil, outI, sizeLine_eq, gP_pos, Option.map_some, Option.map_none, Option.bind_some, Option.bind_none, Option.isSome_some, Option.isSome_none, Nat.reduceAdd, Nat.reduceSub, Nat.reduceLT, Nat.reduceLeDiff, Nat.reduceEqDiff, Nat.reduceBEq, Nat.reduceBNe, Int.reduceEq, Int.reduceLT, Int.reduceLE, Int.reduceAdd, Int.reduceMul, Int.reduceSub, Int.reduceNeg, Int.reduceToNat, Int.reducePow, List.replicate, List.cons_append, List.nil_append, List.getElem?_cons_zero, List.getElem?_cons_succ, List.getElem?_nil, List.set_cons_succ, List.set_cons_zero, if_true, if_false, ite_true, ite_false, Bool.false_eq_true, Bool.not_true, Bool.not_false, Bool.and_true, Bool.true_and, Bool.or_true, Bool.true_or, Bool.or_false, Bool.false_or, Bool.and_false, Bool.false_and, reduceCtorEq, eq_self, decide_true, decide_false, decide_not, List.take_succ_cons, List.take_zero, List.length_map, Int.toNat_natCast, fnG_0, fnG_1, fnG_2, fnG_3, fnG_4, fnG_5, fnG_6, fnG_7, fnG_8, out_ret, out_nx, out_exc, gcR_ok1, gcv_pl0, gcv_pl, gcv_p2, gcv_p3, gcv_p4, gcv_p5, gcv_p6, gcv_new, gcv_n2, gcv_n3, gcv_set0, gcv_set, gcv_set_new, gcR_x0, gcR_x00, gcR_x1, gcR_x10, bne_self_eq_false, beq_self_eq_true, bne_iff_ne, ne_eq, not_true_eq_false, not_false_eq_true, and_self, and_true, true_and, and_false, false_and, or_true, true_or, or_false, false_or, hs, hs', hs2, e4g, e5', e6, e7, e8, e9, kr_len, lk_law_number_law_drawn, lk_law_does_plain_put, lk_law_does_plain_strike, lk_law_does_plain_dress, lk_law_does_plain_move, lk_law_refused_n_quillerror, lk_law_refused_n_outofplace, lk_law_refused_n_nostroke, lk_law_refused_n_decided, lk_law_refused_n_notyours, lk_law_refused_n_leaned, lk_law_refused_n_othertext, lk_law_refused_n_twice, lk_law_refused_n_nonote, lk_law_refused_n_toodeep, lk_law_refused_n_nopaper, lk_law_refused_n_norow, lk_law_refused_u_outofplace_quillerror, lk_law_refused_u_outofplace_outofplace, lk_law_refused_u_outofplace_nostroke, lk_law_refused_u_outofplace_decided, lk_law_refused_u_outofplace_notyours, lk_law_refused_u_outofplace_leaned, lk_law_refused_u_outofplace_othertext, lk_law_refused_u_outofplace_twice, lk_law_refused_u_outofplace_nonote, lk_law_refused_u_outofplace_toodeep, lk_law_refused_u_outofplace_nopaper, lk_law_refused_u_outofplace_norow, lk_law_refused_v_outofplace, lk_law_refused_x_outofplace, lk_law_refused_law_does, lk_law_k_plain, lk_law_plain_rows, lk_law_law_drawn, lk_law_law_number, lk_law_law_due, lk_law_law_refused]
    · have e6 := run_refX hw hs hd
      refine ⟨l, .v (.fl (kr l)), .v (.str w), .v (.int a), .v (.int t), .v (.int g), .v (.fl [.int x]), by omega, ho, ?_⟩
      rw [hd] at e5' q2'
      rw [set_self hs]
      have e8 : eqD (S ++ [C.lst [.int x]]) (.ref S.length) (.fl [.int x]) = some true := eq_new (k := 0) rfl (by decide)
      have e9 : eqD (S ++ [C.lst []]) (.fl [.int x]) (.ref S.length) = some false := eq_cons_n (k := 0) rfl (by decide)
      have e10 : eqD (S ++ [C.lst (kr l)]) (.ref S.length) (.fl (kr l)) = some true := eq_new (okD_kr ho) (by decide)
      have e11 : eqD (S ++ [C.lst []] ++ [C.lst (kr l)]) (.ref (S ++ [C.lst []]).length) (.fl (kr l)) = some true := eq_new (okD_kr ho) (by decide)
      have hs1 : (S ++ [C.lst []])[n]? = some (plainC l) := at_old hs
      have e12 := run_rows hs1
      simp (disch := first | assumption | omega | exact id rfl | exact pl_fl_kr _ | decide +kernel) only [List.map_cons, List.map_nil, List.length_cons, List.length_nil, bok, bex, mok, gok, gex, mook, thn_nx, thn_ret, thn_brk, thn_cnt, thn_exc, selB_some, kE2_e, kE1_e, evs_nil, evs_cons, kO1_e, evos_nil, evos_cons, kOp_e, ev_op, lift_some, ev_var, ev_non, ev_bl, ev_int, ev_str, kC2_e, pur_some', kC1_e, ev_cmp, kD2_e, kD1_e, ev_cmp2, kAnd_e, ev_and, kOr_e, ev_or, kNot_e, ev_not, kIfe_e, ev_ife, kG_e, kCall_e, ev_call, ev_qcall, kF3_e, kF2_e, kF_e, ev_fld, kMG_e, kM3_e, kM2_e, kM_e, ev_mcall, ev_frz, frz_new, frz_non, frz_int, frz_str, frz_bl, frz_tup, frz_fl, frz_kt, kGc_e, ev_gc, kGlob_e, ev_glob, kIsc3_e, kIsc2_e, kIsc_e, ev_isc, kXfld_e, ev_xfld, kXis_e, ev_xis, kIe_fl, evi_e, kIr_fl, evi_rev, kIt_tup, evi_tup, kIs_str, evi_str, kI1_int, evi_rng1, kI22_int, kI21_e, evi_rng2, kIn_fl, evi_enum, runs_nil, runs_cons, kA_e, nxO_some, run_asg, kAug_e, kAug0_e, run_aug, kS3_e, kS2_e, kS1_e, run_setI, kFs2_e, kFs1_e, run_fset, kX_e, run_expr, kR_e, run_ret, run_retN, run_brk, run_cnt, run_pass, tstV_e, tru_e, kIf_e, run_ite, kFor_e, run_for, kRs_1, kRs_0, kRaise_e, run_raise, run_faug, tel_e, kxs0_e, kxs_e, xisV_e, xisV_n, kHs_e, runHs_cons, runHs_nil, knH_c, knH_nil, run_try, inI_s, inI_n, kTri_exc, kTri_nx, kTri_ret, outO_ret, outO_nx, Hv.val, Hv.new, Hv.opW, op0, op1, op2, op3, Hv.binW, Hv.binI, Hv.ixW, slW2, slW, lenW, listW, tupleW, negW, sumW, minW, maxW, intW, Hv.intsD, Hv.cmpW, Hv.cmpG, Hv.cmpI, Hv.cmpS, isNonD, isiW, eq_nil_n, preW, isStrD, isIntD, isLstD, truth, setG, setGs, putS_0, putS_s, strNe, wipeS, Hv.noX, srcOf, seqS, tupD, addW, at_new, at_n1, at_n2, at_n3, at_n4, at_o1, at_o2, at_o3, at_o4, set_new, setFld, setFE, setFN, setF_nil, lookupE, lookupN, List.lookup_nil, outI, sizeLine_eq, gP_pos, Option.map_some, Option.map_none, Option.bind_some, Option.bind_none, Option.isSome_some, Option.isSome_none, Nat.reduceAdd, Nat.reduceSub, Nat.reduceLT, Nat.reduceLeDiff, Nat.reduceEqDiff, Nat.reduceBEq, Nat.reduceBNe, Int.reduceEq, Int.reduceLT, Int.reduceLE, Int.reduceAdd, Int.reduceMul, Int.reduceSub, Int.reduceNeg, Int.reduceToNat, Int.reducePow, List.replicate, List.cons_append, List.nil_append, List.getElem?_cons_zero, List.getElem?_cons_succ, List.getElem?_nil, List.set_cons_succ, List.set_cons_zero, if_true, if_false, ite_true, ite_false, Bool.false_eq_true, Bool.not_true, Bool.not_false, Bool.and_true, Bool.true_and, Bool.or_true, Bool.true_or, Bool.or_false, Bool.false_or, Bool.and_false, Bool.false_and, reduceCtorEq, eq_self, decide_true, decide_false, decide_not, List.take_succ_cons, List.take_zero, List.length_map, Int.toNat_natCast, fnG_0, fnG_1, fnG_2, fnG_3, fnG_4, fnG_5, fnG_6, fnG_7, fnG_8, out_ret, out_nx, out_exc, gcR_ok1, gcv_pl0, gcv_pl, gcv_p2, gcv_p3, gcv_p4, gcv_p5, gcv_p6, gcv_new, gcv_n2, gcv_n3, gcv_set0, gcv_set, gcv_set_new, gcR_x0, gcR_x00, gcR_x1, gcR_x10, bne_self_eq_false, beq_self_eq_true, bne_iff_ne, ne_eq, not_true_eq_false, not_false_eq_true, and_self, and_true, true_and, and_false, false_and, or_true, true_or, or_false, false_or, hs, hs1, e1, e4g, e5', e6, e8, e9, e10, e11, e12, kr_len, lk_law_number_law_drawn, lk_law_does_plain_put, lk_law_does_plain_strike, lk_law_does_plain_dress, lk_law_does_plain_move, lk_law_refused_n_quillerror, lk_law_refused_n_outofplace, lk_law_refused_n_nostroke, lk_law_refused_n_decided, lk_law_refused_n_notyours, lk_law_refused_n_leaned, lk_law_refused_n_othertext, lk_law_refused_n_twice, lk_law_refused_n_nonote, lk_law_refused_n_toodeep, lk_law_refused_n_nopaper, lk_law_refused_n_norow, lk_law_refused_u_outofplace_quillerror, lk_law_refused_u_outofplace_outofplace, lk_law_refused_u_outofplace_nostroke, lk_law_refused_u_outofplace_decided, lk_law_refused_u_outofplace_notyours, lk_law_refused_u_outofplace_leaned, lk_law_refused_u_outofplace_othertext, lk_law_refused_u_outofplace_twice, lk_law_refused_u_outofplace_nonote, lk_law_refused_u_outofplace_toodeep, lk_law_refused_u_outofplace_nopaper, lk_law_refused_u_outofplace_norow, lk_law_refused_v_outofplace, lk_law_refused_x_outofplace, lk_law_refused_law_does, lk_law_k_plain, lk_law_plain_rows, lk_law_law_drawn, lk_law_law_number, lk_law_law_due, lk_law_law_refused]
  have hm : ((kr l).length : Int) = l.length := by rw [kr_len]
  by_cases h8 : drawn c 8 % 2 = 0
  · obtain ⟨l', t3, t4, t5, t6, t7, t8, z1, z2, e⟩ := main (number c 1 l.length + 1 + drawn c 4 % 3) .out
    refine ⟨l', t3, t4, t5, t6, t7, t8, z1, z2, ?_⟩
    unfold b_law_l1 at e ⊢
    dsimp only at e
    rw [← e]
    simp (disch := first | assumption | omega | exact id rfl | exact pl_fl_kr _ | decide +kernel) only [List.map_cons, List.map_nil, List.length_cons, List.length_nil, bok, bex, mok, gok, gex, mook, thn_nx, thn_ret, thn_brk, thn_cnt, thn_exc, selB_some, kE2_e, kE1_e, evs_nil, evs_cons, kO1_e, evos_nil, evos_cons, kOp_e, ev_op, lift_some, ev_var, ev_non, ev_bl, ev_int, ev_str, kC2_e, pur_some', kC1_e, ev_cmp, kD2_e, kD1_e, ev_cmp2, kAnd_e, ev_and, kOr_e, ev_or, kNot_e, ev_not, kIfe_e, ev_ife, kG_e, kCall_e, ev_call, ev_qcall, kF3_e, kF2_e, kF_e, ev_fld, kMG_e, kM3_e, kM2_e, kM_e, ev_mcall, ev_frz, frz_new, frz_non, frz_int, frz_str, frz_bl, frz_tup, frz_fl, frz_kt, kGc_e, ev_gc, kGlob_e, ev_glob, kIsc3_e, kIsc2_e, kIsc_e, ev_isc, kXfld_e, ev_xfld, kXis_e, ev_xis, kIe_fl, evi_e, kIr_fl, evi_rev, kIt_tup, evi_tup, kIs_str, evi_str, kI1_int, evi_rng1, kI22_int, kI21_e, evi_rng2, kIn_fl, evi_enum, runs_nil, runs_cons, kA_e, nxO_some, run_asg, kAug_e, kAug0_e, run_aug, kS3_e, kS2_e, kS1_e, run_setI, kFs2_e, kFs1_e, run_fset, kX_e, run_expr, kR_e, run_ret, run_retN, run_brk, run_cnt, run_pass, tstV_e, tru_e, kIf_e, run_ite, kFor_e, run_for, kRs_1, kRs_0, kRaise_e, run_raise, run_faug, tel_e, kxs0_e, kxs_e, xisV_e, xisV_n, kHs_e, runHs_cons, runHs_nil, knH_c, knH_nil, run_try, inI_s, inI_n, kTri_exc, kTri_nx, kTri_ret, outO_ret, outO_nx, Hv.val, Hv.new, Hv.opW, op0, op1, op2, op3, Hv.binW, Hv.binI, Hv.ixW, slW2, slW, lenW, listW, tupleW, negW, sumW, minW, maxW, intW, Hv.intsD, Hv.cmpW, Hv.cmpG, Hv.cmpI, Hv.cmpS, isNonD, isiW, eq_nil_n, preW, isStrD, isIntD, isLstD, truth, setG, setGs, putS_0, putS_s, strNe, wipeS, Hv.noX, srcOf, seqS, tupD, addW, at_new, at_n1, at_n2, at_n3, at_n4, at_o1, at_o2, at_o3, at_o4, set_new, setFld, setFE, setFN, setF_nil, lookupE, lookupN, List.lookup_nil, outI, sizeLine_eq, gP_pos, Option.map_some, Option.map_none, Option.bind_some, Option.bind_none, Option.isSome_some, Option.isSome_none, Nat.reduceAdd, Nat.reduceSub, Nat.reduceLT, Nat.reduceLeDiff, Nat.reduceEqDiff, Nat.reduceBEq, Nat.reduceBNe, Int.reduceEq, Int.reduceLT, Int.reduceLE, Int.reduceAdd, Int.reduceMul, Int.reduceSub, Int.reduceNeg, Int.reduceToNat, Int.reducePow, List.replicate, List.cons_append, List.nil_append, List.getElem?_cons_zero, List.getElem?_cons_succ, List.getElem?_nil, List.set_cons_succ, List.set_cons_zero, if_true, if_false, ite_true, ite_false, Bool.false_eq_true, Bool.not_true, Bool.not_false, Bool.and_true, Bool.true_and, Bool.or_true, Bool.true_or, Bool.or_false, Bool.false_or, Bool.and_false, Bool.false_and, reduceCtorEq, eq_self, decide_true, decide_false, decide_not, List.take_succ_cons, List.take_zero, List.length_map, Int.toNat_natCast, fnG_0, fnG_1, fnG_2, fnG_3, fnG_4, fnG_5, fnG_6, fnG_7, fnG_8, out_ret, out_nx, out_exc, gcR_ok1, gcv_pl0, gcv_pl, gcv_p2, gcv_p3, gcv_p4, gcv_p5, gcv_p6, gcv_new, gcv_n2, gcv_n3, gcv_set0, gcv_set, gcv_set_new, gcR_x0, gcR_x00, gcR_x1, gcR_x10, bne_self_eq_false, beq_self_eq_true, bne_iff_ne, ne_eq, not_true_eq_false, not_false_eq_true, and_self, and_true, true_and, and_false, false_and, or_true, true_or, or_false, false_or, hs, e1, e2, e3, e3', e4, h8, kr_len, lk_law_number_law_drawn, lk_law_does_plain_put, lk_law_does_plain_strike, lk_law_does_plain_dress, lk_law_does_plain_move, lk_law_refused_n_quillerror, lk_law_refused_n_outofplace, lk_law_refused_n_nostroke, lk_law_refused_n_decided, lk_law_refused_n_notyours, lk_law_refused_n_leaned, lk_law_refused_n_othertext, lk_law_refused_n_twice, lk_law_refused_n_nonote, lk_law_refused_n_toodeep, lk_law_refused_n_nopaper, lk_law_refused_n_norow, lk_law_refused_u_outofplace_quillerror, lk_law_refused_u_outofplace_outofplace, lk_law_refused_u_outofplace_nostroke, lk_law_refused_u_outofplace_decided, lk_law_refused_u_outofplace_notyours, lk_law_refused_u_outofplace_leaned, lk_law_refused_u_outofplace_othertext, lk_law_refused_u_outofplace_twice, lk_law_refused_u_outofplace_nonote, lk_law_refused_u_outofplace_toodeep, lk_law_refused_u_outofplace_nopaper, lk_law_refused_u_outofplace_norow, lk_law_refused_v_outofplace, lk_law_refused_x_outofplace, lk_law_refused_law_does, lk_law_k_plain, lk_law_plain_rows, lk_law_law_drawn, lk_law_law_number, lk_law_law_due, lk_law_law_refused]
  · obtain ⟨l', t3, t4, t5, t6, t7, t8, z1, z2, e⟩ := main (number c 3 l.length) .out
    refine ⟨l', t3, t4, t5, t6, t7, t8, z1, z2, ?_⟩
    unfold b_law_l1 at e ⊢
    dsimp only at e
    rw [← e]
    simp (disch := first | assumption | omega | exact id rfl | exact pl_fl_kr _ | decide +kernel) only [List.map_cons, List.map_nil, List.length_cons, List.length_nil, bok, bex, mok, gok, gex, mook, thn_nx, thn_ret, thn_brk, thn_cnt, thn_exc, selB_some, kE2_e, kE1_e, evs_nil, evs_cons, kO1_e, evos_nil, evos_cons, kOp_e, ev_op, lift_some, ev_var, ev_non, ev_bl, ev_int, ev_str, kC2_e, pur_some', kC1_e, ev_cmp, kD2_e, kD1_e, ev_cmp2, kAnd_e, ev_and, kOr_e, ev_or, kNot_e, ev_not, kIfe_e, ev_ife, kG_e, kCall_e, ev_call, ev_qcall, kF3_e, kF2_e, kF_e, ev_fld, kMG_e, kM3_e, kM2_e, kM_e, ev_mcall, ev_frz, frz_new, frz_non, frz_int, frz_str, frz_bl, frz_tup, frz_fl, frz_kt, kGc_e, ev_gc, kGlob_e, ev_glob, kIsc3_e, kIsc2_e, kIsc_e, ev_isc, kXfld_e, ev_xfld, kXis_e, ev_xis, kIe_fl, evi_e, kIr_fl, evi_rev, kIt_tup, evi_tup, kIs_str, evi_str, kI1_int, evi_rng1, kI22_int, kI21_e, evi_rng2, kIn_fl, evi_enum, runs_nil, runs_cons, kA_e, nxO_some, run_asg, kAug_e, kAug0_e, run_aug, kS3_e, kS2_e, kS1_e, run_setI, kFs2_e, kFs1_e, run_fset, kX_e, run_expr, kR_e, run_ret, run_retN, run_brk, run_cnt, run_pass, tstV_e, tru_e, kIf_e, run_ite, kFor_e, run_for, kRs_1, kRs_0, kRaise_e, run_raise, run_faug, tel_e, kxs0_e, kxs_e, xisV_e, xisV_n, kHs_e, runHs_cons, runHs_nil, knH_c, knH_nil, run_try, inI_s, inI_n, kTri_exc, kTri_nx, kTri_ret, outO_ret, outO_nx, Hv.val, Hv.new, Hv.opW, op0, op1, op2, op3, Hv.binW, Hv.binI, Hv.ixW, slW2, slW, lenW, listW, tupleW, negW, sumW, minW, maxW, intW, Hv.intsD, Hv.cmpW, Hv.cmpG, Hv.cmpI, Hv.cmpS, isNonD, isiW, eq_nil_n, preW, isStrD, isIntD, isLstD, truth, setG, setGs, putS_0, putS_s, strNe, wipeS, Hv.noX, srcOf, seqS, tupD, addW, at_new, at_n1, at_n2, at_n3, at_n4, at_o1, at_o2, at_o3, at_o4, set_new, setFld, setFE, setFN, setF_nil, lookupE, lookupN, List.lookup_nil, outI, sizeLine_eq, gP_pos, Option.map_some, Option.map_none, Option.bind_some, Option.bind_none, Option.isSome_some, Option.isSome_none, Nat.reduceAdd, Nat.reduceSub, Nat.reduceLT, Nat.reduceLeDiff, Nat.reduceEqDiff, Nat.reduceBEq, Nat.reduceBNe, Int.reduceEq, Int.reduceLT, Int.reduceLE, Int.reduceAdd, Int.reduceMul, Int.reduceSub, Int.reduceNeg, Int.reduceToNat, Int.reducePow, List.replicate, List.cons_append, List.nil_append, List.getElem?_cons_zero, List.getElem?_cons_succ, List.getElem?_nil, List.set_cons_succ, List.set_cons_zero, if_true, if_false, ite_true, ite_false, Bool.false_eq_true, Bool.not_true, Bool.not_false, Bool.and_true, Bool.true_and, Bool.or_true, Bool.true_or, Bool.or_false, Bool.false_or, Bool.and_false, Bool.false_and, reduceCtorEq, eq_self, decide_true, decide_false, decide_not, List.take_succ_cons, List.take_zero, List.length_map, Int.toNat_natCast, fnG_0, fnG_1, fnG_2, fnG_3, fnG_4, fnG_5, fnG_6, fnG_7, fnG_8, out_ret, out_nx, out_exc, gcR_ok1, gcv_pl0, gcv_pl, gcv_p2, gcv_p3, gcv_p4, gcv_p5, gcv_p6, gcv_new, gcv_n2, gcv_n3, gcv_set0, gcv_set, gcv_set_new, gcR_x0, gcR_x00, gcR_x1, gcR_x10, bne_self_eq_false, beq_self_eq_true, bne_iff_ne, ne_eq, not_true_eq_false, not_false_eq_true, and_self, and_true, true_and, and_false, false_and, or_true, true_or, or_false, false_or, hs, e1, e2, e3, e3', e4, h8, kr_len, lk_law_number_law_drawn, lk_law_does_plain_put, lk_law_does_plain_strike, lk_law_does_plain_dress, lk_law_does_plain_move, lk_law_refused_n_quillerror, lk_law_refused_n_outofplace, lk_law_refused_n_nostroke, lk_law_refused_n_decided, lk_law_refused_n_notyours, lk_law_refused_n_leaned, lk_law_refused_n_othertext, lk_law_refused_n_twice, lk_law_refused_n_nonote, lk_law_refused_n_toodeep, lk_law_refused_n_nopaper, lk_law_refused_n_norow, lk_law_refused_u_outofplace_quillerror, lk_law_refused_u_outofplace_outofplace, lk_law_refused_u_outofplace_nostroke, lk_law_refused_u_outofplace_decided, lk_law_refused_u_outofplace_notyours, lk_law_refused_u_outofplace_leaned, lk_law_refused_u_outofplace_othertext, lk_law_refused_u_outofplace_twice, lk_law_refused_u_outofplace_nonote, lk_law_refused_u_outofplace_toodeep, lk_law_refused_u_outofplace_nopaper, lk_law_refused_u_outofplace_norow, lk_law_refused_v_outofplace, lk_law_refused_x_outofplace, lk_law_refused_law_does, lk_law_k_plain, lk_law_plain_rows, lk_law_law_drawn, lk_law_law_number, lk_law_law_due, lk_law_law_refused]
end
end L14
-- TABLES L14
-- DISCH exact pl_fl_kr _
namespace L14
open PySem PySem.Spec
open PyProof.Rows hiding St
open L2 Hv
theorem run_law {ns : List Int} (hl : ns.length ≤ 63) : ∃ S', g_law [] [.fl (ns.map D.int)] = some (.ok (.bl true) S') := by
  generalize hS : ([] : Sto) = S
  -- the text
  have c1 := cutD_to (xs := ns.map D.int) (j := 1) (by decide)
  have c1' : Hv.cutD (ns.map D.int) none (some 1) = (ns.take 1).map D.int := by rw [c1, ← List.map_take]; rfl
  have i1 := intsD_map (ns.take 1)
  generalize hc : (ns.take 1).sum = c at *
  have ex : ("abc\n" : Str) = SX.S [97, 98, 99, 10] := by decide +kernel
  have ez : ("z" : Str) = SX.S [122] := by decide +kernel
  have b1 := Int.emod_nonneg (c / 41) (by decide : (4 : Int) ≠ 0)
  have b2 := Int.emod_nonneg c (by decide : (41 : Int) ≠ 0)
  have b3 := Int.emod_lt_of_pos c (by decide : (0 : Int) < 41)
  have b4 : 0 ≤ c % 41 / 4 := Int.ediv_nonneg b2 (by decide)
  have b5 : c % 41 / 4 ≤ 10 := by omega
  have b6 := Int.emod_nonneg (c % 41) (by decide : (4 : Int) ≠ 0)
  have b7 := Int.emod_lt_of_pos (c % 41) (by decide : (0 : Int) < 4)
  have cu := cutS_to (l := [97, 98, 99, 10]) (j := 1 + c / 41 % 4) (by omega)
  generalize hu : [97, 98, 99, 10].take (1 + c / 41 % 4).toNat = u at *
  have hu1 : u.length ≤ 4 := by rw [← hu]; simp; omega
  have hu2 : ∀ x ∈ u, x < 1114112 := fun x hx => by
    rw [← hu] at hx
    have := List.mem_of_mem_take hx
    have h : ∀ y ∈ [97, 98, 99, 10], y < 1114112 := by decide
    exact h x this
  have r1 := strRep_S u (c % 41 / 4).toNat
  have r2 := strRep_S [122] (c % 41 % 4).toNat
  generalize hk1 : (c % 41 / 4).toNat = k1 at *
  generalize hk2 : (c % 41 % 4).toNat = k2 at *
  have m1 : (SX.S u).length * k1 ≤ 16777216 := by
    rw [SX.S_len]
    exact Nat.le_trans (Nat.mul_le_mul hu1 (show k1 ≤ 10 by omega)) (by decide)
  have m2 : (SX.S [122]).length * k2 ≤ 16777216 := by
    rw [SX.S_len]
    exact Nat.le_trans (Nat.mul_le_mul (Nat.le_refl 1) (show k2 ≤ 4 by omega)) (by decide)
  have l1 : ((List.replicate k1 u).flatten).length ≤ 40 := by
    rw [List.length_flatten]
    simp only [List.map_replicate, List.sum_replicate_nat]
    exact Nat.le_trans (Nat.mul_le_mul (show k1 ≤ 10 by omega) hu1) (by decide)
  have l2 : ((List.replicate k2 [122]).flatten).length ≤ 4 := by
    rw [List.length_flatten]
    simp only [List.map_replicate, List.sum_replicate_nat, List.length_cons, List.length_nil]
    omega
  have m3 : (SX.S (List.replicate k1 u).flatten).length + (SX.S (List.replicate k2 [122]).flatten).length ≤ 16777216 := by rw [SX.S_len, SX.S_len]; omega
  generalize ht : (List.replicate k1 u).flatten ++ (List.replicate k2 [122]).flatten = t at *
  have ht1 : t.length ≤ 44 := by rw [← ht, List.length_append]; omega
  have ht2 : ∀ x ∈ t, x < 1114112 := fun x hx => by
    rw [← ht] at hx
    rcases List.mem_append.mp hx with hx | hx
    · obtain ⟨y, hy, hxy⟩ := List.mem_flatten.mp hx
      exact hu2 x (by rw [List.eq_of_mem_replicate hy] at hxy; exact hxy)
    · obtain ⟨y, hy, hxy⟩ := List.mem_flatten.mp hx
      rw [List.eq_of_mem_replicate hy] at hxy
      have : x = 122 := by simpa using hxy
      omega
  have hap : SX.S (List.replicate k1 u).flatten ++ SX.S (List.replicate k2 [122]).flatten = SX.S t := by rw [S_app, ht]
  have e1 := run_init (S := S) (t := t) (by omega)
  have q1 : clC S.length (plainC (bare t)) := plainC_cl _
  have c2 : Hv.cutD (ns.map D.int) (some 1) (some 31) = ((ns.take 31).drop 1).map D.int := by rw [cutD_pos (by decide) (by decide), ← List.map_take, ← List.map_drop]; rfl
  have q2 : pl (.fl (((ns.take 31).drop 1).map D.int)) = true := by unfold pl; exact pl_ints _
  have hb : ∃ r, g_law S [.fl (ns.map D.int)] = some r ∧ ∃ S', r = .ok (.bl true) S' := by
    unfold g_law b_law
    refine WP.fn rfl ?_
    refine WP.seq (σ' := [.v (.fl (ns.map D.int)), .v (.int c), .out, .out, .out, .out, .out, .out, .out]) (S' := S) (by simp (disch := first | assumption | omega | exact id rfl | exact pl_fl_kr _ | decide +kernel) only [List.map_cons, List.map_nil, List.length_cons, List.length_nil, bok, bex, mok, gok, gex, mook, thn_nx, thn_ret, thn_brk, thn_cnt, thn_exc, selB_some, kE2_e, kE1_e, evs_nil, evs_cons, kO1_e, evos_nil, evos_cons, kOp_e, ev_op, lift_some, ev_var, ev_non, ev_bl, ev_int, ev_str, kC2_e, pur_some', kC1_e, ev_cmp, kD2_e, kD1_e, ev_cmp2, kAnd_e, ev_and, kOr_e, ev_or, kNot_e, ev_not, kIfe_e, ev_ife, kG_e, kCall_e, ev_call, ev_qcall, kF3_e, kF2_e, kF_e, ev_fld, kMG_e, kM3_e, kM2_e, kM_e, ev_mcall, ev_frz, frz_new, frz_non, frz_int, frz_str, frz_bl, frz_tup, frz_fl, frz_kt, kGc_e, ev_gc, kGlob_e, ev_glob, kIsc3_e, kIsc2_e, kIsc_e, ev_isc, kXfld_e, ev_xfld, kXis_e, ev_xis, kIe_fl, evi_e, kIr_fl, evi_rev, kIt_tup, evi_tup, kIs_str, evi_str, kI1_int, evi_rng1, kI22_int, kI21_e, evi_rng2, kIn_fl, evi_enum, runs_nil, runs_cons, kA_e, nxO_some, run_asg, kAug_e, kAug0_e, run_aug, kS3_e, kS2_e, kS1_e, run_setI, kFs2_e, kFs1_e, run_fset, kX_e, run_expr, kR_e, run_ret, run_retN, run_brk, run_cnt, run_pass, tstV_e, tru_e, kIf_e, run_ite, kFor_e, run_for, kRs_1, kRs_0, kRaise_e, run_raise, run_faug, tel_e, kxs0_e, kxs_e, xisV_e, xisV_n, kHs_e, runHs_cons, runHs_nil, knH_c, knH_nil, run_try, inI_s, inI_n, kTri_exc, kTri_nx, kTri_ret, outO_ret, outO_nx, Hv.val, Hv.new, Hv.opW, op0, op1, op2, op3, Hv.binW, Hv.binI, Hv.ixW, slW2, slW, lenW, listW, tupleW, negW, sumW, minW, maxW, intW, Hv.intsD, Hv.cmpW, Hv.cmpG, Hv.cmpI, Hv.cmpS, isNonD, isiW, eq_nil_n, preW, isStrD, isIntD, isLstD, truth, setG, setGs, putS_0, putS_s, strNe, wipeS, Hv.noX, srcOf, seqS, tupD, addW, at_new, at_n1, at_n2, at_n3, at_n4, at_o1, at_o2, at_o3, at_o4, set_new, setFld, setFE, setFN, setF_nil, lookupE, lookupN, List.lookup_nil, outI, sizeLine_eq, gP_pos, Option.map_some, Option.map_none, Option.bind_some, Option.bind_none, Option.isSome_some, Option.isSome_none, Nat.reduceAdd, Nat.reduceSub, Nat.reduceLT, Nat.reduceLeDiff, Nat.reduceEqDiff, Nat.reduceBEq, Nat.reduceBNe, Int.reduceEq, Int.reduceLT, Int.reduceLE, Int.reduceAdd, Int.reduceMul, Int.reduceSub, Int.reduceNeg, Int.reduceToNat, Int.reducePow, List.replicate, List.cons_append, List.nil_append, List.getElem?_cons_zero, List.getElem?_cons_succ, List.getElem?_nil, List.set_cons_succ, List.set_cons_zero, if_true, if_false, ite_true, ite_false, Bool.false_eq_true, Bool.not_true, Bool.not_false, Bool.and_true, Bool.true_and, Bool.or_true, Bool.true_or, Bool.or_false, Bool.false_or, Bool.and_false, Bool.false_and, reduceCtorEq, eq_self, decide_true, decide_false, decide_not, List.take_succ_cons, List.take_zero, List.length_map, Int.toNat_natCast, fnG_0, fnG_1, fnG_2, fnG_3, fnG_4, fnG_5, fnG_6, fnG_7, fnG_8, out_ret, out_nx, out_exc, gcR_ok1, gcv_pl0, gcv_pl, gcv_p2, gcv_p3, gcv_p4, gcv_p5, gcv_p6, gcv_new, gcv_n2, gcv_n3, gcv_set0, gcv_set, gcv_set_new, gcR_x0, gcR_x00, gcR_x1, gcR_x10, bne_self_eq_false, beq_self_eq_true, bne_iff_ne, ne_eq, not_true_eq_false, not_false_eq_true, and_self, and_true, true_and, and_false, false_and, or_true, true_or, or_false, false_or, c1', i1, hc]) ?_
    refine WP.seq (σ' := [.v (.fl (ns.map D.int)), .v (.int c), .v (.ref S.length), .out, .out, .out, .out, .out, .out]) (S' := S ++ [plainC (bare t)]) ?_ ?_
    · rw [ex, ez]
      simp (disch := first | assumption | omega | exact id rfl | exact pl_fl_kr _ | decide +kernel) only [List.map_cons, List.map_nil, List.length_cons, List.length_nil, bok, bex, mok, gok, gex, mook, thn_nx, thn_ret, thn_brk, thn_cnt, thn_exc, selB_some, kE2_e, kE1_e, evs_nil, evs_cons, kO1_e, evos_nil, evos_cons, kOp_e, ev_op, lift_some, ev_var, ev_non, ev_bl, ev_int, ev_str, kC2_e, pur_some', kC1_e, ev_cmp, kD2_e, kD1_e, ev_cmp2, kAnd_e, ev_and, kOr_e, ev_or, kNot_e, ev_not, kIfe_e, ev_ife, kG_e, kCall_e, ev_call, ev_qcall, kF3_e, kF2_e, kF_e, ev_fld, kMG_e, kM3_e, kM2_e, kM_e, ev_mcall, ev_frz, frz_new, frz_non, frz_int, frz_str, frz_bl, frz_tup, frz_fl, frz_kt, kGc_e, ev_gc, kGlob_e, ev_glob, kIsc3_e, kIsc2_e, kIsc_e, ev_isc, kXfld_e, ev_xfld, kXis_e, ev_xis, kIe_fl, evi_e, kIr_fl, evi_rev, kIt_tup, evi_tup, kIs_str, evi_str, kI1_int, evi_rng1, kI22_int, kI21_e, evi_rng2, kIn_fl, evi_enum, runs_nil, runs_cons, kA_e, nxO_some, run_asg, kAug_e, kAug0_e, run_aug, kS3_e, kS2_e, kS1_e, run_setI, kFs2_e, kFs1_e, run_fset, kX_e, run_expr, kR_e, run_ret, run_retN, run_brk, run_cnt, run_pass, tstV_e, tru_e, kIf_e, run_ite, kFor_e, run_for, kRs_1, kRs_0, kRaise_e, run_raise, run_faug, tel_e, kxs0_e, kxs_e, xisV_e, xisV_n, kHs_e, runHs_cons, runHs_nil, knH_c, knH_nil, run_try, inI_s, inI_n, kTri_exc, kTri_nx, kTri_ret, outO_ret, outO_nx, Hv.val, Hv.new, Hv.opW, op0, op1, op2, op3, Hv.binW, Hv.binI, Hv.ixW, slW2, slW, lenW, listW, tupleW, negW, sumW, minW, maxW, intW, Hv.intsD, Hv.cmpW, Hv.cmpG, Hv.cmpI, Hv.cmpS, isNonD, isiW, eq_nil_n, preW, isStrD, isIntD, isLstD, truth, setG, setGs, putS_0, putS_s, strNe, wipeS, Hv.noX, srcOf, seqS, tupD, addW, at_new, at_n1, at_n2, at_n3, at_n4, at_o1, at_o2, at_o3, at_o4, set_new, setFld, setFE, setFN, setF_nil, lookupE, lookupN, List.lookup_nil, outI, sizeLine_eq, gP_pos, Option.map_some, Option.map_none, Option.bind_some, Option.bind_none, Option.isSome_some, Option.isSome_none, Nat.reduceAdd, Nat.reduceSub, Nat.reduceLT, Nat.reduceLeDiff, Nat.reduceEqDiff, Nat.reduceBEq, Nat.reduceBNe, Int.reduceEq, Int.reduceLT, Int.reduceLE, Int.reduceAdd, Int.reduceMul, Int.reduceSub, Int.reduceNeg, Int.reduceToNat, Int.reducePow, List.replicate, List.cons_append, List.nil_append, List.getElem?_cons_zero, List.getElem?_cons_succ, List.getElem?_nil, List.set_cons_succ, List.set_cons_zero, if_true, if_false, ite_true, ite_false, Bool.false_eq_true, Bool.not_true, Bool.not_false, Bool.and_true, Bool.true_and, Bool.or_true, Bool.true_or, Bool.or_false, Bool.false_or, Bool.and_false, Bool.false_and, reduceCtorEq, eq_self, decide_true, decide_false, decide_not, List.take_succ_cons, List.take_zero, List.length_map, Int.toNat_natCast, fnG_0, fnG_1, fnG_2, fnG_3, fnG_4, fnG_5, fnG_6, fnG_7, fnG_8, out_ret, out_nx, out_exc, gcR_ok1, gcv_pl0, gcv_pl, gcv_p2, gcv_p3, gcv_p4, gcv_p5, gcv_p6, gcv_new, gcv_n2, gcv_n3, gcv_set0, gcv_set, gcv_set_new, gcR_x0, gcR_x00, gcR_x1, gcR_x10, bne_self_eq_false, beq_self_eq_true, bne_iff_ne, ne_eq, not_true_eq_false, not_false_eq_true, and_self, and_true, true_and, and_false, false_and, or_true, true_or, or_false, false_or, cu, hu, hk1, hk2, r1, r2, hap, e1, lk_law_number_law_drawn, lk_law_does_plain_put, lk_law_does_plain_strike, lk_law_does_plain_dress, lk_law_does_plain_move, lk_law_refused_n_quillerror, lk_law_refused_n_outofplace, lk_law_refused_n_nostroke, lk_law_refused_n_decided, lk_law_refused_n_notyours, lk_law_refused_n_leaned, lk_law_refused_n_othertext, lk_law_refused_n_twice, lk_law_refused_n_nonote, lk_law_refused_n_toodeep, lk_law_refused_n_nopaper, lk_law_refused_n_norow, lk_law_refused_u_outofplace_quillerror, lk_law_refused_u_outofplace_outofplace, lk_law_refused_u_outofplace_nostroke, lk_law_refused_u_outofplace_decided, lk_law_refused_u_outofplace_notyours, lk_law_refused_u_outofplace_leaned, lk_law_refused_u_outofplace_othertext, lk_law_refused_u_outofplace_twice, lk_law_refused_u_outofplace_nonote, lk_law_refused_u_outofplace_toodeep, lk_law_refused_u_outofplace_nopaper, lk_law_refused_u_outofplace_norow, lk_law_refused_v_outofplace, lk_law_refused_x_outofplace, lk_law_refused_law_does, lk_law_k_plain, lk_law_plain_rows, lk_law_law_drawn, lk_law_law_number, lk_law_law_due, lk_law_law_refused]
    refine WP.cons (WP.for_ (fun i σ Z => ∃ l s1 s3 s4 s5 s6 s7 s8, σ = [.v (.fl (ns.map D.int)), s1, .v (.ref S.length), s3, s4, s5, s6, s7, s8] ∧ Z = S ++ [plainC l] ∧ l.length ≤ 44 + 2 * i ∧ okL l) (xs := ((ns.take 31).drop 1).map D.int) (src := []) (S' := S ++ [plainC (bare t)]) ?_ ?_ ?_ ?_)
    · simp (disch := first | assumption | omega | exact id rfl | exact pl_fl_kr _ | decide +kernel) only [List.map_cons, List.map_nil, List.length_cons, List.length_nil, bok, bex, mok, gok, gex, mook, thn_nx, thn_ret, thn_brk, thn_cnt, thn_exc, selB_some, kE2_e, kE1_e, evs_nil, evs_cons, kO1_e, evos_nil, evos_cons, kOp_e, ev_op, lift_some, ev_var, ev_non, ev_bl, ev_int, ev_str, kC2_e, pur_some', kC1_e, ev_cmp, kD2_e, kD1_e, ev_cmp2, kAnd_e, ev_and, kOr_e, ev_or, kNot_e, ev_not, kIfe_e, ev_ife, kG_e, kCall_e, ev_call, ev_qcall, kF3_e, kF2_e, kF_e, ev_fld, kMG_e, kM3_e, kM2_e, kM_e, ev_mcall, ev_frz, frz_new, frz_non, frz_int, frz_str, frz_bl, frz_tup, frz_fl, frz_kt, kGc_e, ev_gc, kGlob_e, ev_glob, kIsc3_e, kIsc2_e, kIsc_e, ev_isc, kXfld_e, ev_xfld, kXis_e, ev_xis, kIe_fl, evi_e, kIr_fl, evi_rev, kIt_tup, evi_tup, kIs_str, evi_str, kI1_int, evi_rng1, kI22_int, kI21_e, evi_rng2, kIn_fl, evi_enum, runs_nil, runs_cons, kA_e, nxO_some, run_asg, kAug_e, kAug0_e, run_aug, kS3_e, kS2_e, kS1_e, run_setI, kFs2_e, kFs1_e, run_fset, kX_e, run_expr, kR_e, run_ret, run_retN, run_brk, run_cnt, run_pass, tstV_e, tru_e, kIf_e, run_ite, kFor_e, run_for, kRs_1, kRs_0, kRaise_e, run_raise, run_faug, tel_e, kxs0_e, kxs_e, xisV_e, xisV_n, kHs_e, runHs_cons, runHs_nil, knH_c, knH_nil, run_try, inI_s, inI_n, kTri_exc, kTri_nx, kTri_ret, outO_ret, outO_nx, Hv.val, Hv.new, Hv.opW, op0, op1, op2, op3, Hv.binW, Hv.binI, Hv.ixW, slW2, slW, lenW, listW, tupleW, negW, sumW, minW, maxW, intW, Hv.intsD, Hv.cmpW, Hv.cmpG, Hv.cmpI, Hv.cmpS, isNonD, isiW, eq_nil_n, preW, isStrD, isIntD, isLstD, truth, setG, setGs, putS_0, putS_s, strNe, wipeS, Hv.noX, srcOf, seqS, tupD, addW, at_new, at_n1, at_n2, at_n3, at_n4, at_o1, at_o2, at_o3, at_o4, set_new, setFld, setFE, setFN, setF_nil, lookupE, lookupN, List.lookup_nil, outI, sizeLine_eq, gP_pos, Option.map_some, Option.map_none, Option.bind_some, Option.bind_none, Option.isSome_some, Option.isSome_none, Nat.reduceAdd, Nat.reduceSub, Nat.reduceLT, Nat.reduceLeDiff, Nat.reduceEqDiff, Nat.reduceBEq, Nat.reduceBNe, Int.reduceEq, Int.reduceLT, Int.reduceLE, Int.reduceAdd, Int.reduceMul, Int.reduceSub, Int.reduceNeg, Int.reduceToNat, Int.reducePow, List.replicate, List.cons_append, List.nil_append, List.getElem?_cons_zero, List.getElem?_cons_succ, List.getElem?_nil, List.set_cons_succ, List.set_cons_zero, if_true, if_false, ite_true, ite_false, Bool.false_eq_true, Bool.not_true, Bool.not_false, Bool.and_true, Bool.true_and, Bool.or_true, Bool.true_or, Bool.or_false, Bool.false_or, Bool.and_false, Bool.false_and, reduceCtorEq, eq_self, decide_true, decide_false, decide_not, List.take_succ_cons, List.take_zero, List.length_map, Int.toNat_natCast, fnG_0, fnG_1, fnG_2, fnG_3, fnG_4, fnG_5, fnG_6, fnG_7, fnG_8, out_ret, out_nx, out_exc, gcR_ok1, gcv_pl0, gcv_pl, gcv_p2, gcv_p3, gcv_p4, gcv_p5, gcv_p6, gcv_new, gcv_n2, gcv_n3, gcv_set0, gcv_set, gcv_set_new, gcR_x0, gcR_x00, gcR_x1, gcR_x10, bne_self_eq_false, beq_self_eq_true, bne_iff_ne, ne_eq, not_true_eq_false, not_false_eq_true, and_self, and_true, true_and, and_false, false_and, or_true, true_or, or_false, false_or, c2]
    · exact ⟨bare t, _, _, _, _, _, _, _, rfl, rfl, by rw [bare_len]; omega, okL_bare ht2⟩
    · rintro i x σ Z hx ⟨l, s1, s3, s4, s5, s6, s7, s8, rfl, rfl, h1, h2⟩
      have hi : i < 30 := by
        have := (List.getElem?_eq_some_iff.mp hx).1
        simp at this; omega
      rw [List.getElem?_map] at hx
      obtain ⟨y, hy, rfl⟩ := Option.map_eq_some_iff.mp hx
      obtain ⟨l', t3, t4, t5, t6, t7, t8, z1, z2, e⟩ := run_step (S := S ++ [plainC l]) (n := S.length) (s0 := .v (.fl (ns.map D.int))) (c := y) (s3 := s3) (s4 := s4) (s5 := s5) (s6 := s6) (s7 := s7) (s8 := s8) at_new (by omega) h2
      refine ⟨[.v (.fl (ns.map D.int)), .v (.int y), .v (.ref S.length), s3, s4, s5, s6, s7, s8], rfl, WP.of e ⟨trivial, l', _, _, _, _, _, _, _, rfl, ?_, by omega, z2⟩⟩
      rw [set_new]
    · rintro σ Z ⟨l, s1, s3, s4, s5, s6, s7, s8, rfl, rfl, h1, h2⟩
      exact WP.ret (d := .bl true) (S' := S ++ [plainC l]) (by simp (disch := first | assumption | omega | exact id rfl | exact pl_fl_kr _ | decide +kernel) only [List.map_cons, List.map_nil, List.length_cons, List.length_nil, bok, bex, mok, gok, gex, mook, thn_nx, thn_ret, thn_brk, thn_cnt, thn_exc, selB_some, kE2_e, kE1_e, evs_nil, evs_cons, kO1_e, evos_nil, evos_cons, kOp_e, ev_op, lift_some, ev_var, ev_non, ev_bl, ev_int, ev_str, kC2_e, pur_some', kC1_e, ev_cmp, kD2_e, kD1_e, ev_cmp2, kAnd_e, ev_and, kOr_e, ev_or, kNot_e, ev_not, kIfe_e, ev_ife, kG_e, kCall_e, ev_call, ev_qcall, kF3_e, kF2_e, kF_e, ev_fld, kMG_e, kM3_e, kM2_e, kM_e, ev_mcall, ev_frz, frz_new, frz_non, frz_int, frz_str, frz_bl, frz_tup, frz_fl, frz_kt, kGc_e, ev_gc, kGlob_e, ev_glob, kIsc3_e, kIsc2_e, kIsc_e, ev_isc, kXfld_e, ev_xfld, kXis_e, ev_xis, kIe_fl, evi_e, kIr_fl, evi_rev, kIt_tup, evi_tup, kIs_str, evi_str, kI1_int, evi_rng1, kI22_int, kI21_e, evi_rng2, kIn_fl, evi_enum, runs_nil, runs_cons, kA_e, nxO_some, run_asg, kAug_e, kAug0_e, run_aug, kS3_e, kS2_e, kS1_e, run_setI, kFs2_e, kFs1_e, run_fset, kX_e, run_expr, kR_e, run_ret, run_retN, run_brk, run_cnt, run_pass, tstV_e, tru_e, kIf_e, run_ite, kFor_e, run_for, kRs_1, kRs_0, kRaise_e, run_raise, run_faug, tel_e, kxs0_e, kxs_e, xisV_e, xisV_n, kHs_e, runHs_cons, runHs_nil, knH_c, knH_nil, run_try, inI_s, inI_n, kTri_exc, kTri_nx, kTri_ret, outO_ret, outO_nx, Hv.val, Hv.new, Hv.opW, op0, op1, op2, op3, Hv.binW, Hv.binI, Hv.ixW, slW2, slW, lenW, listW, tupleW, negW, sumW, minW, maxW, intW, Hv.intsD, Hv.cmpW, Hv.cmpG, Hv.cmpI, Hv.cmpS, isNonD, isiW, eq_nil_n, preW, isStrD, isIntD, isLstD, truth, setG, setGs, putS_0, putS_s, strNe, wipeS, Hv.noX, srcOf, seqS, tupD, addW, at_new, at_n1, at_n2, at_n3, at_n4, at_o1, at_o2, at_o3, at_o4, set_new, setFld, setFE, setFN, setF_nil, lookupE, lookupN, List.lookup_nil, outI, sizeLine_eq, gP_pos, Option.map_some, Option.map_none, Option.bind_some, Option.bind_none, Option.isSome_some, Option.isSome_none, Nat.reduceAdd, Nat.reduceSub, Nat.reduceLT, Nat.reduceLeDiff, Nat.reduceEqDiff, Nat.reduceBEq, Nat.reduceBNe, Int.reduceEq, Int.reduceLT, Int.reduceLE, Int.reduceAdd, Int.reduceMul, Int.reduceSub, Int.reduceNeg, Int.reduceToNat, Int.reducePow, List.replicate, List.cons_append, List.nil_append, List.getElem?_cons_zero, List.getElem?_cons_succ, List.getElem?_nil, List.set_cons_succ, List.set_cons_zero, if_true, if_false, ite_true, ite_false, Bool.false_eq_true, Bool.not_true, Bool.not_false, Bool.and_true, Bool.true_and, Bool.or_true, Bool.true_or, Bool.or_false, Bool.false_or, Bool.and_false, Bool.false_and, reduceCtorEq, eq_self, decide_true, decide_false, decide_not, List.take_succ_cons, List.take_zero, List.length_map, Int.toNat_natCast, fnG_0, fnG_1, fnG_2, fnG_3, fnG_4, fnG_5, fnG_6, fnG_7, fnG_8, out_ret, out_nx, out_exc, gcR_ok1, gcv_pl0, gcv_pl, gcv_p2, gcv_p3, gcv_p4, gcv_p5, gcv_p6, gcv_new, gcv_n2, gcv_n3, gcv_set0, gcv_set, gcv_set_new, gcR_x0, gcR_x00, gcR_x1, gcR_x10, bne_self_eq_false, beq_self_eq_true, bne_iff_ne, ne_eq, not_true_eq_false, not_false_eq_true, and_self, and_true, true_and, and_false, false_and, or_true, true_or, or_false, false_or]) ⟨_, rfl, S, by simp (disch := first | assumption | omega | exact id rfl | exact pl_fl_kr _ | decide +kernel) only [List.map_cons, List.map_nil, List.length_cons, List.length_nil, bok, bex, mok, gok, gex, mook, thn_nx, thn_ret, thn_brk, thn_cnt, thn_exc, selB_some, kE2_e, kE1_e, evs_nil, evs_cons, kO1_e, evos_nil, evos_cons, kOp_e, ev_op, lift_some, ev_var, ev_non, ev_bl, ev_int, ev_str, kC2_e, pur_some', kC1_e, ev_cmp, kD2_e, kD1_e, ev_cmp2, kAnd_e, ev_and, kOr_e, ev_or, kNot_e, ev_not, kIfe_e, ev_ife, kG_e, kCall_e, ev_call, ev_qcall, kF3_e, kF2_e, kF_e, ev_fld, kMG_e, kM3_e, kM2_e, kM_e, ev_mcall, ev_frz, frz_new, frz_non, frz_int, frz_str, frz_bl, frz_tup, frz_fl, frz_kt, kGc_e, ev_gc, kGlob_e, ev_glob, kIsc3_e, kIsc2_e, kIsc_e, ev_isc, kXfld_e, ev_xfld, kXis_e, ev_xis, kIe_fl, evi_e, kIr_fl, evi_rev, kIt_tup, evi_tup, kIs_str, evi_str, kI1_int, evi_rng1, kI22_int, kI21_e, evi_rng2, kIn_fl, evi_enum, runs_nil, runs_cons, kA_e, nxO_some, run_asg, kAug_e, kAug0_e, run_aug, kS3_e, kS2_e, kS1_e, run_setI, kFs2_e, kFs1_e, run_fset, kX_e, run_expr, kR_e, run_ret, run_retN, run_brk, run_cnt, run_pass, tstV_e, tru_e, kIf_e, run_ite, kFor_e, run_for, kRs_1, kRs_0, kRaise_e, run_raise, run_faug, tel_e, kxs0_e, kxs_e, xisV_e, xisV_n, kHs_e, runHs_cons, runHs_nil, knH_c, knH_nil, run_try, inI_s, inI_n, kTri_exc, kTri_nx, kTri_ret, outO_ret, outO_nx, Hv.val, Hv.new, Hv.opW, op0, op1, op2, op3, Hv.binW, Hv.binI, Hv.ixW, slW2, slW, lenW, listW, tupleW, negW, sumW, minW, maxW, intW, Hv.intsD, Hv.cmpW, Hv.cmpG, Hv.cmpI, Hv.cmpS, isNonD, isiW, eq_nil_n, preW, isStrD, isIntD, isLstD, truth, setG, setGs, putS_0, putS_s, strNe, wipeS, Hv.noX, srcOf, seqS, tupD, addW, at_new, at_n1, at_n2, at_n3, at_n4, at_o1, at_o2, at_o3, at_o4, set_new, setFld, setFE, setFN, setF_nil, lookupE, lookupN, List.lookup_nil, outI, sizeLine_eq, gP_pos, Option.map_some, Option.map_none, Option.bind_some, Option.bind_none, Option.isSome_some, Option.isSome_none, Nat.reduceAdd, Nat.reduceSub, Nat.reduceLT, Nat.reduceLeDiff, Nat.reduceEqDiff, Nat.reduceBEq, Nat.reduceBNe, Int.reduceEq, Int.reduceLT, Int.reduceLE, Int.reduceAdd, Int.reduceMul, Int.reduceSub, Int.reduceNeg, Int.reduceToNat, Int.reducePow, List.replicate, List.cons_append, List.nil_append, List.getElem?_cons_zero, List.getElem?_cons_succ, List.getElem?_nil, List.set_cons_succ, List.set_cons_zero, if_true, if_false, ite_true, ite_false, Bool.false_eq_true, Bool.not_true, Bool.not_false, Bool.and_true, Bool.true_and, Bool.or_true, Bool.true_or, Bool.or_false, Bool.false_or, Bool.and_false, Bool.false_and, reduceCtorEq, eq_self, decide_true, decide_false, decide_not, List.take_succ_cons, List.take_zero, List.length_map, Int.toNat_natCast, fnG_0, fnG_1, fnG_2, fnG_3, fnG_4, fnG_5, fnG_6, fnG_7, fnG_8, out_ret, out_nx, out_exc, gcR_ok1, gcv_pl0, gcv_pl, gcv_p2, gcv_p3, gcv_p4, gcv_p5, gcv_p6, gcv_new, gcv_n2, gcv_n3, gcv_set0, gcv_set, gcv_set_new, gcR_x0, gcR_x00, gcR_x1, gcR_x10, bne_self_eq_false, beq_self_eq_true, bne_iff_ne, ne_eq, not_true_eq_false, not_false_eq_true, and_self, and_true, true_and, and_false, false_and, or_true, true_or, or_false, false_or]⟩
  obtain ⟨r, e, S', rfl⟩ := hb
  exact ⟨S', e⟩
end L14
namespace L14
open PySem PySem.Spec
open PyProof.Rows hiding St
open L2 Hv
def topS (i : Nat) : Stmt := PySem.Challenge.pw_redquill_k14_out_of_place.main.body.getD i (.Pass ⟨0, 0, 0, 0⟩)
def clsB : Stmt → List Stmt
  | .ClassDef _ _ _ b .. => b
  | _ => []
def methS (i j : Nat) : Stmt := (clsB (topS i)).getD j (.Pass ⟨0, 0, 0, 0⟩)
def bl : List Str := ["ValueError", "isinstance", "len", "list", "range", "sum"]
abbrev s_plain_init : Stmt := methS 14 0
theorem sc_plain_init : FnScope N_plain_init ["self", "text"] (defScope s_plain_init) := ⟨rfl, rfl, rfl, by decide +kernel, rfl, by decide +kernel, by decide +kernel⟩
theorem ck_plain_init : chkTs bl false N_plain_init (defScope s_plain_init) b_plain_init (defBody s_plain_init) = true := by decide +kernel
abbrev s_plain_rows : Stmt := methS 14 1
theorem sc_plain_rows : FnScope N_plain_rows ["self"] (defScope s_plain_rows) := ⟨rfl, rfl, rfl, by decide +kernel, rfl, by decide +kernel, by decide +kernel⟩
theorem ck_plain_rows : chkTs bl false N_plain_rows (defScope s_plain_rows) b_plain_rows (defBody s_plain_rows) = true := by decide +kernel
abbrev s_plain_ask_gap : Stmt := methS 14 2
theorem sc_plain_ask_gap : FnScope N_plain_ask_gap ["self", "at"] (defScope s_plain_ask_gap) := ⟨rfl, rfl, rfl, by decide +kernel, rfl, by decide +kernel, by decide +kernel⟩
theorem ck_plain_ask_gap : chkTs bl false N_plain_ask_gap (defScope s_plain_ask_gap) b_plain_ask_gap (defBody s_plain_ask_gap) = true := by decide +kernel
abbrev s_plain_ask_stretch : Stmt := methS 14 3
theorem sc_plain_ask_stretch : FnScope N_plain_ask_stretch ["self", "at", "to"] (defScope s_plain_ask_stretch) := ⟨rfl, rfl, rfl, by decide +kernel, rfl, by decide +kernel, by decide +kernel⟩
theorem ck_plain_ask_stretch : chkTs bl false N_plain_ask_stretch (defScope s_plain_ask_stretch) b_plain_ask_stretch (defBody s_plain_ask_stretch) = true := by decide +kernel
abbrev s_plain_put : Stmt := methS 14 4
theorem sc_plain_put : FnScope N_plain_put ["self", "at", "signs"] (defScope s_plain_put) := ⟨rfl, rfl, rfl, by decide +kernel, rfl, by decide +kernel, by decide +kernel⟩
theorem ck_plain_put : chkTs bl false N_plain_put (defScope s_plain_put) b_plain_put (defBody s_plain_put) = true := by decide +kernel
abbrev s_plain_strike : Stmt := methS 14 5
theorem sc_plain_strike : FnScope N_plain_strike ["self", "at", "to"] (defScope s_plain_strike) := ⟨rfl, rfl, rfl, by decide +kernel, rfl, by decide +kernel, by decide +kernel⟩
theorem ck_plain_strike : chkTs bl false N_plain_strike (defScope s_plain_strike) b_plain_strike (defBody s_plain_strike) = true := by decide +kernel
abbrev s_plain_dress : Stmt := methS 14 6
theorem sc_plain_dress : FnScope N_plain_dress ["self", "at", "to", "word"] (defScope s_plain_dress) := ⟨rfl, rfl, rfl, by decide +kernel, rfl, by decide +kernel, by decide +kernel⟩
theorem ck_plain_dress : chkTs bl false N_plain_dress (defScope s_plain_dress) b_plain_dress (defBody s_plain_dress) = true := by decide +kernel
abbrev s_plain_move : Stmt := methS 14 7
theorem sc_plain_move : FnScope N_plain_move ["self", "at", "to", "goal"] (defScope s_plain_move) := ⟨rfl, rfl, rfl, by decide +kernel, rfl, by decide +kernel, by decide +kernel⟩
theorem ck_plain_move : chkTs bl false N_plain_move (defScope s_plain_move) b_plain_move (defBody s_plain_move) = true := by decide +kernel
abbrev s_law_drawn : Stmt := topS 16
theorem sc_law_drawn : FnScope N_law_drawn ["_law_cell", "_law_place"] (defScope s_law_drawn) := ⟨rfl, rfl, rfl, by decide +kernel, rfl, by decide +kernel, by decide +kernel⟩
theorem ck_law_drawn : chkTs bl false N_law_drawn (defScope s_law_drawn) b_law_drawn (defBody s_law_drawn) = true := by decide +kernel
abbrev s_law_number : Stmt := topS 17
theorem sc_law_number : FnScope N_law_number ["_law_cell", "_law_place", "_law_many"] (defScope s_law_number) := ⟨rfl, rfl, rfl, by decide +kernel, rfl, by decide +kernel, by decide +kernel⟩
theorem ck_law_number : chkTs bl false N_law_number (defScope s_law_number) b_law_number (defBody s_law_number) = true := by decide +kernel
abbrev s_law_due : Stmt := topS 18
theorem sc_law_due : FnScope N_law_due ["_law_word", "_law_at", "_law_to", "_law_goal", "_law_many"] (defScope s_law_due) := ⟨rfl, rfl, rfl, by decide +kernel, rfl, by decide +kernel, by decide +kernel⟩
theorem ck_law_due : chkTs bl false N_law_due (defScope s_law_due) b_law_due (defBody s_law_due) = true := by decide +kernel
abbrev s_law_does : Stmt := topS 19
theorem sc_law_does : FnScope N_law_does ["_law_plain", "_law_word", "_law_at", "_law_to", "_law_goal"] (defScope s_law_does) := ⟨rfl, rfl, rfl, by decide +kernel, rfl, by decide +kernel, by decide +kernel⟩
theorem ck_law_does : chkTs bl false N_law_does (defScope s_law_does) b_law_does (defBody s_law_does) = true := by decide +kernel
abbrev s_law_refused : Stmt := topS 20
theorem sc_law_refused : FnScope N_law_refused ["_law_plain", "_law_word", "_law_at", "_law_to", "_law_goal"] (defScope s_law_refused) := ⟨rfl, rfl, rfl, by decide +kernel, rfl, by decide +kernel, by decide +kernel⟩
theorem ck_law_refused : chkTs bl false N_law_refused (defScope s_law_refused) b_law_refused (defBody s_law_refused) = true := by decide +kernel
abbrev s_law : Stmt := topS 21
theorem sc_law : FnScope N_law ["_law_script"] (defScope s_law) := ⟨rfl, rfl, rfl, by decide +kernel, rfl, by decide +kernel, by decide +kernel⟩
theorem ck_law : chkTs bl false N_law (defScope s_law) b_law (defBody s_law) = true := by decide +kernel
end L14
namespace L14
open PySem PySem.Spec
open PyProof.Rows hiding St
open L2 ClX Hv
theorem scE1 : FnScope ["self", "at"] ["self", "at"] (defScope (methS 2 0)) := ⟨rfl, rfl, rfl, by decide +kernel, rfl, by decide +kernel, by decide +kernel⟩
theorem ckE1 : initForm "QuillError" "out of place" "at" (defScope (methS 2 0)) (defBody (methS 2 0)) = true := by decide +kernel
theorem all_mk {l : PySem.W.OpenLaw} {w : World} {K : PySem.W.Frag} {h : Heap} {mg : Str → Option Value} {fa f1 f2 f3 f4 f5 f6 f7 f8 f9 f10 f11 f12 f13 f14 C0 C1 C2 C3 C4 C5 C6 C7 C8 C9 C10 C11 C12 : Addr} (X : K.In h) (G : h.Ns mainGlobals mg) (hfa : mg "law" = some (.ref fa))
    {od1 an1 : Option Addr} {sl1 : Array (Option Value)} {oc1 kV1 dc1 pm1 cd1 ct1 : Value}
    {od2 an2 : Option Addr} {sl2 : Array (Option Value)} {oc2 kV2 dc2 pm2 cd2 ct2 : Value}
    {od3 an3 : Option Addr} {sl3 : Array (Option Value)} {oc3 kV3 dc3 pm3 cd3 ct3 : Value}
    {od4 an4 : Option Addr} {sl4 : Array (Option Value)} {oc4 kV4 dc4 pm4 cd4 ct4 : Value}
    {od5 an5 : Option Addr} {sl5 : Array (Option Value)} {oc5 kV5 dc5 pm5 cd5 ct5 : Value}
    {od6 an6 : Option Addr} {sl6 : Array (Option Value)} {oc6 kV6 dc6 pm6 cd6 ct6 : Value}
    {od7 an7 : Option Addr} {sl7 : Array (Option Value)} {oc7 kV7 dc7 pm7 cd7 ct7 : Value}
    {T7 : Addr} {oT7 : Value} {odT7 : Option Addr} {nT7 : Nat} {slT7 : Array (Option Value)} {tk7_0 : Tok} 
    {od8 an8 : Option Addr} {sl8 : Array (Option Value)} {oc8 kV8 dc8 pm8 cd8 ct8 : Value}
    {od9 an9 : Option Addr} {sl9 : Array (Option Value)} {oc9 kV9 dc9 pm9 cd9 ct9 : Value}
    {od10 an10 : Option Addr} {sl10 : Array (Option Value)} {oc10 kV10 dc10 pm10 cd10 ct10 : Value}
    {od11 an11 : Option Addr} {sl11 : Array (Option Value)} {oc11 kV11 dc11 pm11 cd11 ct11 : Value}
    {od12 an12 : Option Addr} {sl12 : Array (Option Value)} {oc12 kV12 dc12 pm12 cd12 ct12 : Value}
    {od13 an13 : Option Addr} {sl13 : Array (Option Value)} {oc13 kV13 dc13 pm13 cd13 ct13 : Value}
    {od14 an14 : Option Addr} {sl14 : Array (Option Value)} {oc14 kV14 dc14 pm14 cd14 ct14 : Value}
    {nm1 qn1 : Str} {Nn1 : Addr} {bs1 bm1 : List Value} {sn1 : List Str} {sub1 : List Value} {ab1 : Bool} {col1 : Option Bool} {dd1 : Option Addr} {m0_1 m1_1 m2_1 m3_1 m5_1 : Option Value} {fI1 : Addr} {odI1 anI1 : Option Addr} {slI1 : Array (Option Value)} {ocI1 kVI1 dcI1 pmI1 cdI1 ctI1 : Value}
    (z1 : PySem.W.nsIn K mainGlobals "ValueError" = some none)
    (z2 : PySem.W.nsIn K mainGlobals "isinstance" = some none)
    (z3 : PySem.W.nsIn K mainGlobals "len" = some none)
    (z4 : PySem.W.nsIn K mainGlobals "list" = some none)
    (z5 : PySem.W.nsIn K mainGlobals "range" = some none)
    (z6 : PySem.W.nsIn K mainGlobals "sum" = some none)
    (a9 : PySem.W.nsIn K mainGlobals "_law_drawn" = some (some (.ref f9)))
    (a10 : PySem.W.nsIn K mainGlobals "_law_number" = some (some (.ref f10)))
    (a11 : PySem.W.nsIn K mainGlobals "_law_due" = some (some (.ref f11)))
    (a12 : PySem.W.nsIn K mainGlobals "_law_does" = some (some (.ref f12)))
    (a13 : PySem.W.nsIn K mainGlobals "_law_refused" = some (some (.ref f13)))
    (a14 : PySem.W.nsIn K mainGlobals "law" = some (some (.ref f14)))
    (cg0 : PySem.W.nsIn K mainGlobals "QuillError" = some (some (.ref C0)))
    (cg1 : PySem.W.nsIn K mainGlobals "OutOfPlace" = some (some (.ref C1)))
    (cg2 : PySem.W.nsIn K mainGlobals "NoStroke" = some (some (.ref C2)))
    (cg3 : PySem.W.nsIn K mainGlobals "Decided" = some (some (.ref C3)))
    (cg4 : PySem.W.nsIn K mainGlobals "NotYours" = some (some (.ref C4)))
    (cg5 : PySem.W.nsIn K mainGlobals "Leaned" = some (some (.ref C5)))
    (cg6 : PySem.W.nsIn K mainGlobals "OtherText" = some (some (.ref C6)))
    (cg7 : PySem.W.nsIn K mainGlobals "Twice" = some (some (.ref C7)))
    (cg8 : PySem.W.nsIn K mainGlobals "NoNote" = some (some (.ref C8)))
    (cg9 : PySem.W.nsIn K mainGlobals "TooDeep" = some (some (.ref C9)))
    (cg10 : PySem.W.nsIn K mainGlobals "NoPaper" = some (some (.ref C10)))
    (cg11 : PySem.W.nsIn K mainGlobals "NoRow" = some (some (.ref C11)))
    (cg12 : PySem.W.nsIn K mainGlobals "Plain" = some (some (.ref C12)))
    (iC1 : PySem.W.findIn K (.ref C1) "__init__" = some (some (.ref fI1)))
    (m12_init : PySem.W.findIn K (.ref C12) "__init__" = some (some (.ref f1)))
    (m12_rows : PySem.W.findIn K (.ref C12) "rows" = some (some (.ref f2)))
    (m12_ask_gap : PySem.W.findIn K (.ref C12) "ask_gap" = some (some (.ref f3)))
    (m12_ask_stretch : PySem.W.findIn K (.ref C12) "ask_stretch" = some (some (.ref f4)))
    (m12_put : PySem.W.findIn K (.ref C12) "put" = some (some (.ref f5)))
    (m12_strike : PySem.W.findIn K (.ref C12) "strike" = some (some (.ref f6)))
    (m12_dress : PySem.W.findIn K (.ref C12) "dress" = some (some (.ref f7)))
    (m12_move : PySem.W.findIn K (.ref C12) "move" = some (some (.ref f8)))
    (l1 : K.lookup f1 = some ⟨oc1, od1, .func (PySem.W.fnOf "__init__" "Plain.__init__" (defArgs s_plain_init) (defBody s_plain_init) (defScope s_plain_init) .none kV1 dc1 pm1 an1 cd1 ct1), sl1⟩)
    (c1 : PySem.W.codeIn K cd1 "Plain.__init__" = true)
    (k1 : PySem.W.keepIn K (.ref f1) = true)
    (l2 : K.lookup f2 = some ⟨oc2, od2, .func (PySem.W.fnOf "rows" "Plain.rows" (defArgs s_plain_rows) (defBody s_plain_rows) (defScope s_plain_rows) .none kV2 dc2 pm2 an2 cd2 ct2), sl2⟩)
    (c2 : PySem.W.codeIn K cd2 "Plain.rows" = true)
    (k2 : PySem.W.keepIn K (.ref f2) = true)
    (l3 : K.lookup f3 = some ⟨oc3, od3, .func (PySem.W.fnOf "ask_gap" "Plain.ask_gap" (defArgs s_plain_ask_gap) (defBody s_plain_ask_gap) (defScope s_plain_ask_gap) .none kV3 dc3 pm3 an3 cd3 ct3), sl3⟩)
    (c3 : PySem.W.codeIn K cd3 "Plain.ask_gap" = true)
    (k3 : PySem.W.keepIn K (.ref f3) = true)
    (l4 : K.lookup f4 = some ⟨oc4, od4, .func (PySem.W.fnOf "ask_stretch" "Plain.ask_stretch" (defArgs s_plain_ask_stretch) (defBody s_plain_ask_stretch) (defScope s_plain_ask_stretch) .none kV4 dc4 pm4 an4 cd4 ct4), sl4⟩)
    (c4 : PySem.W.codeIn K cd4 "Plain.ask_stretch" = true)
    (k4 : PySem.W.keepIn K (.ref f4) = true)
    (l5 : K.lookup f5 = some ⟨oc5, od5, .func (PySem.W.fnOf "put" "Plain.put" (defArgs s_plain_put) (defBody s_plain_put) (defScope s_plain_put) .none kV5 dc5 pm5 an5 cd5 ct5), sl5⟩)
    (c5 : PySem.W.codeIn K cd5 "Plain.put" = true)
    (k5 : PySem.W.keepIn K (.ref f5) = true)
    (l6 : K.lookup f6 = some ⟨oc6, od6, .func (PySem.W.fnOf "strike" "Plain.strike" (defArgs s_plain_strike) (defBody s_plain_strike) (defScope s_plain_strike) .none kV6 dc6 pm6 an6 cd6 ct6), sl6⟩)
    (c6 : PySem.W.codeIn K cd6 "Plain.strike" = true)
    (k6 : PySem.W.keepIn K (.ref f6) = true)
    (l7 : K.lookup f7 = some ⟨oc7, od7, .func (PySem.W.fnOf "dress" "Plain.dress" (defArgs s_plain_dress) (defBody s_plain_dress) (defScope s_plain_dress) (.ref T7) kV7 dc7 pm7 an7 cd7 ct7), sl7⟩)
    (d7 : K.lookup T7 = some ⟨oT7, odT7, .seq #[.str "" tk7_0] nT7, slT7⟩)
    (c7 : PySem.W.codeIn K cd7 "Plain.dress" = true)
    (k7 : PySem.W.keepIn K (.ref f7) = true)
    (l8 : K.lookup f8 = some ⟨oc8, od8, .func (PySem.W.fnOf "move" "Plain.move" (defArgs s_plain_move) (defBody s_plain_move) (defScope s_plain_move) .none kV8 dc8 pm8 an8 cd8 ct8), sl8⟩)
    (c8 : PySem.W.codeIn K cd8 "Plain.move" = true)
    (k8 : PySem.W.keepIn K (.ref f8) = true)
    (l9 : K.lookup f9 = some ⟨oc9, od9, .func (PySem.W.fnOf "_law_drawn" "_law_drawn" (defArgs s_law_drawn) (defBody s_law_drawn) (defScope s_law_drawn) .none kV9 dc9 pm9 an9 cd9 ct9), sl9⟩)
    (c9 : PySem.W.codeIn K cd9 "_law_drawn" = true)
    (k9 : PySem.W.keepIn K (.ref f9) = true)
    (l10 : K.lookup f10 = some ⟨oc10, od10, .func (PySem.W.fnOf "_law_number" "_law_number" (defArgs s_law_number) (defBody s_law_number) (defScope s_law_number) .none kV10 dc10 pm10 an10 cd10 ct10), sl10⟩)
    (c10 : PySem.W.codeIn K cd10 "_law_number" = true)
    (k10 : PySem.W.keepIn K (.ref f10) = true)
    (l11 : K.lookup f11 = some ⟨oc11, od11, .func (PySem.W.fnOf "_law_due" "_law_due" (defArgs s_law_due) (defBody s_law_due) (defScope s_law_due) .none kV11 dc11 pm11 an11 cd11 ct11), sl11⟩)
    (c11 : PySem.W.codeIn K cd11 "_law_due" = true)
    (k11 : PySem.W.keepIn K (.ref f11) = true)
    (l12 : K.lookup f12 = some ⟨oc12, od12, .func (PySem.W.fnOf "_law_does" "_law_does" (defArgs s_law_does) (defBody s_law_does) (defScope s_law_does) .none kV12 dc12 pm12 an12 cd12 ct12), sl12⟩)
    (c12 : PySem.W.codeIn K cd12 "_law_does" = true)
    (k12 : PySem.W.keepIn K (.ref f12) = true)
    (l13 : K.lookup f13 = some ⟨oc13, od13, .func (PySem.W.fnOf "_law_refused" "_law_refused" (defArgs s_law_refused) (defBody s_law_refused) (defScope s_law_refused) .none kV13 dc13 pm13 an13 cd13 ct13), sl13⟩)
    (c13 : PySem.W.codeIn K cd13 "_law_refused" = true)
    (k13 : PySem.W.keepIn K (.ref f13) = true)
    (l14 : K.lookup f14 = some ⟨oc14, od14, .func (PySem.W.fnOf "law" "law" (defArgs s_law) (defBody s_law) (defScope s_law) .none kV14 dc14 pm14 an14 cd14 ct14), sl14⟩)
    (c14 : PySem.W.codeIn K cd14 "law" = true)
    (k14 : PySem.W.keepIn K (.ref f14) = true)
    (p12 : PySem.W.plainGet K C12 Str.empty = true)
    (h12 : PySem.W.hasDictIn K C12 = true)
    (o12 : PySem.W.plainOver K C12 = true)
    (s12 : PySem.W.findIn K (.ref C12) "__setattr__" = some (some (.builtin "object.__setattr__")))
    (n12_kept : PySem.W.findIn K (.ref C12) "kept" = some none)
    (q0 : PySem.W.keepIn K (.ref C0) = true)
    (q1 : PySem.W.keepIn K (.ref C1) = true)
    (q2 : PySem.W.keepIn K (.ref C2) = true)
    (q3 : PySem.W.keepIn K (.ref C3) = true)
    (q4 : PySem.W.keepIn K (.ref C4) = true)
    (q5 : PySem.W.keepIn K (.ref C5) = true)
    (q6 : PySem.W.keepIn K (.ref C6) = true)
    (q7 : PySem.W.keepIn K (.ref C7) = true)
    (q8 : PySem.W.keepIn K (.ref C8) = true)
    (q9 : PySem.W.keepIn K (.ref C9) = true)
    (q10 : PySem.W.keepIn K (.ref C10) = true)
    (q11 : PySem.W.keepIn K (.ref C11) = true)
    (il1 : PySem.W.isClsIn K C1 = true)
    (ga1 : PySem.W.findIn K (.ref C1) "__getattribute__" = some (some (.builtin "BaseException.__getattribute__")))
    (gg1 : PySem.W.findIn K (.ref C1) "__getattr__" = some none)
    (sb1 : PySem.W.subIn K (.ref C1) (.type "BaseException") = some true)
    (fc1 : PySem.W.findIn K (.ref C1) "__class__" = some (some (.builtin "object.__class__")))
    (spc : PySem.W.specialIn K (.builtin "object.__class__") "__get__" = some (some (.builtin "getset_descriptor.__get__")))
    (tkc : PySem.W.takesIn K (.builtin "object.__class__") = some true)
    (mr1 : PySem.W.mroIn K C1 (.type "object") = some true)
    (sb0 : PySem.W.subIn K (.ref C0) (.type "BaseException") = some true)
    (h0 : PySem.W.hasDictIn K C0 = true)
    (ty0 : PySem.W.typeIn K (.ref C0) = some (.type "type"))
    (il0 : PySem.W.isClsIn K C0 = true)
    (su1_0 : PySem.W.subIn K (.ref C1) (.ref C0) = some true)
    (ne1_0 : decide (C1 = C0) = false)
    (h1 : PySem.W.hasDictIn K C1 = true)
    (ty1 : PySem.W.typeIn K (.ref C1) = some (.type "type"))
    (su1_1 : PySem.W.subIn K (.ref C1) (.ref C1) = some true)
    (sb2 : PySem.W.subIn K (.ref C2) (.type "BaseException") = some true)
    (h2 : PySem.W.hasDictIn K C2 = true)
    (ty2 : PySem.W.typeIn K (.ref C2) = some (.type "type"))
    (il2 : PySem.W.isClsIn K C2 = true)
    (su1_2 : PySem.W.subIn K (.ref C1) (.ref C2) = some false)
    (ne1_2 : decide (C1 = C2) = false)
    (sb3 : PySem.W.subIn K (.ref C3) (.type "BaseException") = some true)
    (h3 : PySem.W.hasDictIn K C3 = true)
    (ty3 : PySem.W.typeIn K (.ref C3) = some (.type "type"))
    (il3 : PySem.W.isClsIn K C3 = true)
    (su1_3 : PySem.W.subIn K (.ref C1) (.ref C3) = some false)
    (ne1_3 : decide (C1 = C3) = false)
    (sb4 : PySem.W.subIn K (.ref C4) (.type "BaseException") = some true)
    (h4 : PySem.W.hasDictIn K C4 = true)
    (ty4 : PySem.W.typeIn K (.ref C4) = some (.type "type"))
    (il4 : PySem.W.isClsIn K C4 = true)
    (su1_4 : PySem.W.subIn K (.ref C1) (.ref C4) = some false)
    (ne1_4 : decide (C1 = C4) = false)
    (sb5 : PySem.W.subIn K (.ref C5) (.type "BaseException") = some true)
    (h5 : PySem.W.hasDictIn K C5 = true)
    (ty5 : PySem.W.typeIn K (.ref C5) = some (.type "type"))
    (il5 : PySem.W.isClsIn K C5 = true)
    (su1_5 : PySem.W.subIn K (.ref C1) (.ref C5) = some false)
    (ne1_5 : decide (C1 = C5) = false)
    (sb6 : PySem.W.subIn K (.ref C6) (.type "BaseException") = some true)
    (h6 : PySem.W.hasDictIn K C6 = true)
    (ty6 : PySem.W.typeIn K (.ref C6) = some (.type "type"))
    (il6 : PySem.W.isClsIn K C6 = true)
    (su1_6 : PySem.W.subIn K (.ref C1) (.ref C6) = some false)
    (ne1_6 : decide (C1 = C6) = false)
    (sb7 : PySem.W.subIn K (.ref C7) (.type "BaseException") = some true)
    (h7 : PySem.W.hasDictIn K C7 = true)
    (ty7 : PySem.W.typeIn K (.ref C7) = some (.type "type"))
    (il7 : PySem.W.isClsIn K C7 = true)
    (su1_7 : PySem.W.subIn K (.ref C1) (.ref C7) = some false)
    (ne1_7 : decide (C1 = C7) = false)
    (sb8 : PySem.W.subIn K (.ref C8) (.type "BaseException") = some true)
    (h8 : PySem.W.hasDictIn K C8 = true)
    (ty8 : PySem.W.typeIn K (.ref C8) = some (.type "type"))
    (il8 : PySem.W.isClsIn K C8 = true)
    (su1_8 : PySem.W.subIn K (.ref C1) (.ref C8) = some false)
    (ne1_8 : decide (C1 = C8) = false)
    (sb9 : PySem.W.subIn K (.ref C9) (.type "BaseException") = some true)
    (h9 : PySem.W.hasDictIn K C9 = true)
    (ty9 : PySem.W.typeIn K (.ref C9) = some (.type "type"))
    (il9 : PySem.W.isClsIn K C9 = true)
    (su1_9 : PySem.W.subIn K (.ref C1) (.ref C9) = some false)
    (ne1_9 : decide (C1 = C9) = false)
    (sb10 : PySem.W.subIn K (.ref C10) (.type "BaseException") = some true)
    (h10 : PySem.W.hasDictIn K C10 = true)
    (ty10 : PySem.W.typeIn K (.ref C10) = some (.type "type"))
    (il10 : PySem.W.isClsIn K C10 = true)
    (su1_10 : PySem.W.subIn K (.ref C1) (.ref C10) = some false)
    (ne1_10 : decide (C1 = C10) = false)
    (sb11 : PySem.W.subIn K (.ref C11) (.type "BaseException") = some true)
    (h11 : PySem.W.hasDictIn K C11 = true)
    (ty11 : PySem.W.typeIn K (.ref C11) = some (.type "type"))
    (il11 : PySem.W.isClsIn K C11 = true)
    (su1_11 : PySem.W.subIn K (.ref C1) (.ref C11) = some false)
    (ne1_11 : decide (C1 = C11) = false)
    (sv1 : PySem.W.subIn K (.ref C1) (.type "ValueError") = some true)
    (n1_at : PySem.W.findIn K (.ref C1) "at" = some none)
    (xC1 : K.lookup C1 = some (excClassObj nm1 qn1 C1 Nn1 bs1 bm1 true sn1 sub1 ab1 col1 dd1 m0_1 m1_1 m2_1 m3_1 m5_1 "ValueError.__new__"))
    (xm1 : PySem.HandSPX.refsVE bm1 = true)
    (sa1 : PySem.W.findIn K (.ref C1) "__setattr__" = some (some (.builtin "object.__setattr__")))
    (rQ0 : PySem.W.readsIn K C0 (.type "type") = true)
    (gQ0 : PySem.W.specialIn K (.ref C0) "__getattribute__" = some (some (.builtin "type.__getattribute__")))
    (vQ0 : PySem.W.findCls K (.ref C0) (.type "type") "__init__" = some (.val (.builtin "ValueError.__init__")))
    (tI1 : PySem.W.typeIn K (.ref fI1) = some (.type "function"))
    (lI1 : K.lookup fI1 = some ⟨ocI1, odI1, .func (PySem.W.fnOf "__init__" "OutOfPlace.__init__" (defArgs (methS 2 0)) (defBody (methS 2 0)) (defScope (methS 2 0)) .none kVI1 dcI1 pmI1 anI1 cdI1 ctI1), slI1⟩)
    (cI1 : PySem.W.codeIn K cdI1 "OutOfPlace.__init__" = true)
    (kI1 : PySem.W.keepIn K (.ref fI1) = true)
    (mk12 : PySem.W.makesIn K C12 = true)
    (i1 : PySem.W.isFn K (.ref f1) = true)
    (q12 : PySem.W.keepIn K (.ref C12) = true)
    (i2 : PySem.W.isFn K (.ref f2) = true)
    (i3 : PySem.W.isFn K (.ref f3) = true)
    (i4 : PySem.W.isFn K (.ref f4) = true)
    (i5 : PySem.W.isFn K (.ref f5) = true)
    (i6 : PySem.W.isFn K (.ref f6) = true)
    (i7 : PySem.W.isFn K (.ref f7) = true)
    (i8 : PySem.W.isFn K (.ref f8) = true)
    : ∃ fd : FuncData, (∀ (s : Shared) (v : Value), BindsTo s fd ⟨[v], []⟩ [("_law_script", v)]) ∧ ∀ base : Heap, K.In base → base.Ns mainGlobals mg → L2.FnOk l.prog w K mg base (L2.CX l.prog w) 17 fa fd ["_law_script"] (spA K g_law) := by
  have e := hfa.symm.trans (PySem.W.mg_of X G a14)
  cases e
  have F1 := L2.fun_mk (st := s_plain_init) l1 c1 k1
  have b1 := F1.binds (ps := ["self", "text"]) fun _ _ _ _ _ _ us hl => match us, hl with | [_, _], _ => rfl
  have F2 := L2.fun_mk (st := s_plain_rows) l2 c2 k2
  have b2 := F2.binds (ps := ["self"]) fun _ _ _ _ _ _ us hl => match us, hl with | [_], _ => rfl
  have F3 := L2.fun_mk (st := s_plain_ask_gap) l3 c3 k3
  have b3 := F3.binds (ps := ["self", "at"]) fun _ _ _ _ _ _ us hl => match us, hl with | [_, _], _ => rfl
  have F4 := L2.fun_mk (st := s_plain_ask_stretch) l4 c4 k4
  have b4 := F4.binds (ps := ["self", "at", "to"]) fun _ _ _ _ _ _ us hl => match us, hl with | [_, _, _], _ => rfl
  have F5 := L2.fun_mk (st := s_plain_put) l5 c5 k5
  have b5 := F5.binds (ps := ["self", "at", "signs"]) fun _ _ _ _ _ _ us hl => match us, hl with | [_, _, _], _ => rfl
  have F6 := L2.fun_mk (st := s_plain_strike) l6 c6 k6
  have b6 := F6.binds (ps := ["self", "at", "to"]) fun _ _ _ _ _ _ us hl => match us, hl with | [_, _, _], _ => rfl
  have F7 : FunD K "dress" "Plain.dress" (defArgs s_plain_dress) (defBody s_plain_dress) (defScope s_plain_dress) [.str ""] [] f7 _ := ⟨⟨oc7, od7, .ref T7, kV7, dc7, pm7, an7, cd7, ct7, sl7, rfl, l7, c7, .inr ⟨by simp, T7, _, [.str "" tk7_0], nT7, rfl, d7, rfl, (.cons ⟨_, rfl⟩ .nil)⟩, .inl rfl⟩, k7⟩
  obtain ⟨da7, dv7, b7⟩ := F7.binds1 (ps := ["self", "at", "to", "word"]) 4 1 (by simp) rfl fun _ _ _ _ _ _ _ us its hl hi => match us, hl, its, hi with | [_, _, _, _], _, [_], _ => ⟨_, rfl, rfl⟩
  cases dv7
  obtain ⟨db7, dw7, bb7⟩ := F7.binds1 (ps := ["self", "at", "to", "word"]) 3 0 (by simp) rfl fun _ _ _ _ _ _ _ us its hl hi => match us, hl, its, hi with | [_, _, _], _, [_], _ => ⟨_, rfl, rfl⟩
  have F8 := L2.fun_mk (st := s_plain_move) l8 c8 k8
  have b8 := F8.binds (ps := ["self", "at", "to", "goal"]) fun _ _ _ _ _ _ us hl => match us, hl with | [_, _, _, _], _ => rfl
  have F9 := L2.fun_mk (st := s_law_drawn) l9 c9 k9
  have b9 := F9.binds (ps := ["_law_cell", "_law_place"]) fun _ _ _ _ _ _ us hl => match us, hl with | [_, _], _ => rfl
  have F10 := L2.fun_mk (st := s_law_number) l10 c10 k10
  have b10 := F10.binds (ps := ["_law_cell", "_law_place", "_law_many"]) fun _ _ _ _ _ _ us hl => match us, hl with | [_, _, _], _ => rfl
  have F11 := L2.fun_mk (st := s_law_due) l11 c11 k11
  have b11 := F11.binds (ps := ["_law_word", "_law_at", "_law_to", "_law_goal", "_law_many"]) fun _ _ _ _ _ _ us hl => match us, hl with | [_, _, _, _, _], _ => rfl
  have F12 := L2.fun_mk (st := s_law_does) l12 c12 k12
  have b12 := F12.binds (ps := ["_law_plain", "_law_word", "_law_at", "_law_to", "_law_goal"]) fun _ _ _ _ _ _ us hl => match us, hl with | [_, _, _, _, _], _ => rfl
  have F13 := L2.fun_mk (st := s_law_refused) l13 c13 k13
  have b13 := F13.binds (ps := ["_law_plain", "_law_word", "_law_at", "_law_to", "_law_goal"]) fun _ _ _ _ _ _ us hl => match us, hl with | [_, _, _, _, _], _ => rfl
  have F14 := L2.fun_mk (st := s_law) l14 c14 k14
  have b14 := F14.binds (ps := ["_law_script"]) fun _ _ _ _ _ _ us hl => match us, hl with | [_], _ => rfl
  have hb : ∀ y ∈ bl, mg y = none := by
    intro y hy
    simp only [bl, List.mem_cons, List.not_mem_nil, or_false] at hy
    rcases hy with rfl | rfl | rfl | rfl | rfl | rfl
    · exact PySem.W.mg_none_of X G z1
    · exact PySem.W.mg_none_of X G z2
    · exact PySem.W.mg_none_of X G z3
    · exact PySem.W.mg_none_of X G z4
    · exact PySem.W.mg_none_of X G z5
    · exact PySem.W.mg_none_of X G z6
  refine ⟨PySem.W.fnOf "law" "law" (defArgs s_law) (defBody s_law) (defScope s_law) .none kV14 dc14 pm14 an14 cd14 ct14, fun s v => .of_eq rfl, fun base _ _ => ?_⟩
  have E0 : EnvOk l.prog w K mg base (ccOf [C0, C1, C2, C3, C4, C5, C6, C7, C8, C9, C10, C11, C12]) 0 Gm0 := EnvOk.zero
  have E1 : EnvOk l.prog w K mg base (ccOf [C0, C1, C2, C3, C4, C5, C6, C7, C8, C9, C10, C11, C12]) 0 Gm1 := (E0.fl (⟨p12, h12, o12, s12⟩ : L2.Cls K C12) n12_kept)
  have E2 : EnvOk l.prog w K mg base (ccOf [C0, C1, C2, C3, C4, C5, C6, C7, C8, C9, C10, C11, C12]) 0 Gm2 := E1.cls (PySem.W.mg_of X G cg0) q0
  have E3 : EnvOk l.prog w K mg base (ccOf [C0, C1, C2, C3, C4, C5, C6, C7, C8, C9, C10, C11, C12]) 0 Gm3 := E2.cls (PySem.W.mg_of X G cg1) q1
  have E4 : EnvOk l.prog w K mg base (ccOf [C0, C1, C2, C3, C4, C5, C6, C7, C8, C9, C10, C11, C12]) 0 Gm4 := E3.cls (PySem.W.mg_of X G cg2) q2
  have E5 : EnvOk l.prog w K mg base (ccOf [C0, C1, C2, C3, C4, C5, C6, C7, C8, C9, C10, C11, C12]) 0 Gm5 := E4.cls (PySem.W.mg_of X G cg3) q3
  have E6 : EnvOk l.prog w K mg base (ccOf [C0, C1, C2, C3, C4, C5, C6, C7, C8, C9, C10, C11, C12]) 0 Gm6 := E5.cls (PySem.W.mg_of X G cg4) q4
  have E7 : EnvOk l.prog w K mg base (ccOf [C0, C1, C2, C3, C4, C5, C6, C7, C8, C9, C10, C11, C12]) 0 Gm7 := E6.cls (PySem.W.mg_of X G cg5) q5
  have E8 : EnvOk l.prog w K mg base (ccOf [C0, C1, C2, C3, C4, C5, C6, C7, C8, C9, C10, C11, C12]) 0 Gm8 := E7.cls (PySem.W.mg_of X G cg6) q6
  have E9 : EnvOk l.prog w K mg base (ccOf [C0, C1, C2, C3, C4, C5, C6, C7, C8, C9, C10, C11, C12]) 0 Gm9 := E8.cls (PySem.W.mg_of X G cg7) q7
  have E10 : EnvOk l.prog w K mg base (ccOf [C0, C1, C2, C3, C4, C5, C6, C7, C8, C9, C10, C11, C12]) 0 Gm10 := E9.cls (PySem.W.mg_of X G cg8) q8
  have E11 : EnvOk l.prog w K mg base (ccOf [C0, C1, C2, C3, C4, C5, C6, C7, C8, C9, C10, C11, C12]) 0 Gm11 := E10.cls (PySem.W.mg_of X G cg9) q9
  have E12 : EnvOk l.prog w K mg base (ccOf [C0, C1, C2, C3, C4, C5, C6, C7, C8, C9, C10, C11, C12]) 0 Gm12 := E11.cls (PySem.W.mg_of X G cg10) q10
  have E13 : EnvOk l.prog w K mg base (ccOf [C0, C1, C2, C3, C4, C5, C6, C7, C8, C9, C10, C11, C12]) 0 Gm13 := E12.cls (PySem.W.mg_of X G cg11) q11
  have E14 : EnvOk l.prog w K mg base (ccOf [C0, C1, C2, C3, C4, C5, C6, C7, C8, C9, C10, C11, C12]) 0 Gm14 := E13.sub ⟨il1, ga1, gg1, sb1, fc1, spc, tkc, mr1⟩ ⟨sb0, h0, ty0, il0⟩ su1_0 (.inl (of_decide_eq_false ne1_0))
  have E15 : EnvOk l.prog w K mg base (ccOf [C0, C1, C2, C3, C4, C5, C6, C7, C8, C9, C10, C11, C12]) 0 Gm15 := E14.sub ⟨il1, ga1, gg1, sb1, fc1, spc, tkc, mr1⟩ ⟨sb1, h1, ty1, il1⟩ su1_1 (.inr ⟨rfl, rfl⟩)
  have E16 : EnvOk l.prog w K mg base (ccOf [C0, C1, C2, C3, C4, C5, C6, C7, C8, C9, C10, C11, C12]) 0 Gm16 := E15.sub ⟨il1, ga1, gg1, sb1, fc1, spc, tkc, mr1⟩ ⟨sb2, h2, ty2, il2⟩ su1_2 (.inl (of_decide_eq_false ne1_2))
  have E17 : EnvOk l.prog w K mg base (ccOf [C0, C1, C2, C3, C4, C5, C6, C7, C8, C9, C10, C11, C12]) 0 Gm17 := E16.sub ⟨il1, ga1, gg1, sb1, fc1, spc, tkc, mr1⟩ ⟨sb3, h3, ty3, il3⟩ su1_3 (.inl (of_decide_eq_false ne1_3))
  have E18 : EnvOk l.prog w K mg base (ccOf [C0, C1, C2, C3, C4, C5, C6, C7, C8, C9, C10, C11, C12]) 0 Gm18 := E17.sub ⟨il1, ga1, gg1, sb1, fc1, spc, tkc, mr1⟩ ⟨sb4, h4, ty4, il4⟩ su1_4 (.inl (of_decide_eq_false ne1_4))
  have E19 : EnvOk l.prog w K mg base (ccOf [C0, C1, C2, C3, C4, C5, C6, C7, C8, C9, C10, C11, C12]) 0 Gm19 := E18.sub ⟨il1, ga1, gg1, sb1, fc1, spc, tkc, mr1⟩ ⟨sb5, h5, ty5, il5⟩ su1_5 (.inl (of_decide_eq_false ne1_5))
  have E20 : EnvOk l.prog w K mg base (ccOf [C0, C1, C2, C3, C4, C5, C6, C7, C8, C9, C10, C11, C12]) 0 Gm20 := E19.sub ⟨il1, ga1, gg1, sb1, fc1, spc, tkc, mr1⟩ ⟨sb6, h6, ty6, il6⟩ su1_6 (.inl (of_decide_eq_false ne1_6))
  have E21 : EnvOk l.prog w K mg base (ccOf [C0, C1, C2, C3, C4, C5, C6, C7, C8, C9, C10, C11, C12]) 0 Gm21 := E20.sub ⟨il1, ga1, gg1, sb1, fc1, spc, tkc, mr1⟩ ⟨sb7, h7, ty7, il7⟩ su1_7 (.inl (of_decide_eq_false ne1_7))
  have E22 : EnvOk l.prog w K mg base (ccOf [C0, C1, C2, C3, C4, C5, C6, C7, C8, C9, C10, C11, C12]) 0 Gm22 := E21.sub ⟨il1, ga1, gg1, sb1, fc1, spc, tkc, mr1⟩ ⟨sb8, h8, ty8, il8⟩ su1_8 (.inl (of_decide_eq_false ne1_8))
  have E23 : EnvOk l.prog w K mg base (ccOf [C0, C1, C2, C3, C4, C5, C6, C7, C8, C9, C10, C11, C12]) 0 Gm23 := E22.sub ⟨il1, ga1, gg1, sb1, fc1, spc, tkc, mr1⟩ ⟨sb9, h9, ty9, il9⟩ su1_9 (.inl (of_decide_eq_false ne1_9))
  have E24 : EnvOk l.prog w K mg base (ccOf [C0, C1, C2, C3, C4, C5, C6, C7, C8, C9, C10, C11, C12]) 0 Gm24 := E23.sub ⟨il1, ga1, gg1, sb1, fc1, spc, tkc, mr1⟩ ⟨sb10, h10, ty10, il10⟩ su1_10 (.inl (of_decide_eq_false ne1_10))
  have E25 : EnvOk l.prog w K mg base (ccOf [C0, C1, C2, C3, C4, C5, C6, C7, C8, C9, C10, C11, C12]) 0 Gm25 := E24.sub ⟨il1, ga1, gg1, sb1, fc1, spc, tkc, mr1⟩ ⟨sb11, h11, ty11, il11⟩ su1_11 (.inl (of_decide_eq_false ne1_11))
  have E26 : EnvOk l.prog w K mg base (ccOf [C0, C1, C2, C3, C4, C5, C6, C7, C8, C9, C10, C11, C12]) 0 Gm26 := E25.subV ⟨il1, ga1, gg1, sb1, fc1, spc, tkc, mr1⟩ sv1
  have E27 : EnvOk l.prog w K mg base (ccOf [C0, C1, C2, C3, C4, C5, C6, C7, C8, C9, C10, C11, C12]) 0 Gm27 := E26.xf ⟨ga1, gg1, sb1, h1⟩ n1_at
  have FI1 := L2.fun_mk (st := (methS 2 0)) lI1 cI1 kI1
  have bI1 := FI1.binds (ps := ["self", "at"]) fun _ _ _ _ _ _ us hl => match us, hl with | [_, _], _ => rfl
  have T1x : ErrC K mg "OutOfPlace" "QuillError" "at" C1 C0 fI1 := ⟨PySem.W.mg_of X G cg1, PySem.W.mg_of X G cg0, ⟨⟨nm1, qn1, Nn1, bs1, bm1, sn1, sub1, ab1, col1, dd1, m0_1, m1_1, m2_1, m3_1, m5_1, xC1, xm1⟩, sa1, sb1, ty1, q1⟩, ⟨rQ0, gQ0⟩, vQ0, n1_at, iC1, tI1⟩
  have PI1 : L2.FnOk l.prog w K mg base (L2.CX l.prog w) 1 fI1 _ ["self", "at"] (spInit K "at") := errinit_ok (m := "out of place") FI1 (scE1) T1x ckE1
  have E28 : EnvOk l.prog w K mg base (ccOf [C0, C1, C2, C3, C4, C5, C6, C7, C8, C9, C10, C11, C12]) 2 Gm28 := E27.err T1x (PI1.mono (k := 1) (by decide)) (by decide) bI1
  have P1 := fn_ok F1 sc_plain_init b_plain_init ck_plain_init hb E28
  have P1_12 := P1.mono (k := 3) (by decide)
  have E29 : EnvOk l.prog w K mg base (ccOf [C0, C1, C2, C3, C4, C5, C6, C7, C8, C9, C10, C11, C12]) 4 Gm29 := E28.cons ⟨mk12, m12_init, i1, q12⟩ P1_12 (by decide) (PySem.W.mg_of X G cg12) b1
  have P2 := fn_ok F2 sc_plain_rows b_plain_rows ck_plain_rows hb E29
  have E30 : EnvOk l.prog w K mg base (ccOf [C0, C1, C2, C3, C4, C5, C6, C7, C8, C9, C10, C11, C12]) 5 Gm30 := EnvOk.mono (E29.me P2 (by decide) (⟨p12, h12, o12, s12⟩ : L2.Cls K C12) ⟨m12_rows, i2, k2⟩ b2) (by decide)
  have P3 := fn_ok F3 sc_plain_ask_gap b_plain_ask_gap ck_plain_ask_gap hb E30
  have E31 : EnvOk l.prog w K mg base (ccOf [C0, C1, C2, C3, C4, C5, C6, C7, C8, C9, C10, C11, C12]) 6 Gm31 := EnvOk.mono (E30.me P3 (by decide) (⟨p12, h12, o12, s12⟩ : L2.Cls K C12) ⟨m12_ask_gap, i3, k3⟩ b3) (by decide)
  have P4 := fn_ok F4 sc_plain_ask_stretch b_plain_ask_stretch ck_plain_ask_stretch hb E31
  have E32 : EnvOk l.prog w K mg base (ccOf [C0, C1, C2, C3, C4, C5, C6, C7, C8, C9, C10, C11, C12]) 7 Gm32 := EnvOk.mono (E31.me P4 (by decide) (⟨p12, h12, o12, s12⟩ : L2.Cls K C12) ⟨m12_ask_stretch, i4, k4⟩ b4) (by decide)
  have P5 := fn_ok F5 sc_plain_put b_plain_put ck_plain_put hb E32
  have E33 : EnvOk l.prog w K mg base (ccOf [C0, C1, C2, C3, C4, C5, C6, C7, C8, C9, C10, C11, C12]) 8 Gm33 := EnvOk.mono (E32.me P5 (by decide) (⟨p12, h12, o12, s12⟩ : L2.Cls K C12) ⟨m12_put, i5, k5⟩ b5) (by decide)
  have P6 := fn_ok F6 sc_plain_strike b_plain_strike ck_plain_strike hb E33
  have E34 : EnvOk l.prog w K mg base (ccOf [C0, C1, C2, C3, C4, C5, C6, C7, C8, C9, C10, C11, C12]) 9 Gm34 := EnvOk.mono (E33.me P6 (by decide) (⟨p12, h12, o12, s12⟩ : L2.Cls K C12) ⟨m12_strike, i6, k6⟩ b6) (by decide)
  have P7 := fn_okD F7 sc_plain_dress b_plain_dress ck_plain_dress hb E34
  have E35 : EnvOk l.prog w K mg base (ccOf [C0, C1, C2, C3, C4, C5, C6, C7, C8, C9, C10, C11, C12]) 10 Gm35 := EnvOk.mono (E34.meD (dd := [.str ""]) P7 (by decide) (⟨p12, h12, o12, s12⟩ : L2.Cls K C12) ⟨m12_dress, i7, k7⟩ b7 bb7 dw7 (fun ca H => .cons (by unfold RepD; rfl) (.nil))) (by decide)
  have P8 := fn_ok F8 sc_plain_move b_plain_move ck_plain_move hb E35
  have E36 : EnvOk l.prog w K mg base (ccOf [C0, C1, C2, C3, C4, C5, C6, C7, C8, C9, C10, C11, C12]) 11 Gm36 := EnvOk.mono (E35.me P8 (by decide) (⟨p12, h12, o12, s12⟩ : L2.Cls K C12) ⟨m12_move, i8, k8⟩ b8) (by decide)
  have P9 := fn_ok F9 sc_law_drawn b_law_drawn ck_law_drawn hb E36
  have E37 : EnvOk l.prog w K mg base (ccOf [C0, C1, C2, C3, C4, C5, C6, C7, C8, C9, C10, C11, C12]) 12 Gm37 := EnvOk.mono (E36.fn P9 (by decide) (PySem.W.mg_of X G a9) k9 b9) (by decide)
  have P10 := fn_ok F10 sc_law_number b_law_number ck_law_number hb E37
  have E38 : EnvOk l.prog w K mg base (ccOf [C0, C1, C2, C3, C4, C5, C6, C7, C8, C9, C10, C11, C12]) 13 Gm38 := EnvOk.mono (E37.fn P10 (by decide) (PySem.W.mg_of X G a10) k10 b10) (by decide)
  have P11 := fn_ok F11 sc_law_due b_law_due ck_law_due hb E38
  have E39 : EnvOk l.prog w K mg base (ccOf [C0, C1, C2, C3, C4, C5, C6, C7, C8, C9, C10, C11, C12]) 14 Gm39 := EnvOk.mono (E38.fn P11 (by decide) (PySem.W.mg_of X G a11) k11 b11) (by decide)
  have P12 := fn_ok F12 sc_law_does b_law_does ck_law_does hb E39
  have E40 : EnvOk l.prog w K mg base (ccOf [C0, C1, C2, C3, C4, C5, C6, C7, C8, C9, C10, C11, C12]) 15 Gm40 := EnvOk.mono (E39.fn P12 (by decide) (PySem.W.mg_of X G a12) k12 b12) (by decide)
  have P13 := fn_ok F13 sc_law_refused b_law_refused ck_law_refused hb E40
  have E41 : EnvOk l.prog w K mg base (ccOf [C0, C1, C2, C3, C4, C5, C6, C7, C8, C9, C10, C11, C12]) 16 Gm41 := EnvOk.mono (E40.fn P13 (by decide) (PySem.W.mg_of X G a13) k13 b13) (by decide)
  have P14 := fn_ok F14 sc_law b_law ck_law hb E41
  exact fn_any P14
end L14
open PySem PySem.W PyProof.Rows
set_option maxHeartbeats 0 in
theorem PySem.Challenge.cw_redquill_k14_out_of_place_holds : PySem.Challenge.rw_redquill_k14_out_of_place.Holds := by
  w_on; o_law; k_head; (case hw => w_witness2)
  k_fill
  refine L2.walk_of (l := PySem.Challenge.rw_redquill_k14_out_of_place) (n := 63) (k := 17) (x := "_law_script") (CX := fun w => L2.CX PySem.Challenge.rw_redquill_k14_out_of_place.prog w) (sp := fun w => Hv.spA _ L14.g_law) rfl (by decide) rfl ⟨rfl, by decide, by decide⟩ (fun w h Y => PySem.W.kIn_of Y) ?F (fun w H a ns hl hO hS => let ⟨_, h⟩ := L14.run_law hl; Hv.law_start hO hS h) (fun _ _ _ _ _ h => Hv.law_nope h)
  case F =>
    intro w mg fa h KX G hmg
    refine' L14.all_mk KX G hmg ?z1 ?z2 ?z3 ?z4 ?z5 ?z6 ?a9 ?a10 ?a11 ?a12 ?a13 ?a14 ?cg0 ?cg1 ?cg2 ?cg3 ?cg4 ?cg5 ?cg6 ?cg7 ?cg8 ?cg9 ?cg10 ?cg11 ?cg12 ?iC1 ?m12_init ?m12_rows ?m12_ask_gap ?m12_ask_stretch ?m12_put ?m12_strike ?m12_dress ?m12_move ?l1 ?c1 ?k1 ?l2 ?c2 ?k2 ?l3 ?c3 ?k3 ?l4 ?c4 ?k4 ?l5 ?c5 ?k5 ?l6 ?c6 ?k6 ?l7 ?d7 ?c7 ?k7 ?l8 ?c8 ?k8 ?l9 ?c9 ?k9 ?l10 ?c10 ?k10 ?l11 ?c11 ?k11 ?l12 ?c12 ?k12 ?l13 ?c13 ?k13 ?l14 ?c14 ?k14 ?p12 ?h12 ?o12 ?s12 ?n12_kept ?q0 ?q1 ?q2 ?q3 ?q4 ?q5 ?q6 ?q7 ?q8 ?q9 ?q10 ?q11 ?il1 ?ga1 ?gg1 ?sb1 ?fc1 ?spc ?tkc ?mr1 ?sb0 ?h0 ?ty0 ?il0 ?su1_0 ?ne1_0 ?h1 ?ty1 ?su1_1 ?sb2 ?h2 ?ty2 ?il2 ?su1_2 ?ne1_2 ?sb3 ?h3 ?ty3 ?il3 ?su1_3 ?ne1_3 ?sb4 ?h4 ?ty4 ?il4 ?su1_4 ?ne1_4 ?sb5 ?h5 ?ty5 ?il5 ?su1_5 ?ne1_5 ?sb6 ?h6 ?ty6 ?il6 ?su1_6 ?ne1_6 ?sb7 ?h7 ?ty7 ?il7 ?su1_7 ?ne1_7 ?sb8 ?h8 ?ty8 ?il8 ?su1_8 ?ne1_8 ?sb9 ?h9 ?ty9 ?il9 ?su1_9 ?ne1_9 ?sb10 ?h10 ?ty10 ?il10 ?su1_10 ?ne1_10 ?sb11 ?h11 ?ty11 ?il11 ?su1_11 ?ne1_11 ?sv1 ?n1_at ?xC1 ?xm1 ?sa1 ?rQ0 ?gQ0 ?vQ0 ?tI1 ?lI1 ?cI1 ?kI1 ?mk12 ?i1 ?q12 ?i2 ?i3 ?i4 ?i5 ?i6 ?i7 ?i8
    (case z1 => k_is)
    (case z2 => k_is)
    (case z3 => k_is)
    (case z4 => k_is)
    (case z5 => k_is)
    (case z6 => k_is)
    (case a9 => k_is)
    (case a10 => k_is)
    (case a11 => k_is)
    (case a12 => k_is)
    (case a13 => k_is)
    (case a14 => k_is)
    (case cg0 => k_is)
    (case cg1 => k_is)
    (case cg2 => k_is)
    (case cg3 => k_is)
    (case cg4 => k_is)
    (case cg5 => k_is)
    (case cg6 => k_is)
    (case cg7 => k_is)
    (case cg8 => k_is)
    (case cg9 => k_is)
    (case cg10 => k_is)
    (case cg11 => k_is)
    (case cg12 => k_is)
    (case iC1 => k_is)
    (case m12_init => k_is)
    (case m12_rows => k_is)
    (case m12_ask_gap => k_is)
    (case m12_ask_stretch => k_is)
    (case m12_put => k_is)
    (case m12_strike => k_is)
    (case m12_dress => k_is)
    (case m12_move => k_is)
    (case l1 => k_is)
    (case c1 => k_is)
    (case k1 => k_is)
    (case l2 => k_is)
    (case c2 => k_is)
    (case k2 => k_is)
    (case l3 => k_is)
    (case c3 => k_is)
    (case k3 => k_is)
    (case l4 => k_is)
    (case c4 => k_is)
    (case k4 => k_is)
    (case l5 => k_is)
    (case c5 => k_is)
    (case k5 => k_is)
    (case l6 => k_is)
    (case c6 => k_is)
    (case k6 => k_is)
    (case l7 => k_is)
    (case d7 => k_is)
    (case c7 => k_is)
    (case k7 => k_is)
    (case l8 => k_is)
    (case c8 => k_is)
    (case k8 => k_is)
    (case l9 => k_is)
    (case c9 => k_is)
    (case k9 => k_is)
    (case l10 => k_is)
    (case c10 => k_is)
    (case k10 => k_is)
    (case l11 => k_is)
    (case c11 => k_is)
    (case k11 => k_is)
    (case l12 => k_is)
    (case c12 => k_is)
    (case k12 => k_is)
    (case l13 => k_is)
    (case c13 => k_is)
    (case k13 => k_is)
    (case l14 => k_is)
    (case c14 => k_is)
    (case k14 => k_is)
    (case p12 => k_is)
    (case h12 => k_is)
    (case o12 => k_is)
    (case s12 => k_is)
    (case n12_kept => k_is)
    (case q0 => k_is)
    (case q1 => k_is)
    (case q2 => k_is)
    (case q3 => k_is)
    (case q4 => k_is)
    (case q5 => k_is)
    (case q6 => k_is)
    (case q7 => k_is)
    (case q8 => k_is)
    (case q9 => k_is)
    (case q10 => k_is)
    (case q11 => k_is)
    (case il1 => k_is)
    (case ga1 => k_is)
    (case gg1 => k_is)
    (case sb1 => k_is)
    (case fc1 => k_is)
    (case spc => k_is)
    (case tkc => k_is)
    (case mr1 => k_is)
    (case sb0 => k_is)
    (case h0 => k_is)
    (case ty0 => k_is)
    (case il0 => k_is)
    (case su1_0 => k_is)
    (case ne1_0 => decide +kernel)
    (case h1 => k_is)
    (case ty1 => k_is)
    (case su1_1 => k_is)
    (case sb2 => k_is)
    (case h2 => k_is)
    (case ty2 => k_is)
    (case il2 => k_is)
    (case su1_2 => k_is)
    (case ne1_2 => decide +kernel)
    (case sb3 => k_is)
    (case h3 => k_is)
    (case ty3 => k_is)
    (case il3 => k_is)
    (case su1_3 => k_is)
    (case ne1_3 => decide +kernel)
    (case sb4 => k_is)
    (case h4 => k_is)
    (case ty4 => k_is)
    (case il4 => k_is)
    (case su1_4 => k_is)
    (case ne1_4 => decide +kernel)
    (case sb5 => k_is)
    (case h5 => k_is)
    (case ty5 => k_is)
    (case il5 => k_is)
    (case su1_5 => k_is)
    (case ne1_5 => decide +kernel)
    (case sb6 => k_is)
    (case h6 => k_is)
    (case ty6 => k_is)
    (case il6 => k_is)
    (case su1_6 => k_is)
    (case ne1_6 => decide +kernel)
    (case sb7 => k_is)
    (case h7 => k_is)
    (case ty7 => k_is)
    (case il7 => k_is)
    (case su1_7 => k_is)
    (case ne1_7 => decide +kernel)
    (case sb8 => k_is)
    (case h8 => k_is)
    (case ty8 => k_is)
    (case il8 => k_is)
    (case su1_8 => k_is)
    (case ne1_8 => decide +kernel)
    (case sb9 => k_is)
    (case h9 => k_is)
    (case ty9 => k_is)
    (case il9 => k_is)
    (case su1_9 => k_is)
    (case ne1_9 => decide +kernel)
    (case sb10 => k_is)
    (case h10 => k_is)
    (case ty10 => k_is)
    (case il10 => k_is)
    (case su1_10 => k_is)
    (case ne1_10 => decide +kernel)
    (case sb11 => k_is)
    (case h11 => k_is)
    (case ty11 => k_is)
    (case il11 => k_is)
    (case su1_11 => k_is)
    (case ne1_11 => decide +kernel)
    (case sv1 => k_is)
    (case n1_at => k_is)
    (case xC1 => k_is)
    (case xm1 => decide +kernel)
    (case sa1 => k_is)
    (case rQ0 => k_is)
    (case gQ0 => k_is)
    (case vQ0 => k_is)
    (case tI1 => k_is)
    (case lI1 => k_is)
    (case cI1 => k_is)
    (case kI1 => k_is)
    (case mk12 => k_is)
    (case i1 => k_is)
    (case q12 => k_is)
    (case i2 => k_is)
    (case i3 => k_is)
    (case i4 => k_is)
    (case i5 => k_is)
    (case i6 => k_is)
    (case i7 => k_is)
    (case i8 => k_is)
