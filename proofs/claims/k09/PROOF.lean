import PyProof.Rows.All
import Wide.All
import OpenK.AllK
import Wide.FinOn
import HandS.ForMost
import HandS.Exc
import HandS.WordsExc
import HandS.Deep
import HandS.TupAny
import HandS.TupMul
import HandS.IsInst
import HandS.RaiseMore
import HandS.More
import HandS.CallSlots
import HandS.Defaults
import HandS.ExcOwn
import HandS.Head0
import HandS.Head1
import HandS.Head2
import HandS.HeadEnd
import HandS.HeadWalk
import HandS.HeadHook1
import HandS.HeadHook2
import PySem.Challenge.RW_skyframes_k09_room
import KE.KStateDown
import Lean
set_option Elab.async false
set_option linter.all false
set_option maxRecDepth 100000
set_option maxHeartbeats 4000000
/-! The layer of data: values as trees, slots that own them. -/
namespace Dy
open PySem L2

/-! ### sets of addresses -/
abbrev AP := Addr → Prop
def Sep (A B : AP) : Prop := ∀ a, A a → B a → False
def Sub (A B : AP) : Prop := ∀ a, A a → B a
def Cup (A B : AP) : AP := fun a => A a ∨ B a
def Mt : AP := fun _ => False
def One (x : Addr) : AP := fun a => a = x
def But (A : AP) (x : Addr) : AP := fun b => A b ∧ b ≠ x
def Al (H : Hp) (A : AP) : Prop := ∀ a, A a → H a ≠ none
def Fr (H : Hp) (A : AP) : Prop := ∀ a, A a → H a = none
theorem Sub.refl (A : AP) : Sub A A := fun _ h => h
theorem Sub.trans {A B C : AP} (h : Sub A B) (g : Sub B C) : Sub A C := fun a x => g a (h a x)
theorem Sep.symm {A B : AP} (h : Sep A B) : Sep B A := fun a x y => h a y x
theorem Sep.mono {A B A' B' : AP} (h : Sep A B) (x : Sub A' A) (y : Sub B' B) : Sep A' B' := fun a p q => h a (x a p) (y a q)
theorem sep_mt {A : AP} : Sep Mt A := fun _ h => h.elim
theorem mt_sep {A : AP} : Sep A Mt := fun _ _ h => h.elim
theorem sub_mt {A : AP} : Sub Mt A := fun _ h => h.elim
theorem al_mt {H : Hp} : Al H Mt := fun _ h => h.elim
theorem fr_mt {H : Hp} : Fr H Mt := fun _ h => h.elim
theorem cup_l {A B : AP} : Sub A (Cup A B) := fun _ h => .inl h
theorem cup_r {A B : AP} : Sub B (Cup A B) := fun _ h => .inr h
theorem cup_sub {A B C : AP} (h : Sub A C) (g : Sub B C) : Sub (Cup A B) C := fun a x => x.elim (h a) (g a)
theorem Sep.cup {A B C : AP} (h : Sep A B) (g : Sep A C) : Sep A (Cup B C) := fun a x y => y.elim (h a x) (g a x)
theorem Sep.cupl {A B C : AP} (h : Sep A C) (g : Sep B C) : Sep (Cup A B) C := fun a x y => x.elim (fun z => h a z y) fun z => g a z y
theorem Al.cup {H : Hp} {A B : AP} (h : Al H A) (g : Al H B) : Al H (Cup A B) := fun a x => x.elim (h a) (g a)
theorem Al.mono {H : Hp} {A B : AP} (h : Al H B) (s : Sub A B) : Al H A := fun a x => h a (s a x)
theorem But.sub {A : AP} {x : Addr} : Sub (But A x) A := fun _ h => h.1
theorem But.mono {A B : AP} {x : Addr} (h : Sub A B) : Sub (But A x) (But B x) := fun a p => ⟨h a p.1, p.2⟩
theorem fr_sep {H : Hp} {A B : AP} (h : Fr H B) (g : Al H A) : Sep A B := fun a x y => g a x (h a y)

/-! ### what stays of a heap -/
structure Pers (H H' : Hp) : Prop where
  t : ∀ a xs, H a = some (.tup xs) → H' a = some (.tup xs)
  z : ∀ a o u, H a = some (.frz o u) → H' a = some (.frz o u)
structure Keep (A : AP) (H H' : Hp) : Prop where
  p : Pers H H'
  k : ∀ a o, A a → H a = some o → H' a = some o
theorem Pers.refl (H : Hp) : Pers H H := ⟨fun _ _ h => h, fun _ _ _ h => h⟩
theorem Pers.trans {H H1 H2 : Hp} (x : Pers H H1) (y : Pers H1 H2) : Pers H H2 := ⟨fun a xs h => y.t a xs (x.t a xs h), fun a o u h => y.z a o u (x.z a o u h)⟩
theorem Pers.of {H H' : Hp} (s : Same H H') : Pers H H' := ⟨fun a xs h => s a _ h, fun a o u h => s a _ h⟩
theorem Keep.refl (A : AP) (H : Hp) : Keep A H H := ⟨Pers.refl H, fun _ _ _ h => h⟩
theorem Keep.trans {A : AP} {H H1 H2 : Hp} (x : Keep A H H1) (y : Keep A H1 H2) : Keep A H H2 := ⟨x.p.trans y.p, fun a o h e => y.k a o h (x.k a o h e)⟩
theorem Keep.mono {A B : AP} {H H' : Hp} (x : Keep B H H') (s : Sub A B) : Keep A H H' := ⟨x.p, fun a o h e => x.k a o (s a h) e⟩
theorem Keep.of {A : AP} {H H' : Hp} (s : Same H H') : Keep A H H' := ⟨Pers.of s, fun a o _ e => s a o e⟩
theorem Al.same {H H' : Hp} {A : AP} (h : Al H A) (s : Same H H') : Al H' A := fun a x e => by
  cases q : H a with
  | none => exact h a x q
  | some o => rw [s a o q] at e; cases e
theorem Al.keep {H H' : Hp} {A : AP} (h : Al H A) (s : Keep A H H') : Al H' A := fun a x e => by
  cases q : H a with
  | none => exact h a x q
  | some o => rw [s.k a o x q] at e; cases e
theorem same_upd {H : Hp} {p : Addr} {o : HO} (h : H p = none) : Same H (upd H p o) := fun b u e => by
  rw [upd_ne (ne_of_none e h)]; exact e
/-- a tracked thing that is no tuple and not frozen is written -/
theorem pers_upd {H : Hp} {p : Addr} {o u : HO} (h : H p = some u) (ht : ∀ xs, u ≠ .tup xs) (hz : ∀ q w, u ≠ .frz q w) : Pers H (upd H p o) :=
  ⟨fun a xs e => by rw [upd_ne (ne_of e h (fun z => ht xs z.symm))]; exact e, fun a q w e => by rw [upd_ne (ne_of e h (fun z => hz q w z.symm))]; exact e⟩
theorem keep_upd {A : AP} {H : Hp} {p : Addr} {o u : HO} (h : H p = some u) (ht : ∀ xs, u ≠ .tup xs) (hz : ∀ q w, u ≠ .frz q w) (n : ¬ A p) : Keep A H (upd H p o) :=
  ⟨pers_upd h ht hz, fun a q x e => by
    have z : a ≠ p := fun z => n (by rw [← z]; exact x)
    rw [upd_ne z]; exact e⟩
theorem Pers.sqt {K : PySem.W.Frag} {H H' : Hp} {a : Addr} {xs : List V} (e : Pers H H') (h : SqT K H a xs) : SqT K H' a xs := by
  rcases h with (h | ⟨o, h⟩) | h
  · exact .inl (.inl (e.t _ _ h))
  · exact .inl (.inr ⟨o, e.z _ _ _ h⟩)
  · exact .inr h

/-! ### data -/
inductive D where
  | non | bl (b : Bool) | int (i : Int) | str (s : Str) | op (v : V)
  | tup (ds : List D) | lst (ds : List D) | fls (ds : List D)
  | dk (ks : List Key) (ds : List D) | dt (ks : List (List Key)) (ds : List D)
  | ob (c : Nat) (ns : List Str) (ds : List D)
mutual
def imm : D → Bool
  | .non => true
  | .bl _ => true
  | .int _ => true
  | .str _ => true
  | .op _ => true
  | .tup ds => immL ds
  | .lst _ => false
  | .fls _ => true
  | .dk _ _ => false
  | .dt _ _ => false
  | .ob _ _ _ => false
def immL : List D → Bool
  | [] => true
  | d :: ds => imm d && immL ds
end

/-- a list that nobody changes: frozen, or of the written part -/
def Frz (K : PySem.W.Frag) (H : Hp) (a : Addr) (vs : List V) : Prop := (∃ o, H a = some (.frz o (.lst vs))) ∨
  ∃ (o : Obj) (its : Array Value) (n : Nat), K.lookup a = some o ∧ o.cls = .type "list" ∧ o.dict = none ∧ o.data = .seq its n ∧ its.size ≤ sizeLine ∧ Vals vs its.toList
theorem Frz.sql {K : PySem.W.Frag} {H : Hp} {a : Addr} {vs : List V} (h : Frz K H a vs) : SqL K H a vs := h.elim (fun ⟨o, e⟩ => .inl (.inr ⟨o, e⟩)) .inr
theorem Frz.pers {K : PySem.W.Frag} {H H' : Hp} {a : Addr} {vs : List V} (h : Frz K H a vs) (p : Pers H H') : Frz K H' a vs := h.elim (fun ⟨o, e⟩ => .inl ⟨o, p.z _ _ _ e⟩) .inr
mutual
inductive Own (K : PySem.W.Frag) (C : Nat → Addr) (H : Hp) : D → V → AP → Prop
  | non {A : AP} : Own K C H .non .non A
  | bl {A : AP} (b : Bool) : Own K C H (.bl b) (.bl b) A
  | int {A : AP} (i : Int) : Own K C H (.int i) (.int i) A
  | str {A : AP} (s : Str) : Own K C H (.str s) (.str s) A
  | op {A : AP} (v : V) : Own K C H (.op v) v A
  | tup {A : AP} {a : Addr} {vs : List V} {ds : List D} : H a = some (.tup vs) → OwnL K C H ds vs A → Own K C H (.tup ds) (.ref a) A
  | lst {A : AP} {a : Addr} {vs : List V} {ds : List D} : A a → H a = some (.lst vs) → OwnL K C H ds vs (But A a) → Own K C H (.lst ds) (.ref a) A
  | fls {A : AP} {a : Addr} {vs : List V} {ds : List D} : Frz K H a vs → OwnL K C H ds vs Mt → Own K C H (.fls ds) (.ref a) A
  | dk {A : AP} {a : Addr} {ks : List Key} {vs : List V} {ds : List D} : A a → ks.length = ds.length → H a = some (.dK (ks.zip vs)) → OwnL K C H ds vs (But A a) → Own K C H (.dk ks ds) (.ref a) A
  | dt {A : AP} {a : Addr} {ks : List (List Key)} {vs : List V} {ds : List D} : A a → ks.length = ds.length → H a = some (.dT (ks.zip vs)) → OwnL K C H ds vs (But A a) → Own K C H (.dt ks ds) (.ref a) A
  | ob {A : AP} {a dx : Addr} {c : Nat} {ns : List Str} {vs : List V} {ds : List D} : A a → ns.length = ds.length → H a = some (.ins (C c) dx (ns.zip vs)) → OwnL K C H ds vs (But A a) → Own K C H (.ob c ns ds) (.ref a) A
inductive OwnL (K : PySem.W.Frag) (C : Nat → Addr) (H : Hp) : List D → List V → AP → Prop
  | nil {A : AP} : OwnL K C H [] [] A
  | cons {A A1 A2 : AP} {d : D} {v : V} {ds : List D} {vs : List V} : Sep A1 A2 → Sub A1 A → Sub A2 A → Own K C H d v A1 → OwnL K C H ds vs A2 → OwnL K C H (d :: ds) (v :: vs) A
end

section
variable {K : PySem.W.Frag} {C : Nat → Addr} {H H' : Hp}
theorem OwnL.mono {A B : AP} {ds : List D} {vs : List V} (h : OwnL K C H ds vs A) (s : Sub A B) : OwnL K C H ds vs B := by
  cases h with
  | nil => exact .nil
  | cons a b c x y => exact .cons a (b.trans s) (c.trans s) x y
theorem Own.mono {A B : AP} {d : D} {v : V} (h : Own K C H d v A) (s : Sub A B) : Own K C H d v B := by
  cases h with
  | non => exact .non
  | bl b => exact .bl b
  | int j => exact .int j
  | str x => exact .str x
  | op _ => exact .op _
  | tup a b => exact .tup a (b.mono s)
  | lst a b c => exact .lst (s _ a) b (c.mono (But.mono s))
  | fls a b => exact .fls a b
  | dk a l b c => exact .dk (s _ a) l b (c.mono (But.mono s))
  | dt a l b c => exact .dt (s _ a) l b (c.mono (But.mono s))
  | ob a l b c => exact .ob (s _ a) l b (c.mono (But.mono s))
mutual
theorem Own.keep {A : AP} {d : D} {v : V} (h : Own K C H d v A) (s : Keep A H H') : Own K C H' d v A := by
  cases h with
  | non => exact .non
  | bl b => exact .bl b
  | int j => exact .int j
  | str x => exact .str x
  | op _ => exact .op _
  | tup a b => exact .tup (s.p.t _ _ a) (b.keep s)
  | lst a b c => exact .lst a (s.k _ _ a b) (c.keep (s.mono But.sub))
  | fls a b => exact .fls (a.pers s.p) (b.keep (s.mono sub_mt))
  | dk a l b c => exact .dk a l (s.k _ _ a b) (c.keep (s.mono But.sub))
  | dt a l b c => exact .dt a l (s.k _ _ a b) (c.keep (s.mono But.sub))
  | ob a l b c => exact .ob a l (s.k _ _ a b) (c.keep (s.mono But.sub))
theorem OwnL.keep {A : AP} {ds : List D} {vs : List V} (h : OwnL K C H ds vs A) (s : Keep A H H') : OwnL K C H' ds vs A := by
  cases h with
  | nil => exact .nil
  | cons a b c x y => exact .cons a b c (x.keep (s.mono b)) (y.keep (s.mono c))
end
theorem Own.same {A : AP} {d : D} {v : V} (h : Own K C H d v A) (s : Same H H') : Own K C H' d v A := h.keep (Keep.of s)
theorem OwnL.same {A : AP} {ds : List D} {vs : List V} (h : OwnL K C H ds vs A) (s : Same H H') : OwnL K C H' ds vs A := h.keep (Keep.of s)
mutual
theorem Own.imm {A B : AP} {d : D} {v : V} (h : Own K C H d v A) (i : imm d = true) : Own K C H d v B := by
  cases h with
  | non => exact .non
  | bl b => exact .bl b
  | int j => exact .int j
  | str x => exact .str x
  | op _ => exact .op _
  | tup a b => exact .tup a (b.imm (by rw [Dy.imm] at i; exact i))
  | lst a b c => rw [Dy.imm] at i; cases i
  | fls a b => exact .fls a b
  | dk a l b c => rw [Dy.imm] at i; cases i
  | dt a l b c => rw [Dy.imm] at i; cases i
  | ob a l b c => rw [Dy.imm] at i; cases i
theorem OwnL.imm {A B : AP} {ds : List D} {vs : List V} (h : OwnL K C H ds vs A) (i : immL ds = true) : OwnL K C H ds vs B := by
  cases h with
  | nil => exact .nil
  | cons a b c x y =>
    rw [immL, Bool.and_eq_true] at i
    exact .cons (A1 := Mt) (A2 := Mt) mt_sep sub_mt sub_mt (x.imm i.1) (y.imm i.2)
end
theorem OwnL.length {A : AP} {ds : List D} {vs : List V} (h : OwnL K C H ds vs A) : ds.length = vs.length := by
  induction ds generalizing vs A with
  | nil => cases h; rfl
  | cons d r ih => cases h with | cons a b c x y => rw [List.length_cons, List.length_cons, ih y]
/-- an immutable one stays whatever happens -/
theorem Own.pers {A B : AP} {d : D} {v : V} (h : Own K C H d v A) (i : Dy.imm d = true) (p : Pers H H') : Own K C H' d v B :=
  (Own.keep (A := Mt) (h.imm i) ⟨p, fun _ _ x => x.elim⟩).mono sub_mt
theorem OwnL.pers {A B : AP} {ds : List D} {vs : List V} (h : OwnL K C H ds vs A) (i : immL ds = true) (p : Pers H H') : OwnL K C H' ds vs B :=
  (OwnL.keep (A := Mt) (h.imm i) ⟨p, fun _ _ x => x.elim⟩).mono sub_mt

/-! ### lists of immutable ones -/
abbrev IL (K : PySem.W.Frag) (C : Nat → Addr) (H : Hp) (ds : List D) (vs : List V) : Prop := OwnL K C H ds vs Mt
theorem IL.cons {d : D} {v : V} {ds : List D} {vs : List V} (h : Own K C H d v Mt) (t : IL K C H ds vs) : IL K C H (d :: ds) (v :: vs) := OwnL.cons (A1 := Mt) (A2 := Mt) mt_sep sub_mt sub_mt h t
theorem IL.inv {d : D} {ds : List D} {vs : List V} (h : IL K C H (d :: ds) vs) : ∃ v r, vs = v :: r ∧ Own K C H d v Mt ∧ IL K C H ds r := by
  cases h with | cons a b c x y => exact ⟨_, _, rfl, x.mono b, y.mono c⟩
theorem IL.append : ∀ {ds es : List D} {vs ws : List V}, IL K C H ds vs → IL K C H es ws → IL K C H (ds ++ es) (vs ++ ws)
  | [], es, vs, ws, h, g => by cases h; exact g
  | d :: ds, es, vs, ws, h, g => by
    obtain ⟨v, r, rfl, x, y⟩ := h.inv
    exact IL.cons x (IL.append y g)
theorem IL.get : ∀ {ds : List D} {vs : List V} {i : Nat} {d : D}, IL K C H ds vs → ds[i]? = some d → ∃ v, vs[i]? = some v ∧ Own K C H d v Mt
  | [], _, _, _, _, e => by simp at e
  | x :: ds, vs, 0, d, h, e => by
    obtain ⟨v, r, rfl, x, y⟩ := h.inv
    simp at e; subst e
    exact ⟨v, rfl, x⟩
  | x :: ds, vs, i + 1, d, h, e => by
    obtain ⟨v, r, rfl, x, y⟩ := h.inv
    obtain ⟨u, h1, h2⟩ := IL.get (i := i) y (by simpa using e)
    exact ⟨u, by simpa using h1, h2⟩
theorem IL.take : ∀ {ds : List D} {vs : List V} (n : Nat), IL K C H ds vs → IL K C H (ds.take n) (vs.take n)
  | _, _, 0, _ => by simp; exact OwnL.nil
  | [], _, _ + 1, h => by cases h; exact .nil
  | d :: ds, _, n + 1, h => by
    obtain ⟨v, r, rfl, x, y⟩ := h.inv
    exact IL.cons x (IL.take n y)
theorem IL.drop : ∀ {ds : List D} {vs : List V} (n : Nat), IL K C H ds vs → IL K C H (ds.drop n) (vs.drop n)
  | _, _, 0, h => h
  | [], _, _ + 1, h => by cases h; exact .nil
  | d :: ds, _, n + 1, h => by
    obtain ⟨v, r, rfl, x, y⟩ := h.inv
    exact IL.drop n y
theorem IL.set {d : D} {v : V} (hd : Own K C H d v Mt) : ∀ {ds : List D} {vs : List V} (i : Nat), IL K C H ds vs → IL K C H (ds.set i d) (vs.set i v)
  | [], _, _, h => by cases h; exact .nil
  | x :: ds, _, 0, h => by
    obtain ⟨v, r, rfl, x, y⟩ := h.inv
    exact IL.cons hd y
  | x :: ds, _, n + 1, h => by
    obtain ⟨v, r, rfl, x, y⟩ := h.inv
    exact IL.cons x (IL.set hd n y)
theorem IL.eraseIdx : ∀ {ds : List D} {vs : List V} (i : Nat), IL K C H ds vs → IL K C H (ds.eraseIdx i) (vs.eraseIdx i)
  | [], _, _, h => by cases h; exact .nil
  | x :: ds, _, 0, h => by
    obtain ⟨v, r, rfl, x, y⟩ := h.inv
    exact y
  | x :: ds, _, n + 1, h => by
    obtain ⟨v, r, rfl, x, y⟩ := h.inv
    exact IL.cons x (IL.eraseIdx n y)
theorem IL.reverse : ∀ {ds : List D} {vs : List V}, IL K C H ds vs → IL K C H ds.reverse vs.reverse
  | [], _, h => by cases h; exact .nil
  | x :: ds, _, h => by
    obtain ⟨v, r, rfl, x, y⟩ := h.inv
    rw [List.reverse_cons, List.reverse_cons]
    exact IL.append (IL.reverse y) (IL.cons x .nil)
theorem IL.replicate {d : D} {v : V} (hd : Own K C H d v Mt) : ∀ n : Nat, IL K C H (List.replicate n d) (List.replicate n v)
  | 0 => .nil
  | n + 1 => IL.cons hd (IL.replicate hd n)
theorem immL_append : ∀ {ds es : List D}, immL (ds ++ es) = (immL ds && immL es)
  | [], es => by simp [immL]
  | d :: ds, es => by simp [immL, immL_append (ds := ds), Bool.and_assoc]
theorem immL_iff : ∀ {ds : List D}, immL ds = true ↔ ∀ d ∈ ds, imm d = true
  | [] => by simp [immL]
  | d :: ds => by simp [immL, immL_iff (ds := ds)]
end

/-! ### slots -/
inductive Sl where
  | no | own (d : D) | bor (d : D) | inn (d : D)
abbrev SS := List Sl
def SlOk (K : PySem.W.Frag) (C : Nat → Addr) (H : Hp) (L A : AP) : Sl → Option V → Prop
  | .no, _ => True
  | .own d, o => ∃ v, o = some v ∧ Own K C H d v A
  | .inn d, o => ∃ v, o = some v ∧ Own K C H d v A
  | .bor d, o => ∃ v, o = some v ∧ Own K C H d v L
/-- Φ: what must stay; Λ: what the lent slots may read; π: slots that bear an address of the caller's -/
structure RelA (K : PySem.W.Frag) (C : Nat → Addr) (Φ : AP) (Λ : Nat → AP) (π : Nat → Option V) (ss : SS) (σ : L2.St) (H : Hp) (As : Nat → AP) : Prop where
  al : Al H Φ
  sub : ∀ i, Sub (Λ i) Φ
  len : σ.length = ss.length
  pin : ∀ i v, π i = some v → σ[i]? = some (some v) ∧ ∃ d, ss[i]? = some (.inn d)
  aa : ∀ i, Al H (As i)
  af : ∀ i, Sep (As i) Φ
  ap : ∀ i j, i ≠ j → Sep (As i) (As j)
  ok : ∀ i s o, ss[i]? = some s → σ[i]? = some o → SlOk K C H (Λ i) (As i) s o
def Rel (K : PySem.W.Frag) (C : Nat → Addr) (Φ : AP) (Λ : Nat → AP) (π : Nat → Option V) (ss : SS) (σ : L2.St) (H : Hp) : Prop := ∃ As, RelA K C Φ Λ π ss σ H As
def Sl.val : Sl → Option D
  | .no => none
  | .own d => some d
  | .inn d => some d
  | .bor d => some d
def Sl.isInn : Sl → Bool
  | .inn _ => true
  | _ => false
/-- what may be read now -/
def Rb (K : PySem.W.Frag) (C : Nat → Addr) (H : Hp) (d : D) (v : V) : Prop := ∃ A, Al H A ∧ Own K C H d v A

section
variable {K : PySem.W.Frag} {C : Nat → Addr} {H H' : Hp} {Φ Φ' : AP} {Λ : Nat → AP} {π : Nat → Option V} {ss : SS} {σ : L2.St} {As : Nat → AP}
theorem SlOk.keep {L A : AP} {s : Sl} {o : Option V} (h : SlOk K C H L A s o) (k1 : Keep A H H') (k2 : Keep L H H') : SlOk K C H' L A s o := by
  cases s with
  | no => trivial
  | own d => obtain ⟨v, e, x⟩ := h; exact ⟨v, e, x.keep k1⟩
  | inn d => obtain ⟨v, e, x⟩ := h; exact ⟨v, e, x.keep k1⟩
  | bor d => obtain ⟨v, e, x⟩ := h; exact ⟨v, e, x.keep k2⟩
theorem RelA.same (r : RelA K C Φ Λ π ss σ H As) (s : Same H H') : RelA K C Φ Λ π ss σ H' As :=
  ⟨r.al.same s, r.sub, r.len, r.pin, fun i => (r.aa i).same s, r.af, r.ap, fun i a o e1 e2 => (r.ok i a o e1 e2).keep (Keep.of s) (Keep.of s)⟩
theorem Rel.same (r : Rel K C Φ Λ π ss σ H) (s : Same H H') : Rel K C Φ Λ π ss σ H' := let ⟨As, a⟩ := r; ⟨As, a.same s⟩
theorem Rel.shrink (r : Rel K C Φ' Λ π ss σ H) (s : Sub Φ Φ') (p : ∀ i, Sub (Λ i) Φ) : Rel K C Φ Λ π ss σ H := by
  obtain ⟨As, a⟩ := r
  exact ⟨As, a.al.mono s, p, a.len, a.pin, a.aa, fun i => (a.af i).mono (Sub.refl _) s, a.ap, a.ok⟩
theorem Rel.grow {B : AP} (r : Rel K C Φ Λ π ss σ H) (s : Same H H') (f : Fr H B) (al : Al H' B) : Rel K C (Cup Φ B) Λ π ss σ H' := by
  obtain ⟨As, a⟩ := r
  have a' := a.same s
  exact ⟨As, a'.al.cup al, fun i => (a'.sub i).trans cup_l, a'.len, a'.pin, a'.aa, fun i => (a'.af i).cup (fr_sep f (a.aa i)), a'.ap, a'.ok⟩
theorem Rel.psi (r : Rel K C Φ Λ π ss σ H) : ∀ i, Sub (Λ i) Φ := let ⟨_, a⟩ := r; a.sub
theorem Rel.al (r : Rel K C Φ Λ π ss σ H) : Al H Φ := let ⟨_, a⟩ := r; a.al
theorem Rel.len (r : Rel K C Φ Λ π ss σ H) : σ.length = ss.length := let ⟨_, a⟩ := r; a.len
theorem Rel.eqv (r : Rel K C Φ Λ π ss σ H) (h : Sub Φ Φ') (g : Sub Φ' Φ) : Rel K C Φ' Λ π ss σ H := by
  obtain ⟨As, a⟩ := r
  exact ⟨As, a.al.mono g, fun i => (a.sub i).trans h, a.len, a.pin, a.aa, fun i => (a.af i).mono (Sub.refl _) g, a.ap, a.ok⟩
/-- protecting nothing more -/
theorem Rel.mt (r : Rel K C Φ Λ π ss σ H) : Rel K C (Cup Φ Mt) Λ π ss σ H := r.eqv cup_l (cup_sub (Sub.refl _) sub_mt)
theorem Rb.same {d : D} {v : V} (r : Rb K C H d v) (s : Same H H') : Rb K C H' d v := let ⟨A, a, b⟩ := r; ⟨A, a.same s, b.same s⟩
theorem Rb.imm {d : D} {v : V} {B : AP} (r : Rb K C H d v) (i : imm d = true) : Own K C H d v B := let ⟨_, _, b⟩ := r; b.imm i
theorem rb_imm {d : D} {v : V} {A : AP} (h : Own K C H d v A) (i : imm d = true) : Rb K C H d v := ⟨Mt, al_mt, h.imm i⟩
theorem getσ {i : Nat} {s : Sl} (hl : σ.length = ss.length) (e : ss[i]? = some s) : ∃ o, σ[i]? = some o := by
  have hi : i < σ.length := by rw [hl]; exact (List.getElem?_eq_some_iff.mp e).1
  exact ⟨σ[i], List.getElem?_eq_getElem hi⟩
/-- a slot read -/
theorem Rel.get {i : Nat} {s : Sl} {d : D} (r : Rel K C Φ Λ π ss σ H) (e : ss[i]? = some s) (hd : s.val = some d) : ∃ v, σ[i]? = some (some v) ∧ Rb K C H d v := by
  obtain ⟨As, a⟩ := r
  obtain ⟨o, eo⟩ := getσ a.len e
  have q := a.ok i s _ e eo
  cases s with
  | no => cases hd
  | own x => cases hd; obtain ⟨v, z, w⟩ := q; exact ⟨v, by rw [eo, z], _, a.aa i, w⟩
  | inn x => cases hd; obtain ⟨v, z, w⟩ := q; exact ⟨v, by rw [eo, z], _, a.aa i, w⟩
  | bor x => cases hd; obtain ⟨v, z, w⟩ := q; exact ⟨v, by rw [eo, z], _, a.al.mono (a.sub i), w⟩
/-- a slot changed: s', o', with a set of its own -/
theorem RelA.upd {i : Nat} {s s' : Sl} {o' : Option V} {B : AP} (a : RelA K C Φ Λ π ss σ H As) (e : ss[i]? = some s) (n : (∃ x, s = .inn x) → (∃ y, s' = .inn y) ∧ σ[i]? = some o') (al : Al H B) (sep : Sep B Φ) (sep2 : ∀ j, j ≠ i → Sep B (As j))
    (ok : SlOk K C H (Λ i) B s' o') : RelA K C Φ Λ π (ss.set i s') (σ.set i o') H (fun j => if j = i then B else As j) := by
  have hi : i < ss.length := (List.getElem?_eq_some_iff.mp e).1
  refine ⟨a.al, a.sub, by rw [List.length_set, List.length_set]; exact a.len, fun j u hj => ?_, fun j => ?_, fun j => ?_, fun j k h => ?_, fun j t u h1 h2 => ?_⟩
  · obtain ⟨h1, x, h2⟩ := a.pin j u hj
    by_cases nj : i = j
    · subst nj
      rw [e] at h2
      obtain ⟨⟨y, ey⟩, z⟩ := n ⟨x, Option.some.inj h2⟩
      rw [h1] at z
      have z' : o' = some u := (Option.some.inj z).symm
      exact ⟨by rw [List.getElem?_set_self (by rw [a.len]; exact hi), z'], y, by rw [List.getElem?_set_self hi, ey]⟩
    · exact ⟨by rw [List.getElem?_set_ne nj]; exact h1, x, by rw [List.getElem?_set_ne nj]; exact h2⟩
  · show Al H (if j = i then B else As j)
    split
    · exact al
    · exact a.aa j
  · show Sep (if j = i then B else As j) Φ
    split
    · exact sep
    · exact a.af j
  · show Sep (if j = i then B else As j) (if k = i then B else As k)
    by_cases hj : j = i
    · have hk : k ≠ i := fun z => h (hj.trans z.symm)
      rw [if_pos hj, if_neg hk]
      exact sep2 k hk
    · rw [if_neg hj]
      by_cases hk : k = i
      · rw [if_pos hk]; exact (sep2 j hj).symm
      · rw [if_neg hk]; exact a.ap j k h
  · by_cases hj : i = j
    · subst hj
      rw [List.getElem?_set_self hi] at h1
      rw [List.getElem?_set_self (by rw [a.len]; exact hi)] at h2
      cases h1; cases h2
      show SlOk K C H (Λ i) (if i = i then B else As i) _ _
      rw [if_pos rfl]
      exact ok
    · rw [List.getElem?_set_ne hj] at h1 h2
      show SlOk K C H (Λ j) (if j = i then B else As j) _ _
      rw [if_neg (fun z => hj z.symm)]
      exact a.ok j t u h1 h2
/-- a slot stored: the value moves in -/
theorem Rel.put {i : Nat} {s : Sl} {d : D} {v : V} {B : AP} (r : Rel K C (Cup Φ B) Λ π ss σ H) (e : ss[i]? = some s) (n : s.isInn = false) (sep : Sep B Φ) (p : ∀ i, Sub (Λ i) Φ) (o : Own K C H d v B) : Rel K C Φ Λ π (ss.set i (.own d)) (σ.set i (some v)) H := by
  obtain ⟨As, a⟩ := r
  have b : RelA K C Φ Λ π ss σ H As := ⟨a.al.mono cup_l, p, a.len, a.pin, a.aa, fun j => (a.af j).mono (Sub.refl _) cup_l, a.ap, a.ok⟩
  exact ⟨_, b.upd (s' := .own d) (o' := some v) e (fun ⟨x, z⟩ => by rw [z] at n; cases n) (a.al.mono cup_r) sep (fun j _ => ((a.af j).mono (Sub.refl _) cup_r).symm) ⟨v, rfl, o⟩⟩
/-- a slot forgotten -/
theorem Rel.drop {i : Nat} {s : Sl} {o : Option V} (r : Rel K C Φ Λ π ss σ H) (e : ss[i]? = some s) (n : s.isInn = false) : Rel K C Φ Λ π (ss.set i .no) (σ.set i o) H := by
  obtain ⟨As, a⟩ := r
  exact ⟨_, a.upd (s' := .no) (o' := o) (B := Mt) e (fun ⟨x, z⟩ => by rw [z] at n; cases n) al_mt sep_mt (fun _ _ => sep_mt) trivial⟩
end
end Dy

/-! Results over slots; what a reading does to data: expressions, tests, arguments. -/
namespace Dy
open PySem L2
/-- an exception of one's own: which class, its one field -/
structure Xn where
  c : Nat
  fld : Option (Str × Int)
inductive R (α : Type) where
  | ok (a : α) (s : SS) | exc (x : Xn) (s : SS) | stuck
inductive RS where
  | nx (s : SS) | ret (d : D) (s : SS) | brk (s : SS) | ct (s : SS) | exc (x : Xn) (s : SS) | stuck
def R.bind {α β : Type} (r : R α) (f : α → SS → R β) : R β := match r with
  | .ok a s => f a s
  | .exc x s => .exc x s
  | .stuck => .stuck
def R.of {α : Type} (o : Option α) (s : SS) : R α := match o with
  | some a => .ok a s
  | none => .stuck
def R.thn {α : Type} (r : R α) (f : α → SS → RS) : RS := match r with
  | .ok a s => f a s
  | .exc x s => .exc x s
  | .stuck => .stuck
def RS.seq (r : RS) (f : SS → RS) : RS := match r with
  | .nx s => f s
  | o => o
def IsX (C : Nat → Addr) (H : Hp) (x : Xn) (cls : Value) (da : Option Addr) : Prop := cls = .ref (C x.c) ∧ ∀ f i, x.fld = some (f, i) → ∃ d, da = some d ∧ H d = some (.xd [(f, .int i)])

section
variable (K : PySem.W.Frag) (C : Nat → Addr) (W : WX)
def PostX (Φ : AP) (Λ : Nat → AP) (π : Nat → Option V) (σ : L2.St) (H : Hp) (x : Xn) (s : SS) : Prop := ∀ H' cls da, Keep Φ H H' → Rel K C Φ Λ π s σ H' → IsX C H' x cls da → W cls da σ H'
def PostE (Φ : AP) (Λ : Nat → AP) (π : Nat → Option V) (σ : L2.St) (H : Hp) (Q : VK) : R D → Prop
  | .ok d s => ∀ v H' B, Keep Φ H H' → Rel K C (Cup Φ B) Λ π s σ H' → Sep B Φ → Own K C H' d v B → Q v H'
  | .exc x s => PostX K C W Φ Λ π σ H x s
  | .stuck => False
def PostA (Φ : AP) (Λ : Nat → AP) (π : Nat → Option V) (σ : L2.St) (H : Hp) (Q : List V → Hp → Prop) : R (List D) → Prop
  | .ok ds s => ∀ vs H' B, Keep Φ H H' → Rel K C (Cup Φ B) Λ π s σ H' → Sep B Φ → OwnL K C H' ds vs B → Q vs H'
  | .exc x s => PostX K C W Φ Λ π σ H x s
  | .stuck => False
def PostT (Φ : AP) (Λ : Nat → AP) (π : Nat → Option V) (σ : L2.St) (H : Hp) (Q : Bool → Hp → Prop) : R Bool → Prop
  | .ok b s => ∀ H', Keep Φ H H' → Rel K C Φ Λ π s σ H' → Q b H'
  | .exc x s => PostX K C W Φ Λ π σ H x s
  | .stuck => False
def PostS (Φ : AP) (Λ : Nat → AP) (π : Nat → Option V) (H : Hp) (E : Ends) : RS → Prop
  | .nx s => ∀ σ' H', Keep Φ H H' → Rel K C Φ Λ π s σ' H' → E.nx σ' H'
  | .ret d s => ∀ v σ' H' B, Keep Φ H H' → Rel K C (Cup Φ B) Λ π s σ' H' → Sep B Φ → Own K C H' d v B → E.rt v H'
  | .brk s => ∀ σ' H', Keep Φ H H' → Rel K C Φ Λ π s σ' H' → E.bk σ' H'
  | .ct s => ∀ σ' H', Keep Φ H H' → Rel K C Φ Λ π s σ' H' → E.ct σ' H'
  | .exc x s => ∀ σ' H' cls da, Keep Φ H H' → Rel K C Φ Λ π s σ' H' → IsX C H' x cls da → W cls da σ' H'
  | .stuck => False
def SimE (t : TE) (F : SS → R D) : Prop := ∀ Φ Λ π ss σ H (Q : VK), Rel K C Φ Λ π ss σ H → PostE K C W Φ Λ π σ H Q (F ss) → t σ H Q
def SimA (t : TA) (F : SS → R (List D)) : Prop := ∀ Φ Λ π ss σ H (Q : List V → Hp → Prop), Rel K C Φ Λ π ss σ H → PostA K C W Φ Λ π σ H Q (F ss) → t σ H Q
def SimT (t : TT) (F : SS → R Bool) : Prop := ∀ Φ Λ π ss σ H (Q : Bool → Hp → Prop), Rel K C Φ Λ π ss σ H → PostT K C W Φ Λ π σ H Q (F ss) → t σ H Q
def SimS (t : TS) (F : SS → RS) : Prop := ∀ Φ Λ π ss σ H (E : Ends), Rel K C Φ Λ π ss σ H → PostS K C W Φ Λ π H E (F ss) → t E σ H
/-- pure ones: nothing changes but what is new; read now | new -/
def SimP (t : TE) (F : SS → Option D) : Prop := ∀ Φ Λ π ss σ H (Q : VK) d, Rel K C Φ Λ π ss σ H → F ss = some d → (∀ v H', Same H H' → Rb K C H' d v → Q v H') → t σ H Q
def SimF (t : TE) (F : SS → Option D) : Prop := ∀ Φ Λ π ss σ H (Q : VK) d, Rel K C Φ Λ π ss σ H → F ss = some d → (∀ v H' B, Same H H' → Fr H B → Al H' B → Own K C H' d v B → Q v H') → t σ H Q
def SimPT (t : TT) (F : SS → Option Bool) : Prop := ∀ Φ Λ π ss σ H (Q : Bool → Hp → Prop) b, Rel K C Φ Λ π ss σ H → F ss = some b → (∀ H', Same H H' → Q b H') → t σ H Q
inductive RbL (H : Hp) : List D → List V → Prop
  | nil : RbL H [] []
  | cons {d : D} {v : V} {ds : List D} {vs : List V} : Rb K C H d v → RbL H ds vs → RbL H (d :: ds) (v :: vs)
def SimPs (t : TA) (F : SS → Option (List D)) : Prop := ∀ Φ Λ π ss σ H (Q : List V → Hp → Prop) ds, Rel K C Φ Λ π ss σ H → F ss = some ds → (∀ vs H', Same H H' → RbL K C H' ds vs → Q vs H') → t σ H Q
end

section
variable {K : PySem.W.Frag} {C : Nat → Addr} {W : WX} {Φ Φ' : AP} {Λ : Nat → AP} {π : Nat → Option V} {ss : SS} {σ : L2.St} {H H' : Hp}
theorem RbL.same {ds : List D} {vs : List V} (r : RbL K C H ds vs) (s : Same H H') : RbL K C H' ds vs := by
  induction r with
  | nil => exact .nil
  | cons a _ ih => exact .cons (a.same s) ih
theorem OwnL.rb {ds : List D} : ∀ {vs : List V} {A : AP}, Al H A → OwnL K C H ds vs A → RbL K C H ds vs := by
  induction ds with
  | nil => intro vs A _ h; cases h; exact .nil
  | cons d r ih =>
    intro vs A al h
    cases h with | cons a b c x y => exact .cons ⟨_, al.mono b, x⟩ (ih (al.mono c) y)
theorem RbL.il {ds : List D} {vs : List V} (r : RbL K C H ds vs) (i : immL ds = true) : IL K C H ds vs := by
  induction r with
  | nil => exact .nil
  | cons a _ ih =>
    rw [immL, Bool.and_eq_true] at i
    exact IL.cons (a.imm i.1) (ih i.2)
/-- the way of an exception stays the way behind more that was kept -/
theorem PostX.more {B : AP} {x : Xn} {s : SS} {H1 : Hp} (p : PostX K C W Φ Λ π σ H x s) (k : Keep Φ H H1) (q : ∀ i, Sub (Λ i) Φ) : PostX K C W (Cup Φ B) Λ π σ H1 x s :=
  fun H' cls da k2 r ix => p H' cls da (k.trans (k2.mono cup_l)) (r.shrink cup_l q) ix
theorem PostX.seq {x : Xn} {s : SS} {H1 : Hp} (p : PostX K C W Φ Λ π σ H x s) (k : Keep Φ H H1) : PostX K C W Φ Λ π σ H1 x s :=
  fun H' cls da k2 r ix => p H' cls da (k.trans k2) r ix

/-! ### from pure to any -/
def eI (F : SS → Option D) : SS → R D := fun s => match F s with
  | some d => if imm d then .ok d s else .stuck
  | none => .stuck
def eN (F : SS → Option D) : SS → R D := fun s => R.of (F s) s
def tP (F : SS → Option Bool) : SS → R Bool := fun s => R.of (F s) s
theorem SimF.p {t : TE} {F : SS → Option D} (h : SimF K C t F) : SimP K C t F := fun Φ Λ π ss σ H Q d r e k => h Φ Λ π ss σ H Q d r e fun v H' B s f al o => k v H' s ⟨B, al, o⟩
theorem SimP.e {t : TE} {F : SS → Option D} (h : SimP K C t F) : SimE K C W t (eI F) := fun Φ Λ π ss σ H Q r p => by
  unfold eI at p
  cases e : F ss with
  | none => rw [e] at p; exact p.elim
  | some d =>
    rw [e] at p
    by_cases i : imm d = true
    · simp only [i, if_true] at p
      exact h Φ Λ π ss σ H Q d r e fun v H' s rb => p v H' Mt (Keep.of s) (r.same s).mt sep_mt (rb.imm i)
    · simp only [i] at p; exact p.elim
theorem SimF.e {t : TE} {F : SS → Option D} (h : SimF K C t F) : SimE K C W t (eN F) := fun Φ Λ π ss σ H Q r p => by
  unfold eN at p
  cases e : F ss with
  | none => rw [e] at p; exact p.elim
  | some d =>
    rw [e] at p
    exact h Φ Λ π ss σ H Q d r e fun v H' B s f al o => p v H' B (Keep.of s) (r.grow s f al) ((fr_sep f r.al).symm) o
theorem SimPT.e {t : TT} {F : SS → Option Bool} (h : SimPT K C t F) : SimT K C W t (tP F) := fun Φ Λ π ss σ H Q r p => by
  unfold tP at p
  cases e : F ss with
  | none => rw [e] at p; exact p.elim
  | some d =>
    rw [e] at p
    exact h Φ Λ π ss σ H Q d r e fun H' s => p H' (Keep.of s) (r.same s)
/-- a pure one that gives an immutable one is new too -/
def pI (F : SS → Option D) : SS → Option D := fun s => (F s).bind fun d => if imm d then some d else none
theorem SimP.f {t : TE} {F : SS → Option D} (h : SimP K C t F) : SimF K C t (pI F) := fun Φ Λ π ss σ H Q d r e k => by
  unfold pI at e
  cases q : F ss with
  | none => rw [q] at e; cases e
  | some x =>
    rw [q] at e
    by_cases i : imm x = true
    · simp only [Option.bind, i, if_true] at e
      cases e
      exact h Φ Λ π ss σ H Q d r q fun v H' s rb => k v H' Mt s fr_mt al_mt (rb.imm i)
    · simp only [Option.bind, i] at e; cases e

/-! ### names, constants -/
def fV (i : Nat) : SS → Option D := fun s => (s[i]?).bind Sl.val
def fC (d : D) : SS → Option D := fun _ => some d
theorem sp_var (i : Nat) : SimP K C (tVar i) (fV i) := fun Φ Λ π ss σ H Q d r e k => by
  unfold fV at e
  cases q : ss[i]? with
  | none => rw [q] at e; cases e
  | some s =>
    rw [q] at e
    obtain ⟨v, h1, h2⟩ := r.get q e
    exact ⟨v, h1, k v H (Same.refl H) h2⟩
def cD : V → D
  | .non => .non
  | .bl b => .bl b
  | .int i => .int i
  | .str s => .str s
  | v => .op v
theorem own_c (v : V) {A : AP} : Own K C H (cD v) v A := by cases v <;> first | exact .non | exact .bl _ | exact .int _ | exact .str _ | exact .op _
theorem sf_c (v : V) : SimF K C (tC v) (fC (cD v)) := fun Φ Λ π ss σ H Q d r e k => by
  cases e
  exact k v H Mt (Same.refl H) fr_mt al_mt (own_c v)

/-! ### operators -/
def OpS (K : PySem.W.Frag) (C : Nat → Addr) (r : R2) (f : D → D → Option D) : Prop :=
  ∀ H x y dx dy z (Q : VK), Rb K C H dx x → Rb K C H dy y → f dx dy = some z → (∀ v H' B, Same H H' → Fr H B → Al H' B → Own K C H' z v B → Q v H') → r x y H Q
def p2 (f : D → D → Option D) (F G : SS → Option D) : SS → Option D := fun s => (F s).bind fun a => (G s).bind fun b => f a b
def e2 (f : D → D → Option D) (F G : SS → R D) : SS → R D := fun s => (F s).bind fun a s1 => (G s1).bind fun b s2 => R.of (f a b) s2
theorem sf_op {r : R2} {f : D → D → Option D} {ta tb : TE} {F G : SS → Option D} (ho : OpS K C r f) (ha : SimP K C ta F) (hb : SimP K C tb G) : SimF K C (tOp r ta tb) (p2 f F G) := fun Φ Λ π ss σ H Q d rel e k => by
  unfold p2 at e
  cases ea : F ss with
  | none => rw [ea] at e; cases e
  | some x =>
    cases eb : G ss with
    | none => rw [ea, eb] at e; cases e
    | some y =>
      rw [ea, eb] at e
      refine ha Φ Λ π ss σ H _ x rel ea fun v H1 s1 r1 => ?_
      refine hb Φ Λ π ss σ H1 _ y (rel.same s1) eb fun u H2 s2 r2 => ?_
      exact ho H2 v u x y d Q (r1.same s2) r2 e fun w H3 B s3 f al o => k w H3 B ((s1.trans s2).trans s3) (fun a z => (s1.trans s2).free (f a z)) al o
/-- behind two values -/
theorem e2_core {x y : D} {v u : V} {s1 s2 : SS} {H1 H2 : Hp} {B1 B2 : AP} (k1 : Keep Φ H H1) (r1 : Rel K C (Cup Φ B1) Λ π s1 σ H1) (sp1 : Sep B1 Φ) (o1 : Own K C H1 x v B1) (k2 : Keep (Cup Φ B1) H1 H2) (r2 : Rel K C (Cup (Cup Φ B1) B2) Λ π s2 σ H2) (sp2 : Sep B2 (Cup Φ B1)) (o2 : Own K C H2 y u B2)
    (psi : ∀ i, Sub (Λ i) Φ) : Rb K C H2 x v ∧ Rb K C H2 y u ∧ Keep Φ H H2 ∧ Rel K C Φ Λ π s2 σ H2 :=
  ⟨⟨B1, (r1.al.keep k2).mono cup_r, o1.keep (k2.mono cup_r)⟩, ⟨B2, r2.al.mono cup_r, o2⟩, k1.trans (k2.mono cup_l), r2.shrink (cup_l.trans cup_l) psi⟩
theorem se_op {r : R2} {f : D → D → Option D} {ta tb : TE} {F G : SS → R D} (ho : OpS K C r f) (ha : SimE K C W ta F) (hb : SimE K C W tb G) : SimE K C W (tOp r ta tb) (e2 f F G) := fun Φ Λ π ss σ H Q rel p => by
  unfold e2 at p
  refine ha Φ Λ π ss σ H _ rel ?_
  cases ea : F ss with
  | stuck => rw [ea] at p; exact p
  | exc x s => rw [ea] at p; exact p
  | ok x s1 =>
    rw [ea] at p
    intro v H1 B1 k1 r1 sp1 o1
    refine hb (Cup Φ B1) Λ π s1 σ H1 _ r1 ?_
    have p' : PostE K C W Φ Λ π σ H Q ((G s1).bind fun b s2 => R.of (f x b) s2) := p
    cases eb : G s1 with
    | stuck => rw [eb] at p'; exact p'
    | exc x s => rw [eb] at p'; exact PostX.more p' k1 rel.psi
    | ok y s2 =>
      rw [eb] at p'
      intro u H2 B2 k2 r2 sp2 o2
      obtain ⟨q1, q2, q3, q4⟩ := e2_core k1 r1 sp1 o1 k2 r2 sp2 o2 rel.psi
      have p'' : PostE K C W Φ Λ π σ H Q (R.of (f x y) s2) := p'
      cases ez : f x y with
      | none => rw [ez] at p''; exact p''.elim
      | some z =>
        rw [ez] at p''
        exact ho H2 v u x y z Q q1 q2 ez fun w H3 B s3 fr al o => p'' w H3 B (q3.trans (Keep.of s3)) (q4.grow s3 fr al) ((fr_sep fr q4.al).symm) o
/-- either of two rules -/
def orF (f g : D → D → Option D) : D → D → Option D := fun a b => (f a b).orElse fun _ => g a b
theorem ops_or {r q : R2} {f g : D → D → Option D} (h : OpS K C r f) (h2 : OpS K C q g) : OpS K C (fun x y H Q => r x y H Q ∨ q x y H Q) (orF f g) := fun H x y dx dy z Q a b e k => by
  unfold orF at e
  cases q1 : f dx dy with
  | some w => rw [q1] at e; cases e; exact .inl (h H x y dx dy _ Q a b q1 k)
  | none => rw [q1] at e; exact .inr (h2 H x y dx dy z Q a b e k)

/-! ### unary, calls by values -/
def UnS (K : PySem.W.Frag) (C : Nat → Addr) (r : V → Hp → VK → Prop) (f : D → Option D) : Prop :=
  ∀ H x dx z (Q : VK), Rb K C H dx x → f dx = some z → (∀ v H' B, Same H H' → Fr H B → Al H' B → Own K C H' z v B → Q v H') → r x H Q
def CallS (K : PySem.W.Frag) (C : Nat → Addr) (r : List V → Hp → VK → Prop) (f : List D → Option D) : Prop :=
  ∀ H vs ds z (Q : VK), RbL K C H ds vs → f ds = some z → (∀ v H' B, Same H H' → Fr H B → Al H' B → Own K C H' z v B → Q v H') → r vs H Q
def p1 {α β : Type} (f : α → Option β) (F : SS → Option α) : SS → Option β := fun s => (F s).bind f
def e1 {α β : Type} (f : α → Option β) (F : SS → R α) : SS → R β := fun s => (F s).bind fun a s1 => R.of (f a) s1
theorem sf_un {r : V → Hp → VK → Prop} {f : D → Option D} {ta : TE} {F : SS → Option D} (ho : UnS K C r f) (ha : SimP K C ta F) : SimF K C (tUn r ta) (p1 f F) := fun Φ Λ π ss σ H Q d rel e k => by
  unfold p1 at e
  cases ea : F ss with
  | none => rw [ea] at e; cases e
  | some x =>
    rw [ea] at e
    refine ha Φ Λ π ss σ H _ x rel ea fun v H1 s1 r1 => ?_
    exact ho H1 v x d Q r1 e fun w H3 B s3 f al o => k w H3 B (s1.trans s3) (fun a z => s1.free (f a z)) al o
theorem sf_call {r : List V → Hp → VK → Prop} {f : List D → Option D} {ta : TA} {F : SS → Option (List D)} (ho : CallS K C r f) (ha : SimPs K C ta F) : SimF K C (tCB r ta) (p1 f F) := fun Φ Λ π ss σ H Q d rel e k => by
  unfold p1 at e
  cases ea : F ss with
  | none => rw [ea] at e; cases e
  | some x =>
    rw [ea] at e
    refine ha Φ Λ π ss σ H _ x rel ea fun v H1 s1 r1 => ?_
    exact ho H1 v x d Q r1 e fun w H3 B s3 f al o => k w H3 B (s1.trans s3) (fun a z => s1.free (f a z)) al o
theorem se_un {r : V → Hp → VK → Prop} {f : D → Option D} {ta : TE} {F : SS → R D} (ho : UnS K C r f) (ha : SimE K C W ta F) : SimE K C W (tUn r ta) (e1 f F) := fun Φ Λ π ss σ H Q rel p => by
  unfold e1 at p
  refine ha Φ Λ π ss σ H _ rel ?_
  cases ea : F ss with
  | stuck => rw [ea] at p; exact p
  | exc x s => rw [ea] at p; exact p
  | ok x s1 =>
    rw [ea] at p
    intro v H1 B1 k1 r1 sp1 o1
    have p' : PostE K C W Φ Λ π σ H Q (R.of (f x) s1) := p
    cases ez : f x with
    | none => rw [ez] at p'; exact p'.elim
    | some z =>
      rw [ez] at p'
      have q4 := r1.shrink cup_l rel.psi
      exact ho H1 v x z Q ⟨B1, r1.al.mono cup_r, o1⟩ ez fun w H3 B s3 fr al o => p' w H3 B (k1.trans (Keep.of s3)) (q4.grow s3 fr al) ((fr_sep fr q4.al).symm) o
theorem se_call {r : List V → Hp → VK → Prop} {f : List D → Option D} {ta : TA} {F : SS → R (List D)} (ho : CallS K C r f) (ha : SimA K C W ta F) : SimE K C W (tCB r ta) (e1 f F) := fun Φ Λ π ss σ H Q rel p => by
  unfold e1 at p
  refine ha Φ Λ π ss σ H _ rel ?_
  cases ea : F ss with
  | stuck => rw [ea] at p; exact p
  | exc x s => rw [ea] at p; exact p
  | ok x s1 =>
    rw [ea] at p
    intro v H1 B1 k1 r1 sp1 o1
    have p' : PostE K C W Φ Λ π σ H Q (R.of (f x) s1) := p
    cases ez : f x with
    | none => rw [ez] at p'; exact p'.elim
    | some z =>
      rw [ez] at p'
      have q4 := r1.shrink cup_l rel.psi
      exact ho H1 v x z Q (o1.rb (r1.al.mono cup_r)) ez fun w H3 B s3 fr al o => p' w H3 B (k1.trans (Keep.of s3)) (q4.grow s3 fr al) ((fr_sep fr q4.al).symm) o
def orL (f g : List D → Option D) : List D → Option D := fun a => (f a).orElse fun _ => g a
theorem calls_or {r q : List V → Hp → VK → Prop} {f g : List D → Option D} (h : CallS K C r f) (h2 : CallS K C q g) : CallS K C (fun x H Q => r x H Q ∨ q x H Q) (orL f g) := fun H x dx z Q a e k => by
  unfold orL at e
  cases q1 : f dx with
  | some w => rw [q1] at e; cases e; exact .inl (h H x dx _ Q a q1 k)
  | none => rw [q1] at e; exact .inr (h2 H x dx z Q a e k)

/-! ### arguments -/
def psN : SS → Option (List D) := fun _ => some []
def psC (F : SS → Option D) (G : SS → Option (List D)) : SS → Option (List D) := fun s => (F s).bind fun a => (G s).bind fun r => some (a :: r)
def eaN : SS → R (List D) := fun s => .ok [] s
def eaC (F : SS → R D) (G : SS → R (List D)) : SS → R (List D) := fun s => (F s).bind fun a s1 => (G s1).bind fun r s2 => .ok (a :: r) s2
theorem sps_nil : SimPs K C tNil psN := fun Φ Λ π ss σ H Q ds r e k => by cases e; exact k [] H (Same.refl H) .nil
theorem sps_cons {ta : TE} {tr : TA} {F : SS → Option D} {G : SS → Option (List D)} (ha : SimP K C ta F) (hr : SimPs K C tr G) : SimPs K C (tCons ta tr) (psC F G) := fun Φ Λ π ss σ H Q ds rel e k => by
  unfold psC at e
  cases ea : F ss with
  | none => rw [ea] at e; cases e
  | some x =>
    cases eb : G ss with
    | none => rw [ea, eb] at e; cases e
    | some y =>
      rw [ea, eb] at e; cases e
      refine ha Φ Λ π ss σ H _ x rel ea fun v H1 s1 r1 => ?_
      exact hr Φ Λ π ss σ H1 _ y (rel.same s1) eb fun u H2 s2 r2 => k _ _ (s1.trans s2) (.cons (r1.same s2) r2)
theorem sea_nil : SimA K C W tNil eaN := fun Φ Λ π ss σ H Q r p => p [] H Mt (Keep.refl _ _) r.mt sep_mt .nil
theorem sea_cons {ta : TE} {tr : TA} {F : SS → R D} {G : SS → R (List D)} (ha : SimE K C W ta F) (hr : SimA K C W tr G) : SimA K C W (tCons ta tr) (eaC F G) := fun Φ Λ π ss σ H Q rel p => by
  unfold eaC at p
  refine ha Φ Λ π ss σ H _ rel ?_
  cases ea : F ss with
  | stuck => rw [ea] at p; exact p
  | exc x s => rw [ea] at p; exact p
  | ok x s1 =>
    rw [ea] at p
    intro v H1 B1 k1 r1 sp1 o1
    refine hr (Cup Φ B1) Λ π s1 σ H1 _ r1 ?_
    have p' : PostA K C W Φ Λ π σ H Q ((G s1).bind fun b s2 => .ok (x :: b) s2) := p
    cases eb : G s1 with
    | stuck => rw [eb] at p'; exact p'
    | exc x s => rw [eb] at p'; exact PostX.more p' k1 rel.psi
    | ok y s2 =>
      rw [eb] at p'
      intro us H2 B2 k2 r2 sp2 o2
      refine p' (v :: us) H2 (Cup B1 B2) (k1.trans (k2.mono cup_l)) (r2.eqv ?_ ?_) (sp1.cupl (sp2.mono (Sub.refl _) cup_l)) ?_
      · exact cup_sub (cup_sub cup_l (cup_l.trans cup_r)) (cup_r.trans cup_r)
      · exact cup_sub (cup_l.trans cup_l) (cup_sub (cup_r.trans cup_l) cup_r)
      · exact .cons (A1 := B1) (A2 := B2) (sp2.mono (Sub.refl _) cup_r).symm cup_l cup_r (o1.keep (k2.mono cup_r)) o2

/-! ### displays -/
theorem sl100 {n : Nat} (h : n ≤ 1000000) : n ≤ sizeLine := Nat.le_trans h (by decide)
def fTup (ds : List D) : Option D := if immL ds = true ∧ ds.length ≤ 1000000 then some (.tup ds) else none
def fLst (ds : List D) : Option D := if immL ds = true ∧ ds.length ≤ 1000000 then some (.lst ds) else none
theorem one_fr {p : Addr} (h : H p = none) : Fr H (One p) := fun a e => by
  have e' : a = p := e
  rw [e']; exact h
theorem one_al {p : Addr} {o : HO} : Al (upd H p o) (One p) := fun a e => by
  have e' : a = p := e
  rw [e', upd_same]; exact fun z => by cases z
theorem new_lst {ds : List D} {vs : List V} {p : Addr} (i : IL K C H ds vs) (h : H p = none) : Own K C (upd H p (.lst vs)) (.lst ds) (.ref p) (One p) :=
  .lst rfl upd_same ((i.same (same_upd h)).mono sub_mt)
theorem new_tup {ds : List D} {vs : List V} {p : Addr} {A : AP} (i : OwnL K C H ds vs A) (h : H p = none) : Own K C (upd H p (.tup vs)) (.tup ds) (.ref p) A :=
  .tup upd_same (i.same (same_upd h))
theorem sf_tup {ta : TA} {F : SS → Option (List D)} (ha : SimPs K C ta F) : SimF K C (tTup ta) (p1 fTup F) := fun Φ Λ π ss σ H Q d rel e k => by
  unfold p1 at e
  cases ea : F ss with
  | none => rw [ea] at e; cases e
  | some ds =>
    rw [ea] at e
    have e' : fTup ds = some d := e
    unfold fTup at e'
    split at e'
    · rename_i c
      cases e'
      refine ha Φ Λ π ss σ H _ ds rel ea fun vs H1 s1 r1 => ?_
      have il := r1.il c.1
      refine ⟨by rw [← il.length]; exact sl100 c.2, fun p hp => ?_⟩
      exact k _ _ Mt (s1.trans (same_upd hp)) fr_mt al_mt (new_tup il hp)
    · cases e'
theorem sf_lst {ta : TA} {F : SS → Option (List D)} (ha : SimPs K C ta F) : SimF K C (tLst ta) (p1 fLst F) := fun Φ Λ π ss σ H Q d rel e k => by
  unfold p1 at e
  cases ea : F ss with
  | none => rw [ea] at e; cases e
  | some ds =>
    rw [ea] at e
    have e' : fLst ds = some d := e
    unfold fLst at e'
    split at e'
    · rename_i c
      cases e'
      refine ha Φ Λ π ss σ H _ ds rel ea fun vs H1 s1 r1 => ?_
      have il := r1.il c.1
      refine ⟨by rw [← il.length]; exact sl100 c.2, fun p hp => ?_⟩
      exact k _ _ (One p) (s1.trans (same_upd hp)) (one_fr (s1.free hp)) one_al (new_lst il hp)
    · cases e'
/-- the items may own -/
def gTupD (ds : List D) : Option D := if ds.length ≤ 1000000 then some (.tup ds) else none
def gLstD (ds : List D) : Option D := if ds.length ≤ 1000000 then some (.lst ds) else none
theorem se_tup {ta : TA} {F : SS → R (List D)} (ha : SimA K C W ta F) : SimE K C W (tTup ta) (e1 gTupD F) := fun Φ Λ π ss σ H Q rel p => by
  unfold e1 at p
  refine ha Φ Λ π ss σ H _ rel ?_
  cases ea : F ss with
  | stuck => rw [ea] at p; exact p
  | exc x s => rw [ea] at p; exact p
  | ok ds s1 =>
    rw [ea] at p
    intro vs H1 B1 k1 r1 sp1 o1
    have p' : PostE K C W Φ Λ π σ H Q (R.of (gTupD ds) s1) := p
    unfold gTupD at p'
    split at p'
    · rename_i c
      refine ⟨by rw [← o1.length]; exact sl100 c, fun p hp => ?_⟩
      have s3 : Same H1 (upd H1 p (.tup vs)) := same_upd hp
      exact p' _ _ B1 (k1.trans (Keep.of s3)) (r1.same s3) sp1 (new_tup o1 hp)
    · exact p'.elim
theorem se_lst {ta : TA} {F : SS → R (List D)} (ha : SimA K C W ta F) : SimE K C W (tLst ta) (e1 gLstD F) := fun Φ Λ π ss σ H Q rel p => by
  unfold e1 at p
  refine ha Φ Λ π ss σ H _ rel ?_
  cases ea : F ss with
  | stuck => rw [ea] at p; exact p
  | exc x s => rw [ea] at p; exact p
  | ok ds s1 =>
    rw [ea] at p
    intro vs H1 B1 k1 r1 sp1 o1
    have p' : PostE K C W Φ Λ π σ H Q (R.of (gLstD ds) s1) := p
    unfold gLstD at p'
    split at p'
    · rename_i c
      refine ⟨by rw [← o1.length]; exact sl100 c, fun p hp => ?_⟩
      have s3 : Same H1 (upd H1 p (.lst vs)) := same_upd hp
      have npB : Sep B1 (One p) := fun a x y => by
        have y' : a = p := y
        subst y'
        exact r1.al a (.inr x) hp
      refine p' _ _ (Cup B1 (One p)) (k1.trans (Keep.of s3)) ((r1.grow s3 (one_fr hp) one_al).eqv ?_ ?_) (sp1.cupl (fr_sep (one_fr hp) (r1.al.mono cup_l)).symm) ?_
      · exact cup_sub (cup_sub cup_l (cup_l.trans cup_r)) (cup_r.trans cup_r)
      · exact cup_sub (cup_l.trans cup_l) (cup_sub (cup_r.trans cup_l) cup_r)
      · refine .lst (.inr rfl) upd_same ((o1.same s3).mono fun a x => ⟨.inl x, fun z => npB a x z⟩)
    · exact p'.elim

/-! ### tests -/
def asB : D → Option Bool
  | .bl b => some b
  | _ => none
theorem own_bl {d : D} {v : V} {A : AP} {b : Bool} (h : Own K C H d v A) (e : asB d = some b) : v = .bl b := by
  cases d <;> simp [asB] at e
  subst e
  cases h; rfl
theorem spt_b {t : TE} {F : SS → Option D} (h : SimP K C t F) : SimPT K C (tB t) (p1 asB F) := fun Φ Λ π ss σ H Q b r e k => by
  unfold p1 at e
  cases q : F ss with
  | none => rw [q] at e; cases e
  | some d =>
    rw [q] at e
    exact h Φ Λ π ss σ H _ d r q fun v H' s ⟨A, al, o⟩ => ⟨b, own_bl o e, k H' s⟩
theorem spt_test {t : TE} {F : SS → Option D} (h : SimP K C t F) : SimPT K C (tTest t) (p1 asB F) := fun Φ Λ π ss σ H Q b r e k => by
  unfold p1 at e
  cases q : F ss with
  | none => rw [q] at e; cases e
  | some d =>
    rw [q] at e
    exact h Φ Λ π ss σ H _ d r q fun v H' s ⟨A, al, o⟩ => ⟨b, own_bl o e, k H' s⟩
theorem st_b {t : TE} {F : SS → R D} (h : SimE K C W t F) : SimT K C W (tB t) (e1 asB F) := fun Φ Λ π ss σ H Q r p => by
  unfold e1 at p
  refine h Φ Λ π ss σ H _ r ?_
  cases q : F ss with
  | stuck => rw [q] at p; exact p
  | exc x s => rw [q] at p; exact p
  | ok d s1 =>
    rw [q] at p
    intro v H1 B1 k1 r1 sp1 o1
    have p' : PostT K C W Φ Λ π σ H Q (R.of (asB d) s1) := p
    cases eb : asB d with
    | none => rw [eb] at p'; exact p'.elim
    | some b =>
      rw [eb] at p'
      exact ⟨b, own_bl o1 eb, p' H1 k1 (r1.shrink cup_l r.psi)⟩
theorem st_test {t : TE} {F : SS → R D} (h : SimE K C W t F) : SimT K C W (tTest t) (e1 asB F) := st_b (t := t) h
def pNot (F : SS → Option Bool) : SS → Option Bool := fun s => (F s).map fun b => !b
def pAnd (F G : SS → Option Bool) : SS → Option Bool := fun s => (F s).bind fun b => if b = true then G s else some false
def pOr (F G : SS → Option Bool) : SS → Option Bool := fun s => (F s).bind fun b => if b = true then some true else G s
def rNot (F : SS → R Bool) : SS → R Bool := fun s => (F s).bind fun b s1 => .ok (!b) s1
def rAnd' (F G : SS → R Bool) : SS → R Bool := fun s => (F s).bind fun b s1 => if b = true then G s1 else .ok false s1
def rOr' (F G : SS → R Bool) : SS → R Bool := fun s => (F s).bind fun b s1 => if b = true then .ok true s1 else G s1
theorem spt_not {t : TT} {F : SS → Option Bool} (h : SimPT K C t F) : SimPT K C (tNot t) (pNot F) := fun Φ Λ π ss σ H Q b r e k => by
  unfold pNot at e
  cases q : F ss with
  | none => rw [q] at e; cases e
  | some c =>
    rw [q] at e; cases e
    exact h Φ Λ π ss σ H _ c r q fun H' s => k H' s
theorem spt_and {t u : TT} {F G : SS → Option Bool} (h : SimPT K C t F) (g : SimPT K C u G) : SimPT K C (tAnd t u) (pAnd F G) := fun Φ Λ π ss σ H Q b r e k => by
  unfold pAnd at e
  cases q : F ss with
  | none => rw [q] at e; cases e
  | some c =>
    rw [q] at e
    refine h Φ Λ π ss σ H _ c r q fun H' s => ?_
    have e' : (if c = true then G ss else some false) = some b := e
    split
    · rename_i z; rw [if_pos z] at e'; exact g Φ Λ π ss σ H' _ b (r.same s) e' fun H2 s2 => k H2 (s.trans s2)
    · rename_i z; rw [if_neg z] at e'; cases e'; exact k H' s
theorem spt_or {t u : TT} {F G : SS → Option Bool} (h : SimPT K C t F) (g : SimPT K C u G) : SimPT K C (tOr t u) (pOr F G) := fun Φ Λ π ss σ H Q b r e k => by
  unfold pOr at e
  cases q : F ss with
  | none => rw [q] at e; cases e
  | some c =>
    rw [q] at e
    refine h Φ Λ π ss σ H _ c r q fun H' s => ?_
    have e' : (if c = true then some true else G ss) = some b := e
    split
    · rename_i z; rw [if_pos z] at e'; cases e'; exact k H' s
    · rename_i z; rw [if_neg z] at e'; exact g Φ Λ π ss σ H' _ b (r.same s) e' fun H2 s2 => k H2 (s.trans s2)
theorem st_not {t : TT} {F : SS → R Bool} (h : SimT K C W t F) : SimT K C W (tNot t) (rNot F) := fun Φ Λ π ss σ H Q r p => by
  unfold rNot at p
  refine h Φ Λ π ss σ H _ r ?_
  cases q : F ss with
  | stuck => rw [q] at p; exact p
  | exc x s => rw [q] at p; exact p
  | ok d s1 => rw [q] at p; exact fun H1 k1 r1 => p H1 k1 r1
theorem st_and {t u : TT} {F G : SS → R Bool} (h : SimT K C W t F) (g : SimT K C W u G) : SimT K C W (tAnd t u) (rAnd' F G) := fun Φ Λ π ss σ H Q r p => by
  unfold rAnd' at p
  refine h Φ Λ π ss σ H _ r ?_
  cases q : F ss with
  | stuck => rw [q] at p; exact p
  | exc x s => rw [q] at p; exact p
  | ok d s1 =>
    rw [q] at p
    intro H1 k1 r1
    have p' : PostT K C W Φ Λ π σ H Q (if d = true then G s1 else .ok false s1) := p
    split
    · rename_i z; rw [if_pos z] at p'
      refine g Φ Λ π s1 σ H1 _ r1 ?_
      cases q2 : G s1 with
      | stuck => rw [q2] at p'; exact p'
      | exc x s => rw [q2] at p'; exact PostX.seq p' k1
      | ok c s2 => rw [q2] at p'; exact fun H2 k2 r2 => p' H2 (k1.trans k2) r2
    · rename_i z; rw [if_neg z] at p'; exact p' H1 k1 r1
theorem st_or {t u : TT} {F G : SS → R Bool} (h : SimT K C W t F) (g : SimT K C W u G) : SimT K C W (tOr t u) (rOr' F G) := fun Φ Λ π ss σ H Q r p => by
  unfold rOr' at p
  refine h Φ Λ π ss σ H _ r ?_
  cases q : F ss with
  | stuck => rw [q] at p; exact p
  | exc x s => rw [q] at p; exact p
  | ok d s1 =>
    rw [q] at p
    intro H1 k1 r1
    have p' : PostT K C W Φ Λ π σ H Q (if d = true then .ok true s1 else G s1) := p
    split
    · rename_i z; rw [if_pos z] at p'; exact p' H1 k1 r1
    · rename_i z; rw [if_neg z] at p'
      refine g Φ Λ π s1 σ H1 _ r1 ?_
      cases q2 : G s1 with
      | stuck => rw [q2] at p'; exact p'
      | exc x s => rw [q2] at p'; exact PostX.seq p' k1
      | ok c s2 => rw [q2] at p'; exact fun H2 k2 r2 => p' H2 (k1.trans k2) r2
/-! ### and, or, not as values; a if t else b -/
def pBl (F : SS → Option Bool) : SS → Option D := fun s => (F s).map D.bl
def eBl (F : SS → R Bool) : SS → R D := fun s => (F s).bind fun b s1 => .ok (.bl b) s1
theorem sf_andV {ta tb : TE} {F G : SS → Option D} (h : SimP K C ta F) (g : SimP K C tb G) : SimF K C (tAndV ta tb) (pBl (pAnd (p1 asB F) (p1 asB G))) := fun Φ Λ π ss σ H Q d r e k => by
  unfold pBl pAnd p1 at e
  cases q : F ss with
  | none => rw [q] at e; cases e
  | some x =>
    rw [q] at e
    refine h Φ Λ π ss σ H _ x r q fun v H1 s1 ⟨A, al, o⟩ => ?_
    cases eb : asB x with
    | none => simp [eb] at e
    | some b =>
      refine ⟨b, own_bl o eb, ?_⟩
      simp only [eb, Option.bind] at e
      split
      · rename_i z; rw [if_pos z] at e
        cases q2 : G ss with
        | none => rw [q2] at e; cases e
        | some y =>
          rw [q2] at e
          refine g Φ Λ π ss σ H1 _ y (r.same s1) q2 fun u H2 s2 ⟨A2, al2, o2⟩ => ?_
          cases eb2 : asB y with
          | none => simp [eb2] at e
          | some c =>
            simp only [eb2, Option.map_some] at e
            cases e
            rw [own_bl o2 eb2]
            exact k _ H2 Mt (s1.trans s2) fr_mt al_mt (.bl c)
      · rename_i z; rw [if_neg z] at e
        cases e
        exact k _ H1 Mt s1 fr_mt al_mt (.bl false)
theorem sf_orV {ta tb : TE} {F G : SS → Option D} (h : SimP K C ta F) (g : SimP K C tb G) : SimF K C (tOrV ta tb) (pBl (pOr (p1 asB F) (p1 asB G))) := fun Φ Λ π ss σ H Q d r e k => by
  unfold pBl pOr p1 at e
  cases q : F ss with
  | none => rw [q] at e; cases e
  | some x =>
    rw [q] at e
    refine h Φ Λ π ss σ H _ x r q fun v H1 s1 ⟨A, al, o⟩ => ?_
    cases eb : asB x with
    | none => simp [eb] at e
    | some b =>
      refine ⟨b, own_bl o eb, ?_⟩
      simp only [eb, Option.bind] at e
      split
      · rename_i z; rw [if_pos z] at e
        cases e
        exact k _ H1 Mt s1 fr_mt al_mt (.bl true)
      · rename_i z; rw [if_neg z] at e
        cases q2 : G ss with
        | none => rw [q2] at e; cases e
        | some y =>
          rw [q2] at e
          refine g Φ Λ π ss σ H1 _ y (r.same s1) q2 fun u H2 s2 ⟨A2, al2, o2⟩ => ?_
          cases eb2 : asB y with
          | none => simp [eb2] at e
          | some c =>
            simp only [eb2, Option.map_some] at e
            cases e
            rw [own_bl o2 eb2]
            exact k _ H2 Mt (s1.trans s2) fr_mt al_mt (.bl c)
theorem sf_notV {ta : TE} {F : SS → Option D} (h : SimP K C ta F) : SimF K C (tNotV ta) (pBl (pNot (p1 asB F))) := fun Φ Λ π ss σ H Q d r e k => by
  unfold pBl pNot p1 at e
  cases q : F ss with
  | none => rw [q] at e; cases e
  | some x =>
    rw [q] at e
    refine h Φ Λ π ss σ H _ x r q fun v H1 s1 ⟨A, al, o⟩ => ?_
    cases eb : asB x with
    | none => simp [eb] at e
    | some b =>
      refine ⟨b, own_bl o eb, ?_⟩
      simp only [eb, Option.bind, Option.map_some] at e
      cases e
      exact k _ H1 Mt s1 fr_mt al_mt (.bl _)
theorem se_andV {ta tb : TE} {F G : SS → R D} (h : SimE K C W ta F) (g : SimE K C W tb G) : SimE K C W (tAndV ta tb) (eBl (rAnd' (e1 asB F) (e1 asB G))) := fun Φ Λ π ss σ H Q r p => by
  unfold eBl rAnd' e1 at p
  refine h Φ Λ π ss σ H _ r ?_
  cases q : F ss with
  | stuck => rw [q] at p; exact p
  | exc x s => rw [q] at p; exact p
  | ok d s1 =>
    rw [q] at p
    intro v H1 B1 k1 r1 sp1 o1
    cases eb : asB d with
    | none => simp [eb, R.bind, R.of] at p; exact p.elim
    | some b =>
      refine ⟨b, own_bl o1 eb, ?_⟩
      simp only [eb, R.bind, R.of] at p
      have r1' := r1.shrink cup_l r.psi
      split
      · rename_i z
        rw [if_pos z] at p
        refine g Φ Λ π s1 σ H1 _ r1' ?_
        cases q2 : G s1 with
        | stuck => rw [q2] at p; exact p
        | exc x s => rw [q2] at p; exact PostX.seq p k1
        | ok y s2 =>
          rw [q2] at p
          intro u H2 B2 k2 r2 sp2 o2
          cases eb2 : asB y with
          | none => simp only [eb2] at p; exact p.elim
          | some c =>
            simp only [eb2] at p
            rw [own_bl o2 eb2]
            exact p _ H2 Mt (k1.trans k2) (r2.shrink cup_l r.psi).mt sep_mt (.bl c)
      · rename_i z
        rw [if_neg z] at p
        exact p _ H1 Mt k1 r1'.mt sep_mt (.bl false)
def pIf (T : SS → Option Bool) (F G : SS → Option D) : SS → Option D := fun s => (T s).bind fun b => if b = true then F s else G s
def eIf (T : SS → R Bool) (F G : SS → R D) : SS → R D := fun s => (T s).bind fun b s1 => if b = true then F s1 else G s1
theorem sp_if {t : TT} {ta tb : TE} {T : SS → Option Bool} {F G : SS → Option D} (ht : SimPT K C t T) (h : SimP K C ta F) (g : SimP K C tb G) : SimP K C (tIf t ta tb) (pIf T F G) := fun Φ Λ π ss σ H Q d r e k => by
  unfold pIf at e
  cases q : T ss with
  | none => rw [q] at e; cases e
  | some b =>
    rw [q] at e
    refine ht Φ Λ π ss σ H _ b r q fun H1 s1 => ?_
    have e' : (if b = true then F ss else G ss) = some d := e
    split
    · rename_i z; rw [if_pos z] at e'
      exact h Φ Λ π ss σ H1 _ d (r.same s1) e' fun v H2 s2 rb => k v H2 (s1.trans s2) rb
    · rename_i z; rw [if_neg z] at e'
      exact g Φ Λ π ss σ H1 _ d (r.same s1) e' fun v H2 s2 rb => k v H2 (s1.trans s2) rb
theorem sf_if {t : TT} {ta tb : TE} {T : SS → Option Bool} {F G : SS → Option D} (ht : SimPT K C t T) (h : SimF K C ta F) (g : SimF K C tb G) : SimF K C (tIf t ta tb) (pIf T F G) := fun Φ Λ π ss σ H Q d r e k => by
  unfold pIf at e
  cases q : T ss with
  | none => rw [q] at e; cases e
  | some b =>
    rw [q] at e
    refine ht Φ Λ π ss σ H _ b r q fun H1 s1 => ?_
    have e' : (if b = true then F ss else G ss) = some d := e
    split
    · rename_i z; rw [if_pos z] at e'
      exact h Φ Λ π ss σ H1 _ d (r.same s1) e' fun v H2 B s2 f al rb => k v H2 B (s1.trans s2) (fun a x => s1.free (f a x)) al rb
    · rename_i z; rw [if_neg z] at e'
      exact g Φ Λ π ss σ H1 _ d (r.same s1) e' fun v H2 B s2 f al rb => k v H2 B (s1.trans s2) (fun a x => s1.free (f a x)) al rb
theorem PostE.more {Q : VK} {r : R D} {H1 : Hp} (p : PostE K C W Φ Λ π σ H Q r) (k : Keep Φ H H1) : PostE K C W Φ Λ π σ H1 Q r := by
  cases r with
  | stuck => exact p
  | exc x s => exact PostX.seq p k
  | ok d s => exact fun v H' B k2 => p v H' B (k.trans k2)
theorem se_if {t : TT} {ta tb : TE} {T : SS → R Bool} {F G : SS → R D} (ht : SimT K C W t T) (h : SimE K C W ta F) (g : SimE K C W tb G) : SimE K C W (tIf t ta tb) (eIf T F G) := fun Φ Λ π ss σ H Q r p => by
  unfold eIf at p
  refine ht Φ Λ π ss σ H _ r ?_
  cases q : T ss with
  | stuck => rw [q] at p; exact p
  | exc x s => rw [q] at p; exact p
  | ok b s1 =>
    rw [q] at p
    intro H1 k1 r1
    have p' : PostE K C W Φ Λ π σ H Q (if b = true then F s1 else G s1) := p
    split
    · rename_i z; rw [if_pos z] at p'; exact h Φ Λ π s1 σ H1 _ r1 (p'.more k1)
    · rename_i z; rw [if_neg z] at p'; exact g Φ Λ π s1 σ H1 _ r1 (p'.more k1)
end
end Dy

/-! Statements, loops, comprehensions over data. -/
namespace Dy
open PySem L2
def RS.map (u : SS → SS) : RS → RS
  | .nx s => .nx (u s)
  | .ret d s => .ret d (u s)
  | .brk s => .brk (u s)
  | .ct s => .ct (u s)
  | .exc x s => .exc x (u s)
  | .stuck => .stuck
def R.noexc {α : Type} : R α → R α
  | .exc _ _ => .stuck
  | o => o
section
variable {K : PySem.W.Frag} {C : Nat → Addr} {W : WX} {Φ Φ' : AP} {Λ : Nat → AP} {π : Nat → Option V} {ss : SS} {σ : L2.St} {H H' : Hp}
theorem PostS.more {E : Ends} {r : RS} {H1 : Hp} (p : PostS K C W Φ Λ π H E r) (k : Keep Φ H H1) : PostS K C W Φ Λ π H1 E r := by
  cases r with
  | stuck => exact p
  | nx s => exact fun σ' H' k2 => p σ' H' (k.trans k2)
  | ret d s => exact fun v σ' H' B k2 => p v σ' H' B (k.trans k2)
  | brk s => exact fun σ' H' k2 => p σ' H' (k.trans k2)
  | ct s => exact fun σ' H' k2 => p σ' H' (k.trans k2)
  | exc x s => exact fun σ' H' cls da k2 => p σ' H' cls da (k.trans k2)
/-! ### simple statements -/
def sNil : SS → RS := fun s => .nx s
def sSeq (F G : SS → RS) : SS → RS := fun s => (F s).seq G
def sIf (T : SS → R Bool) (F G : SS → RS) : SS → RS := fun s => (T s).thn fun b s1 => if b = true then F s1 else G s1
def sDrop (F : SS → R D) : SS → RS := fun s => (F s).thn fun _ s1 => .nx s1
def sRet (F : SS → R D) : SS → RS := fun s => (F s).thn fun d s1 => .ret d s1
def sRetN : SS → RS := fun s => .ret .non s
def sStuck : SS → RS := fun _ => .stuck
def sBrk : SS → RS := fun s => .brk s
def sCt : SS → RS := fun s => .ct s
theorem ss_nil : SimS K C W tNext sNil := fun Φ Λ π ss σ H E r p => p σ H (Keep.refl _ _) r
theorem ss_never : SimS K C W tNever sStuck := fun Φ Λ π ss σ H E r p => p
theorem ss_break : SimS K C W tBreak sBrk := fun Φ Λ π ss σ H E r p => p σ H (Keep.refl _ _) r
theorem ss_cont : SimS K C W tCont sCt := fun Φ Λ π ss σ H E r p => p σ H (Keep.refl _ _) r
theorem ss_retN : SimS K C W tRetN sRetN := fun Φ Λ π ss σ H E r p => p .non σ H Mt (Keep.refl _ _) r.mt sep_mt .non
theorem ss_seq {t u : TS} {F G : SS → RS} (h : SimS K C W t F) (g : SimS K C W u G) : SimS K C W (tSeq t u) (sSeq F G) := fun Φ Λ π ss σ H E r p => by
  unfold sSeq at p
  refine h Φ Λ π ss σ H _ r ?_
  cases q : F ss with
  | nx s =>
    rw [q] at p
    have p' : PostS K C W Φ Λ π H E (G s) := p
    exact fun σ' H' k r' => g Φ Λ π s σ' H' E r' (p'.more k)
  | stuck => rw [q] at p; exact p
  | ret d s => rw [q] at p; exact p
  | brk s => rw [q] at p; exact p
  | ct s => rw [q] at p; exact p
  | exc x s => rw [q] at p; exact p
theorem ss_if {c : TT} {t u : TS} {T : SS → R Bool} {F G : SS → RS} (hc : SimT K C W c T) (h : SimS K C W t F) (g : SimS K C W u G) : SimS K C W (tIfS c t u) (sIf T F G) := fun Φ Λ π ss σ H E r p => by
  unfold sIf at p
  refine hc Φ Λ π ss σ H _ r ?_
  cases q : T ss with
  | stuck => rw [q] at p; exact p
  | exc x s => rw [q] at p; exact fun H' cls da => p σ H' cls da
  | ok b s1 =>
    rw [q] at p
    intro H1 k1 r1
    have p' : PostS K C W Φ Λ π H E (if b = true then F s1 else G s1) := p
    split
    · rename_i z; rw [if_pos z] at p'; exact h Φ Λ π s1 σ H1 E r1 (p'.more k1)
    · rename_i z; rw [if_neg z] at p'; exact g Φ Λ π s1 σ H1 E r1 (p'.more k1)
theorem ss_expr {te : TE} {F : SS → R D} (h : SimE K C W te F) : SimS K C W (tDrop te) (sDrop F) := fun Φ Λ π ss σ H E r p => by
  unfold sDrop at p
  refine h Φ Λ π ss σ H _ r ?_
  cases q : F ss with
  | stuck => rw [q] at p; exact p
  | exc x s => rw [q] at p; exact fun H' cls da => p σ H' cls da
  | ok d s1 =>
    rw [q] at p
    exact fun v H1 B1 k1 r1 _ _ => p σ H1 k1 (r1.shrink cup_l r.psi)
theorem ss_ret {te : TE} {F : SS → R D} (h : SimE K C W te F) : SimS K C W (tRet te) (sRet F) := fun Φ Λ π ss σ H E r p => by
  unfold sRet at p
  refine h Φ Λ π ss σ H _ r ?_
  cases q : F ss with
  | stuck => rw [q] at p; exact p
  | exc x s => rw [q] at p; exact fun H' cls da => p σ H' cls da
  | ok d s1 =>
    rw [q] at p
    exact fun v H1 B1 k1 r1 => p v σ H1 B1 k1 r1
/-! ### targets -/
def setSl (i : Nat) (d : D) (s : SS) : Option SS := match s[i]? with
  | some x => if x.isInn then none else some (s.set i (.own d))
  | none => none
def nxO : Option SS → RS
  | some s => .nx s
  | none => .stuck
def sSet (i : Nat) (F : SS → R D) : SS → RS := fun s => (F s).thn fun d s1 => nxO (setSl i d s1)
theorem setSl_ok {i : Nat} {d : D} {s s' : SS} (h : setSl i d s = some s') : ∃ x, s[i]? = some x ∧ x.isInn = false ∧ s' = s.set i (.own d) := by
  unfold setSl at h
  cases e : s[i]? with
  | none => rw [e] at h; cases h
  | some x =>
    rw [e] at h
    cases b : x.isInn with
    | true => simp [b] at h
    | false => simp [b] at h; exact ⟨x, rfl, b, h.symm⟩
theorem ss_set {i : Nat} {te : TE} {F : SS → R D} (h : SimE K C W te F) : SimS K C W (tAsg te (gName i)) (sSet i F) := fun Φ Λ π ss σ H E r p => by
  unfold sSet at p
  refine h Φ Λ π ss σ H _ r ?_
  cases q : F ss with
  | stuck => rw [q] at p; exact p
  | exc x s => rw [q] at p; exact fun H' cls da => p σ H' cls da
  | ok d s1 =>
    rw [q] at p
    intro v H1 B1 k1 r1 sp1 o1
    have p' : PostS K C W Φ Λ π H E (nxO (setSl i d s1)) := p
    cases e : setSl i d s1 with
    | none => rw [e] at p'; exact p'.elim
    | some s2 =>
      rw [e] at p'
      obtain ⟨x, h1, h2, rfl⟩ := setSl_ok e
      exact p' _ H1 k1 (r1.put h1 h2 sp1 r.psi o1)
/-- a, b, .. = a tuple whose items move -/
def setAll : List Nat → List D → SS → Option SS
  | [], [], s => some s
  | i :: is, d :: ds, s => (setSl i d s).bind (setAll is ds)
  | _, _, _ => none
def gNames : List Nat → TGs
  | [] => gNil
  | i :: is => gCons (gName i) (gNames is)
theorem put_all : ∀ {is : List Nat} {ds : List D} {vs : List V} {B : AP} {s s' : SS} {σ : L2.St} {Q : L2.St → Hp → Prop}, (∀ i, Sub (Λ i) Φ) → Rel K C (Cup Φ B) Λ π s σ H → Sep B Φ → OwnL K C H ds vs B → setAll is ds s = some s' →
    (∀ σ', Rel K C Φ Λ π s' σ' H → Q σ' H) → gNames is vs σ H Q
  | [], [], vs, B, s, s', σ, Q, psi, r, sp, o, e, k => by
    cases o; cases e
    exact ⟨rfl, k σ (r.shrink cup_l psi)⟩
  | i :: is, d :: ds, vs, B, s, s', σ, Q, psi, r, sp, o, e, k => by
    cases o with
    | cons a b c x y =>
      rename_i A1 A2 v vr
      unfold setAll at e
      cases e1 : setSl i d s with
      | none => rw [e1] at e; cases e
      | some s1 =>
        rw [e1] at e
        obtain ⟨w, h1, h2, rfl⟩ := setSl_ok e1
        refine ⟨v, vr, rfl, ?_⟩
        have r2 : Rel K C (Cup (Cup Φ A2) A1) Λ π s σ H := r.shrink (cup_sub (cup_sub cup_l (c.trans cup_r)) (b.trans cup_r)) fun i => (psi i).trans (cup_l.trans cup_l)
        have r3 := r2.put h1 h2 ((sp.mono b (Sub.refl _)).cup a) (fun i => (psi i).trans cup_l) x
        exact put_all psi r3 (sp.mono c (Sub.refl _)) y e k
  | [], _ :: _, _, _, _, _, _, _, _, _, _, _, e, _ => by cases e
  | _ :: _, [], _, _, _, _, _, _, _, _, _, _, e, _ => by cases e
def asTup : D → Option (List D)
  | .tup ds => some ds
  | _ => none
def sUnp (is : List Nat) (F : SS → R D) : SS → RS := fun s => (F s).thn fun d s1 => nxO ((asTup d).bind fun ds => setAll is ds s1)
theorem setAll_len : ∀ {is : List Nat} {ds : List D} {s s' : SS}, setAll is ds s = some s' → is.length = ds.length
  | [], [], _, _, _ => rfl
  | i :: is, d :: ds, s, s', e => by
    unfold setAll at e
    cases e1 : setSl i d s with
    | none => rw [e1] at e; cases e
    | some s1 => rw [e1] at e; rw [List.length_cons, List.length_cons, setAll_len e]
  | [], _ :: _, _, _, e => by cases e
  | _ :: _, [], _, _, e => by cases e
theorem ss_unp {is : List Nat} {n : Nat} {te : TE} {F : SS → R D} (h : SimE K C W te F) (hn : is.length = n := by rfl) : SimS K C W (tAsg te (gTup K n (gNames is))) (sUnp is F) := fun Φ Λ π ss σ H E r p => by
  unfold sUnp at p
  refine h Φ Λ π ss σ H _ r ?_
  cases q : F ss with
  | stuck => rw [q] at p; exact p
  | exc x s => rw [q] at p; exact fun H' cls da => p σ H' cls da
  | ok d s1 =>
    rw [q] at p
    intro v H1 B1 k1 r1 sp1 o1
    have p' : PostS K C W Φ Λ π H E (nxO ((asTup d).bind fun ds => setAll is ds s1)) := p
    cases d <;> try (exact p'.elim)
    rename_i ds
    have p'' : PostS K C W Φ Λ π H E (nxO (setAll is ds s1)) := p'
    cases e : setAll is ds s1 with
    | none => rw [e] at p''; exact p''.elim
    | some s2 =>
      rw [e] at p''
      cases o1 with
      | tup a b =>
        rename_i a0 vs
        exact ⟨a0, vs, rfl, SqT.of a, by rw [← b.length, ← setAll_len e]; exact hn, put_all r.psi r1 sp1 b e fun σ' r' => p'' σ' H1 k1 r'⟩
/-- a, b = e1, e2 -/
def sPar (i j : Nat) (F : SS → R (List D)) : SS → RS := fun s => (F s).thn fun ds s1 => match ds with
  | [d, e] => nxO ((setSl i d s1).bind (setSl j e))
  | _ => .stuck
theorem ss_par {i j : Nat} {ta : TA} {F : SS → R (List D)} (h : SimA K C W ta F) : SimS K C W (tPar i j ta) (sPar i j F) := fun Φ Λ π ss σ H E r p => by
  unfold sPar at p
  refine h Φ Λ π ss σ H _ r ?_
  cases q : F ss with
  | stuck => rw [q] at p; exact p
  | exc x s => rw [q] at p; exact fun H' cls da => p σ H' cls da
  | ok ds s1 =>
    rw [q] at p
    intro vs H1 B1 k1 r1 sp1 o1
    cases o1 with
    | nil => exact p.elim
    | cons a b c x y =>
      cases y with
      | nil => exact p.elim
      | cons a2 b2 c2 x2 y2 =>
        cases y2 with
        | cons _ _ _ _ _ => exact p.elim
        | nil =>
          rename_i A1 A2 d v A3 A4 e w
          have p' : PostS K C W Φ Λ π H E (nxO ((setSl i d s1).bind (setSl j e))) := p
          cases e1 : setSl i d s1 with
          | none => rw [e1] at p'; exact p'.elim
          | some s2 =>
            rw [e1] at p'
            have p'' : PostS K C W Φ Λ π H E (nxO (setSl j e s2)) := p'
            cases e2 : setSl j e s2 with
            | none => rw [e2] at p''; exact p''.elim
            | some s3 =>
              rw [e2] at p''
              obtain ⟨z, h1, h2, rfl⟩ := setSl_ok e1
              obtain ⟨z', h1', h2', rfl⟩ := setSl_ok e2
              refine ⟨v, w, rfl, p'' _ H1 k1 ?_⟩
              have r2 : Rel K C (Cup (Cup Φ A3) A1) Λ π s1 σ H1 := r1.shrink (cup_sub (cup_sub cup_l ((b2.trans c).trans cup_r)) (b.trans cup_r)) fun i => (r.psi i).trans (cup_l.trans cup_l)
              have r3 := r2.put h1 h2 ((sp1.mono b (Sub.refl _)).cup (a.mono (Sub.refl _) b2)) (fun i => (r.psi i).trans cup_l) x
              exact r3.put h1' h2' (sp1.mono (b2.trans c) (Sub.refl _)) r.psi x2
/-! ### slots cleared, lent -/
def clr1 (i : Nat) (s : SS) : SS := match s[i]? with
  | some (.inn _) => s
  | _ => s.set i .no
def clr (ts : List Nat) (s : SS) : SS := ts.foldl (fun s i => clr1 i s) s
theorem Rel.clr1 {Λ' : Nat → AP} {i : Nat} (r : Rel K C Φ Λ π ss σ H) (h : ∀ j, j ≠ i → Λ' j = Λ j) (g : ∀ j, Sub (Λ' j) Φ) : Rel K C Φ Λ' π (clr1 i ss) σ H := by
  obtain ⟨As, a⟩ := r
  have other : ∀ j s o, j ≠ i → ss[j]? = some s → σ[j]? = some o → SlOk K C H (Λ' j) (As j) s o := fun j s o n e1 e2 => by rw [h j n]; exact a.ok j s o e1 e2
  unfold Dy.clr1
  split
  · rename_i d e
    refine ⟨As, a.al, g, a.len, a.pin, a.aa, a.af, a.ap, fun j s o e1 e2 => ?_⟩
    by_cases n : j = i
    · subst n
      rw [e] at e1; cases e1
      exact a.ok j _ o e e2
    · exact other j s o n e1 e2
  · rename_i n0
    refine ⟨As, a.al, g, by rw [List.length_set]; exact a.len, fun j v hj => ?_, a.aa, a.af, a.ap, fun j s o e1 e2 => ?_⟩
    · obtain ⟨h1, x, h2⟩ := a.pin j v hj
      have nj : i ≠ j := fun z => by subst z; exact n0 x h2
      exact ⟨h1, x, by rw [List.getElem?_set_ne nj]; exact h2⟩
    · by_cases n : i = j
      · subst n
        by_cases hi : i < ss.length
        · rw [List.getElem?_set_self hi] at e1; cases e1; trivial
        · rw [List.getElem?_eq_none (by rw [List.length_set]; omega)] at e1; cases e1
      · rw [List.getElem?_set_ne n] at e1
        exact other j s o (fun z => n z.symm) e1 e2
theorem Rel.clr : ∀ {ts : List Nat} {Λ Λ' : Nat → AP} {ss : SS}, Rel K C Φ Λ π ss σ H → (∀ j, j ∉ ts → Λ' j = Λ j) → (∀ j, Sub (Λ' j) Φ) → Rel K C Φ Λ' π (clr ts ss) σ H
  | [], Λ, Λ', ss, r, h, g => by
    have e : Λ' = Λ := funext fun j => h j (by simp)
    subst e
    exact r
  | i :: ts, Λ, Λ', ss, r, h, g => by
    show Rel K C Φ Λ' π (Dy.clr ts (Dy.clr1 i ss)) σ H
    refine Rel.clr (Λ := fun j => if j = i then Λ' i else Λ j) (r.clr1 (fun j n => if_neg n) fun j => ?_) (fun j n => ?_) g
    · split
      · exact g i
      · exact r.psi j
    · show Λ' j = if j = i then Λ' i else Λ j
      split
      · rename_i z; rw [z]
      · rename_i z; exact h j (by simp only [List.mem_cons, not_or]; exact ⟨z, n⟩)
/-- a slot's list is lent while a loop walks it -/
def unlk (j : Nat) (s : SS) : SS := match s[j]? with
  | some (.bor d) => s.set j (.own d)
  | _ => s
/-- what a walk hands back: from within to the outside -/
def Back (K : PySem.W.Frag) (C : Nat → Addr) (Φ B : AP) (Λ Λ' : Nat → AP) (π : Nat → Option V) (u : SS → SS) : Prop :=
  ∀ B' s σ H, Sep B' B → Rel K C (Cup (Cup Φ B) B') Λ' π s σ H → Rel K C (Cup Φ B') Λ π (u s) σ H
theorem back_id {B : AP} (psi : ∀ i, Sub (Λ i) Φ) : Back K C Φ B Λ Λ π id := fun B' s σ H _ r => r.shrink (cup_sub (cup_l.trans cup_l) cup_r) fun i => (psi i).trans cup_l
theorem back_unlk {B : AP} {j : Nat} (psi : ∀ i, Sub (Λ i) Φ) (sp : Sep B Φ) : Back K C Φ B Λ (fun i => if i = j then B else Λ i) π (unlk j) := fun B' s σ H sp' r => by
  obtain ⟨As, a⟩ := r
  have s1 : Sub (Cup Φ B') (Cup (Cup Φ B) B') := cup_sub (cup_l.trans cup_l) cup_r
  have base : ∀ i, Sub (Λ i) (Cup Φ B') := fun i => (psi i).trans cup_l
  unfold unlk
  split
  · rename_i d e
    refine ⟨fun i => if i = j then B else As i, a.al.mono s1, base, by rw [List.length_set]; exact a.len, fun i v hi => ?_, fun i => ?_, fun i => ?_, fun i k h => ?_, fun i s' o e1 e2 => ?_⟩
    · obtain ⟨h1, x, h2⟩ := a.pin i v hi
      have nj : j ≠ i := fun z => by subst z; rw [e] at h2; cases h2
      exact ⟨h1, x, by rw [List.getElem?_set_ne nj]; exact h2⟩
    · show Al H (if i = j then B else As i)
      split
      · exact a.al.mono (cup_r.trans cup_l)
      · exact a.aa i
    · show Sep (if i = j then B else As i) (Cup Φ B')
      split
      · exact sp.cup sp'.symm
      · exact (a.af i).mono (Sub.refl _) s1
    · show Sep (if i = j then B else As i) (if k = j then B else As k)
      by_cases hi : i = j
      · rw [if_pos hi, if_neg (fun z => h (hi.trans z.symm))]
        exact ((a.af k).mono (Sub.refl _) (cup_r.trans cup_l)).symm
      · rw [if_neg hi]
        by_cases hk : k = j
        · rw [if_pos hk]; exact (a.af i).mono (Sub.refl _) (cup_r.trans cup_l)
        · rw [if_neg hk]; exact a.ap i k h
    · by_cases n : j = i
      · subst n
        have hi : j < s.length := (List.getElem?_eq_some_iff.mp e).1
        rw [List.getElem?_set_self hi] at e1; cases e1
        obtain ⟨v, e3, w⟩ := a.ok j _ o e e2
        show SlOk K C H (Λ j) (if j = j then B else As j) (.own d) o
        rw [if_pos rfl]
        rw [if_pos rfl] at w
        exact ⟨v, e3, w⟩
      · rw [List.getElem?_set_ne n] at e1
        show SlOk K C H (Λ i) (if i = j then B else As i) s' o
        rw [if_neg (fun z => n z.symm)]
        have w := a.ok i s' o e1 e2
        rw [if_neg (fun z => n z.symm)] at w
        exact w
  · rename_i n0
    refine ⟨As, a.al.mono s1, base, a.len, a.pin, a.aa, fun i => (a.af i).mono (Sub.refl _) s1, a.ap, fun i s' o e1 e2 => ?_⟩
    have w := a.ok i s' o e1 e2
    by_cases n : i = j
    · subst n
      cases s' with
      | bor d => exact (n0 d e1).elim
      | no => trivial
      | own d => exact w
      | inn d => exact w
    · rw [if_neg n] at w; exact w
theorem Back.clr {B : AP} {Λ' : Nat → AP} {u : SS → SS} {ts : List Nat} (b : Back K C Φ B Λ Λ' π u) (psi : ∀ i, Sub (Λ' i) (Cup Φ B)) : Back K C Φ B Λ (fun i => if i ∈ ts then B else Λ' i) π (fun s => u (Dy.clr ts s)) := fun B' s σ H sp r =>
  b B' _ σ H sp (r.clr (fun j n => (if_neg n).symm) fun j => (psi j).trans cup_l)
theorem PostS.back {B : AP} {Λ' : Nat → AP} {u : SS → SS} {E : Ends} {r : RS} {H1 : Hp} (b : Back K C Φ B Λ Λ' π u) (k : Keep Φ H H1) (p : PostS K C W Φ Λ π H E (r.map u)) (mt : ∀ s σ H, Rel K C (Cup Φ Mt) Λ π s σ H → Rel K C Φ Λ π s σ H) : PostS K C W (Cup Φ B) Λ' π H1 E r := by
  cases r with
  | stuck => exact p
  | nx s => exact fun σ' H' k2 r' => p σ' H' (k.trans (k2.mono cup_l)) (mt _ _ _ (b Mt s σ' H' sep_mt r'.mt))
  | ret d s => exact fun v σ' H' B' k2 r' sp o => p v σ' H' B' (k.trans (k2.mono cup_l)) (b B' s σ' H' (sp.mono (Sub.refl _) cup_r) r') (sp.mono (Sub.refl _) cup_l) o
  | brk s => exact fun σ' H' k2 r' => p σ' H' (k.trans (k2.mono cup_l)) (mt _ _ _ (b Mt s σ' H' sep_mt r'.mt))
  | ct s => exact fun σ' H' k2 r' => p σ' H' (k.trans (k2.mono cup_l)) (mt _ _ _ (b Mt s σ' H' sep_mt r'.mt))
  | exc x s => exact fun σ' H' cls da k2 r' => p σ' H' cls da (k.trans (k2.mono cup_l)) (mt _ _ _ (b Mt s σ' H' sep_mt r'.mt))
theorem unmt (psi : ∀ i, Sub (Λ i) Φ) : ∀ s σ H, Rel K C (Cup Φ Mt) Λ π s σ H → Rel K C Φ Λ π s σ H := fun s σ H r => r.shrink cup_l psi

/-! ### what is walked -/
def ItOk (K : PySem.W.Frag) (C : Nat → Addr) (J : It) (ds : List D) (B : AP) (H0 : Hp) : Prop :=
  ∀ H, Keep B H0 H → ∀ i : Nat, (∀ d, ds[i]? = some d → J.go i H ∧ ∀ x H', J.yld i H x H' → Same H H' ∧ Own K C H' d x B) ∧ (ds.length ≤ i → J.stop i H)
def PostI (K : PySem.W.Frag) (C : Nat → Addr) (W : WX) (Φ : AP) (Λ : Nat → AP) (π : Nat → Option V) (σ : L2.St) (H : Hp) (u : SS → SS) (Z : It → Hp → Prop) : R (List D) → Prop
  | .ok ds s => ∀ J H' B Λ', Keep Φ H H' → Rel K C (Cup Φ B) Λ' π s σ H' → Back K C Φ B Λ Λ' π u → ItOk K C J ds B H' → Z J H'
  | .exc x s => PostX K C W Φ Λ π σ H x s
  | .stuck => False
def SimI (K : PySem.W.Frag) (C : Nat → Addr) (W : WX) (wi : TI) (u : SS → SS) (F : SS → R (List D)) : Prop := ∀ Φ Λ π ss σ H (Z : It → Hp → Prop), Rel K C Φ Λ π ss σ H → PostI K C W Φ Λ π σ H u Z (F ss) → wi σ H Z
def SimIP (K : PySem.W.Frag) (C : Nat → Addr) (wi : TI) (F : SS → Option (List D)) : Prop := ∀ Φ Λ π ss σ H (Z : It → Hp → Prop) ds, Rel K C Φ Λ π ss σ H → F ss = some ds →
  (∀ J H' B, Same H H' → Al H' B → ItOk K C J ds B H' → Z J H') → wi σ H Z
theorem OwnL.get : ∀ {ds : List D} {vs : List V} {A : AP} {i : Nat} {d : D}, OwnL K C H ds vs A → ds[i]? = some d → ∃ v, vs[i]? = some v ∧ Own K C H d v A
  | [], _, _, _, _, _, e => by simp at e
  | x :: ds, vs, A, 0, d, h, e => by
    cases h with
    | cons a b c x y => simp at e; subst e; exact ⟨_, rfl, x.mono b⟩
  | x :: ds, vs, A, i + 1, d, h, e => by
    cases h with
    | cons a b c x y =>
      obtain ⟨u, h1, h2⟩ := OwnL.get (i := i) y (by simpa using e)
      exact ⟨u, by simpa using h1, h2.mono c⟩
/-- a list or a tuple -/
def iSeq (K : PySem.W.Frag) (tl : TE) : TI := fun σ H R => tl σ H fun x H1 => ∃ a, x = .ref a ∧ (((∃ xs, SqL K H1 a xs) ∧ R (Itl K a) H1) ∨ ((∃ xs, SqT K H1 a xs) ∧ R (Itt K a) H1))
theorem pi_seq {X : Cx} {tg l : Expr} {tl : TE} (hl : PE X l tl) : PI X tg l (iSeq X.K tl) := by
  refine ⟨fun pins s σ H R I h => ?_⟩
  refine thn (hl.run pins s σ H _ I h) fun v s1 ⟨x, H1, I1, r1, q1⟩ => ?_
  obtain ⟨a, e, q⟩ := q1
  subst e
  cases r1
  rcases q with ⟨⟨xs, hq⟩, q⟩ | ⟨⟨xs, hq⟩, q⟩
  · obtain ⟨its, rv, p, hz⟩ := I1.list hq
    refine wpAny_pyIter_list p.isList ?_
    refine ⟨s1.heap.objs.size, [s1.heap.objs.size], _, _, H1, rfl, I1.kept (t' := s1.toks) fun b o e => Heap.get?_push_of_some _ e, turn_list a _, ⟨_, Heap.get?_push_size _ rfl, rfl, rfl⟩, fun b hb => ?_, q⟩
    have e : b = s1.heap.objs.size := by simpa using hb
    subst e
    exact I1.fpOk (Nat.le_refl _) (I1.hok.fresh (Nat.le_refl _))
  · obtain ⟨its, rv, p, hz⟩ := I1.tuple hq
    refine wpAny_pyIter_tuple (show s1.heap.IsTuple a its.toArray from p) ?_
    refine ⟨s1.heap.objs.size, [s1.heap.objs.size], _, _, H1, rfl, I1.kept (t' := s1.toks) fun b o e => Heap.get?_push_of_some _ e, turn_tuple a _, ⟨_, Heap.get?_push_size _ rfl, rfl, rfl⟩, fun b hb => ?_, q⟩
    have e : b = s1.heap.objs.size := by simpa using hb
    subst e
    exact I1.fpOk (Nat.le_refl _) (I1.hok.fresh (Nat.le_refl _))
def asSeq : D → Option (List D)
  | .lst ds => some ds
  | .tup ds => some ds
  | .fls ds => some ds
  | _ => none
theorem itl_ok {a : Addr} {ds : List D} {B : AP} (h : ∀ H1, Keep B H H1 → ∃ vs, SqL K H1 a vs ∧ OwnL K C H1 ds vs B) : ItOk K C (Itl K a) ds B H := fun H1 k i => by
  obtain ⟨vs, hq, ol⟩ := h H1 k
  refine ⟨fun d e => ?_, fun hl => ⟨vs, hq, by rw [← ol.length]; exact hl⟩⟩
  obtain ⟨v, e1, o⟩ := ol.get e
  refine ⟨⟨vs, v, hq, e1⟩, fun x H' ⟨eh, hy⟩ => ?_⟩
  subst eh
  have ex := hy vs hq
  rw [e1] at ex; cases ex
  exact ⟨Same.refl _, o⟩
theorem itt_ok {a : Addr} {ds : List D} {B : AP} (h : ∀ H1, Keep B H H1 → ∃ vs, SqT K H1 a vs ∧ OwnL K C H1 ds vs B) : ItOk K C (Itt K a) ds B H := fun H1 k i => by
  obtain ⟨vs, hq, ol⟩ := h H1 k
  refine ⟨fun d e => ?_, fun hl => ⟨vs, hq, by rw [← ol.length]; exact hl⟩⟩
  obtain ⟨v, e1, o⟩ := ol.get e
  refine ⟨⟨vs, v, hq, e1⟩, fun x H' ⟨eh, hy⟩ => ?_⟩
  subst eh
  have ex := hy vs hq
  rw [e1] at ex; cases ex
  exact ⟨Same.refl _, o⟩
end
end Dy

/-! Operators and built-ins by data. -/
namespace Dy
open PySem L2
section
variable {K : PySem.W.Frag} {C : Nat → Addr} {H H' : Hp}
/-! ### ints -/
def fII (h : Int → Int → D) (a b : D) : Option D := match a, b with
  | .int i, .int j => some (h i j)
  | _, _ => none
def fIC (c : Int → Int → Bool) (h : Int → Int → D) (a b : D) : Option D := match a, b with
  | .int i, .int j => if c i j then some (h i j) else none
  | _, _ => none
theorem fII_inv {h : Int → Int → D} {a b z : D} (e : fII h a b = some z) : ∃ i j, a = .int i ∧ b = .int j ∧ z = h i j := by
  cases a <;> cases b <;> simp [fII] at e
  exact ⟨_, _, rfl, rfl, e.symm⟩
theorem fIC_inv {c : Int → Int → Bool} {h : Int → Int → D} {a b z : D} (e : fIC c h a b = some z) : ∃ i j, a = .int i ∧ b = .int j ∧ c i j = true ∧ z = h i j := by
  cases a <;> cases b <;> simp [fIC] at e
  exact ⟨_, _, rfl, rfl, e.1, e.2.symm⟩
theorem rb_int' {i : Int} {v : V} (h : Rb K C H (.int i) v) : v = .int i := by obtain ⟨A, _, o⟩ := h; cases o; rfl
theorem rb_str {i : Str} {v : V} (h : Rb K C H (.str i) v) : v = .str i := by obtain ⟨A, _, o⟩ := h; cases o; rfl
theorem ops_I0 {g : Int → Int → V} {f : Int → Int → D} (hg : ∀ i j, cD (g i j) = f i j) : OpS K C (rI0 g) (fII f) := fun H x y dx dy z Q a b e k => by
  obtain ⟨i, j, rfl, rfl, rfl⟩ := fII_inv e
  refine ⟨i, j, rb_int' a, rb_int' b, k _ H Mt (Same.refl H) fr_mt al_mt ?_⟩
  rw [← hg]; exact own_c _
theorem ops_I {P : Int → Int → Prop} {c : Int → Int → Bool} {g : Int → Int → V} {f : Int → Int → D} (hc : ∀ i j, c i j = true → P i j) (hg : ∀ i j, cD (g i j) = f i j) : OpS K C (rI P g) (fIC c f) := fun H x y dx dy z Q a b e k => by
  obtain ⟨i, j, rfl, rfl, q, rfl⟩ := fIC_inv e
  refine ⟨i, j, rb_int' a, rb_int' b, hc i j q, k _ H Mt (Same.refl H) fr_mt al_mt ?_⟩
  rw [← hg]; exact own_c _
abbrev fAddI : D → D → Option D := fII fun i j => .int (i + j)
abbrev fSubI : D → D → Option D := fII fun i j => .int (i - j)
abbrev fLt : D → D → Option D := fII fun i j => .bl (decide (i < j))
abbrev fLe : D → D → Option D := fII fun i j => .bl (decide (i ≤ j))
abbrev fGt : D → D → Option D := fII fun i j => .bl (decide (j < i))
abbrev fGe : D → D → Option D := fII fun i j => .bl (decide (j ≤ i))
def cMul (i j : Int) : Bool := (decide (-(2 ^ 64) < i) && decide (i < 2 ^ 64)) || (decide (-(2 ^ 64) < j) && decide (j < 2 ^ 64))
def cDiv (i j : Int) : Bool := decide (j ≠ 0) && decide (j.natAbs < 1073741824)
def cMod (i j : Int) : Bool := decide (j ≠ 0)
def cPow (i j : Int) : Bool := decide (0 ≤ j) && (decide (j ≤ 1000000) && decide (i.natAbs < 2 ^ 64))
abbrev fMulI : D → D → Option D := fIC cMul fun i j => .int (i * j)
abbrev fDiv : D → D → Option D := fIC cDiv fun i j => .int (i.fdiv j)
abbrev fMod : D → D → Option D := fIC cMod fun i j => .int (i.fmod j)
abbrev fPow : D → D → Option D := fIC cPow fun i j => .int (i ^ j.toNat)
theorem os_addI : OpS K C (rI0 fun i j => .int (i + j)) fAddI := ops_I0 fun _ _ => rfl
theorem os_sub : OpS K C (rI0 fun i j => .int (i - j)) fSubI := ops_I0 fun _ _ => rfl
theorem os_lt : OpS K C (rI0 fun i j => .bl (decide (i < j))) fLt := ops_I0 fun _ _ => rfl
theorem os_le : OpS K C (rI0 fun i j => .bl (decide (i ≤ j))) fLe := ops_I0 fun _ _ => rfl
theorem os_gt : OpS K C (rI0 fun i j => .bl (decide (j < i))) fGt := ops_I0 fun _ _ => rfl
theorem os_ge : OpS K C (rI0 fun i j => .bl (decide (j ≤ i))) fGe := ops_I0 fun _ _ => rfl
theorem os_mulI : OpS K C (rI CMul fun i j => .int (i * j)) fMulI := ops_I (fun i j h => by
  simp only [cMul, Bool.or_eq_true, Bool.and_eq_true, decide_eq_true_eq] at h; exact h) fun _ _ => rfl
theorem os_div : OpS K C (rI CDivN fun i j => .int (i.fdiv j)) fDiv := ops_I (fun i j h => by
  simp only [cDiv, Bool.and_eq_true, decide_eq_true_eq] at h; exact h) fun _ _ => rfl
theorem os_mod : OpS K C (rI (fun _ j => j ≠ 0) fun i j => .int (i.fmod j)) fMod := ops_I (fun i j h => of_decide_eq_true h) fun _ _ => rfl
theorem os_pow : OpS K C (rI CPow fun i j => .int (i ^ j.toNat)) fPow := ops_I (fun i j h => by
  simp only [cPow, Bool.and_eq_true, decide_eq_true_eq] at h; exact h) fun _ _ => rfl
/-! ### texts, lists, tuples joined, repeated -/
def fAddS (a b : D) : Option D := match a, b with
  | .str x, .str y => if x.length + y.length ≤ 1000000 then some (.str (x ++ y)) else none
  | _, _ => none
theorem os_addS : OpS K C (fun x y H Q => ∃ i j, x = .str i ∧ y = .str j ∧ i.length + j.length ≤ sizeLine ∧ Q (.str (i ++ j)) H) fAddS := fun H x y dx dy z Q a b e k => by
  cases dx <;> cases dy <;> simp [fAddS] at e
  obtain ⟨l, rfl⟩ := e
  exact ⟨_, _, rb_str a, rb_str b, sl100 l, k _ H Mt (Same.refl H) fr_mt al_mt (.str _)⟩
def fAddL (a b : D) : Option D := match a, b with
  | .lst x, .lst y => if (immL x && immL y) = true ∧ x.length + y.length ≤ 1000000 then some (.lst (x ++ y)) else none
  | _, _ => none
theorem own_lst {ds : List D} {v : V} {A : AP} (o : Own K C H (.lst ds) v A) : ∃ a vs, v = .ref a ∧ H a = some (.lst vs) ∧ OwnL K C H ds vs A := by
  cases o with | lst h e y => exact ⟨_, _, rfl, e, y.mono But.sub⟩
theorem own_tup {ds : List D} {v : V} {A : AP} (o : Own K C H (.tup ds) v A) : ∃ a vs, v = .ref a ∧ H a = some (.tup vs) ∧ OwnL K C H ds vs A := by
  cases o with | tup e y => exact ⟨_, _, rfl, e, y⟩
theorem os_addL : OpS K C rCat fAddL := fun H x y dx dy z Q a b e k => by
  cases dx <;> cases dy <;> simp [fAddL] at e
  rename_i xs ys
  obtain ⟨⟨⟨i1, i2⟩, l⟩, rfl⟩ := e
  obtain ⟨A, _, o⟩ := a
  obtain ⟨B, _, o2⟩ := b
  obtain ⟨p, vs, rfl, e1, y1⟩ := own_lst o
  obtain ⟨q, ws, rfl, e2, y2⟩ := own_lst o2
  have il := IL.append (y1.imm i1) (y2.imm i2)
  exact ⟨p, q, vs, ws, rfl, rfl, e1, e2, by rw [← y1.length, ← y2.length]; exact sl100 l, fun r hr => k _ _ (One r) (same_upd hr) (one_fr hr) one_al (new_lst il hr)⟩
def fAddT (a b : D) : Option D := match a, b with
  | .tup x, .tup y => if (immL x && immL y) = true ∧ x.length + y.length ≤ 1000000 then some (.tup (x ++ y)) else none
  | _, _ => none
theorem os_addT : OpS K C (rCatA K) fAddT := fun H x y dx dy z Q a b e k => by
  cases dx <;> cases dy <;> simp [fAddT] at e
  rename_i xs ys
  obtain ⟨⟨⟨i1, i2⟩, l⟩, rfl⟩ := e
  obtain ⟨A, _, o⟩ := a
  obtain ⟨B, _, o2⟩ := b
  obtain ⟨p, vs, rfl, e1, y1⟩ := own_tup o
  obtain ⟨q, ws, rfl, e2, y2⟩ := own_tup o2
  have il := IL.append (y1.imm i1) (y2.imm i2)
  refine ⟨p, q, vs, ws, rfl, rfl, SqT.of e1, SqT.of e2, by rw [← y1.length, ← y2.length]; exact sl100 l, fun h => ?_, fun _ h => ?_, fun _ _ r hr => k _ _ Mt (same_upd hr) fr_mt al_mt (new_tup il hr)⟩
  · subst h
    cases y1
    exact k _ H Mt (Same.refl H) fr_mt al_mt (.tup e2 (y2.imm i2))
  · subst h
    cases y2
    rw [List.append_nil] at k
    exact k _ H Mt (Same.refl H) fr_mt al_mt (.tup e1 (y1.imm i1))
def fRepL (a b : D) : Option D := match a, b with
  | .lst x, .int k => if immL x = true ∧ (k < 2 ^ 62 ∧ -(2 ^ 62) < k) ∧ x.length * k.toNat ≤ 1000000 then some (.lst (List.replicate k.toNat x).flatten) else none
  | _, _ => none
theorem IL.flat {ds : List D} {vs : List V} (h : IL K C H ds vs) : ∀ n : Nat, IL K C H (List.replicate n ds).flatten (List.replicate n vs).flatten
  | 0 => .nil
  | n + 1 => by
    rw [List.replicate_succ, List.replicate_succ, List.flatten_cons, List.flatten_cons]
    exact IL.append h (IL.flat h n)
theorem os_repL : OpS K C rRep fRepL := fun H x y dx dy z Q a b e k => by
  cases dx <;> cases dy <;> simp [fRepL] at e
  rename_i xs i
  obtain ⟨⟨i1, ⟨h1, h2⟩, l⟩, rfl⟩ := e
  obtain ⟨A, _, o⟩ := a
  obtain ⟨p, vs, rfl, e1, y1⟩ := own_lst o
  exact ⟨p, i, vs, rfl, rb_int' b, e1, by omega, by omega, by rw [← y1.length]; exact sl100 l, fun r hr => k _ _ (One r) (same_upd hr) (one_fr hr) one_al (new_lst (IL.flat (y1.imm i1) _) hr)⟩
def fRepT (a b : D) : Option D := match a, b with
  | .tup x, .int k => if immL x = true ∧ x ≠ [] ∧ (2 ≤ k ∧ k ≤ 1000) ∧ x.length ≤ 1000 then some (.tup (List.replicate k.toNat x).flatten) else none
  | _, _ => none
theorem os_repT : OpS K C (rRepT K) fRepT := fun H x y dx dy z Q a b e k => by
  cases dx <;> cases dy <;> simp [fRepT] at e
  rename_i xs i
  obtain ⟨⟨i1, hn, ⟨h1, h2⟩, l⟩, rfl⟩ := e
  obtain ⟨A, _, o⟩ := a
  obtain ⟨p, vs, rfl, e1, y1⟩ := own_tup o
  refine ⟨p, i, vs, rfl, rb_int' b, SqT.of e1, fun z => hn ?_, h1, h2, by rw [← y1.length]; exact l, fun r hr => k _ _ Mt (same_upd hr) fr_mt al_mt (new_tup (IL.flat (y1.imm i1) _) hr)⟩
  subst z
  have := y1.length
  exact List.eq_nil_of_length_eq_zero this
/-! ### == -/
mutual
def toPy : D → PyData
  | .non => .none
  | .bl b => .bool b
  | .int i => .int i
  | .str s => .str s
  | .tup ds => .tuple (toPyL ds)
  | .lst ds => .list (toPyL ds)
  | .fls ds => .list (toPyL ds)
  | .op _ => .none
  | .dk _ _ => .none
  | .dt _ _ => .none
  | .ob _ _ _ => .none
def toPyL : List D → List PyData
  | [] => []
  | d :: ds => toPy d :: toPyL ds
end
/-! how deep; 1000 for what is no data -/
mutual
def dep : D → Nat
  | .non => 0
  | .bl _ => 0
  | .int _ => 0
  | .str s => if PyData.strOk s = true then 0 else 1000
  | .tup ds => depL ds + 1
  | .lst ds => depL ds + 1
  | .fls ds => depL ds + 1
  | .op _ => 1000
  | .dk _ _ => 1000
  | .dt _ _ => 1000
  | .ob _ _ _ => 1000
def depL : List D → Nat
  | [] => 0
  | d :: ds => max (dep d) (depL ds)
end
mutual
def eqD : D → D → Bool
  | .non, .non => true
  | .bl a, .bl b => a == b
  | .bl a, .int j => (if a then 1 else 0) == j
  | .int i, .bl b => i == (if b then 1 else 0)
  | .int i, .int j => i == j
  | .str x, .str y => x == y
  | .lst xs, .lst ys => eqDs xs ys
  | .lst xs, .fls ys => eqDs xs ys
  | .fls xs, .lst ys => eqDs xs ys
  | .fls xs, .fls ys => eqDs xs ys
  | .tup xs, .tup ys => eqDs xs ys
  | _, _ => false
def eqDs : List D → List D → Bool
  | [], [] => true
  | x :: xs, y :: ys => eqD x y && eqDs xs ys
  | _, _ => false
end
mutual
theorem eqv_toPy : ∀ (d e : D), dep d < 1000 → dep e < 1000 → PyData.eqv (toPy d) (toPy e) = eqD d e := fun d e hd he => by
  cases d <;> cases e <;> first
    | (simp only [dep] at hd; omega)
    | (simp only [dep] at he; omega)
    | (simp only [toPy, PyData.eqv, eqD]; done)
    | (rename_i xs ys; simp only [toPy, PyData.eqv, eqD]; simp only [dep] at hd he; exact eqv_toPyL xs ys (by omega) (by omega))
theorem eqv_toPyL : ∀ (ds es : List D), depL ds < 1000 → depL es < 1000 → PyData.eqvAll (toPyL ds) (toPyL es) = eqDs ds es := fun ds es hd he => by
  cases ds <;> cases es <;> first
    | (simp only [toPyL, PyData.eqvAll, eqDs]; done)
    | (rename_i d ds e es; simp only [toPyL, PyData.eqvAll, eqDs]; simp only [depL] at hd he; rw [eqv_toPy d e (by omega) (by omega), eqv_toPyL ds es (by omega) (by omega)])
end
mutual
theorem lay_toPy : ∀ (d : D), dep d < 1000 → (toPy d).canLay0 = true := fun d hd => by
  cases d <;> first
    | (simp only [dep] at hd; omega)
    | (simp only [toPy, PyData.canLay0]; done)
    | (simp only [toPy, PyData.canLay0]; simp only [dep] at hd; exact lay_toPyL _ (by omega))
    | (simp only [toPy, PyData.canLay0]; simp only [dep] at hd; split at hd <;> first | assumption | omega)
theorem lay_toPyL : ∀ (ds : List D), depL ds < 1000 → PyData.canLayAll0 (toPyL ds) = true := fun ds hd => by
  cases ds with
  | nil => simp only [toPyL, PyData.canLayAll0]
  | cons d ds => simp only [toPyL, PyData.canLayAll0]; simp only [depL] at hd; rw [lay_toPy d (by omega), lay_toPyL ds (by omega)]; rfl
end
mutual
theorem dep_toPy : ∀ (d : D), dep d < 1000 → (toPy d).depth = dep d := fun d hd => by
  cases d <;> first
    | (simp only [dep] at hd; omega)
    | (simp only [toPy, PyData.depth, dep]; done)
    | (simp only [toPy, PyData.depth, dep]; simp only [dep] at hd; rw [dep_toPyL _ (by omega)])
    | (simp only [toPy, PyData.depth, dep]; simp only [dep] at hd; split at hd <;> simp_all)
theorem dep_toPyL : ∀ (ds : List D), depL ds < 1000 → PyData.depthAll (toPyL ds) = depL ds := fun ds hd => by
  cases ds with
  | nil => simp only [toPyL, PyData.depthAll, depL]
  | cons d ds => simp only [toPyL, PyData.depthAll, depL]; simp only [depL] at hd; rw [dep_toPy d (by omega), dep_toPyL ds (by omega)]
end
theorem shaped_toPy {d : D} (h : dep d ≤ 60) : SeqAt.shaped (toPy d) = true := by
  unfold SeqAt.shaped
  rw [lay_toPy d (by omega), dep_toPy d (by omega), Bool.true_and]
  exact decide_eq_true (by omega)
mutual
theorem dp_toPy : ∀ {d : D} {v : V} {A : AP}, Own K C H d v A → dep d < 1000 → Dp K H v (toPy d) := fun {d v A} o hd => by
  cases o with
  | non => rw [toPy]; exact .non
  | bl b => rw [toPy]; exact .bl b
  | int i => rw [toPy]; exact .int i
  | str s => rw [toPy]; exact .str s
  | op v => simp only [dep] at hd; omega
  | tup e y => simp only [dep] at hd; rw [toPy]; exact .tup (SqT.of e) (dp_toPyL y (by omega))
  | lst h e y => simp only [dep] at hd; rw [toPy]; exact .lst (SqL.of e) (dp_toPyL y (by omega))
  | fls e y => simp only [dep] at hd; rw [toPy]; exact .lst e.sql (dp_toPyL y (by omega))
  | dk _ _ _ _ => simp only [dep] at hd; omega
  | dt _ _ _ _ => simp only [dep] at hd; omega
  | ob _ _ _ _ => simp only [dep] at hd; omega
theorem dp_toPyL : ∀ {ds : List D} {vs : List V} {A : AP}, OwnL K C H ds vs A → depL ds < 1000 → DpAll K H vs (toPyL ds) := fun {ds vs A} o hd => by
  cases o with
  | nil => rw [toPyL]; exact .nil
  | cons _ _ _ x y => simp only [depL] at hd; rw [toPyL]; exact .cons (dp_toPy x (by omega)) (dp_toPyL y (by omega))
end
def fEq (a b : D) : Option D := if dep a ≤ 60 ∧ dep b ≤ 60 then some (.bl (eqD a b)) else none
def fNe (a b : D) : Option D := if dep a ≤ 60 ∧ dep b ≤ 60 then some (.bl (!eqD a b)) else none
theorem os_eq : OpS K C (rEqD K) fEq := fun H x y dx dy z Q ⟨A, _, o⟩ ⟨B, _, o2⟩ e k => by
  unfold fEq at e
  split at e
  · rename_i c
    cases e
    refine ⟨toPy dx, toPy dy, dp_toPy o (by omega), dp_toPy o2 (by omega), shaped_toPy c.1, shaped_toPy c.2, ?_⟩
    rw [eqv_toPy dx dy (by omega) (by omega)]
    exact k _ H Mt (Same.refl H) fr_mt al_mt (.bl _)
  · cases e
theorem os_ne : OpS K C (rNeD K) fNe := fun H x y dx dy z Q ⟨A, _, o⟩ ⟨B, _, o2⟩ e k => by
  unfold fNe at e
  split at e
  · rename_i c
    cases e
    refine ⟨toPy dx, toPy dy, dp_toPy o (by omega), dp_toPy o2 (by omega), shaped_toPy c.1, shaped_toPy c.2, ?_⟩
    rw [eqv_toPy dx dy (by omega) (by omega)]
    exact k _ H Mt (Same.refl H) fr_mt al_mt (.bl _)
  · cases e
def isNonD : D → Bool
  | .non => true
  | _ => false
def isOpD : D → Bool
  | .op _ => true
  | _ => false
def fIsN (a b : D) : Option D := if isNonD b = true ∧ isOpD a = false then some (.bl (isNonD a)) else none
def fNotN (a b : D) : Option D := if isNonD b = true ∧ isOpD a = false then some (.bl (!isNonD a)) else none
theorem non_dec {d : D} {v : V} {A : AP} (o : Own K C H d v A) (h : isOpD d = false) : decide (v = .non) = isNonD d := by
  cases o <;> first | (cases h; done) | rfl | (exact decide_eq_false (fun z => by cases z))
theorem rb_non {d : D} {v : V} (h : Rb K C H d v) (e : isNonD d = true) : v = .non := by
  obtain ⟨A, _, o⟩ := h
  cases d <;> cases e
  cases o; rfl
theorem os_isN : OpS K C (fun x y H Q => y = .non ∧ Q (.bl (decide (x = .non))) H) fIsN := fun H x y dx dy z Q ⟨A, _, o⟩ b e k => by
  unfold fIsN at e
  split at e
  · rename_i c
    cases e
    refine ⟨rb_non b c.1, ?_⟩
    rw [non_dec o c.2]
    exact k _ H Mt (Same.refl H) fr_mt al_mt (.bl _)
  · cases e
theorem os_notN : OpS K C (fun x y H Q => y = .non ∧ Q (.bl (!decide (x = .non))) H) fNotN := fun H x y dx dy z Q ⟨A, _, o⟩ b e k => by
  unfold fNotN at e
  split at e
  · rename_i c
    cases e
    refine ⟨rb_non b c.1, ?_⟩
    rw [non_dec o c.2]
    exact k _ H Mt (Same.refl H) fr_mt al_mt (.bl _)
  · cases e
/-! ### in -/
def asLst : D → Option (List D)
  | .lst ds => some ds
  | .fls ds => some ds
  | _ => none
def fInL (n : Bool) (a b : D) : Option D := (asLst b).bind fun ds => if dep a ≤ 60 ∧ dep b ≤ 60 then some (.bl (if n then !ds.any fun z => eqD z a else ds.any fun z => eqD z a)) else none
theorem toPyL_any {a : D} (ha : dep a ≤ 60) : ∀ ds : List D, depL ds < 1000 → (toPyL ds).any (fun z => PyData.eqv z (toPy a)) = ds.any fun z => eqD z a
  | [], _ => by rw [toPyL]; rfl
  | d :: ds, h => by
    simp only [depL] at h
    rw [toPyL, List.any_cons, List.any_cons, eqv_toPy d a (by omega) (by omega), toPyL_any ha ds (by omega)]
theorem inL_core {a b : D} {ds : List D} {x y : V} (ra : Rb K C H a x) (rb : Rb K C H b y) (e : asLst b = some ds) (h1 : dep a ≤ 60) (h2 : dep b ≤ 60) :
    Dp K H x (toPy a) ∧ Dp K H y (.list (toPyL ds)) ∧ SeqAt.shaped (toPy a) = true ∧ SeqAt.shaped (.list (toPyL ds)) = true ∧ depL ds < 1000 := by
  obtain ⟨A, _, o⟩ := ra
  obtain ⟨B, _, o2⟩ := rb
  have q := dp_toPy o2 (by omega)
  have s := shaped_toPy h2
  cases b <;> simp [asLst] at e
  · subst e
    simp only [toPy] at q s
    simp only [dep] at h2
    exact ⟨dp_toPy o (by omega), q, shaped_toPy h1, s, by omega⟩
  · subst e
    simp only [toPy] at q s
    simp only [dep] at h2
    exact ⟨dp_toPy o (by omega), q, shaped_toPy h1, s, by omega⟩
theorem os_inL : OpS K C (rInD K) (fInL false) := fun H x y dx dy z Q a b e k => by
  unfold fInL at e
  cases ed : asLst dy with
  | none => rw [ed] at e; cases e
  | some ds =>
    rw [ed] at e
    simp only [Option.bind] at e
    split at e
    · rename_i c
      cases e
      obtain ⟨q1, q2, q3, q4, q5⟩ := inL_core a b ed c.1 c.2
      refine ⟨toPy dx, toPyL ds, q1, q2, q3, q4, ?_⟩
      rw [toPyL_any c.1 ds q5]
      exact k _ H Mt (Same.refl H) fr_mt al_mt (.bl _)
    · cases e
theorem os_ninL : OpS K C (rNotInD K) (fInL true) := fun H x y dx dy z Q a b e k => by
  unfold fInL at e
  cases ed : asLst dy with
  | none => rw [ed] at e; cases e
  | some ds =>
    rw [ed] at e
    simp only [Option.bind] at e
    split at e
    · rename_i c
      cases e
      obtain ⟨q1, q2, q3, q4, q5⟩ := inL_core a b ed c.1 c.2
      refine ⟨toPy dx, toPyL ds, q1, q2, q3, q4, ?_⟩
      rw [toPyL_any c.1 ds q5]
      exact k _ H Mt (Same.refl H) fr_mt al_mt (.bl _)
    · cases e
def flatD : D → Bool
  | .non => true
  | .bl _ => true
  | .int _ => true
  | .str _ => true
  | _ => false
theorem flat_v {d : D} {v : V} {A : AP} (o : Own K C H d v A) (h : flatD d = true) : flatV v = true ∧ d = cD v := by
  cases o <;> first | (cases h; done) | exact ⟨rfl, rfl⟩
theorem eqV_D {a b : D} {x y : V} {A B : AP} (o : Own K C H a x A) (p : Own K C H b y B) (ha : flatD a = true) (hb : flatD b = true) : eqV x y = eqD a b := by
  obtain ⟨h1, rfl⟩ := flat_v o ha
  obtain ⟨h2, rfl⟩ := flat_v p hb
  cases x <;> cases y <;> first | (cases h1; done) | (cases h2; done) | (simp only [eqV, cD, eqD])
theorem flatL {a : D} {x : V} {A : AP} (o : Own K C H a x A) (ha : flatD a = true) : ∀ {ds : List D} {vs : List V} {B : AP}, OwnL K C H ds vs B → ds.all flatD = true → vs.all flatV = true ∧ inV x vs = ds.any fun z => eqD z a
  | [], _, _, h, _ => by cases h; exact ⟨rfl, rfl⟩
  | d :: ds, _, _, h, f => by
    cases h with
    | cons _ _ _ p q =>
      rw [List.all_cons, Bool.and_eq_true] at f
      obtain ⟨h1, h2⟩ := flatL o ha q f.2
      refine ⟨by rw [List.all_cons, (flat_v p f.1).1, h1]; rfl, ?_⟩
      unfold inV at h2 ⊢
      rw [List.any_cons, List.any_cons, eqV_D p o f.1 ha, h2]
def fInT (n : Bool) (a b : D) : Option D := match b with
  | .tup ds => if flatD a = true ∧ ds.all flatD = true then some (.bl (if n then !ds.any fun z => eqD z a else ds.any fun z => eqD z a)) else none
  | _ => none
theorem os_inT (n : Bool) : OpS K C (rIn K n) (fInT n) := fun H x y dx dy z Q ⟨A, _, o⟩ ⟨B, _, o2⟩ e k => by
  cases dy <;> simp [fInT] at e
  obtain ⟨⟨c1, c2⟩, rfl⟩ := e
  obtain ⟨p, vs, rfl, e1, y1⟩ := own_tup o2
  obtain ⟨h1, h2⟩ := flatL o c1 y1 (List.all_eq_true.mpr c2)
  refine ⟨p, vs, rfl, .inr (SqT.of e1), (flat_v o c1).1, h1, ?_⟩
  rw [h2]
  exact k _ H Mt (Same.refl H) fr_mt al_mt (.bl _)
def fInS (n : Bool) (a b : D) : Option D := match a, b with
  | .str x, .str z => match x.cps.toList with
    | [c] => some (.bl (if n then !decide (c ∈ z.cps.toList) else decide (c ∈ z.cps.toList)))
    | _ => none
  | _, _ => none
theorem fInS_inv {n : Bool} {a b z : D} (e : fInS n a b = some z) : ∃ (c : Nat) (y : Str), a = .str ⟨#[c]⟩ ∧ b = .str y ∧ z = .bl (if n then !decide (c ∈ y.cps.toList) else decide (c ∈ y.cps.toList)) := by
  cases a <;> cases b <;> simp [fInS] at e
  rename_i x y
  obtain ⟨⟨l⟩⟩ := x
  cases l with
  | nil => simp at e
  | cons c r =>
    cases r with
    | nil => exact ⟨c, y, rfl, rfl, by simpa using e.symm⟩
    | cons _ _ => simp at e
theorem os_inS : OpS K C (fun x y H Q => ∃ (c : Nat) (z : Str), x = .str ⟨#[c]⟩ ∧ y = .str z ∧ Q (.bl (decide (c ∈ z.cps.toList))) H) (fInS false) := fun H x y dx dy z Q a b e k => by
  obtain ⟨c, w, rfl, rfl, rfl⟩ := fInS_inv e
  exact ⟨c, w, rb_str a, rb_str b, k _ H Mt (Same.refl H) fr_mt al_mt (.bl _)⟩
theorem os_ninS : OpS K C (fun x y H Q => ∃ (c : Nat) (z : Str), x = .str ⟨#[c]⟩ ∧ y = .str z ∧ Q (.bl (!decide (c ∈ z.cps.toList))) H) (fInS true) := fun H x y dx dy z Q a b e k => by
  obtain ⟨c, w, rfl, rfl, rfl⟩ := fInS_inv e
  exact ⟨c, w, rb_str a, rb_str b, k _ H Mt (Same.refl H) fr_mt al_mt (.bl _)⟩
/-! ### dicts asked -/
def keyOf : D → Option Key
  | .int i => some (.inl i)
  | .str s => some (.inr s)
  | _ => none
def keysOf : List D → Option (List Key)
  | [] => some []
  | d :: ds => (keyOf d).bind fun k => (keysOf ds).map fun r => k :: r
def tkeyOf : D → Option (List Key)
  | .tup ds => keysOf ds
  | _ => none
def lookD {κ : Type} [DecidableEq κ] : List κ → List D → κ → Option D
  | k :: ks, d :: ds, j => if k = j then some d else lookD ks ds j
  | _, _, _ => none
/-- what a dict holds at a key: none where it is no dict, or no key -/
def dGet (d k : D) : Option (Option D) := match d with
  | .dk ks ds => (keyOf k).map (lookD ks ds)
  | .dt ks ds => (tkeyOf k).map (lookD ks ds)
  | _ => none
theorem key_v {d : D} {k : Key} {v : V} {A : AP} (o : Own K C H d v A) (e : keyOf d = some k) : v = kV k := by
  cases o <;> simp [keyOf] at e <;> subst e <;> rfl
theorem keys_v : ∀ {ds : List D} {ks : List Key} {vs : List V} {A : AP}, OwnL K C H ds vs A → keysOf ds = some ks → vs = ks.map kV
  | [], ks, _, _, h, e => by cases h; cases e; rfl
  | d :: ds, ks, _, _, h, e => by
    cases h with
    | cons _ _ _ x y =>
      unfold keysOf at e
      cases e1 : keyOf d with
      | none => rw [e1] at e; cases e
      | some k =>
        cases e2 : keysOf ds with
        | none => rw [e1, e2] at e; cases e
        | some r =>
          rw [e1, e2] at e; cases e
          rw [List.map_cons, key_v x e1, keys_v y e2]
theorem lookD_val {κ : Type} [DecidableEq κ] : ∀ {ks : List κ} {ds : List D} {vs : List V} {A : AP} (j : κ), ks.length = ds.length → OwnL K C H ds vs A → (∀ d, lookD ks ds j = some d → ∃ v, valV (ks.zip vs) j = some v ∧ Own K C H d v A) ∧ (lookD ks ds j = none → valV (ks.zip vs) j = none)
  | [], [], _, _, j, _, h => by cases h; exact ⟨fun d e => (by cases e), fun _ => rfl⟩
  | k :: ks, d :: ds, _, _, j, hl, h => by
    cases h with
    | cons a b c x y =>
      obtain ⟨q1, q2⟩ := lookD_val (ks := ks) (ds := ds) j (by simpa using hl) y
      unfold lookD
      rw [List.zip_cons_cons]
      by_cases e : k = j
      · rw [if_pos e, valV_pos e]
        exact ⟨fun d' z => (by cases z; exact ⟨_, rfl, x.mono b⟩), fun z => (by cases z)⟩
      · rw [if_neg e, valV_neg e]
        exact ⟨fun d' z => (by obtain ⟨v, z1, z2⟩ := q1 d' z; exact ⟨v, z1, z2.mono c⟩), q2⟩
  | [], _ :: _, _, _, _, hl, _ => by cases hl
  | _ :: _, [], _, _, _, hl, _ => by cases hl
end
end Dy

/-! Subscripts, slices, built-ins by data. -/
namespace Dy
open PySem L2
section
variable {K : PySem.W.Frag} {C : Nat → Addr} {W : WX} {Φ : AP} {Λ : Nat → AP} {π : Nat → Option V} {ss : SS} {σ : L2.St} {H H' : Hp}
/-! ### operators that hand out what is there -/
def OpP (K : PySem.W.Frag) (C : Nat → Addr) (r : R2) (f : D → D → Option D) : Prop :=
  ∀ H x y dx dy z A (Q : VK), Al H A → Own K C H dx x A → Rb K C H dy y → f dx dy = some z → (∀ v, Own K C H z v A → Q v H) → r x y H Q
theorem sp_op {r : R2} {f : D → D → Option D} {ta tb : TE} {F G : SS → Option D} (ho : OpP K C r f) (ha : SimP K C ta F) (hb : SimP K C tb G) : SimP K C (tOp r ta tb) (p2 f F G) := fun Φ Λ π ss σ H Q d rel e k => by
  unfold p2 at e
  cases ea : F ss with
  | none => rw [ea] at e; cases e
  | some x =>
    cases eb : G ss with
    | none => rw [ea, eb] at e; cases e
    | some y =>
      rw [ea, eb] at e
      refine ha Φ Λ π ss σ H _ x rel ea fun v H1 s1 r1 => ?_
      refine hb Φ Λ π ss σ H1 _ y (rel.same s1) eb fun u H2 s2 r2 => ?_
      obtain ⟨A, al, o⟩ := r1.same s2
      exact ho H2 v u x y d A Q al o r2 e fun w ow => k w H2 (s1.trans s2) ⟨A, al, ow⟩
/-- the base moves, and what is taken of it -/
theorem se_opP {r : R2} {f : D → D → Option D} {ta tb : TE} {F G : SS → R D} (ho : OpP K C r f) (ha : SimE K C W ta F) (hb : SimE K C W tb G) : SimE K C W (tOp r ta tb) (e2 f F G) := fun Φ Λ π ss σ H Q rel p => by
  unfold e2 at p
  refine ha Φ Λ π ss σ H _ rel ?_
  cases ea : F ss with
  | stuck => rw [ea] at p; exact p
  | exc x s => rw [ea] at p; exact p
  | ok x s1 =>
    rw [ea] at p
    intro v H1 B1 k1 r1 sp1 o1
    refine hb (Cup Φ B1) Λ π s1 σ H1 _ r1 ?_
    have p' : PostE K C W Φ Λ π σ H Q ((G s1).bind fun b s2 => R.of (f x b) s2) := p
    cases eb : G s1 with
    | stuck => rw [eb] at p'; exact p'
    | exc x s => rw [eb] at p'; exact PostX.more p' k1 rel.psi
    | ok y s2 =>
      rw [eb] at p'
      intro u H2 B2 k2 r2 sp2 o2
      obtain ⟨q1, q2, q3, q4⟩ := e2_core k1 r1 sp1 o1 k2 r2 sp2 o2 rel.psi
      have p'' : PostE K C W Φ Λ π σ H Q (R.of (f x y) s2) := p'
      cases ez : f x y with
      | none => rw [ez] at p''; exact p''.elim
      | some z =>
        rw [ez] at p''
        exact ho H2 v u x y z B1 Q ((r1.al.keep k2).mono cup_r) (o1.keep (k2.mono cup_r)) q2 ez fun w ow => p'' w H2 B1 q3 (r2.shrink cup_l fun i => (rel.psi i).trans cup_l) sp1 ow
theorem opp_or {r q : R2} {f g : D → D → Option D} (h : OpP K C r f) (h2 : OpP K C q g) : OpP K C (fun x y H Q => r x y H Q ∨ q x y H Q) (orF f g) := fun H x y dx dy z A Q al a b e k => by
  unfold orF at e
  cases q1 : f dx dy with
  | some w => rw [q1] at e; cases e; exact .inl (h H x y dx dy _ A Q al a b q1 k)
  | none => rw [q1] at e; exact .inr (h2 H x y dx dy z A Q al a b e k)
/-! ### x[i] -/
theorem atI_idx {α : Type} {xs : List α} {i : Int} {x : α} (h : atI xs i = some x) : ∃ j, ixN xs.length i = some j ∧ xs[j]? = some x := by
  unfold atI at h
  cases e : ixN xs.length i with
  | none => rw [e] at h; cases h
  | some j => rw [e] at h; exact ⟨j, rfl, h⟩
theorem atI_own {ds : List D} {vs : List V} {A : AP} {i : Int} {d : D} (o : OwnL K C H ds vs A) (e : atI ds i = some d) : ∃ v, atI vs i = some v ∧ Own K C H d v A := by
  obtain ⟨j, h1, h2⟩ := atI_idx e
  obtain ⟨v, e1, e2⟩ : ∃ v, vs[j]? = some v ∧ Own K C H d v A := by
    clear h1 e
    induction ds generalizing vs A j with
    | nil => simp at h2
    | cons x ds ih =>
      cases o with
      | cons a b c x1 y1 =>
        rename_i A1 A2 w ws
        cases j with
        | zero => simp at h2; subst h2; exact ⟨w, rfl, x1.mono b⟩
        | succ j =>
          obtain ⟨v, q1, q2⟩ := ih y1 j (by simpa using h2)
          exact ⟨v, by simpa using q1, q2.mono c⟩
  refine ⟨v, ?_, e2⟩
  unfold atI
  rw [← o.length, h1]
  exact e1
def fIxL (a b : D) : Option D := match a, b with
  | .lst ds, .int i => atI ds i
  | .fls ds, .int i => atI ds i
  | _, _ => none
def fIxT (a b : D) : Option D := match a, b with
  | .tup ds, .int i => atI ds i
  | _, _ => none
def fIxS (a b : D) : Option D := match a, b with
  | .str z, .int i => if z.length ≤ 1000000 then (atI z.cps.toList i).map fun c => .str ⟨#[c]⟩ else none
  | _, _ => none
theorem op_ixL : OpP K C (rIxL K) fIxL := fun H x y dx dy z A Q al o b e k => by
  cases dx <;> cases dy <;> simp [fIxL] at e
  · cases o with
    | lst h e1 y1 =>
      obtain ⟨v, q1, q2⟩ := atI_own y1 e
      exact ⟨_, _, _, v, rfl, rb_int' b, SqL.of e1, q1, k v (q2.mono But.sub)⟩
  · cases o with
    | fls e1 y1 =>
      obtain ⟨v, q1, q2⟩ := atI_own y1 e
      exact ⟨_, _, _, v, rfl, rb_int' b, e1.sql, q1, k v (q2.mono sub_mt)⟩
theorem op_ixT : OpP K C (rIxT K) fIxT := fun H x y dx dy z A Q al o b e k => by
  cases dx <;> cases dy <;> simp [fIxT] at e
  cases o with
  | tup e1 y1 =>
    obtain ⟨v, q1, q2⟩ := atI_own y1 e
    exact ⟨_, _, _, v, rfl, rb_int' b, SqT.of e1, q1, k v q2⟩
theorem op_ixS : OpP K C rIxS fIxS := fun H x y dx dy z A Q al o b e k => by
  cases dx <;> cases dy <;> simp [fIxS] at e
  obtain ⟨l, c, h1, h2⟩ := e
  subst h2
  cases o
  exact ⟨_, _, c, rfl, rb_int' b, sl100 l, h1, k _ (.str _)⟩
/-- d[k] -/
def rDG : R2 := fun x y H Q => ∃ a v, x = .ref a ∧ DGet H a y (some v) ∧ Q v H
theorem ix_dict {X : Cx} (hu : X.A.units + 1 < cLine) : IxR X rDG := by
  intro value slice pins s σ H x y v u Q I rx ry h hs
  obtain ⟨a, w, rfl, g, q⟩ := h
  obtain rfl : v = Value.ref a := rx
  exact PyProof.Rows.tail_any (dict_typeIs I g) PySem.F.slot_dict_getitem.lookup (d_getItem hu I g ry fun w' s3 I3 rw' => ⟨w, H, I3, rw', q⟩) hs
def fDG (a b : D) : Option D := match dGet a b with
  | some o => o
  | none => none
theorem tkey_v {d : D} {k : List Key} {v : V} {A : AP} (o : Own K C H d v A) (e : tkeyOf d = some k) : ∃ b, v = .ref b ∧ H b = some (.tup (k.map kV)) := by
  cases o <;> simp [tkeyOf] at e
  rename_i q y
  rw [keys_v y e] at q
  exact ⟨_, rfl, q⟩
/-- what a dict says, by data -/
theorem dget_of {dx dy : D} {x y : V} {A B : AP} {r : Option D} (o : Own K C H dx x A) (o2 : Own K C H dy y B) (e : dGet dx dy = some r) : ∃ a w, x = .ref a ∧ DGet H a y w ∧ (∀ d, r = some d → ∃ v, w = some v ∧ Own K C H d v A) ∧ (r = none → w = none) := by
  cases dx <;> simp [dGet] at e
  · obtain ⟨kk, hk1, hk2⟩ := e
    cases o with
    | dk h l e1 y1 =>
      obtain ⟨q1, q2⟩ := lookD_val kk l y1
      subst hk2
      rw [key_v o2 hk1]
      exact ⟨_, _, rfl, DGet.k e1, fun d hd => let ⟨v, z1, z2⟩ := q1 d hd; ⟨v, z1, z2.mono But.sub⟩, q2⟩
  · obtain ⟨kk, hk1, hk2⟩ := e
    cases o with
    | dt h l e1 y1 =>
      obtain ⟨q1, q2⟩ := lookD_val kk l y1
      subst hk2
      obtain ⟨b, rfl, hb⟩ := tkey_v o2 hk1
      exact ⟨_, _, rfl, DGet.t e1 hb, fun d hd => let ⟨v, z1, z2⟩ := q1 d hd; ⟨v, z1, z2.mono But.sub⟩, q2⟩
theorem op_dg : OpP K C rDG fDG := fun H x y dx dy z A Q al o b e k => by
  unfold fDG at e
  obtain ⟨B, _, o2⟩ := b
  cases eg : dGet dx dy with
  | none => rw [eg] at e; cases e
  | some r =>
    rw [eg] at e
    simp only at e
    obtain ⟨a, w, rfl, g, h1, h2⟩ := dget_of o o2 eg
    obtain ⟨v, rfl, ow⟩ := h1 z e
    exact ⟨a, v, rfl, g, k v ow⟩
/-- x[i] of anything -/
def rIxA (K : PySem.W.Frag) : R2 := fun x y H Q => (rIxL K x y H Q ∨ (rIxT K x y H Q ∨ rIxS x y H Q)) ∨ rDG x y H Q
def fIx : D → D → Option D := orF (orF fIxL (orF fIxT fIxS)) fDG
theorem ix_any {X : Cx} (hu : X.A.units + 1 < cLine) : IxR X (rIxA X.K) := (ix_list.or (ix_tup.or ix_str)).or (ix_dict hu)
theorem op_ix : OpP K C (rIxA K) fIx := opp_or (opp_or op_ixL (opp_or op_ixT op_ixS)) op_dg
/-! ### in a dict -/
def rDIn (n : Bool) : R2 := fun y x H Q => ∃ a o, x = .ref a ∧ DGet H a y o ∧ Q (.bl (if n then !o.isSome else o.isSome)) H
theorem op_din {X : Cx} (hu : X.A.units + 1 < cLine) : OpR X (compareOp .In) (rDIn false) := by
  intro pins s σ H y x v u Q I ry rx h
  obtain ⟨a, o, rfl, g, q⟩ := h
  obtain rfl : u = Value.ref a := rx
  exact d_in hu I g ry fun s3 I3 => ⟨.bl o.isSome, H, I3, rfl, q⟩
theorem op_dnin {X : Cx} (hu : X.A.units + 1 < cLine) : OpR X (compareOp .NotIn) (rDIn true) := by
  intro pins s σ H y x v u Q I ry rx h
  obtain ⟨a, o, rfl, g, q⟩ := h
  obtain rfl : u = Value.ref a := rx
  exact d_notIn hu I g ry fun s3 I3 => ⟨.bl (!o.isSome), H, I3, rfl, q⟩
def fInD (n : Bool) (a b : D) : Option D := (dGet b a).map fun o => .bl (if n then !o.isSome else o.isSome)
theorem os_inD (n : Bool) : OpS K C (rDIn n) (fInD n) := fun H y x dy dx z Q ⟨B, _, o2⟩ ⟨A, _, o⟩ e k => by
  unfold fInD at e
  cases eg : dGet dx dy with
  | none => rw [eg] at e; cases e
  | some r =>
    rw [eg] at e; cases e
    obtain ⟨a, w, rfl, g, h1, h2⟩ := dget_of o o2 eg
    refine ⟨a, w, rfl, g, ?_⟩
    have ew : w.isSome = r.isSome := by
      cases r with
      | none => rw [h2 rfl]; rfl
      | some d => obtain ⟨v, rfl, _⟩ := h1 d rfl; rfl
    rw [ew]
    exact k _ H Mt (Same.refl H) fr_mt al_mt (.bl _)
/-! x in anything -/
def rInA (K : PySem.W.Frag) : R2 := fun x y H Q => ((rInD K x y H Q ∨ rIn K false x y H Q) ∨ (∃ (c : Nat) (z : Str), x = .str ⟨#[c]⟩ ∧ y = .str z ∧ Q (.bl (decide (c ∈ z.cps.toList))) H)) ∨ rDIn false x y H Q
def rNInA (K : PySem.W.Frag) : R2 := fun x y H Q => ((rNotInD K x y H Q ∨ rIn K true x y H Q) ∨ (∃ (c : Nat) (z : Str), x = .str ⟨#[c]⟩ ∧ y = .str z ∧ Q (.bl (!decide (c ∈ z.cps.toList))) H)) ∨ rDIn true x y H Q
def fIn (n : Bool) : D → D → Option D := orF (orF (orF (fInL n) (fInT n)) (fInS n)) (fInD n)
theorem op_inA {X : Cx} (hu : X.A.units + 65 < cLine) : OpR X (compareOp .In) (rInA X.K) := (((op_inD hu).or op_in_seq).or op_in_sign).or (op_din (by omega))
theorem op_ninA {X : Cx} (hu : X.A.units + 65 < cLine) : OpR X (compareOp .NotIn) (rNInA X.K) := (((op_notInD hu).or op_notIn_seq).or op_notIn_sign).or (op_dnin (by omega))
theorem os_in : OpS K C (rInA K) (fIn false) := ops_or (ops_or (ops_or os_inL (os_inT false)) os_inS) (os_inD false)
theorem os_nin : OpS K C (rNInA K) (fIn true) := ops_or (ops_or (ops_or os_ninL (os_inT true)) os_ninS) (os_inD true)
/-! + and * of anything -/
def rAddA (K : PySem.W.Frag) : R2 := fun x y H Q => (((∃ i j, x = .int i ∧ y = .int j ∧ Q (.int (i + j)) H) ∨ (∃ i j, x = .str i ∧ y = .str j ∧ i.length + j.length ≤ sizeLine ∧ Q (.str (i ++ j)) H)) ∨ rCat x y H Q) ∨ rCatA K x y H Q
def fAdd : D → D → Option D := orF (orF (orF fAddI fAddS) fAddL) fAddT
theorem op_addA {X : Cx} : OpR X (binaryOp .Add) (rAddA X.K) := ((OpR.or op_add op_add_str).or op_cat).or op_catA
theorem os_add : OpS K C (rAddA K) fAdd := ops_or (ops_or (ops_or os_addI os_addS) os_addL) os_addT
def rMulA (K : PySem.W.Frag) : R2 := fun x y H Q => (rI CMul (fun i j => .int (i * j)) x y H Q ∨ rRep x y H Q) ∨ rRepT K x y H Q
def fMul : D → D → Option D := orF (orF fMulI fRepL) fRepT
theorem op_mulA {X : Cx} : OpR X (binaryOp .Mult) (rMulA X.K) := (OpR.or op_mul op_rep).or op_repT
theorem os_mul : OpS K C (rMulA K) fMul := ops_or (ops_or os_mulI os_repL) os_repT
/-! ### slices -/
def cutD (xs : List D) (lo hi : Option Int) : List D := (xs.drop (HT.sIx xs.length 0 lo)).take (HT.sIx xs.length xs.length hi - HT.sIx xs.length 0 lo)
theorem IL.cut {ds : List D} {vs : List V} (h : IL K C H ds vs) (lo hi : Option Int) : IL K C H (cutD ds lo hi) (cutV vs lo hi) := by
  unfold cutD cutV
  rw [← h.length]
  exact IL.take _ (IL.drop _ h)
def SimO (K : PySem.W.Frag) (C : Nat → Addr) (t : TO) (F : SS → Option (Option Int)) : Prop := ∀ Φ Λ π ss σ H (Q : Option Int → Hp → Prop) o, Rel K C Φ Λ π ss σ H → F ss = some o → (∀ H', Same H H' → Q o H') → t σ H Q
def oN : SS → Option (Option Int) := fun _ => some none
def asInt : D → Option Int
  | .int i => some i
  | _ => none
def oS (F : SS → Option D) : SS → Option (Option Int) := fun s => ((F s).bind asInt).map some
theorem so_none : SimO K C tNoPart oN := fun Φ Λ π ss σ H Q o r e k => by cases e; exact k H (Same.refl H)
theorem asInt_ok {d : D} {i : Int} (e : asInt d = some i) : d = .int i := by cases d <;> simp [asInt] at e; rw [e]
theorem so_some {te : TE} {F : SS → Option D} (h : SimP K C te F) : SimO K C (tPart te) (oS F) := fun Φ Λ π ss σ H Q o r e k => by
  unfold oS at e
  cases q : F ss with
  | none => rw [q] at e; cases e
  | some d =>
    rw [q] at e
    simp only [Option.bind] at e
    cases q2 : asInt d with
    | none => rw [q2] at e; cases e
    | some i =>
      rw [q2] at e; cases e
      rw [asInt_ok q2] at q
      exact h Φ Λ π ss σ H _ _ r q fun v H' s rb => ⟨i, rb_int' rb, k H' s⟩
def SlS (K : PySem.W.Frag) (C : Nat → Addr) (r : V → Option Int → Option Int → Hp → VK → Prop) (f : D → Option Int → Option Int → Option D) : Prop :=
  ∀ H x dx lo hi z (Q : VK), Rb K C H dx x → f dx lo hi = some z → (∀ v H' B, Same H H' → Fr H B → Al H' B → Own K C H' z v B → Q v H') → r x lo hi H Q
def pSl (f : D → Option Int → Option Int → Option D) (F : SS → Option D) (G1 G2 : SS → Option (Option Int)) : SS → Option D := fun s => (F s).bind fun a => (G1 s).bind fun l => (G2 s).bind fun h => f a l h
theorem sf_sl {r : V → Option Int → Option Int → Hp → VK → Prop} {f : D → Option Int → Option Int → Option D} {te : TE} {tl th : TO} {F : SS → Option D} {G1 G2 : SS → Option (Option Int)} (hr : SlS K C r f) (he : SimP K C te F) (hl : SimO K C tl G1) (hh : SimO K C th G2) :
    SimF K C (tSl r te tl th) (pSl f F G1 G2) := fun Φ Λ π ss σ H Q d rel e k => by
  unfold pSl at e
  cases ea : F ss with
  | none => rw [ea] at e; cases e
  | some x =>
    cases eb : G1 ss with
    | none => rw [ea, eb] at e; cases e
    | some l =>
      cases ec : G2 ss with
      | none => rw [ea, eb, ec] at e; cases e
      | some u =>
        rw [ea, eb, ec] at e
        refine he Φ Λ π ss σ H _ x rel ea fun v H1 s1 r1 => ?_
        refine hl Φ Λ π ss σ H1 _ l (rel.same s1) eb fun H2 s2 => ?_
        refine hh Φ Λ π ss σ H2 _ u ((rel.same s1).same s2) ec fun H3 s3 => ?_
        exact hr H3 v x l u d Q ((r1.same s2).same s3) e fun w H4 B s4 f al o => k w H4 B (((s1.trans s2).trans s3).trans s4) (fun a z => ((s1.trans s2).trans s3).free (f a z)) al o
/-- the base may do things, the parts not -/
def eSl (f : D → Option Int → Option Int → Option D) (F : SS → R D) (G1 G2 : SS → Option (Option Int)) : SS → R D := fun s => (F s).bind fun a s1 => R.of ((G1 s1).bind fun l => (G2 s1).bind fun h => f a l h) s1
theorem se_sl {r : V → Option Int → Option Int → Hp → VK → Prop} {f : D → Option Int → Option Int → Option D} {te : TE} {tl th : TO} {F : SS → R D} {G1 G2 : SS → Option (Option Int)} (hr : SlS K C r f) (he : SimE K C W te F) (hl : SimO K C tl G1) (hh : SimO K C th G2) :
    SimE K C W (tSl r te tl th) (eSl f F G1 G2) := fun Φ Λ π ss σ H Q rel p => by
  unfold eSl at p
  refine he Φ Λ π ss σ H _ rel ?_
  cases ea : F ss with
  | stuck => rw [ea] at p; exact p
  | exc x s => rw [ea] at p; exact p
  | ok x s1 =>
    rw [ea] at p
    intro v H1 B1 k1 r1 sp1 o1
    simp only [R.bind] at p
    cases eb : G1 s1 with
    | none => rw [eb] at p; exact p.elim
    | some l =>
      cases ec : G2 s1 with
      | none => rw [eb, ec] at p; exact p.elim
      | some u =>
        rw [eb, ec] at p
        simp only [Option.bind] at p
        refine hl _ Λ π s1 σ H1 _ l r1 eb fun H2 s2 => ?_
        refine hh _ Λ π s1 σ H2 _ u (r1.same s2) ec fun H3 s3 => ?_
        cases ez : f x l u with
        | none => rw [ez] at p; exact p.elim
        | some z =>
          rw [ez] at p
          have s13 := s2.trans s3
          have q4 := (r1.same s13).shrink cup_l rel.psi
          exact hr H3 v x l u z Q ⟨B1, ((r1.same s13).al).mono cup_r, o1.same s13⟩ ez fun w H4 B s4 fr al o => p w H4 B (k1.trans (Keep.of (s13.trans s4))) (q4.grow s4 fr al) ((fr_sep fr q4.al).symm) o
def fSlL (a : D) (lo hi : Option Int) : Option D := match a with
  | .lst ds => if immL ds then some (.lst (cutD ds lo hi)) else none
  | .fls ds => if immL ds then some (.lst (cutD ds lo hi)) else none
  | _ => none
def fSlT (a : D) (lo hi : Option Int) : Option D := match a with
  | .tup ds => if immL ds then some (.tup (cutD ds lo hi)) else none
  | _ => none
def fSlS (a : D) (lo hi : Option Int) : Option D := match a with
  | .str z => if z.length ≤ 1000000 then some (.str (cutS z lo hi)) else none
  | _ => none
theorem ss_slL : SlS K C (rSlL K) fSlL := fun H x dx lo hi z Q ⟨A, _, o⟩ e k => by
  cases dx <;> simp [fSlL] at e
  · obtain ⟨i, rfl⟩ := e
    cases o with
    | lst h e1 y1 => exact ⟨_, _, rfl, SqL.of e1, fun p hp => k _ _ (One p) (same_upd hp) (one_fr hp) one_al (new_lst (IL.cut (y1.imm i) lo hi) hp)⟩
  · obtain ⟨i, rfl⟩ := e
    cases o with
    | fls e1 y1 => exact ⟨_, _, rfl, e1.sql, fun p hp => k _ _ (One p) (same_upd hp) (one_fr hp) one_al (new_lst (IL.cut (y1.imm i) lo hi) hp)⟩
theorem ss_slT : SlS K C (rSlA K) fSlT := fun H x dx lo hi z Q ⟨A, _, o⟩ e k => by
  cases dx <;> simp [fSlT] at e
  obtain ⟨i, rfl⟩ := e
  cases o with
  | tup e1 y1 =>
    rename_i vs p
    refine ⟨_, vs, rfl, SqT.of e1, fun h1 => ?_, fun h1 q hq => ?_⟩
    · have il := IL.cut (y1.imm i) lo hi
      have e2 : cutV vs lo hi = vs := by
        unfold cutV
        rw [h1.1, h1.2]
        simp
      rw [e2] at il
      exact k _ H Mt (Same.refl H) fr_mt al_mt (.tup e1 il)
    · exact k _ _ Mt (same_upd hq) fr_mt al_mt (new_tup (IL.cut (y1.imm i) lo hi) hq)
theorem ss_slS : SlS K C rSlS fSlS := fun H x dx lo hi z Q a e k => by
  cases dx <;> simp [fSlS] at e
  obtain ⟨l, rfl⟩ := e
  exact ⟨_, rb_str a, sl100 l, k _ H Mt (Same.refl H) fr_mt al_mt (.str _)⟩
def fSl (a : D) (lo hi : Option Int) : Option D := ((fSlL a lo hi).orElse fun _ => fSlT a lo hi).orElse fun _ => fSlS a lo hi
def rSl (K : PySem.W.Frag) : V → Option Int → Option Int → Hp → VK → Prop := fun x lo hi H Q => (rSlL K x lo hi H Q ∨ rSlA K x lo hi H Q) ∨ rSlS x lo hi H Q
theorem sl_any {X : Cx} : SlR X (rSl X.K) := (SlR.or sl_list sl_tupA).or sl_str
theorem ss_sl : SlS K C (rSl K) fSl := fun H x dx lo hi z Q a e k => by
  unfold fSl at e
  cases e1 : fSlL dx lo hi with
  | some w => rw [e1] at e; cases e; exact .inl (.inl (ss_slL H x dx lo hi _ Q a e1 k))
  | none =>
    cases e2 : fSlT dx lo hi with
    | some w => rw [e1, e2] at e; cases e; exact .inl (.inr (ss_slT H x dx lo hi _ Q a e2 k))
    | none => rw [e1, e2] at e; exact .inr (ss_slS H x dx lo hi z Q a e k)
end
end Dy

/-! Walks: sources, for, while, comprehensions. -/
namespace Dy
open PySem L2
section
variable {K : PySem.W.Frag} {C : Nat → Addr} {W : WX} {Φ Φ' : AP} {Λ : Nat → AP} {π : Nat → Option V} {ss : SS} {σ : L2.St} {H H' : Hp}
/-- from a value that holds still -/
theorem seq_it {d : D} {ds : List D} {v : V} {B : AP} {Z : It → Hp → Prop} (o : Own K C H d v B) (e : asSeq d = some ds) (z : ∀ J, ItOk K C J ds B H → Z J H) :
    ∃ a, v = .ref a ∧ (((∃ xs, SqL K H a xs) ∧ Z (Itl K a) H) ∨ ((∃ xs, SqT K H a xs) ∧ Z (Itt K a) H)) := by
  cases d <;> simp [asSeq] at e
  · subst e
    cases o with
    | tup q y =>
      rename_i a vs
      exact ⟨a, rfl, .inr ⟨⟨_, SqT.of q⟩, z _ (itt_ok fun H1 k => ⟨vs, SqT.of (k.p.t _ _ q), y.keep k⟩)⟩⟩
  · subst e
    cases o with
    | lst ha q y =>
      rename_i a vs
      exact ⟨a, rfl, .inl ⟨⟨_, SqL.of q⟩, z _ (itl_ok fun H1 k => ⟨vs, SqL.of (k.k _ _ ha q), (y.keep (k.mono But.sub)).mono But.sub⟩)⟩⟩
  · subst e
    cases o with
    | fls q y =>
      rename_i a vs
      exact ⟨a, rfl, .inl ⟨⟨_, q.sql⟩, z _ (itl_ok fun H1 k => ⟨vs, (q.pers k.p).sql, (y.keep (k.mono sub_mt)).mono sub_mt⟩)⟩⟩
def iP (F : SS → Option D) : SS → Option (List D) := fun s => (F s).bind asSeq
def iE (F : SS → R D) : SS → R (List D) := fun s => (F s).bind fun d s1 => R.of (asSeq d) s1
theorem sip_seq {te : TE} {F : SS → Option D} (h : SimP K C te F) : SimIP K C (iSeq K te) (iP F) := fun Φ Λ π ss σ H Z ds r e k => by
  unfold iP at e
  cases q : F ss with
  | none => rw [q] at e; cases e
  | some d =>
    rw [q] at e
    exact h Φ Λ π ss σ H _ d r q fun v H1 s1 ⟨A, al, o⟩ => seq_it o e fun J ok => k J H1 A s1 al ok
theorem si_seq {te : TE} {F : SS → R D} (h : SimE K C W te F) : SimI K C W (iSeq K te) id (iE F) := fun Φ Λ π ss σ H Z r p => by
  unfold iE at p
  refine h Φ Λ π ss σ H _ r ?_
  cases q : F ss with
  | stuck => rw [q] at p; exact p
  | exc x s => rw [q] at p; exact p
  | ok d s =>
    rw [q] at p
    intro v H1 B k1 r1 sp o
    simp only [R.bind] at p
    cases e : asSeq d with
    | none => rw [e] at p; exact p.elim
    | some ds =>
      rw [e] at p
      exact seq_it o e fun J ok => p J H1 B Λ k1 r1 (back_id r.psi) ok
/-- a slot's list, lent -/
def iLock (j : Nat) : SS → R (List D) := fun s => match s[j]? with
  | some (.own (.lst ds)) => .ok ds (s.set j (.bor (.lst ds)))
  | some (.own (.tup ds)) => if immL ds then .ok ds s else .stuck
  | some (.own (.fls ds)) => .ok ds s
  | _ => .stuck
theorem lock_imm {j : Nat} {d : D} {ds : List D} {Z : It → Hp → Prop} (r : Rel K C Φ Λ π ss σ H) (e : ss[j]? = some (.own d)) (e2 : asSeq d = some ds) (i : imm d = true) (p : PostI K C W Φ Λ π σ H (unlk j) Z (.ok ds ss)) : iSeq K (tVar j) σ H Z := by
  obtain ⟨v, h1, rb⟩ := r.get e rfl
  refine ⟨v, h1, seq_it (B := Mt) (rb.imm i) e2 fun J ok => p J H Mt (fun i => if i = j then Mt else Λ i) (Keep.refl _ _) ?_ (back_unlk r.psi sep_mt) ok⟩
  obtain ⟨As, a⟩ := r
  refine ⟨As, a.al.cup al_mt, fun i => ?_, a.len, a.pin, a.aa, fun i => (a.af i).cup mt_sep, a.ap, fun i s o e1 e3 => ?_⟩
  · show Sub (if i = j then Mt else Λ i) (Cup Φ Mt)
    split
    · exact sub_mt
    · exact (a.sub i).trans cup_l
  · show SlOk K C H (if i = j then Mt else Λ i) (As i) s o
    by_cases n : i = j
    · subst n; rw [e] at e1; cases e1
      exact a.ok i _ o e e3
    · rw [if_neg n]; exact a.ok i s o e1 e3
theorem si_lock (j : Nat) : SimI K C W (iSeq K (tVar j)) (unlk j) (iLock j) := fun Φ Λ π ss σ H Z r p => by
  unfold iLock at p
  cases e : ss[j]? with
  | none => rw [e] at p; exact p.elim
  | some s0 =>
    rw [e] at p
    cases s0 with
    | no => exact p.elim
    | inn d => exact p.elim
    | bor d => exact p.elim
    | own d =>
      cases d <;> try (exact p.elim)
      · rename_i ds
        by_cases i : immL ds = true
        · simp only [i, if_true] at p
          exact lock_imm r e rfl (by rw [imm]; exact i) p
        · simp only [i] at p; exact p.elim
      · rename_i ds
        have p : PostI K C W Φ Λ π σ H (unlk j) Z (.ok ds (ss.set j (.bor (.lst ds)))) := p
        obtain ⟨As, a⟩ := id r
        obtain ⟨o, eo⟩ := getσ a.len e
        obtain ⟨v, ev, w⟩ := a.ok j _ o e eo
        subst ev
        refine ⟨v, eo, seq_it w (ds := ds) rfl fun J ok => p J H (As j) (fun i => if i = j then As j else Λ i) (Keep.refl _ _) ?_ (back_unlk r.psi (a.af j)) ok⟩
        have hj : j < ss.length := (List.getElem?_eq_some_iff.mp e).1
        refine ⟨fun i => if i = j then Mt else As i, a.al.cup (a.aa j), fun i => ?_, by rw [List.length_set]; exact a.len, fun i u hi => ?_, fun i => ?_, fun i => ?_, fun i k h => ?_, fun i s o e1 e2 => ?_⟩
        · show Sub (if i = j then As j else Λ i) (Cup Φ (As j))
          split
          · exact cup_r
          · exact (a.sub i).trans cup_l
        · obtain ⟨h1, x, h2⟩ := a.pin i u hi
          have nj : j ≠ i := fun z => by subst z; rw [e] at h2; cases h2
          exact ⟨h1, x, by rw [List.getElem?_set_ne nj]; exact h2⟩
        · show Al H (if i = j then Mt else As i)
          split
          · exact al_mt
          · exact a.aa i
        · show Sep (if i = j then Mt else As i) (Cup Φ (As j))
          split
          · exact sep_mt
          · rename_i n; exact (a.af i).cup (a.ap i j n)
        · show Sep (if i = j then Mt else As i) (if k = j then Mt else As k)
          split
          · exact sep_mt
          · split
            · exact mt_sep
            · exact a.ap i k h
        · by_cases n : j = i
          · subst n
            rw [List.getElem?_set_self hj] at e1; cases e1
            rw [eo] at e2; cases e2
            show SlOk K C H (if j = j then As j else Λ j) _ (.bor (.lst ds)) _
            rw [if_pos rfl]
            exact ⟨v, rfl, w⟩
          · rw [List.getElem?_set_ne n] at e1
            show SlOk K C H (if i = j then As j else Λ i) (if i = j then Mt else As i) s o
            rw [if_neg (fun z => n z.symm), if_neg (fun z => n z.symm)]
            exact a.ok i s o e1 e2
      · exact lock_imm r e rfl rfl p
/-- a slot that is lent already (a parameter) -/
def iBor (j : Nat) : SS → R (List D) := fun s => match s[j]? with
  | some (.bor d) => R.of (asSeq d) s
  | _ => .stuck
theorem si_bor (j : Nat) : SimI K C W (iSeq K (tVar j)) id (iBor j) := fun Φ Λ π ss σ H Z r p => by
  unfold iBor at p
  cases e : ss[j]? with
  | none => rw [e] at p; exact p.elim
  | some s0 =>
    rw [e] at p
    cases s0 with
    | no => exact p.elim
    | inn d => exact p.elim
    | own d => exact p.elim
    | bor d =>
      obtain ⟨As, a⟩ := id r
      obtain ⟨o, eo⟩ := getσ a.len e
      obtain ⟨v, ev, w⟩ := a.ok j _ o e eo
      subst ev
      have p : PostI K C W Φ Λ π σ H id Z (R.of (asSeq d) ss) := p
      cases e2 : asSeq d with
      | none => rw [e2] at p; exact p.elim
      | some ds =>
        rw [e2] at p
        exact ⟨v, eo, seq_it w e2 fun J ok => p J H (Λ j) Λ (Keep.refl _ _) (r.eqv cup_l (cup_sub (Sub.refl _) (a.sub j))) (back_id r.psi) ok⟩
/-! ranges -/
def rngL (lo : Int) (n : Nat) : List D := (List.range n).map fun i : Nat => .int (lo + i)
theorem rng_ok {lo : Int} {n : Nat} {B : AP} : ItOk K C (Itr lo n) (rngL lo n) B H := fun H1 k i => by
  refine ⟨fun d e => ?_, fun hl => ?_⟩
  · have hi : i < n := by
      have := (List.getElem?_eq_some_iff.mp e).1
      simpa [rngL] using this
    have ed : d = .int (lo + (i : Nat)) := by
      simp only [rngL, List.getElem?_map, List.getElem?_range hi, Option.map_some] at e
      exact (Option.some.inj e).symm
    subst ed
    exact ⟨hi, fun x H' ⟨eh, ex⟩ => by subst eh; subst ex; exact ⟨Same.refl _, .int _⟩⟩
  · show n ≤ i
    simpa [rngL] using hl
def iR1 (l : List D) : Option (List D) := match l with
  | [.int j] => if -(2 ^ 62) ≤ j ∧ j < 2 ^ 62 then some (rngL 0 j.toNat) else none
  | _ => none
def iR2 (l : List D) : Option (List D) := match l with
  | [.int i, .int j] => if -(2 ^ 62) ≤ i ∧ i < 2 ^ 62 ∧ -(2 ^ 62) ≤ j ∧ j < 2 ^ 62 then some (rngL i (j - i).toNat) else none
  | _ => none
theorem rb_int {i : Int} {v : V} (h : Rb K C H (.int i) v) : v = .int i := by obtain ⟨A, _, o⟩ := h; cases o; rfl
theorem sip_r1 {ta : TA} {F : SS → Option (List D)} (h : SimPs K C ta F) : SimIP K C (iRng1 ta) (p1 iR1 F) := fun Φ Λ π ss σ H Z ds r e k => by
  unfold p1 at e
  cases q : F ss with
  | none => rw [q] at e; cases e
  | some l =>
    rw [q] at e
    refine h Φ Λ π ss σ H _ l r q fun vs H1 s1 rb => ?_
    have e' : iR1 l = some ds := e
    unfold iR1 at e'
    split at e'
    · rename_i j
      split at e'
      · rename_i c
        cases e'
        cases rb with
        | cons x y =>
          cases y
          rw [rb_int x]
          exact ⟨j, rfl, c.1, c.2, k _ H1 Mt s1 al_mt rng_ok⟩
      · cases e'
    · cases e'
theorem sip_r2 {ta : TA} {F : SS → Option (List D)} (h : SimPs K C ta F) : SimIP K C (iRng2 ta) (p1 iR2 F) := fun Φ Λ π ss σ H Z ds r e k => by
  unfold p1 at e
  cases q : F ss with
  | none => rw [q] at e; cases e
  | some l =>
    rw [q] at e
    refine h Φ Λ π ss σ H _ l r q fun vs H1 s1 rb => ?_
    have e' : iR2 l = some ds := e
    unfold iR2 at e'
    split at e'
    · rename_i i j
      split at e'
      · rename_i c
        cases e'
        cases rb with
        | cons x y =>
          cases y with
          | cons x2 y2 =>
            cases y2
            rw [rb_int x, rb_int x2]
            exact ⟨i, j, rfl, c, k _ H1 Mt s1 al_mt rng_ok⟩
      · cases e'
    · cases e'
theorem si_r1 {ta : TA} {F : SS → R (List D)} (h : SimA K C W ta F) : SimI K C W (iRng1 ta) id (e1 iR1 F) := fun Φ Λ π ss σ H Z r p => by
  unfold e1 at p
  refine h Φ Λ π ss σ H _ r ?_
  cases q : F ss with
  | stuck => rw [q] at p; exact p
  | exc x s => rw [q] at p; exact p
  | ok l s =>
    rw [q] at p
    intro vs H1 B k1 r1 sp o
    simp only [R.bind] at p
    cases e : iR1 l with
    | none => rw [e] at p; exact p.elim
    | some ds =>
      rw [e] at p
      have e' : iR1 l = some ds := e
      unfold iR1 at e'
      split at e'
      · rename_i j
        split at e'
        · rename_i c
          cases e'
          cases o with
          | cons _ _ _ x y =>
            cases y; cases x
            exact ⟨j, rfl, c.1, c.2, p _ H1 Mt Λ k1 (r1.shrink cup_l r.psi).mt (back_id r.psi) rng_ok⟩
        · cases e'
      · cases e'
theorem si_r2 {ta : TA} {F : SS → R (List D)} (h : SimA K C W ta F) : SimI K C W (iRng2 ta) id (e1 iR2 F) := fun Φ Λ π ss σ H Z r p => by
  unfold e1 at p
  refine h Φ Λ π ss σ H _ r ?_
  cases q : F ss with
  | stuck => rw [q] at p; exact p
  | exc x s => rw [q] at p; exact p
  | ok l s =>
    rw [q] at p
    intro vs H1 B k1 r1 sp o
    simp only [R.bind] at p
    cases e : iR2 l with
    | none => rw [e] at p; exact p.elim
    | some ds =>
      rw [e] at p
      have e' : iR2 l = some ds := e
      unfold iR2 at e'
      split at e'
      · rename_i i j
        split at e'
        · rename_i c
          cases e'
          cases o with
          | cons _ _ _ x y =>
            cases y with
            | cons _ _ _ x2 y2 =>
              cases y2; cases x; cases x2
              exact ⟨i, j, rfl, c, p _ H1 Mt Λ k1 (r1.shrink cup_l r.psi).mt (back_id r.psi) rng_ok⟩
        · cases e'
      · cases e'
end
end Dy

/-! for, while, comprehensions. -/
namespace Dy
open PySem L2
section
variable {K : PySem.W.Frag} {C : Nat → Addr} {W : WX} {Φ Φ' : AP} {Λ : Nat → AP} {π : Nat → Option V} {ss : SS} {σ : L2.St} {H H' : Hp}
/-! ### targets of a walk -/
def SimG (K : PySem.W.Frag) (C : Nat → Addr) (ts : List Nat) (g : TG) (st : D → SS → Option SS) : Prop :=
  ∀ Φ Λ π s σ H d v B s' (Q : L2.St → Hp → Prop), (∀ i ∈ ts, Λ i = B) → Sub B Φ → Rel K C Φ Λ π s σ H → Own K C H d v B → st d s = some s' → (∀ σ', wipe σ' ts = wipe σ ts → Rel K C Φ Λ π s' σ' H → Q σ' H) → g v σ H Q
def lendSl (i : Nat) (d : D) (s : SS) : Option SS := match s[i]? with
  | some x => if x.isInn then none else some (s.set i (if imm d then .own d else .bor d))
  | none => none
theorem wipe_get : ∀ (vs : List Nat) (σ : L2.St) (i : Nat), (wipe σ vs)[i]? = if i ∈ vs ∧ i < σ.length then some none else σ[i]?
  | [], σ, i => by simp [wipe]
  | v :: vs, σ, i => by
    unfold wipe
    by_cases h : v = i
    · subst h
      by_cases hl : v < σ.length
      · rw [List.getElem?_set_self (by rw [wipe_length]; exact hl)]; simp [hl]
      · rw [List.getElem?_eq_none (by simp [wipe_length]; omega)]
        simp [hl]
        try omega
    · rw [List.getElem?_set_ne h, wipe_get vs σ i]
      have : (i ∈ v :: vs) ↔ i ∈ vs := by simp only [List.mem_cons]; exact ⟨fun z => z.resolve_left (fun e => h e.symm), .inr⟩
      simp only [this]
theorem wipe_set {σ : L2.St} {i : Nat} {o : Option V} {vs : List Nat} (h : i ∈ vs) : wipe (σ.set i o) vs = wipe σ vs := by
  apply List.ext_getElem?
  intro j
  rw [wipe_get, wipe_get, List.length_set]
  by_cases e : i = j
  · subst e
    by_cases hl : i < σ.length
    · simp [h, hl]
    · rw [List.getElem?_eq_none (by simp; omega), List.getElem?_eq_none (by omega)]
  · rw [List.getElem?_set_ne e]
theorem wipe_wipe {σ : L2.St} {vs : List Nat} : wipe (wipe σ vs) vs = wipe σ vs := by
  apply List.ext_getElem?
  intro j
  rw [wipe_get, wipe_length, wipe_get]
  split <;> simp_all
theorem sg_name (i : Nat) : SimG K C [i] (gName i) (lendSl i) := fun Φ Λ π s σ H d v B s' Q hΛ sub r o e k => by
  unfold lendSl at e
  cases q : s[i]? with
  | none => rw [q] at e; cases e
  | some x =>
    rw [q] at e
    cases b : x.isInn with
    | true => simp [b] at e
    | false =>
      simp only [b, Bool.false_eq_true, if_false, Option.some.injEq] at e
      subst e
      refine k _ (wipe_set (by simp)) ?_
      by_cases im : imm d = true
      · rw [if_pos im]
        exact (r.mt).put q b sep_mt r.psi (o.imm im)
      · rw [if_neg im]
        obtain ⟨As, a⟩ := r
        refine ⟨_, a.upd (s' := .bor d) (o' := some v) (B := Mt) q (fun ⟨y, z⟩ => by rw [z] at b; cases b) al_mt sep_mt (fun _ _ => sep_mt) ⟨v, rfl, ?_⟩⟩
        rw [hΛ i (by simp)]; exact o
def lendAll (is : List Nat) (d : D) (s : SS) : Option SS := match d with
  | .tup ds => if immL ds then setAll is ds s else none
  | _ => none
theorem put_allw : ∀ {is : List Nat} {ds : List D} {vs : List V} {s s' : SS} {σ σ0 : L2.St} {ts : List Nat} {Q : L2.St → Hp → Prop}, (∀ i ∈ is, i ∈ ts) → Rel K C Φ Λ π s σ H → IL K C H ds vs → setAll is ds s = some s' → wipe σ ts = wipe σ0 ts →
    (∀ σ', wipe σ' ts = wipe σ0 ts → Rel K C Φ Λ π s' σ' H → Q σ' H) → gNames is vs σ H Q
  | [], [], vs, s, s', σ, σ0, ts, Q, hi, r, o, e, w, k => by
    cases o; cases e
    exact ⟨rfl, k σ w r⟩
  | i :: is, d :: ds, vs, s, s', σ, σ0, ts, Q, hi, r, o, e, w, k => by
    obtain ⟨v, vr, rfl, x, y⟩ := o.inv
    unfold setAll at e
    cases e1 : setSl i d s with
    | none => rw [e1] at e; cases e
    | some s1 =>
      rw [e1] at e
      obtain ⟨z, h1, h2, rfl⟩ := setSl_ok e1
      exact ⟨v, vr, rfl, put_allw (fun j hj => hi j (List.mem_cons_of_mem _ hj)) (r.mt.put h1 h2 sep_mt r.psi x) y e (by rw [wipe_set (hi i List.mem_cons_self)]; exact w) k⟩
  | [], _ :: _, _, _, _, _, _, _, _, _, _, _, e, _, _ => by cases e
  | _ :: _, [], _, _, _, _, _, _, _, _, _, _, e, _, _ => by cases e
theorem sg_tup (is : List Nat) {n : Nat} (hn : is.length = n := by rfl) : SimG K C is (gTup K n (gNames is)) (lendAll is) := fun Φ Λ π s σ H d v B s' Q hΛ sub r o e k => by
  cases d <;> simp [lendAll] at e
  rename_i ds
  obtain ⟨i, e⟩ := e
  cases o with
  | tup q y =>
    rename_i a vs
    exact ⟨a, vs, rfl, SqT.of q, by rw [← y.length, ← setAll_len e]; exact hn, put_allw (fun _ h => h) r (y.imm i) e rfl fun σ' w r' => k σ' w r'⟩

/-! ### for -/
def forL (st : D → SS → Option SS) (body : SS → RS) : List D → SS → RS
  | [], s => .nx s
  | d :: r, s => match st d s with
    | none => .stuck
    | some s1 => match body s1 with
      | .nx s2 => forL st body r s2
      | .ct s2 => forL st body r s2
      | .brk s2 => .nx s2
      | o => o
def sFor (ts : List Nat) (u : SS → SS) (it : SS → R (List D)) (st : D → SS → Option SS) (body : SS → RS) : SS → RS := fun s => (it s).thn fun ds s1 => RS.map (fun s => u (clr ts s)) (forL st body ds (clr ts s1))
theorem ss_for {wi : TI} {g : TG} {tb : TS} {ts : List Nat} {u : SS → SS} {it : SS → R (List D)} {st : D → SS → Option SS} {body : SS → RS} (hi : SimI K C W wi u it) (hg : SimG K C ts g st) (hb : SimS K C W tb body) : SimS K C W (tFor wi g tb) (sFor ts u it st body) := fun Φ Λ π ss σ H E r p => by
  unfold sFor at p
  refine hi Φ Λ π ss σ H _ r ?_
  cases q : it ss with
  | stuck => rw [q] at p; exact p
  | exc x s => rw [q] at p; exact fun H' cls da => p σ H' cls da
  | ok ds s1 =>
    rw [q] at p
    intro J H1 B Λ' k1 r1 bk ok
    have psi' := r1.psi
    have p' : PostS K C W Φ Λ π H E (RS.map (fun s => u (clr ts s)) (forL st body ds (clr ts s1))) := p
    have psiL : ∀ i, Sub ((fun i => if i ∈ ts then B else Λ' i) i) (Cup Φ B) := fun i => by
      show Sub (if i ∈ ts then B else Λ' i) (Cup Φ B)
      split
      · exact cup_r
      · exact psi' i
    have rL : Rel K C (Cup Φ B) (fun i => if i ∈ ts then B else Λ' i) π (clr ts s1) σ H1 := r1.clr (fun j n => if_neg n) psiL
    have pL : PostS K C W (Cup Φ B) (fun i => if i ∈ ts then B else Λ' i) π H1 E (forL st body ds (clr ts s1)) := p'.back (bk.clr psi') k1 (unmt r.psi)
    generalize hΛ : (fun i => if i ∈ ts then B else Λ' i) = ΛL at rL pL psiL
    have hts : ∀ i ∈ ts, ΛL i = B := fun i h => by rw [← hΛ]; exact if_pos h
    refine ⟨fun i m σ' H' => m = ds.length - i ∧ i ≤ ds.length ∧ Keep B H1 H' ∧ ∃ s, Rel K C (Cup Φ B) ΛL π s σ' H' ∧ PostS K C W (Cup Φ B) ΛL π H' E (forL st body (ds.drop i) s), ⟨ds.length, by simp, Nat.zero_le _, Keep.refl _ _, _, rL, by simpa using pL⟩, ?_⟩
    rintro i m σ' H' ⟨rfl, hil, kB, s, rs, ps⟩
    by_cases hlt : i < ds.length
    · right
      have ed : ds.drop i = ds[i] :: ds.drop (i + 1) := List.drop_eq_getElem_cons hlt
      rw [ed] at ps
      have eg : ds[i]? = some ds[i] := List.getElem?_eq_getElem hlt
      obtain ⟨go, yl⟩ := (ok H' kB i).1 _ eg
      refine ⟨go, fun σ2 H2 => Keep B H1 H2 ∧ ∃ s, Rel K C (Cup Φ B) ΛL π s σ2 H2 ∧ PostS K C W (Cup Φ B) ΛL π H2 E (forL st body (ds.drop (i + 1)) s), fun σ2 H2 h => ⟨ds.length - (i + 1), by omega, rfl, hlt, h⟩, fun x H2 y => ?_⟩
      obtain ⟨sm, ox⟩ := yl x H2 y
      have kB2 : Keep B H1 H2 := kB.trans (Keep.of sm)
      unfold forL at ps
      cases es : st ds[i] s with
      | none => rw [es] at ps; exact ps.elim
      | some s2 =>
        rw [es] at ps
        refine hg _ ΛL π s σ' H2 _ x B s2 _ hts cup_r (rs.same sm) ox es fun σ3 w3 r3 => ?_
        refine hb _ ΛL π s2 σ3 H2 _ r3 ?_
        simp only at ps
        have ps2 := ps.more (Keep.of sm)
        cases eb : body s2 with
        | stuck => rw [eb] at ps2; exact ps2
        | nx s4 => rw [eb] at ps2; exact fun σ4 H4 k4 r4 => ⟨kB2.trans (k4.mono cup_r), s4, r4, ps2.more k4⟩
        | ct s4 => rw [eb] at ps2; exact fun σ4 H4 k4 r4 => ⟨kB2.trans (k4.mono cup_r), s4, r4, ps2.more k4⟩
        | brk s4 => rw [eb] at ps2; exact ps2
        | ret d s4 => rw [eb] at ps2; exact ps2
        | exc x s4 => rw [eb] at ps2; exact ps2
    · left
      have ei : ds.length ≤ i := by omega
      rw [List.drop_eq_nil_of_le ei] at ps
      exact ⟨(ok H' kB i).2 ei, ps σ' H' (Keep.refl _ _) rs⟩

/-! ### while -/
def whL (c : SS → R Bool) (body : SS → RS) : Nat → SS → RS
  | 0, _ => .stuck
  | n + 1, s => (c s).thn fun b s1 => if b = true then match body s1 with
      | .nx s2 => whL c body n s2
      | .ct s2 => whL c body n s2
      | .brk s2 => .nx s2
      | o => o
    else .nx s1
def sWhile (n : Nat) (c : SS → R Bool) (body : SS → RS) : SS → RS := fun s => whL c body n s
theorem ss_while {c : TT} {tb : TS} {T : SS → R Bool} {body : SS → RS} (n : Nat) (hc : SimT K C W c T) (hb : SimS K C W tb body) : SimS K C W (tWhile c tb) (sWhile n T body) := fun Φ Λ π ss σ H E r p => by
  refine ⟨fun m σ' H' => ∃ s, Rel K C Φ Λ π s σ' H' ∧ PostS K C W Φ Λ π H' E (whL T body m s), ⟨n, ss, r, p⟩, ?_⟩
  rintro m σ' H' ⟨s, rs, ps⟩
  cases m with
  | zero => exact ps.elim
  | succ m =>
    unfold whL at ps
    refine hc Φ Λ π s σ' H' _ rs ?_
    cases q : T s with
    | stuck => rw [q] at ps; exact ps
    | exc x s1 => rw [q] at ps; exact fun H2 cls da => ps σ' H2 cls da
    | ok b s1 =>
      rw [q] at ps
      intro H1 k1 r1
      simp only [R.thn] at ps
      split
      · rename_i z
        rw [if_pos z] at ps
        refine ⟨fun σ2 H2 => ∃ s, Rel K C Φ Λ π s σ2 H2 ∧ PostS K C W Φ Λ π H2 E (whL T body m s), fun σ2 H2 h => ⟨m, by omega, h⟩, ?_⟩
        refine hb Φ Λ π s1 σ' H1 _ r1 ?_
        have ps2 := ps.more k1
        cases eb : body s1 with
        | stuck => rw [eb] at ps2; exact ps2
        | nx s4 => rw [eb] at ps2; exact fun σ4 H4 k4 r4 => ⟨s4, r4, ps2.more k4⟩
        | ct s4 => rw [eb] at ps2; exact fun σ4 H4 k4 r4 => ⟨s4, r4, ps2.more k4⟩
        | brk s4 => rw [eb] at ps2; exact ps2
        | ret d s4 => rw [eb] at ps2; exact ps2
        | exc x s4 => rw [eb] at ps2; exact ps2
      · rename_i z
        rw [if_neg z] at ps
        exact ps σ' H1 k1 r1

/-! ### comprehensions -/
abbrev W0 : WX := fun _ _ _ _ => False
def noAt (vs : List Nat) (s : SS) : Bool := vs.all fun i => match s[i]? with
  | some .no => true
  | none => true
  | _ => false
def clrC (vs : List Nat) (s : SS) : Option SS := if noAt vs (clr vs s) then some (clr vs s) else none
theorem clrC_ok {vs : List Nat} {s s' : SS} (h : clrC vs s = some s') : s' = clr vs s ∧ ∀ i ∈ vs, ∀ x, s'[i]? = some x → x = .no := by
  unfold clrC at h
  split at h
  · rename_i c
    cases h
    refine ⟨rfl, fun i hi x e => ?_⟩
    have q := List.all_eq_true.mp c i hi
    simp only [e] at q
    cases x <;> first | rfl | cases q
  · cases h
def cmpL (vs : List Nat) (st : D → SS → Option SS) (tt : SS → R Bool) (te : SS → R D) : List D → SS → List D → R (List D)
  | [], s, acc => .ok acc s
  | d :: r, s, acc => match st d s with
    | none => .stuck
    | some s1 => match tt s1 with
      | .ok b s2 => if b = true then match te s2 with
          | .ok y s3 => match clrC vs s3 with
            | some s4 => if acc.length < 1000000 then cmpL vs st tt te r s4 (acc ++ [y]) else .stuck
            | none => .stuck
          | _ => .stuck
        else match clrC vs s2 with
          | some s3 => cmpL vs st tt te r s3 acc
          | none => .stuck
      | _ => .stuck
def eCmp (vs : List Nat) (u : SS → SS) (it : SS → R (List D)) (st : D → SS → Option SS) (tt : SS → R Bool) (te : SS → R D) : SS → R D := fun s => match it s with
  | .ok ds s1 => match clrC vs s1 with
    | some s0 => match cmpL vs st tt te ds s0 [] with
      | .ok acc s2 => .ok (.lst acc) (u (clr vs s2))
      | _ => .stuck
    | none => .stuck
  | .exc x s1 => .exc x s1
  | .stuck => .stuck
theorem OwnL.snoc {B : AP} {y : D} {v : V} : ∀ {ds : List D} {vs : List V} {A : AP}, Sep A B → OwnL K C H ds vs A → Own K C H y v B → OwnL K C H (ds ++ [y]) (vs ++ [v]) (Cup A B)
  | [], vs, A, sp, h, o => by
    cases h
    exact .cons (A1 := B) (A2 := Mt) mt_sep cup_r sub_mt o .nil
  | d :: ds, vs, A, sp, h, o => by
    cases h with
    | cons a b c x z =>
      rename_i A1 A2 w ws
      exact .cons (A1 := A1) (A2 := Cup A2 B) (a.cup (sp.mono b (Sub.refl _))) (b.trans cup_l) (cup_sub (c.trans cup_l) cup_r) x (OwnL.snoc (sp.mono c (Sub.refl _)) z o)
theorem Rel.wipe {vs : List Nat} (r : Rel K C Φ Λ π ss σ H) (h : ∀ i ∈ vs, ∀ x, ss[i]? = some x → x = .no) : Rel K C Φ Λ π ss (L2.wipe σ vs) H := by
  obtain ⟨As, a⟩ := r
  refine ⟨As, a.al, a.sub, by rw [wipe_length]; exact a.len, fun i v hi => ?_, a.aa, a.af, a.ap, fun i s o e1 e2 => ?_⟩
  · obtain ⟨h1, x, h2⟩ := a.pin i v hi
    refine ⟨?_, x, h2⟩
    rw [wipe_get]
    rw [if_neg (fun z => by have := h i z.1 _ h2; cases this)]
    exact h1
  · by_cases hv : i ∈ vs
    · have := h i hv s e1
      subst this
      trivial
    · rw [wipe_get, if_neg (fun z => hv z.1)] at e2
      exact a.ok i s o e1 e2
theorem Rel.unwipe {vs : List Nat} {σ2 : L2.St} (r : Rel K C Φ Λ π ss σ2 H) (w : L2.wipe σ2 vs = L2.wipe σ vs) (h : ∀ i ∈ vs, ∀ x, ss[i]? = some x → x = .no) : Rel K C Φ Λ π ss σ H := by
  obtain ⟨As, a⟩ := r.wipe h
  have hl : σ.length = (L2.wipe σ2 vs).length := by rw [w, wipe_length]
  refine ⟨As, a.al, a.sub, hl.trans a.len, fun i v hi => ?_, a.aa, a.af, a.ap, fun i s o e1 e2 => ?_⟩
  · obtain ⟨h1, x, h2⟩ := a.pin i v hi
    refine ⟨?_, x, h2⟩
    rw [w, wipe_get, if_neg (fun z => by have := h i z.1 _ h2; cases this)] at h1
    exact h1
  · by_cases hv : i ∈ vs
    · have := h i hv s e1
      subst this
      trivial
    · refine a.ok i s o e1 ?_
      rw [w, wipe_get, if_neg (fun z => hv z.1)]
      exact e2
theorem se_cmp {wi : TI} {g : TG} {tt : TT} {te : TE} {vs : List Nat} {u : SS → SS} {it : SS → R (List D)} {st : D → SS → Option SS} {T : SS → R Bool} {F : SS → R D} (hi : SimI K C W wi u it) (hg : SimG K C vs g st) (ht : SimT K C W0 tt T) (he : SimE K C W0 te F) :
    SimE K C W (tLc wi g tt te vs) (eCmp vs u it st T F) := fun Φ Λ π ss σ H Q r p => by
  unfold eCmp at p
  refine hi Φ Λ π ss σ H _ r ?_
  cases q : it ss with
  | stuck => rw [q] at p; exact p
  | exc x s => rw [q] at p; exact p
  | ok ds s1 =>
    rw [q] at p
    intro J H1 B Λ' k1 r1 bk ok D0 hD
    simp only at p
    cases e0 : clrC vs s1 with
    | none => rw [e0] at p; exact p.elim
    | some s0 =>
      rw [e0] at p
      simp only at p
      obtain ⟨rfl, n0⟩ := clrC_ok e0
      have psi' := r1.psi
      have psiL : ∀ i, Sub ((fun i => if i ∈ vs then B else Λ' i) i) (Cup Φ B) := fun i => by
        show Sub (if i ∈ vs then B else Λ' i) (Cup Φ B)
        split
        · exact cup_r
        · exact psi' i
      have rL : Rel K C (Cup Φ B) (fun i => if i ∈ vs then B else Λ' i) π (clr vs s1) σ H1 := r1.clr (fun j n => if_neg n) psiL
      have bkL := bk.clr (ts := vs) psi'
      generalize hΛ : (fun i => if i ∈ vs then B else Λ' i) = ΛL at rL psiL bkL
      have hts : ∀ i ∈ vs, ΛL i = B := fun i h => by rw [← hΛ]; exact if_pos h
      have sD : Same H1 (upd H1 D0 (.lst [])) := same_upd hD
      -- what is left to do
      refine ⟨fun i m H' => m = ds.length - i ∧ i ≤ ds.length ∧ Keep (Cup Φ B) H1 H' ∧ ∃ s acc ws A, Rel K C (Cup (Cup Φ B) (Cup (One D0) A)) ΛL π s (wipe σ vs) H' ∧ Sep A (One D0) ∧ Sep (Cup (One D0) A) (Cup Φ B) ∧ H' D0 = some (.lst ws) ∧ OwnL K C H' acc ws A ∧
        (∀ i ∈ vs, ∀ x, s[i]? = some x → x = .no) ∧ ∃ acc2 s2, cmpL vs st T F (ds.drop i) s acc = .ok acc2 s2 ∧ PostE K C W Φ Λ π σ H Q (.ok (.lst acc2) (u (clr vs s2))), ⟨ds.length, by simp, Nat.zero_le _, Keep.of sD, clr vs s1, [], [], Mt, ?_, sep_mt, ?_, upd_same, .nil, n0, ?_⟩, ?_⟩
      · have r2 : Rel K C (Cup (Cup Φ B) (One D0)) ΛL π (clr vs s1) (wipe σ vs) (upd H1 D0 (.lst [])) := (rL.wipe n0).grow sD (one_fr hD) one_al
        exact r2.eqv (cup_sub cup_l (cup_l.trans cup_r)) (cup_sub cup_l ((cup_sub (Sub.refl _) sub_mt).trans cup_r))
      · exact Sep.cupl (fr_sep (one_fr hD) r1.al).symm sep_mt
      · cases ec : cmpL vs st T F ds (clr vs s1) [] with
        | stuck => rw [ec] at p; exact p.elim
        | exc x s => rw [ec] at p; exact p.elim
        | ok acc2 s2 => rw [ec] at p; exact ⟨acc2, s2, by simpa using ec, p⟩
      rintro i m H' ⟨rfl, hil, kB, s, acc, ws, A, rs, sA, sp, hw, ow, nn, acc2, s2, ec, pf⟩
      by_cases hlt : i < ds.length
      · right
        have ed : ds.drop i = ds[i] :: ds.drop (i + 1) := List.drop_eq_getElem_cons hlt
        rw [ed] at ec
        have eg : ds[i]? = some ds[i] := List.getElem?_eq_getElem hlt
        obtain ⟨go, yl⟩ := (ok H' (kB.mono cup_r) i).1 _ eg
        refine ⟨go, fun H2 => Keep (Cup Φ B) H1 H2 ∧ ∃ s acc ws A, Rel K C (Cup (Cup Φ B) (Cup (One D0) A)) ΛL π s (wipe σ vs) H2 ∧ Sep A (One D0) ∧ Sep (Cup (One D0) A) (Cup Φ B) ∧ H2 D0 = some (.lst ws) ∧ OwnL K C H2 acc ws A ∧
          (∀ i ∈ vs, ∀ x, s[i]? = some x → x = .no) ∧ ∃ acc2 s2, cmpL vs st T F (ds.drop (i + 1)) s acc = .ok acc2 s2 ∧ PostE K C W Φ Λ π σ H Q (.ok (.lst acc2) (u (clr vs s2))), fun H2 h => ⟨ds.length - (i + 1), by omega, rfl, hlt, h⟩, fun x H2 y => ?_⟩
        obtain ⟨sm, ox⟩ := yl x H2 y
        have kB2 : Keep (Cup Φ B) H1 H2 := kB.trans (Keep.of sm)
        unfold cmpL at ec
        cases es : st ds[i] s with
        | none => rw [es] at ec; cases ec
        | some s3 =>
          rw [es] at ec
          simp only at ec
          refine hg _ ΛL π s (wipe σ vs) H2 _ x B s3 _ hts (cup_r.trans cup_l) (rs.same sm) ox es fun σ3 w3 r3 => ?_
          refine ⟨by rw [w3, wipe_wipe], ?_⟩
          refine ht _ ΛL π s3 σ3 H2 _ r3 ?_
          cases et : T s3 with
          | stuck => rw [et] at ec; cases ec
          | exc x s => rw [et] at ec; cases ec
          | ok b s4 =>
            rw [et] at ec
            simp only at ec
            intro H3 k3 r4
            have hw3 : H3 D0 = some (.lst ws) := k3.k _ _ (.inr (.inl rfl)) (sm _ _ hw)
            have ow3 : OwnL K C H3 acc ws A := (ow.same sm).keep (k3.mono (cup_r.trans cup_r))
            have kB3 : Keep (Cup Φ B) H1 H3 := kB2.trans (k3.mono cup_l)
            split
            · rename_i z
              rw [if_pos z] at ec
              refine he _ ΛL π s4 σ3 H3 _ r4 ?_
              cases ee : F s4 with
              | stuck => rw [ee] at ec; cases ec
              | exc x s => rw [ee] at ec; cases ec
              | ok y s5 =>
                rw [ee] at ec
                simp only at ec
                intro v H4 B2 k4 r5 sp4 o4
                have hw4 : H4 D0 = some (.lst ws) := k4.k _ _ (.inr (.inl rfl)) hw3
                have ow4 : OwnL K C H4 acc ws A := ow3.keep (k4.mono (cup_r.trans cup_r))
                cases ecl : clrC vs s5 with
                | none => rw [ecl] at ec; cases ec
                | some s6 =>
                  rw [ecl] at ec
                  simp only at ec
                  obtain ⟨rfl, n6⟩ := clrC_ok ecl
                  split at ec
                  · rename_i hl
                    refine ⟨ws, hw4, Nat.lt_of_lt_of_le (by rw [← ow4.length]; exact hl) (by decide : 1000000 ≤ sizeLine), ?_⟩
                    have nA : ¬ A D0 := fun z => sA D0 z rfl
                    have nB2 : ¬ B2 D0 := fun z => sp4 D0 z (.inr (.inl rfl))
                    have nP : ¬ (Cup Φ B) D0 := fun z => sp D0 (.inl rfl) z
                    have kD : ∀ {X : AP}, ¬ X D0 → Keep X H4 (upd H4 D0 (.lst (ws ++ [v]))) := fun n => keep_upd hw4 (fun _ z => by cases z) (fun _ _ z => by cases z) n
                    have sAB : Sep A B2 := (sp4.mono (Sub.refl _) (cup_r.trans cup_r)).symm
                    refine ⟨(kB3.trans (k4.mono cup_l)).trans (kD nP), clr vs s5, acc ++ [y], ws ++ [v], Cup A B2, ?_, ?_, ?_, upd_same, ?_, n6, acc2, s2, ec, pf⟩
                    · -- the relation behind the append
                      have r6 : Rel K C (Cup (Cup (Cup Φ B) (Cup (One D0) A)) B2) ΛL π (clr vs s5) σ3 H4 := r5.clr (fun j _ => rfl) r5.psi
                      have r7 : Rel K C (Cup (Cup (Cup Φ B) (Cup (One D0) A)) B2) ΛL π (clr vs s5) (wipe σ vs) H4 := by
                        refine r6.unwipe (σ := wipe σ vs) (vs := vs) (by rw [w3]) n6
                      obtain ⟨As, a⟩ := r7
                      have nAs : ∀ i, ¬ As i D0 := fun i z => a.af i D0 z (.inl (.inr (.inl rfl)))
                      refine ⟨As, ?_, fun i => (psiL i).trans cup_l, a.len, a.pin, fun i => (a.aa i).keep (kD (nAs i)), fun i => (a.af i).mono (Sub.refl _) ?_, a.ap, fun i s o e1 e2 => ?_⟩
                      · intro b hb
                        by_cases hbD : b = D0
                        · rw [hbD, upd_same]; exact fun z => by cases z
                        · rw [upd_ne hbD]
                          refine a.al b ?_
                          rcases hb with hb | hb | hb | hb
                          · exact .inl (.inl hb)
                          · exact .inl (.inr (.inl hb))
                          · exact .inl (.inr (.inr hb))
                          · exact .inr hb
                      · exact cup_sub (cup_l.trans cup_l) (cup_sub (cup_l.trans (cup_r.trans cup_l)) (cup_sub (cup_r.trans (cup_r.trans cup_l)) cup_r))
                      · exact (a.ok i s o e1 e2).keep (kD (nAs i)) (kD (fun z => nP (psiL i D0 z)))
                    · exact Sep.cupl sA (fun b x y => sp4 b x (.inr (.inl y)))
                    · refine Sep.cupl (sp.mono cup_l (Sub.refl _)) (Sep.cupl (sp.mono cup_r (Sub.refl _)) (sp4.mono (Sub.refl _) cup_l))
                    · exact OwnL.snoc sAB (ow4.keep (kD nA)) (o4.keep (kD nB2))
                  · cases ec
            · rename_i z
              rw [if_neg z] at ec
              cases ecl : clrC vs s4 with
              | none => rw [ecl] at ec; cases ec
              | some s6 =>
                rw [ecl] at ec
                simp only at ec
                obtain ⟨rfl, n6⟩ := clrC_ok ecl
                refine ⟨kB3, clr vs s4, acc, ws, A, ?_, sA, sp, hw3, ow3, n6, acc2, s2, ec, pf⟩
                have r6 : Rel K C (Cup (Cup Φ B) (Cup (One D0) A)) ΛL π (clr vs s4) σ3 H3 := r4.clr (fun j _ => rfl) r4.psi
                exact r6.unwipe (σ := wipe σ vs) (vs := vs) (by rw [w3]) n6
      · left
        have ei : ds.length ≤ i := by omega
        rw [List.drop_eq_nil_of_le ei] at ec
        have e2 : cmpL vs st T F [] s acc = .ok acc s := rfl
        rw [e2] at ec
        cases ec
        refine ⟨(ok H' (kB.mono cup_r) i).2 ei, pf (.ref D0) H' (Cup (One D0) A) (k1.trans (kB.mono cup_l)) ?_ (sp.mono (Sub.refl _) cup_l) ?_⟩
        · refine bkL _ s σ H' (sp.mono (Sub.refl _) cup_r) ?_
          exact rs.unwipe (σ := σ) (vs := vs) wipe_wipe nn
        · exact .lst (.inl rfl) hw (ow.mono fun b hb => ⟨.inr hb, fun z => sA b hb z⟩)
end
end Dy

/-! pure comprehensions. -/
namespace Dy
open PySem L2
section
variable {K : PySem.W.Frag} {C : Nat → Addr} {W : WX} {Φ Φ' : AP} {Λ : Nat → AP} {π : Nat → Option V} {ss : SS} {σ : L2.St} {H H' : Hp}
def cmpP (st : D → SS → Option SS) (tt : SS → Option Bool) (te : SS → Option D) (s0 : SS) : List D → Option (List D)
  | [] => some []
  | d :: r => (st d s0).bind fun s1 => (tt s1).bind fun b => if b = true then (te s1).bind fun y => if imm y = true then (cmpP st tt te s0 r).map fun l => y :: l else none else cmpP st tt te s0 r
def pCmp (vs : List Nat) (it : SS → Option (List D)) (st : D → SS → Option SS) (tt : SS → Option Bool) (te : SS → Option D) : SS → Option D := fun s => (it s).bind fun ds => if immL ds = true ∧ ds.length ≤ 1000000 then (clrC vs s).bind fun s0 => (cmpP st tt te s0 ds).map D.lst else none
theorem cmpP_le {st : D → SS → Option SS} {tt : SS → Option Bool} {te : SS → Option D} {s0 : SS} : ∀ {ds l : List D}, cmpP st tt te s0 ds = some l → l.length ≤ ds.length
  | [], l, e => by cases e; exact Nat.le_refl _
  | d :: r, l, e => by
    unfold cmpP at e
    cases e1 : st d s0 with
    | none => rw [e1] at e; cases e
    | some s1 =>
      rw [e1] at e
      simp only [Option.bind] at e
      cases e2 : tt s1 with
      | none => rw [e2] at e; cases e
      | some b =>
        rw [e2] at e
        simp only at e
        split at e
        · cases e3 : te s1 with
          | none => rw [e3] at e; cases e
          | some y =>
            rw [e3] at e
            simp only at e
            split at e
            · cases e4 : cmpP st tt te s0 r with
              | none => rw [e4] at e; cases e
              | some l' => rw [e4] at e; cases e; exact Nat.succ_le_succ (cmpP_le e4)
            · cases e
        · exact Nat.le_succ_of_le (cmpP_le e)
theorem same_out {H0 H : Hp} {p : Addr} {o : HO} (s : Same H0 H) (h : H0 p = none) : Same H0 (upd H p o) := fun a u e => by
  rw [upd_ne (ne_of_none e h)]; exact s a u e
theorem sf_cmp {wi : TI} {g : TG} {tt : TT} {te : TE} {vs : List Nat} {it : SS → Option (List D)} {st : D → SS → Option SS} {T : SS → Option Bool} {F : SS → Option D} (hi : SimIP K C wi it) (hg : SimG K C vs g st) (ht : SimPT K C tt T) (he : SimP K C te F) :
    SimF K C (tLc wi g tt te vs) (pCmp vs it st T F) := fun Φ Λ π ss σ H Q d r e k => by
  unfold pCmp at e
  cases q : it ss with
  | none => rw [q] at e; cases e
  | some ds =>
    rw [q] at e
    simp only [Option.bind] at e
    split at e
    · rename_i c
      obtain ⟨ci, cl⟩ := c
      cases e0 : clrC vs ss with
      | none => rw [e0] at e; cases e
      | some s0 =>
        rw [e0] at e
        simp only at e
        cases ef : cmpP st T F s0 ds with
        | none => rw [ef] at e; cases e
        | some l =>
          rw [ef] at e
          cases e
          obtain ⟨rfl, n0⟩ := clrC_ok e0
          refine hi Φ Λ π ss σ H _ ds r q fun J H1 B s1 al ok D0 hD => ?_
          have r0 : Rel K C Φ (fun i => if i ∈ vs then Mt else Λ i) π (clr vs ss) (wipe σ vs) H1 := ((r.same s1).clr (fun j n => if_neg n) fun i => by
            show Sub (if i ∈ vs then Mt else Λ i) Φ
            split
            · exact sub_mt
            · exact r.psi i).wipe n0
          have nB : ∀ H', Same H1 H' → Keep B H1 H' := fun H' s => Keep.of s
          refine ⟨fun i m H' => m = ds.length - i ∧ i ≤ ds.length ∧ Same H1 H' ∧ ∃ acc ws rest, acc ++ rest = l ∧ H' D0 = some (.lst ws) ∧ IL K C H' acc ws ∧ cmpP st T F (clr vs ss) (ds.drop i) = some rest, ⟨ds.length, by simp, Nat.zero_le _, same_upd hD, [], [], l, rfl, upd_same, .nil, by simpa using ef⟩, ?_⟩
          rintro i m H' ⟨rfl, hil, sH, acc, ws, rest, el, hw, iw, ec⟩
          by_cases hlt : i < ds.length
          · right
            have ed : ds.drop i = ds[i] :: ds.drop (i + 1) := List.drop_eq_getElem_cons hlt
            rw [ed] at ec
            have eg : ds[i]? = some ds[i] := List.getElem?_eq_getElem hlt
            have ig : imm ds[i] = true := immL_iff.mp ci _ (List.getElem_mem hlt)
            obtain ⟨go, yl⟩ := (ok H' (nB H' sH) i).1 _ eg
            refine ⟨go, fun H2 => Same H1 H2 ∧ ∃ acc ws rest, acc ++ rest = l ∧ H2 D0 = some (.lst ws) ∧ IL K C H2 acc ws ∧ cmpP st T F (clr vs ss) (ds.drop (i + 1)) = some rest, fun H2 h => ⟨ds.length - (i + 1), by omega, rfl, hlt, h⟩, fun x H2 y => ?_⟩
            obtain ⟨sm, ox⟩ := yl x H2 y
            have sH2 := sH.trans sm
            unfold cmpP at ec
            cases es : st ds[i] (clr vs ss) with
            | none => rw [es] at ec; cases ec
            | some s3 =>
              rw [es] at ec
              simp only [Option.bind] at ec
              refine hg _ _ π (clr vs ss) (wipe σ vs) H2 _ x Mt s3 _ (fun i hi => if_pos hi) sub_mt (r0.same sH2) (ox.imm ig) es fun σ3 w3 r3 => ?_
              refine ⟨by rw [w3, wipe_wipe], ?_⟩
              cases et : T s3 with
              | none => rw [et] at ec; cases ec
              | some b =>
                rw [et] at ec
                simp only at ec
                refine ht _ _ π s3 σ3 H2 _ b r3 et fun H3 s3' => ?_
                split
                · rename_i z
                  rw [if_pos z] at ec
                  cases ee : F s3 with
                  | none => rw [ee] at ec; cases ec
                  | some y =>
                    rw [ee] at ec
                    simp only at ec
                    split at ec
                    · rename_i iy
                      cases er : cmpP st T F (clr vs ss) (ds.drop (i + 1)) with
                      | none => rw [er] at ec; cases ec
                      | some l' =>
                        rw [er] at ec; cases ec
                        refine he _ _ π s3 σ3 H3 _ y (r3.same s3') ee fun v H4 s4 rb => ?_
                        have s24 : Same H' H4 := (sm.trans s3').trans s4
                        have hw4 : H4 D0 = some (.lst ws) := s24 _ _ hw
                        have il4 : IL K C H4 acc ws := iw.same s24
                        have lw : ws.length < sizeLine := by
                          have h1 := il4.length
                          have h2 := cmpP_le ef
                          have h3 : acc.length < l.length := by rw [← el]; simp
                          have h4 : (1000000 : Nat) ≤ sizeLine := by decide
                          omega
                        have pw : Pers H4 (upd H4 D0 (.lst (ws ++ [v]))) := pers_upd hw4 (fun _ z => by cases z) (fun _ _ z => by cases z)
                        refine ⟨ws, hw4, lw, same_out (sH2.trans (s3'.trans s4)) hD, acc ++ [y], ws ++ [v], l', by rw [← el]; simp, upd_same, ?_, rfl⟩
                        exact IL.append (il4.keep ⟨pw, fun _ _ z => z.elim⟩) (IL.cons ((rb.imm (B := Mt) iy).pers iy pw) .nil)
                    · cases ec
                · rename_i z
                  rw [if_neg z] at ec
                  exact ⟨sH2.trans s3', acc, ws, rest, el, s3' _ _ (sm _ _ hw), (iw.same sm).same s3', ec⟩
          · left
            have ei : ds.length ≤ i := by omega
            rw [List.drop_eq_nil_of_le ei] at ec
            have e2 : cmpP st T F (clr vs ss) [] = some [] := rfl
            rw [e2] at ec
            cases ec
            rw [List.append_nil] at el
            subst el
            refine ⟨(ok H' (nB H' sH) i).2 ei, k (.ref D0) H' (One D0) (s1.trans sH) (one_fr (s1.free hD)) (fun a h z => ?_) (.lst rfl hw (iw.mono sub_mt))⟩
            have h' : a = D0 := h
            rw [h', hw] at z; cases z
    · cases e
end
end Dy

/-! Built-ins by data. -/
namespace Dy
open PySem L2
section
variable {K : PySem.W.Frag} {C : Nat → Addr} {W : WX} {H H' : Hp}
theorem rbl1 {d : D} {vs : List V} (h : RbL K C H [d] vs) : ∃ v, vs = [v] ∧ Rb K C H d v := by
  cases h with | cons a b => cases b; exact ⟨_, rfl, a⟩
theorem rbl2 {d e : D} {vs : List V} (h : RbL K C H [d, e] vs) : ∃ v w, vs = [v, w] ∧ Rb K C H d v ∧ Rb K C H e w := by
  cases h with | cons a b => cases b with | cons a2 b2 => cases b2; exact ⟨_, _, rfl, a, a2⟩
/-- f(a) of one | two -/
def on1 (f : D → Option D) : List D → Option D
  | [d] => f d
  | _ => none
def on2 (f : D → D → Option D) : List D → Option D
  | [d, e] => f d e
  | _ => none
theorem on1_inv {f : D → Option D} {l : List D} {z : D} (e : on1 f l = some z) : ∃ d, l = [d] ∧ f d = some z := by
  cases l with
  | nil => cases e
  | cons d r => cases r with
    | nil => exact ⟨d, rfl, e⟩
    | cons _ _ => cases e
theorem on2_inv {f : D → D → Option D} {l : List D} {z : D} (e : on2 f l = some z) : ∃ d d', l = [d, d'] ∧ f d d' = some z := by
  cases l with
  | nil => cases e
  | cons d r => cases r with
    | nil => cases e
    | cons d' r => cases r with
      | nil => exact ⟨d, d', rfl, e⟩
      | cons _ _ => cases e
/-! len -/
def fLen (d : D) : Option D := match d with
  | .str s => if s.length ≤ 1000000 then some (.int s.length) else none
  | .lst ds => some (.int ds.length)
  | .fls ds => some (.int ds.length)
  | .tup ds => some (.int ds.length)
  | _ => none
theorem cs_len : CallS K C (fun xs H Q => ∃ x n, xs = [x] ∧ LenV K x H n ∧ Q (.int n) H) (on1 fLen) := fun H vs ds z Q r e k => by
  obtain ⟨d, rfl, e1⟩ := on1_inv e
  clear e
  have e := e1
  clear e1
  obtain ⟨v, rfl, A, al, o⟩ := rbl1 r
  cases d <;> simp [fLen] at e
  · obtain ⟨l, rfl⟩ := e
    cases o
    exact ⟨_, _, rfl, ⟨sl100 l, rfl⟩, k _ H Mt (Same.refl H) fr_mt al_mt (.int _)⟩
  · subst e
    cases o with
    | tup q y =>
      rw [y.length] at k
      exact ⟨_, _, rfl, .inr ⟨_, SqT.of q, rfl⟩, k _ H Mt (Same.refl H) fr_mt al_mt (.int _)⟩
  · subst e
    cases o with
    | lst h q y =>
      rw [y.length] at k
      exact ⟨_, _, rfl, .inl ⟨_, SqL.of q, rfl⟩, k _ H Mt (Same.refl H) fr_mt al_mt (.int _)⟩
  · subst e
    cases o with
    | fls q y =>
      rw [y.length] at k
      exact ⟨_, _, rfl, .inl ⟨_, q.sql, rfl⟩, k _ H Mt (Same.refl H) fr_mt al_mt (.int _)⟩
/-! lists of ints -/
def intsOf : List D → Option (List Int)
  | [] => some []
  | .int i :: r => (intsOf r).map fun l => i :: l
  | _ => none
theorem intsOf_ok : ∀ {ds : List D} {ns : List Int}, intsOf ds = some ns → ds = ns.map D.int
  | [], ns, e => by cases e; rfl
  | d :: r, ns, e => by
    cases d <;> simp [intsOf] at e
    obtain ⟨l, h1, rfl⟩ := e
    rw [intsOf_ok h1]; rfl
theorem ints_v : ∀ {ns : List Int} {vs : List V} {A : AP}, OwnL K C H (ns.map D.int) vs A → vs = ns.map V.int
  | [], vs, A, h => by cases h; rfl
  | n :: r, vs, A, h => by
    cases h with | cons _ _ _ x y => cases x; rw [ints_v y]; rfl
theorem own_ints : ∀ (ns : List Int), IL K C H (ns.map D.int) (ns.map V.int)
  | [] => .nil
  | n :: r => IL.cons (.int n) (own_ints r)
theorem intsOf_map (ns : List Int) : intsOf (ns.map D.int) = some ns := by
  induction ns with
  | nil => rfl
  | cons n r ih => rw [List.map_cons, intsOf, ih]; rfl
theorem imm_ints (ns : List Int) : immL (ns.map D.int) = true := by
  induction ns with
  | nil => rfl
  | cons n r ih => rw [List.map_cons, immL, ih]; rfl
/-- the list's address and values -/
theorem lst_sq {d : D} {ds : List D} {v : V} (r : Rb K C H d v) (e : asLst d = some ds) : ∃ a vs, v = .ref a ∧ SqL K H a vs ∧ ∃ A, OwnL K C H ds vs A := by
  obtain ⟨A, _, o⟩ := r
  cases d <;> simp [asLst] at e
  · subst e; cases o with | lst h q y => exact ⟨_, _, rfl, SqL.of q, _, y⟩
  · subst e; cases o with | fls q y => exact ⟨_, _, rfl, q.sql, _, y⟩
def maxI : List Int → Int
  | [] => 0
  | [x] => x
  | x :: xs => max x (maxI xs)
def minI : List Int → Int
  | [] => 0
  | [x] => x
  | x :: xs => min x (minI xs)
theorem maxI_cons (x y : Int) (l : List Int) : maxI (x :: y :: l) = max x (maxI (y :: l)) := rfl
theorem minI_cons (x y : Int) (l : List Int) : minI (x :: y :: l) = min x (minI (y :: l)) := rfl
theorem maxI_spec : ∀ {l : List Int}, l ≠ [] → maxI l ∈ l ∧ ∀ y ∈ l, y ≤ maxI l
  | [], h => (h rfl).elim
  | [x], _ => ⟨by simp [maxI], fun y hy => by simp at hy; subst hy; simp [maxI]⟩
  | x :: y :: l, _ => by
    obtain ⟨h1, h2⟩ := maxI_spec (l := y :: l) (by simp)
    rw [maxI_cons]
    refine ⟨?_, fun z hz => ?_⟩
    · by_cases c : x ≤ maxI (y :: l)
      · rw [Int.max_eq_right c]; exact List.mem_cons_of_mem _ h1
      · rw [Int.max_eq_left (by omega)]; exact List.mem_cons_self
    · rcases List.mem_cons.mp hz with rfl | hz
      · omega
      · have := h2 z hz; omega
theorem minI_spec : ∀ {l : List Int}, l ≠ [] → minI l ∈ l ∧ ∀ y ∈ l, minI l ≤ y
  | [], h => (h rfl).elim
  | [x], _ => ⟨by simp [minI], fun y hy => by simp at hy; subst hy; simp [minI]⟩
  | x :: y :: l, _ => by
    obtain ⟨h1, h2⟩ := minI_spec (l := y :: l) (by simp)
    rw [minI_cons]
    refine ⟨?_, fun z hz => ?_⟩
    · by_cases c : x ≤ minI (y :: l)
      · rw [Int.min_eq_left c]; exact List.mem_cons_self
      · rw [Int.min_eq_right (by omega)]; exact List.mem_cons_of_mem _ h1
    · rcases List.mem_cons.mp hz with rfl | hz
      · omega
      · have := h2 z hz; omega
def withInts (f : List Int → Option D) (d : D) : Option D := (asLst d).bind fun ds => (intsOf ds).bind f
theorem withInts_ok {f : List Int → Option D} {d z : D} {v : V} (r : Rb K C H d v) (e : withInts f d = some z) : ∃ a ns, v = .ref a ∧ SqL K H a (ns.map V.int) ∧ f ns = some z := by
  unfold withInts at e
  cases q : asLst d with
  | none => rw [q] at e; cases e
  | some ds =>
    rw [q] at e
    simp only [Option.bind] at e
    cases q2 : intsOf ds with
    | none => rw [q2] at e; cases e
    | some ns =>
      rw [q2] at e
      obtain ⟨a, vs, rfl, h, A, o⟩ := lst_sq r q
      rw [intsOf_ok q2] at o
      rw [ints_v o] at h
      exact ⟨a, ns, rfl, h, e⟩
def fMax1 : D → Option D := withInts fun ns => if ns = [] then none else some (.int (maxI ns))
def fMin1 : D → Option D := withInts fun ns => if ns = [] then none else some (.int (minI ns))
def fSum1 : D → Option D := withInts fun ns => some (.int ns.sum)
theorem cs_max1 : CallS K C (rMax K) (on1 fMax1) := fun H vs ds z Q r e k => by
  obtain ⟨d, rfl, e1⟩ := on1_inv e
  clear e
  have e := e1
  clear e1
  obtain ⟨v, rfl, rb⟩ := rbl1 r
  obtain ⟨a, ns, rfl, h, e⟩ := withInts_ok rb e
  split at e
  · cases e
  · rename_i ne
    cases e
    refine ⟨a, ns, rfl, h, by cases ns; exact (ne rfl).elim; simp, fun m h1 h2 => ?_⟩
    obtain ⟨g1, g2⟩ := maxI_spec ne
    have : m = maxI ns := by have := h2 _ g1; have := g2 _ h1; omega
    subst this
    exact k _ H Mt (Same.refl H) fr_mt al_mt (.int _)
theorem cs_min1 : CallS K C (rMin K) (on1 fMin1) := fun H vs ds z Q r e k => by
  obtain ⟨d, rfl, e1⟩ := on1_inv e
  clear e
  have e := e1
  clear e1
  obtain ⟨v, rfl, rb⟩ := rbl1 r
  obtain ⟨a, ns, rfl, h, e⟩ := withInts_ok rb e
  split at e
  · cases e
  · rename_i ne
    cases e
    refine ⟨a, ns, rfl, h, by cases ns; exact (ne rfl).elim; simp, fun m h1 h2 => ?_⟩
    obtain ⟨g1, g2⟩ := minI_spec ne
    have : m = minI ns := by have := h2 _ g1; have := g2 _ h1; omega
    subst this
    exact k _ H Mt (Same.refl H) fr_mt al_mt (.int _)
theorem cs_sum1 : CallS K C (rSum K) (on1 fSum1) := fun H vs ds z Q r e k => by
  obtain ⟨d, rfl, e1⟩ := on1_inv e
  clear e
  have e := e1
  clear e1
  obtain ⟨v, rfl, rb⟩ := rbl1 r
  obtain ⟨a, ns, rfl, h, e⟩ := withInts_ok rb e
  cases e
  exact ⟨a, ns, rfl, h, k _ H Mt (Same.refl H) fr_mt al_mt (.int _)⟩
def fMax2 : D → D → Option D := fII fun i j => .int (max i j)
def fMin2 : D → D → Option D := fII fun i j => .int (min i j)
theorem cs_max2 : CallS K C (fun xs H Q => ∃ i j, xs = [.int i, .int j] ∧ Q (.int (if j > i then j else i)) H) (on2 fMax2) := fun H vs ds z Q r e k => by
  obtain ⟨d, d', rfl, e1⟩ := on2_inv e
  clear e
  have e := e1
  clear e1
  obtain ⟨v, w, rfl, r1, r2⟩ := rbl2 r
  obtain ⟨i, j, rfl, rfl, rfl⟩ := fII_inv e
  rw [rb_int' r1, rb_int' r2]
  refine ⟨i, j, rfl, ?_⟩
  have : (if j > i then j else i) = max i j := by split <;> omega
  rw [this]
  exact k _ H Mt (Same.refl H) fr_mt al_mt (.int _)
theorem cs_min2 : CallS K C (fun xs H Q => ∃ i j, xs = [.int i, .int j] ∧ Q (.int (if j < i then j else i)) H) (on2 fMin2) := fun H vs ds z Q r e k => by
  obtain ⟨d, d', rfl, e1⟩ := on2_inv e
  clear e
  have e := e1
  clear e1
  obtain ⟨v, w, rfl, r1, r2⟩ := rbl2 r
  obtain ⟨i, j, rfl, rfl, rfl⟩ := fII_inv e
  rw [rb_int' r1, rb_int' r2]
  refine ⟨i, j, rfl, ?_⟩
  have : (if j < i then j else i) = min i j := by split <;> omega
  rw [this]
  exact k _ H Mt (Same.refl H) fr_mt al_mt (.int _)
def fMax : List D → Option D := orL (on2 fMax2) (on1 fMax1)
def fMin : List D → Option D := orL (on2 fMin2) (on1 fMin1)
abbrev rMaxA (K : PySem.W.Frag) : List V → Hp → VK → Prop := fun xs H Q => (∃ i j, xs = [.int i, .int j] ∧ Q (.int (if j > i then j else i)) H) ∨ rMax K xs H Q
abbrev rMinA (K : PySem.W.Frag) : List V → Hp → VK → Prop := fun xs H Q => (∃ i j, xs = [.int i, .int j] ∧ Q (.int (if j < i then j else i)) H) ∨ rMin K xs H Q
theorem call_maxA {X : Cx} (hc : X.calm = true) : CallR X (.builtin "max") (rMaxA X.K) := CallR.or (call_max2 hc) (cr_max hc)
theorem call_minA {X : Cx} (hc : X.calm = true) : CallR X (.builtin "min") (rMinA X.K) := CallR.or (call_min2 hc) (cr_min hc)
theorem cs_max : CallS K C (rMaxA K) fMax := calls_or cs_max2 cs_max1
theorem cs_min : CallS K C (rMinA K) fMin := calls_or cs_min2 cs_min1
/-! int(x), str(x), list(x), tuple(x) -/
def fInt (d : D) : Option D := match d with
  | .int i => some (.int i)
  | .bl b => some (.int (if b then 1 else 0))
  | .str s => if s.length ≤ 640 then (PySem.intText? s).map D.int else none
  | _ => none
abbrev rIntA : List V → Hp → VK → Prop := fun xs H Q => ((∃ i, xs = [.int i] ∧ Q (.int i) H) ∨ ∃ k, xs = [.bl k] ∧ Q (.int (if k then 1 else 0)) H) ∨ ∃ a n, xs = [.str a] ∧ PySem.intText? a = some n ∧ a.length ≤ 640 ∧ Q (.int n) H
theorem call_intA {X : Cx} : CallR X (.type "int") rIntA := CallR.or call_int1 call_int_str
theorem cs_int : CallS K C rIntA (on1 fInt) := fun H vs ds z Q r e k => by
  obtain ⟨d, rfl, e1⟩ := on1_inv e
  clear e
  have e := e1
  clear e1
  obtain ⟨v, rfl, A, al, o⟩ := rbl1 r
  cases d <;> simp [fInt] at e
  · subst e; cases o; exact .inl (.inr ⟨_, rfl, k _ H Mt (Same.refl H) fr_mt al_mt (.int _)⟩)
  · subst e; cases o; exact .inl (.inl ⟨_, rfl, k _ H Mt (Same.refl H) fr_mt al_mt (.int _)⟩)
  · obtain ⟨l, n, h, rfl⟩ := e
    cases o
    exact .inr ⟨_, n, rfl, h, l, k _ H Mt (Same.refl H) fr_mt al_mt (.int _)⟩
def fStr (d : D) : Option D := match d with
  | .int i => if i.natAbs.log2 < 1920 then some (.str (toString i)) else none
  | .str s => some (.str s)
  | _ => none
abbrev rStrA : List V → Hp → VK → Prop := fun xs H Q => (∃ i, xs = [.int i] ∧ i.natAbs.log2 < 1920 ∧ Q (.str (toString i)) H) ∨ ∃ a, xs = [.str a] ∧ Q (.str a) H
theorem call_strA {X : Cx} : CallR X (.type "str") rStrA := CallR.or call_str_int SkE.call_str_str
theorem cs_str : CallS K C rStrA (on1 fStr) := fun H vs ds z Q r e k => by
  obtain ⟨d, rfl, e1⟩ := on1_inv e
  clear e
  have e := e1
  clear e1
  obtain ⟨v, rfl, A, al, o⟩ := rbl1 r
  cases d <;> simp [fStr] at e
  · obtain ⟨l, rfl⟩ := e; cases o; exact .inl ⟨_, rfl, l, k _ H Mt (Same.refl H) fr_mt al_mt (.str _)⟩
  · subst e; cases o; exact .inr ⟨_, rfl, k _ H Mt (Same.refl H) fr_mt al_mt (.str _)⟩
def kD : Key → D
  | .inl i => .int i
  | .inr s => .str s
theorem own_kD (k : Key) {A : AP} : Own K C H (kD k) (kV k) A := by cases k <;> first | exact .int _ | exact .str _
theorem own_kDs : ∀ (ks : List Key), IL K C H (ks.map kD) (ks.map kV)
  | [] => .nil
  | k :: ks => IL.cons (own_kD k) (own_kDs ks)
theorem zip_fst {κ : Type} : ∀ {ks : List κ} {vs : List V}, ks.length = vs.length → (ks.zip vs).map (fun kv => kv.1) = ks
  | [], _, _ => by simp
  | k :: ks, v :: vs, h => by rw [List.zip_cons_cons, List.map_cons, zip_fst (by simpa using h)]
  | k :: ks, [], h => by cases h
def fList (d : D) : Option D := match d with
  | .lst ds => if immL ds then some (.lst ds) else none
  | .fls ds => if immL ds then some (.lst ds) else none
  | .tup ds => if immL ds then some (.lst ds) else none
  | .dk ks ds => some (.lst (ks.map kD))
  | _ => none
abbrev rListA (K : PySem.W.Frag) : List V → Hp → VK → Prop := fun xs H Q => (∃ p ys, xs = [.ref p] ∧ (SqL K H p ys ∨ SqT K H p ys) ∧ ∀ l, H l = none → Q (.ref l) (upd H l (.lst ys))) ∨
  ∃ (a : Addr) (kvs : List (Key × V)), xs = [.ref a] ∧ Rd H a (.dK kvs) ∧ ∀ p, H p = none → Q (.ref p) (upd H p (.lst (kvs.map fun kv => kV kv.1)))
theorem call_listA {X : Cx} (hc : X.calm = true) : CallR X (.type "list") (rListA X.K) := CallR.or call_list_of (call_listD hc)
theorem cs_list : CallS K C (rListA K) (on1 fList) := fun H vs ds z Q r e k => by
  obtain ⟨d, rfl, e1⟩ := on1_inv e
  clear e
  have e := e1
  clear e1
  obtain ⟨v, rfl, A, al, o⟩ := rbl1 r
  cases d <;> simp [fList] at e
  · obtain ⟨i, rfl⟩ := e
    cases o with
    | tup q y => exact .inl ⟨_, _, rfl, .inr (SqT.of q), fun p hp => k _ _ (One p) (same_upd hp) (one_fr hp) one_al (new_lst (y.imm i) hp)⟩
  · obtain ⟨i, rfl⟩ := e
    cases o with
    | lst h q y => exact .inl ⟨_, _, rfl, .inl (SqL.of q), fun p hp => k _ _ (One p) (same_upd hp) (one_fr hp) one_al (new_lst (y.imm i) hp)⟩
  · obtain ⟨i, rfl⟩ := e
    cases o with
    | fls q y => exact .inl ⟨_, _, rfl, .inl q.sql, fun p hp => k _ _ (One p) (same_upd hp) (one_fr hp) one_al (new_lst (y.imm i) hp)⟩
  · subst e
    cases o with
    | dk h l q y =>
      rename_i ks ds a vs'
      refine .inr ⟨_, _, rfl, .inl q, fun p hp => k _ _ (One p) (same_upd hp) (one_fr hp) one_al ?_⟩
      have e1 : ∀ zs : List V, ks.length = zs.length → ((ks.zip zs).map fun kv => kV kv.1) = ks.map kV := fun zs hz => by
        have h2 := zip_fst (ks := ks) (vs := zs) hz
        have h3 : ((ks.zip zs).map fun kv => kV kv.1) = ((ks.zip zs).map fun kv => kv.1).map kV := by rw [List.map_map]; rfl
        rw [h3, h2]
      rw [e1 _ (l.trans y.length)]
      exact new_lst (own_kDs ks) hp
def fTuple (d : D) : Option D := match d with
  | .lst ds => if immL ds then some (.tup ds) else none
  | .fls ds => if immL ds then some (.tup ds) else none
  | .tup ds => if immL ds then some (.tup ds) else none
  | _ => none
theorem cs_tuple : CallS K C (fun xs H Q => ∃ p ys, xs = [.ref p] ∧ ((SqL K H p ys ∧ ∀ l, H l = none → Q (.ref l) (upd H l (.tup ys))) ∨ (SqT K H p ys ∧ Q (.ref p) H))) (on1 fTuple) := fun H vs ds z Q r e k => by
  obtain ⟨d, rfl, e1⟩ := on1_inv e
  clear e
  have e := e1
  clear e1
  obtain ⟨v, rfl, A, al, o⟩ := rbl1 r
  cases d <;> simp [fTuple] at e
  · obtain ⟨i, rfl⟩ := e
    cases o with
    | tup q y => exact ⟨_, _, rfl, .inr ⟨SqT.of q, k _ H Mt (Same.refl H) fr_mt al_mt (.tup q (y.imm i))⟩⟩
  · obtain ⟨i, rfl⟩ := e
    cases o with
    | lst h q y => exact ⟨_, _, rfl, .inl ⟨SqL.of q, fun p hp => k _ _ Mt (same_upd hp) fr_mt al_mt (new_tup (y.imm i) hp)⟩⟩
  · obtain ⟨i, rfl⟩ := e
    cases o with
    | fls q y => exact ⟨_, _, rfl, .inl ⟨q.sql, fun p hp => k _ _ Mt (same_upd hp) fr_mt al_mt (new_tup (y.imm i) hp)⟩⟩
/-! isinstance -/
def tyN : D → Option String
  | .non => some "NoneType"
  | .bl _ => some "bool"
  | .int _ => some "int"
  | .str _ => some "str"
  | .tup _ => some "tuple"
  | .lst _ => some "list"
  | .fls _ => some "list"
  | .dk _ _ => some "dict"
  | .dt _ _ => some "dict"
  | _ => none
theorem ty_x {d : D} {v : V} {T : String} (r : Rb K C H d v) (e : tyN d = some T) : TyX K H v (.type T) := by
  obtain ⟨A, _, o⟩ := r
  cases d <;> simp [tyN] at e <;> subst e
  · cases o; exact .base .non
  · cases o; exact .base (.bl _)
  · cases o; exact .base (.int _)
  · cases o; exact .base (.str _)
  · cases o with | tup q y => exact .base (.tup q)
  · cases o with | lst h q y => exact .base (.lst q)
  · cases o with | fls q y =>
    rcases q with ⟨_, q⟩ | ⟨_, _, _, q1, q2, _⟩
    · exact .base (.frz q)
    · exact .kList q1 q2
  · cases o with | dk h l q y => exact .base (.dK q)
  · cases o with | dt h l q y => exact .base (.dT q)
def tyB (T S : String) : Option Bool := if S = "int" then some (T == "int" || T == "bool") else if S = "bool" ∨ S = "str" ∨ S = "tuple" ∨ S = "list" then some (T == S) else none
def tyOk : List String := ["NoneType", "bool", "int", "str", "tuple", "list", "dict"]
theorem tyN_mem {d : D} {T : String} (e : tyN d = some T) : T ∈ tyOk := by cases d <;> simp [tyN] at e <;> subst e <;> decide
theorem kitB_tyB : ∀ T ∈ tyOk, ∀ S ∈ ["int", "bool", "str", "tuple", "list"], kitB T S = tyB T S := by decide +kernel
theorem tyB_mem {T S : String} {b : Bool} (e : tyB T S = some b) : S ∈ ["int", "bool", "str", "tuple", "list"] := by
  unfold tyB at e
  split at e
  · rename_i h; subst h; simp
  · split at e
    · rename_i h; rcases h with h | h | h | h <;> subst h <;> simp
    · cases e
def fIsi (a b : D) : Option D := match b with
  | .op (.ty S) => (tyN a).bind fun T => (tyB T S).map D.bl
  | .tup [.op (.ty S), .op (.ty S')] => (tyN a).bind fun T => (tyB T S).bind fun b => (tyB T S').map fun c => .bl (b || c)
  | _ => none
abbrev rIsiA (K : PySem.W.Frag) : List V → Hp → VK → Prop := fun xs H Q => rIsi K xs H Q ∨ rIsiT K xs H Q
theorem call_isiA {X : Cx} : CallR X (.builtin "isinstance") (rIsiA X.K) := CallR.or call_isi call_isiT
theorem own_op {u v : V} {A : AP} (h : Own K C H (.op u) v A) : v = u := by cases h; rfl
theorem cs_isi : CallS K C (rIsiA K) (on2 fIsi) := fun H vs ds z Q r e k => by
  obtain ⟨d, d', rfl, e1⟩ := on2_inv e
  clear e
  have e := e1
  clear e1
  obtain ⟨v, w, rfl, r1, B, _, o2⟩ := rbl2 r
  unfold fIsi at e
  split at e
  · rename_i S
    rw [own_op o2]
    cases eT : tyN d with
    | none => rw [eT] at e; cases e
    | some T =>
      rw [eT] at e
      simp only [Option.bind] at e
      cases eb : tyB T S with
      | none => rw [eb] at e; cases e
      | some b =>
        rw [eb] at e; cases e
        refine .inl ⟨v, .ty S, .type T, .type S, b, rfl, .ty S, ty_x r1 eT, kit_ty ?_, k _ H Mt (Same.refl H) fr_mt al_mt (.bl _)⟩
        rw [kitB_tyB T (tyN_mem eT) S (tyB_mem eb), eb]
  · rename_i S S'
    cases eT : tyN d with
    | none => rw [eT] at e; cases e
    | some T =>
      rw [eT] at e
      simp only [Option.bind] at e
      cases eb : tyB T S with
      | none => rw [eb] at e; cases e
      | some b =>
        rw [eb] at e
        simp only at e
        cases ec : tyB T S' with
        | none => rw [ec] at e; cases e
        | some c =>
          rw [ec] at e; cases e
          cases o2 with
          | tup q y =>
            cases y with
            | cons _ _ _ x1 y1 =>
              cases y1 with
              | cons _ _ _ x2 y2 =>
                cases y2
                rw [own_op x1, own_op x2] at q
                have k1 : PySem.W.kitOne K (.type T) (.type S) = some b := kit_ty (by rw [kitB_tyB T (tyN_mem eT) S (tyB_mem eb), eb])
                have k2 : PySem.W.kitOne K (.type T) (.type S') = some c := kit_ty (by rw [kitB_tyB T (tyN_mem eT) S' (tyB_mem ec), ec])
                refine .inr ⟨v, _, [.ty S, .ty S'], .type T, [.type S, .type S'], b || c, rfl, q, .cons (.ty S) (.cons (.ty S') .nil), ty_x r1 eT, ?_, k _ H Mt (Same.refl H) fr_mt al_mt (.bl _)⟩
                refine kitAny_cons k1 (fun hb => ?_) (fun hb => by rw [hb]; rfl)
                subst hb
                refine kitAny_cons k2 (fun hc => ?_) (fun hc => by rw [hc]; rfl)
                subst hc
                rfl
  · cases e
end
end Dy

/-! Places within what a slot owns: read, changed. -/
namespace Dy
open PySem L2
inductive Stp where
  | fld (f : Str) | idx (k : Nat) | key (k : Key)
def setL {κ : Type} [DecidableEq κ] : List κ → List D → κ → D → List D
  | k :: ks, d :: ds, j, x => if k = j then x :: ds else d :: setL ks ds j x
  | _, ds, _, _ => ds
def get1 (d : D) (s : Stp) : Option D := match d, s with
  | .lst ds, .idx k => ds[k]?
  | .tup ds, .idx k => ds[k]?
  | .ob c ns ds, .fld f => if c < 5 then lookD ns ds f else none
  | .dk ks ds, .key k => lookD ks ds k
  | _, _ => none
def set1 (d : D) (s : Stp) (x : D) : D := match d, s with
  | .lst ds, .idx k => .lst (ds.set k x)
  | .tup ds, .idx k => .tup (ds.set k x)
  | .ob c ns ds, .fld f => .ob c ns (setL ns ds f x)
  | .dk ks ds, .key k => .dk ks (setL ks ds k x)
  | _, _ => d
def getP : D → List Stp → Option D
  | d, [] => some d
  | d, s :: p => (get1 d s).bind fun e => getP e p
def setP : D → List Stp → D → D
  | _, [], x => x
  | d, s :: p, x => match get1 d s with
    | some e => set1 d s (setP e p x)
    | none => d
def VStp (H : Hp) (v : V) : Stp → V → Prop
  | .idx k, u => ∃ a vs, v = .ref a ∧ (H a = some (.lst vs) ∨ H a = some (.tup vs)) ∧ vs[k]? = some u
  | .fld f, u => ∃ a c dx fs, v = .ref a ∧ H a = some (.ins c dx fs) ∧ fs.lookup f = some u
  | .key k, u => ∃ a kvs, v = .ref a ∧ H a = some (.dK kvs) ∧ valV kvs k = some u
def VAt (H : Hp) : V → List Stp → V → Prop
  | v, [], w => w = v
  | v, s :: p, w => ∃ u, VStp H v s u ∧ VAt H u p w
section
variable {K : PySem.W.Frag} {C : Nat → Addr} {W : WX} {Φ : AP} {Λ : Nat → AP} {π : Nat → Option V} {ss : SS} {σ : L2.St} {H H' : Hp}
theorem setL_len {κ : Type} [DecidableEq κ] : ∀ {ks : List κ} {ds : List D} {j : κ} {x : D}, (setL ks ds j x).length = ds.length
  | [], _, _, _ => rfl
  | _ :: _, [], _, _ => rfl
  | k :: ks, d :: ds, j, x => by
    unfold setL
    split
    · rfl
    · rw [List.length_cons, List.length_cons, setL_len]
/-- a child and the rest -/
def Lens (K : PySem.W.Frag) (C : Nat → Addr) (H : Hp) (e : D) (w : V) (A : AP) (set : D → List D) (vs : List V) : Prop :=
  ∃ B S, Own K C H e w B ∧ Sub B A ∧ Sub S A ∧ Sep B S ∧ ∀ H' e' B', Keep S H H' → Own K C H' e' w B' → Sep B' S → OwnL K C H' (set e') vs (Cup S B')
theorem lens_idx : ∀ {ds : List D} {vs : List V} {A : AP} {k : Nat} {e : D}, OwnL K C H ds vs A → ds[k]? = some e → ∃ w, vs[k]? = some w ∧ Lens K C H e w A (fun x => ds.set k x) vs
  | [], _, _, _, _, _, h => by simp at h
  | d :: ds, _, A, 0, e, o, h => by
    cases o with
    | cons a b c x y =>
      rename_i A1 A2 v vs
      simp at h; subst h
      exact ⟨v, rfl, A1, A2, x, b, c, a, fun H' e' B' k o' s => .cons (A1 := B') (A2 := A2) s cup_r cup_l o' (y.keep k)⟩
  | d :: ds, _, A, k + 1, e, o, h => by
    cases o with
    | cons a b c x y =>
      rename_i A1 A2 v vs
      obtain ⟨w, e1, B, S, o1, s1, s2, s3, f⟩ := lens_idx (k := k) y (by simpa using h)
      refine ⟨w, by simpa using e1, B, Cup A1 S, o1, s1.trans c, cup_sub b (s2.trans c), Sep.cup (a.mono (Sub.refl _) s1).symm s3, fun H' e' B' k o' s => ?_⟩
      exact .cons (A1 := A1) (A2 := Cup S B') (Sep.cup (a.mono (Sub.refl _) s2) (s.mono (Sub.refl _) cup_l).symm) (cup_l.trans cup_l) (cup_sub (cup_r.trans cup_l) cup_r) (x.keep (k.mono cup_l)) (f H' e' B' (k.mono cup_r) o' (s.mono (Sub.refl _) cup_r))
theorem lens_key {κ : Type} [DecidableEq κ] : ∀ {ks : List κ} {ds : List D} {vs : List V} {A : AP} {j : κ} {e : D}, OwnL K C H ds vs A → ks.length = ds.length → lookD ks ds j = some e → ∃ w, valV (ks.zip vs) j = some w ∧ Lens K C H e w A (fun x => setL ks ds j x) vs
  | [], _, _, _, _, _, _, _, h => by simp [lookD] at h
  | _ :: _, [], _, _, _, _, _, hl, _ => by cases hl
  | k :: ks, d :: ds, _, A, j, e, o, hl, h => by
    cases o with
    | cons a b c x y =>
      rename_i A1 A2 v vs
      unfold lookD at h
      by_cases q : k = j
      · rw [if_pos q] at h
        cases h
        refine ⟨v, by rw [List.zip_cons_cons, valV_pos q], A1, A2, x, b, c, a, fun H' e' B' k' o' s => ?_⟩
        have es : setL (k :: ks) (d :: ds) j e' = e' :: ds := by unfold setL; rw [if_pos q]
        show OwnL K C H' (setL (k :: ks) (d :: ds) j e') _ _
        rw [es]
        exact .cons (A1 := B') (A2 := A2) s cup_r cup_l o' (y.keep k')
      · rw [if_neg q] at h
        obtain ⟨w, e1, B, S, o1, s1, s2, s3, f⟩ := lens_key (ks := ks) (j := j) y (by simpa using hl) h
        refine ⟨w, by rw [List.zip_cons_cons, valV_neg q]; exact e1, B, Cup A1 S, o1, s1.trans c, cup_sub b (s2.trans c), Sep.cup (a.mono (Sub.refl _) s1).symm s3, fun H' e' B' k' o' s => ?_⟩
        have es : setL (k :: ks) (d :: ds) j e' = d :: setL ks ds j e' := by rw [setL]; rw [if_neg q]
        show OwnL K C H' (setL (k :: ks) (d :: ds) j e') _ _
        rw [es]
        exact .cons (A1 := A1) (A2 := Cup S B') (Sep.cup (a.mono (Sub.refl _) s2) (s.mono (Sub.refl _) cup_l).symm) (cup_l.trans cup_l) (cup_sub (cup_r.trans cup_l) cup_r) (x.keep (k'.mono cup_l)) (f H' e' B' (k'.mono cup_r) o' (s.mono (Sub.refl _) cup_r))
theorem valV_lookup : ∀ (fs : List (Str × V)) (f : Str), valV fs f = fs.lookup f
  | [], f => rfl
  | (g, x) :: r, f => by
    by_cases h : g = f
    · rw [valV_pos (p := (g, x)) h]
      have hb : (f == g) = true := beq_iff_eq.mpr h.symm
      simp only [List.lookup, hb]
    · rw [valV_neg (p := (g, x)) h, valV_lookup r f]
      have hb : (f == g) = false := beq_eq_false_iff_ne.mpr fun e => h e.symm
      simp only [List.lookup, hb]
/-- THE LENS: one step -/
theorem lens1 {d e : D} {v : V} {A : AP} {s : Stp} (o : Own K C H d v A) (h : get1 d s = some e) : ∃ w B S, VStp H v s w ∧ Own K C H e w B ∧ Sub B A ∧ Sub S A ∧ Sep B S ∧
    ∀ H' e' B', Keep S H H' → Own K C H' e' w B' → Sep B' S → Own K C H' (set1 d s e') v (Cup S B') := by
  cases d <;> cases s <;> simp [get1] at h
  · cases o with
    | tup q y =>
      obtain ⟨w, e1, B, S, o1, s1, s2, s3, f⟩ := lens_idx y h
      exact ⟨w, B, S, ⟨_, _, rfl, .inr q, e1⟩, o1, s1, s2, s3, fun H' e' B' k o' s => .tup (k.p.t _ _ q) (f H' e' B' k o' s)⟩
  · cases o with
    | lst ha q y =>
      rename_i a vs
      obtain ⟨w, e1, B, S, o1, s1, s2, s3, f⟩ := lens_idx y h
      refine ⟨w, B, Cup S (One a), ⟨_, _, rfl, .inl q, e1⟩, o1, s1.trans But.sub, cup_sub (s2.trans But.sub) (fun b z => by rw [show b = a from z]; exact ha), s3.cup (fun b x y => (s1 b x).2 y), fun H' e' B' k o' s => ?_⟩
      refine .lst (.inl (.inr rfl)) (k.k _ _ (.inr rfl) q) ((f H' e' B' (k.mono cup_l) o' (s.mono (Sub.refl _) cup_l)).mono fun b z => ?_)
      rcases z with z | z
      · exact ⟨.inl (.inl z), (s2 b z).2⟩
      · exact ⟨.inr z, fun hb => s b z (.inr hb)⟩
  · cases o with
    | dk ha l q y =>
      rename_i a vs
      obtain ⟨w, e1, B, S, o1, s1, s2, s3, f⟩ := lens_key y l h
      refine ⟨w, B, Cup S (One a), ⟨_, _, rfl, q, e1⟩, o1, s1.trans But.sub, cup_sub (s2.trans But.sub) (fun b z => by rw [show b = a from z]; exact ha), s3.cup (fun b x y => (s1 b x).2 y), fun H' e' B' k o' s => ?_⟩
      refine .dk (.inl (.inr rfl)) (by rw [setL_len]; exact l) (k.k _ _ (.inr rfl) q) ((f H' e' B' (k.mono cup_l) o' (s.mono (Sub.refl _) cup_l)).mono fun b z => ?_)
      rcases z with z | z
      · exact ⟨.inl (.inl z), (s2 b z).2⟩
      · exact ⟨.inr z, fun hb => s b z (.inr hb)⟩
  · cases o with
    | ob ha l q y =>
      rename_i a dx vs
      obtain ⟨w, e1, B, S, o1, s1, s2, s3, f⟩ := lens_key y l h.2
      rw [valV_lookup] at e1
      refine ⟨w, B, Cup S (One a), ⟨_, _, _, _, rfl, q, e1⟩, o1, s1.trans But.sub, cup_sub (s2.trans But.sub) (fun b z => by rw [show b = a from z]; exact ha), s3.cup (fun b x y => (s1 b x).2 y), fun H' e' B' k o' s => ?_⟩
      refine .ob (.inl (.inr rfl)) (by rw [setL_len]; exact l) (k.k _ _ (.inr rfl) q) ((f H' e' B' (k.mono cup_l) o' (s.mono (Sub.refl _) cup_l)).mono fun b z => ?_)
      rcases z with z | z
      · exact ⟨.inl (.inl z), (s2 b z).2⟩
      · exact ⟨.inr z, fun hb => s b z (.inr hb)⟩
/-- THE LENS -/
theorem lens : ∀ {p : List Stp} {d e : D} {v : V} {A : AP}, Own K C H d v A → getP d p = some e → ∃ w B S, VAt H v p w ∧ Own K C H e w B ∧ Sub B A ∧ Sub S A ∧ Sep B S ∧
    ∀ H' e' B', Keep S H H' → Own K C H' e' w B' → Sep B' S → Own K C H' (setP d p e') v (Cup S B')
  | [], d, e, v, A, o, h => by
    cases h
    exact ⟨v, A, Mt, rfl, o, Sub.refl _, sub_mt, mt_sep, fun H' e' B' _ o' _ => o'.mono cup_r⟩
  | s :: p, d, e, v, A, o, h => by
    unfold getP at h
    cases q : get1 d s with
    | none => rw [q] at h; cases h
    | some x =>
      rw [q] at h
      obtain ⟨u, B1, S1, v1, o1, b1, c1, d1, f1⟩ := lens1 o q
      obtain ⟨w, B, S, v2, o2, b2, c2, d2, f2⟩ := lens o1 h
      refine ⟨w, B, Cup S1 S, ⟨u, v1, v2⟩, o2, b2.trans b1, cup_sub c1 (c2.trans b1), Sep.cup (d1.mono b2 (Sub.refl _)) d2, fun H' e' B' k o' sp => ?_⟩
      have x1 := f2 H' e' B' (k.mono cup_r) o' (sp.mono (Sub.refl _) cup_r)
      have x2 := f1 H' _ (Cup S B') (k.mono cup_l) x1 (Sep.cupl (d1.mono c2 (Sub.refl _)).symm.symm (sp.mono (Sub.refl _) cup_l))
      unfold setP
      rw [q]
      exact x2.mono (cup_sub (cup_l.trans cup_l) (cup_sub (cup_r.trans cup_l) cup_r))
theorem VStp.same {v u : V} {s : Stp} (h : VStp H v s u) (sm : Same H H') : VStp H' v s u := by
  cases s with
  | idx k => obtain ⟨a, vs, e, h1, h2⟩ := h; exact ⟨a, vs, e, h1.imp (sm _ _) (sm _ _), h2⟩
  | fld f => obtain ⟨a, c, dx, fs, e, h1, h2⟩ := h; exact ⟨a, c, dx, fs, e, sm _ _ h1, h2⟩
  | key k => obtain ⟨a, kvs, e, h1, h2⟩ := h; exact ⟨a, kvs, e, sm _ _ h1, h2⟩
theorem VAt.same : ∀ {p : List Stp} {v w : V}, VAt H v p w → Same H H' → VAt H' v p w
  | [], _, _, h, _ => h
  | s :: p, _, _, ⟨u, h1, h2⟩, sm => ⟨u, h1.same sm, VAt.same h2 sm⟩
theorem VStp.det {v u u' : V} {s : Stp} (h : VStp H v s u) (h' : VStp H v s u') : u = u' := by
  cases s with
  | idx k =>
    obtain ⟨a, vs, e, h1, h2⟩ := h
    obtain ⟨a', vs', e', h1', h2'⟩ := h'
    rw [e] at e'; cases e'
    rcases h1 with h1 | h1 <;> rcases h1' with h1' | h1' <;> rw [h1] at h1' <;> cases h1' <;> (rw [h2] at h2'; exact Option.some.inj h2')
  | fld f =>
    obtain ⟨a, c, dx, fs, e, h1, h2⟩ := h
    obtain ⟨a', c', dx', fs', e', h1', h2'⟩ := h'
    rw [e] at e'; cases e'
    rw [h1] at h1'; cases h1'
    rw [h2] at h2'; exact Option.some.inj h2'
  | key k =>
    obtain ⟨a, kvs, e, h1, h2⟩ := h
    obtain ⟨a', kvs', e', h1', h2'⟩ := h'
    rw [e] at e'; cases e'
    rw [h1] at h1'; cases h1'
    rw [h2] at h2'; exact Option.some.inj h2'
theorem VAt.det : ∀ {p : List Stp} {v w w' : V}, VAt H v p w → VAt H v p w' → w = w'
  | [], _, _, _, h, h' => by rw [show _ = _ from h, show _ = _ from h']
  | s :: p, v, w, w', ⟨u, h1, h2⟩, ⟨u', h1', h2'⟩ => by
    cases h1.det h1'
    exact VAt.det h2 h2'
theorem VAt.snoc : ∀ {p : List Stp} {v u w : V} {s : Stp}, VAt H v p u → VStp H u s w → VAt H v (p ++ [s]) w
  | [], _, _, _, _, h, g => by rw [show _ = _ from h] at g; exact ⟨_, g, rfl⟩
  | t :: p, _, _, _, _, ⟨x, h1, h2⟩, g => ⟨x, h1, VAt.snoc h2 g⟩
theorem getP_snoc : ∀ {p : List Stp} {d : D} {s : Stp}, getP d (p ++ [s]) = (getP d p).bind fun e => get1 e s
  | [], d, s => by
    show (get1 d s).bind (fun e => getP e []) = get1 d s
    cases get1 d s <;> rfl
  | t :: p, d, s => by
    show (get1 d t).bind (fun e => getP e (p ++ [s])) = ((get1 d t).bind fun e => getP e p).bind fun e => get1 e s
    cases get1 d t with
    | none => rfl
    | some x => exact getP_snoc
/-! ### a place's evaluation -/
def valAt (i : Nat) (s : SS) : Option D := (s[i]?).bind Sl.val
/-- te walks to the place PF of slot i -/
def SimLP (K : PySem.W.Frag) (C : Nat → Addr) (te : TE) (i : Nat) (PF : SS → Option (List Stp)) : Prop :=
  ∀ Φ Λ π ss σ H (Q : VK) d p e, Rel K C Φ Λ π ss σ H → valAt i ss = some d → PF ss = some p → getP d p = some e → (∀ v w H', σ[i]? = some (some v) → Same H H' → VAt H' v p w → Q w H') → te σ H Q
def pRoot : SS → Option (List Stp) := fun _ => some []
theorem lp_var (i : Nat) : SimLP K C (tVar i) i pRoot := fun Φ Λ π ss σ H Q d p e r h1 h2 h3 k => by
  cases h2
  unfold valAt at h1
  cases q : ss[i]? with
  | none => rw [q] at h1; cases h1
  | some s =>
    rw [q] at h1
    obtain ⟨v, e1, _⟩ := r.get q h1
    exact ⟨v, e1, k v v H e1 (Same.refl H) rfl⟩
/-- the slot's value, by its own set -/
theorem Rel.val {i : Nat} {d : D} (r : Rel K C Φ Λ π ss σ H) (h : valAt i ss = some d) : ∃ v A, σ[i]? = some (some v) ∧ Al H A ∧ Own K C H d v A := by
  unfold valAt at h
  cases q : ss[i]? with
  | none => rw [q] at h; cases h
  | some s =>
    rw [q] at h
    obtain ⟨v, e1, A, al, o⟩ := r.get q h
    exact ⟨v, A, e1, al, o⟩
def pFld (PF : SS → Option (List Stp)) (f : Str) : SS → Option (List Stp) := fun s => (PF s).map fun p => p ++ [.fld f]
theorem lp_fld {te : TE} {i : Nat} {PF : SS → Option (List Stp)} {f : Str} (h : SimLP K C te i PF) (hc : ∀ c, c < 5 → Cls K (C c)) (hn : ∀ c, c < 5 → NoAttr K (C c) f) : SimLP K C (tFld K te f) i (pFld PF f) := fun Φ Λ π ss σ H Q d p e r h1 h2 h3 k => by
  unfold pFld at h2
  cases q : PF ss with
  | none => rw [q] at h2; cases h2
  | some p0 =>
    rw [q] at h2; cases h2
    rw [getP_snoc] at h3
    cases q2 : getP d p0 with
    | none => rw [q2] at h3; cases h3
    | some e0 =>
      rw [q2] at h3
      refine h Φ Λ π ss σ H _ d p0 e0 r h1 q q2 fun v w H' e1 sm va => ?_
      obtain ⟨v', A, e2, al, o⟩ := (r.same sm).val h1
      rw [e1] at e2; cases e2
      obtain ⟨w', B, S, va', o', _⟩ := lens o q2
      cases va.det va'
      have h3' : get1 e0 (.fld f) = some e := h3
      cases e0 <;> simp [get1] at h3'
      cases o' with
      | ob ha l q y =>
        obtain ⟨u, e4, _⟩ := lens_key y l h3'.2
        rw [valV_lookup] at e4
        exact ⟨_, _, _, _, u, rfl, q, hc _ h3'.1, hn _ h3'.1, e4, k v u H' e1 sm (va.snoc ⟨_, _, _, _, rfl, q, e4⟩)⟩
/-- the step that an index makes -/
def stpOf (e j : D) : Option Stp := match e, j with
  | .lst ds, .int i => (ixN ds.length i).map Stp.idx
  | .tup ds, .int i => (ixN ds.length i).map Stp.idx
  | .dk _ _, j => (keyOf j).map Stp.key
  | _, _ => none
def pIdx (i : Nat) (PF : SS → Option (List Stp)) (J : SS → Option D) : SS → Option (List Stp) := fun s => (PF s).bind fun p => (valAt i s).bind fun d => (getP d p).bind fun e => (J s).bind fun j => (stpOf e j).map fun t => p ++ [t]
theorem lp_idx {te tj : TE} {i : Nat} {PF : SS → Option (List Stp)} {J : SS → Option D} (h : SimLP K C te i PF) (hj : SimP K C tj J) : SimLP K C (tOp (rIxA K) te tj) i (pIdx i PF J) := fun Φ Λ π ss σ H Q d p e r h1 h2 h3 k => by
  unfold pIdx at h2
  cases q : PF ss with
  | none => rw [q] at h2; cases h2
  | some p0 =>
    rw [q, h1] at h2
    simp only [Option.bind] at h2
    cases q2 : getP d p0 with
    | none => rw [q2] at h2; cases h2
    | some e0 =>
      rw [q2] at h2
      simp only at h2
      cases q3 : J ss with
      | none => rw [q3] at h2; cases h2
      | some j =>
        rw [q3] at h2
        simp only at h2
        cases q4 : stpOf e0 j with
        | none => rw [q4] at h2; cases h2
        | some t =>
          rw [q4] at h2; cases h2
          rw [getP_snoc, q2] at h3
          refine h Φ Λ π ss σ H _ d p0 e0 r h1 q q2 fun v w H1 e1 sm va => ?_
          refine hj Φ Λ π ss σ H1 _ j (r.same sm) q3 fun y H2 s2 rb => ?_
          have s12 := sm.trans s2
          obtain ⟨v', A, e2, al, o⟩ := (r.same s12).val h1
          rw [e1] at e2; cases e2
          obtain ⟨w', B, S, va', o', _⟩ := lens o q2
          have va2 := va.same s2
          cases va2.det va'
          have h3' : get1 e0 t = some e := h3
          cases e0 with
          | lst ds =>
            cases j <;> simp [stpOf] at q4
            obtain ⟨n, hn, rfl⟩ := q4
            rw [rb_int' rb]
            cases o' with
            | lst ha q y =>
              obtain ⟨u, e4, _⟩ := lens_idx y (show ds[n]? = some e from h3')
              exact .inl (.inl ⟨_, _, _, u, rfl, rfl, SqL.of q, by unfold atI; rw [← y.length, hn]; exact e4, k v u H2 e1 s12 (va2.snoc ⟨_, _, rfl, .inl q, e4⟩)⟩)
          | tup ds =>
            cases j <;> simp [stpOf] at q4
            obtain ⟨n, hn, rfl⟩ := q4
            rw [rb_int' rb]
            cases o' with
            | tup q y =>
              obtain ⟨u, e4, _⟩ := lens_idx y (show ds[n]? = some e from h3')
              exact .inl (.inr (.inl ⟨_, _, _, u, rfl, rfl, SqT.of q, by unfold atI; rw [← y.length, hn]; exact e4, k v u H2 e1 s12 (va2.snoc ⟨_, _, rfl, .inr q, e4⟩)⟩))
          | dk ks ds =>
            simp [stpOf] at q4
            obtain ⟨n, hn, rfl⟩ := q4
            obtain ⟨A2, _, o2⟩ := rb
            rw [key_v o2 hn]
            cases o' with
            | dk ha l q y =>
              obtain ⟨u, e4, _⟩ := lens_key y l (show lookD ks ds n = some e from h3')
              have g := DGet.k (k := n) q
              rw [e4] at g
              exact .inr ⟨_, u, rfl, g, k v u H2 e1 s12 (va2.snoc ⟨_, _, rfl, q, e4⟩)⟩
          | _ => simp [stpOf] at q4
/-- a place read -/
def fP (i : Nat) (PF : SS → Option (List Stp)) : SS → Option D := fun s => (PF s).bind fun p => (valAt i s).bind fun d => getP d p
theorem sp_lp {te : TE} {i : Nat} {PF : SS → Option (List Stp)} (h : SimLP K C te i PF) : SimP K C te (fP i PF) := fun Φ Λ π ss σ H Q e r q k => by
  unfold fP at q
  cases q1 : PF ss with
  | none => rw [q1] at q; cases q
  | some p =>
    rw [q1] at q
    simp only [Option.bind] at q
    cases q2 : valAt i ss with
    | none => rw [q2] at q; cases q
    | some d =>
      rw [q2] at q
      refine h Φ Λ π ss σ H _ d p e r q2 q1 q fun v w H' e1 sm va => ?_
      obtain ⟨v', A, e2, al, o⟩ := (r.same sm).val q2
      rw [e1] at e2; cases e2
      obtain ⟨w', B, S, va', o', b, _⟩ := lens o q
      cases va.det va'
      exact k w H' sm ⟨B, al.mono b, o'⟩
/-! ### what stands at a place changed -/
def setV (i : Nat) (d : D) (s : SS) : Option SS := match s[i]? with
  | some (.own _) => some (s.set i (.own d))
  | some (.inn _) => some (s.set i (.inn d))
  | _ => none
def modP {α : Type} (i : Nat) (p : List Stp) (f : D → Option (α × D)) (s : SS) : Option (α × SS) := (valAt i s).bind fun d => (getP d p).bind fun e => (f e).bind fun (r, e') => (setV i (setP d p e') s).map fun s' => (r, s')
theorem modP_inv {α : Type} {i : Nat} {p : List Stp} {f : D → Option (α × D)} {s s' : SS} {r : α} (h : modP i p f s = some (r, s')) : ∃ d e e', valAt i s = some d ∧ getP d p = some e ∧ f e = some (r, e') ∧ setV i (setP d p e') s = some s' := by
  unfold modP at h
  cases q1 : valAt i s with
  | none => rw [q1] at h; cases h
  | some d =>
    rw [q1] at h
    simp only [Option.bind] at h
    cases q2 : getP d p with
    | none => rw [q2] at h; cases h
    | some e =>
      rw [q2] at h
      simp only at h
      cases q3 : f e with
      | none => rw [q3] at h; cases h
      | some x =>
        obtain ⟨r', e'⟩ := x
        rw [q3] at h
        simp only at h
        cases q4 : setV i (setP d p e') s with
        | none => rw [q4] at h; cases h
        | some s2 => rw [q4] at h; cases h; exact ⟨d, e, e', rfl, q2, q3, q4⟩
theorem setV_inv {i : Nat} {d : D} {s s' : SS} (h : setV i d s = some s') : (∃ d0, s[i]? = some (.own d0) ∧ s' = s.set i (.own d)) ∨ (∃ d0, s[i]? = some (.inn d0) ∧ s' = s.set i (.inn d)) := by
  unfold setV at h
  split at h
  · rename_i d0 e; cases h; exact .inl ⟨d0, e, rfl⟩
  · rename_i d0 e; cases h; exact .inr ⟨d0, e, rfl⟩
  · cases h
/-- the place's value with what may be done with it: B0 is protected beside -/
theorem Rel.place {i : Nat} {p : List Stp} {d e : D} {B0 : AP} {s0 : Sl} (r : Rel K C (Cup Φ B0) Λ π ss σ H) (hs : ss[i]? = some s0) (hv : valAt i ss = some d) (hm : ∃ x, s0 = .own x ∨ s0 = .inn x) (h : getP d p = some e) (psi : ∀ i, Sub (Λ i) Φ) (sb : Sep B0 Φ) :
    ∃ v w B, σ[i]? = some (some v) ∧ VAt H v p w ∧ Own K C H e w B ∧ Al H B ∧ Sep B (Cup Φ B0) ∧
      ∀ H' e' B' s', (∀ R : AP, Sep B R → Al H R → Keep R H H') → Al H' B' → Sub B' (Cup B B0) → (∀ a, H a ≠ none → H' a ≠ none) → Own K C H' e' w B' → setV i (setP d p e') ss = some s' → Rel K C Φ Λ π s' σ H' := by
  obtain ⟨As, a⟩ := r
  obtain ⟨o, eo⟩ := getσ a.len hs
  have q := a.ok i s0 o hs eo
  have hd : s0.val = some d := by unfold valAt at hv; rw [hs] at hv; exact hv
  obtain ⟨v, ev, w0⟩ : ∃ v, o = some v ∧ Own K C H d v (As i) := by
    obtain ⟨x, rfl | rfl⟩ := hm
    · cases hd; exact q
    · cases hd; exact q
  subst ev
  obtain ⟨w, B, S, va, o1, b1, c1, d1, f1⟩ := lens w0 h
  refine ⟨v, w, B, eo, va, o1, (a.aa i).mono b1, (a.af i).mono b1 (Sub.refl _), fun H' e' B' s' kp al' sb' grow o' es => ?_⟩
  have sep1 : ∀ R : AP, Sep (As i) R → Al H R → Keep R H H' := fun R s1 s2 => kp R (s1.mono b1 (Sub.refl _)) s2
  have kΦ : Keep Φ H H' := sep1 Φ ((a.af i).mono (Sub.refl _) cup_l) (a.al.mono cup_l)
  have kS : Keep S H H' := kp S d1 ((a.aa i).mono c1)
  have sBS : Sep B' S := fun x y z => by
    rcases sb' x y with y | y
    · exact d1 x y z
    · exact a.af i x (c1 x z) (.inr y)
  have o2 := f1 H' e' B' kS o' sBS
  have alN : Al H' (Cup S B') := (((a.aa i).mono c1).keep kS).cup al'
  have sepN : Sep (Cup S B') Φ := Sep.cupl ((a.af i).mono c1 cup_l) (fun x y z => by
    rcases sb' x y with y | y
    · exact (a.af i) x (b1 x y) (.inl z)
    · exact sb x y z)
  have base : RelA K C Φ Λ π ss σ H' As → False ∨ True := fun _ => .inr trivial
  have fin : ∀ s1 : Sl, (s1 = .own (setP d p e') ∧ (∃ x, s0 = .own x)) ∨ (s1 = .inn (setP d p e') ∧ (∃ x, s0 = .inn x)) → Rel K C Φ Λ π (ss.set i s1) σ H' := fun s1 hs1 => by
    have hi : i < ss.length := (List.getElem?_eq_some_iff.mp hs).1
    refine ⟨fun j => if j = i then Cup S B' else As j, (a.al.mono cup_l).keep kΦ, psi, by rw [List.length_set]; exact a.len, fun j u hj => ?_, fun j => ?_, fun j => ?_, fun j k hjk => ?_, fun j t u h1 h2 => ?_⟩
    · obtain ⟨h1, x, h2⟩ := a.pin j u hj
      by_cases nj : i = j
      · subst nj
        rw [hs] at h2
        cases h2
        rcases hs1 with ⟨_, y, z⟩ | ⟨rfl, _⟩
        · cases z
        · exact ⟨h1, _, by rw [List.getElem?_set_self hi]⟩
      · exact ⟨h1, x, by rw [List.getElem?_set_ne nj]; exact h2⟩
    · show Al H' (if j = i then Cup S B' else As j)
      split
      · exact alN
      · rename_i n; exact (a.aa j).keep (sep1 _ (a.ap i j fun z => n z.symm) (a.aa j))
    · show Sep (if j = i then Cup S B' else As j) Φ
      split
      · exact sepN
      · exact (a.af j).mono (Sub.refl _) cup_l
    · have sNj : ∀ j, j ≠ i → Sep (Cup S B') (As j) := fun j n => Sep.cupl ((a.ap i j fun z => n z.symm).mono c1 (Sub.refl _)) (fun x y z => by
        rcases sb' x y with y | y
        · exact (a.ap i j fun z => n z.symm) x (b1 x y) z
        · exact a.af j x z (.inr y))
      show Sep (if j = i then Cup S B' else As j) (if k = i then Cup S B' else As k)
      by_cases hj : j = i
      · rw [if_pos hj, if_neg (fun z => hjk (hj.trans z.symm))]
        exact sNj k fun z => hjk (hj.trans z.symm)
      · rw [if_neg hj]
        by_cases hk : k = i
        · rw [if_pos hk]; exact (sNj j hj).symm
        · rw [if_neg hk]; exact a.ap j k hjk
    · by_cases nj : i = j
      · subst nj
        rw [List.getElem?_set_self hi] at h1
        cases h1
        rw [eo] at h2; cases h2
        show SlOk K C H' (Λ i) (if i = i then Cup S B' else As i) s1 _
        rw [if_pos rfl]
        rcases hs1 with ⟨rfl, _⟩ | ⟨rfl, _⟩ <;> exact ⟨v, rfl, o2⟩
      · rw [List.getElem?_set_ne nj] at h1
        show SlOk K C H' (Λ j) (if j = i then Cup S B' else As j) t u
        rw [if_neg (fun z => nj z.symm)]
        exact (a.ok j t u h1 h2).keep (sep1 _ (a.ap i j nj) (a.aa j)) (kΦ.mono (psi j))
  rcases setV_inv es with ⟨d0, e0, rfl⟩ | ⟨d0, e0, rfl⟩
  · rw [hs] at e0; cases e0; exact fin _ (.inl ⟨rfl, _, rfl⟩)
  · rw [hs] at e0; cases e0; exact fin _ (.inr ⟨rfl, _, rfl⟩)
end
end Dy

/-! Changes in place: methods of lists, items, fields. -/
namespace Dy
open PySem L2
section
variable {K : PySem.W.Frag} {C : Nat → Addr} {W : WX} {Φ : AP} {Λ : Nat → AP} {π : Nat → Option V} {ss : SS} {σ : L2.St} {H H' : Hp}
/-- what is asked behind a change of what stands at w -/
def Chg (K : PySem.W.Frag) (C : Nat → Addr) (H : Hp) (w : V) (A B : AP) (r' e' : D) (Q : VK) : Prop :=
  ∀ v H' A', (∀ R : AP, Sep A R → Al H R → Keep R H H') → Al H' A' → Sub A' (Cup A B) → (∀ a, H a ≠ none → H' a ≠ none) → Own K C H' e' w A' → Own K C H' r' v Mt → Q v H'
def MutS (K : PySem.W.Frag) (C : Nat → Addr) (r : V → List V → Hp → VK → Prop) (f : D → List D → Option (D × D)) : Prop :=
  ∀ H w ws e ds A B r' e' (Q : VK), Al H A → Own K C H e w A → OwnL K C H ds ws B → Sep A B → Al H B → f e ds = some (r', e') → Chg K C H w A B r' e' Q → r w ws H Q
def tyOkD (T : String) : D → Bool
  | .lst _ => T == "list"
  | .fls _ => T == "list"
  | .dk _ _ => T == "dict"
  | .dt _ _ => T == "dict"
  | .str _ => T == "str"
  | _ => false
theorem tyV_of {T : String} {d : D} {v : V} {A : AP} (o : Own K C H d v A) (h : tyOkD T d = true) : tyV K T v H := by
  cases o with
  | lst h1 q y => simp [tyOkD] at h; subst h; exact .inl ⟨rfl, _, SqL.of q⟩
  | fls q y => simp [tyOkD] at h; subst h; exact .inl ⟨rfl, _, q.sql⟩
  | str => simp [tyOkD] at h; exact h
  | dk h1 => rename_i q y; simp [tyOkD] at h; subst h; exact .inr (.inr (.inl ⟨rfl, .inl ⟨_, q⟩⟩))
  | dt h1 => rename_i q y; simp [tyOkD] at h; subst h; exact .inr (.inr (.inl ⟨rfl, .inr ⟨_, q⟩⟩))
  | _ => simp [tyOkD] at h
def ofM : Option (D × SS) → R D
  | some (r, s) => .ok r s
  | none => .stuck
def eMut (i : Nat) (PF : SS → Option (List Stp)) (T : String) (f : D → List D → Option (D × D)) (Fa : SS → R (List D)) : SS → R D := fun s => match fP i PF s with
  | some e0 => if tyOkD T e0 = true then (Fa s).bind fun ds s1 => match PF s1 with
      | some p => ofM (modP i p (fun e => f e ds) s1)
      | none => .stuck
    else .stuck
  | none => .stuck
theorem setV_slot {i : Nat} {d : D} {s s' : SS} (h : setV i d s = some s') : ∃ s0, s[i]? = some s0 ∧ ∃ x, s0 = .own x ∨ s0 = .inn x := by
  rcases setV_inv h with ⟨d0, e, _⟩ | ⟨d0, e, _⟩
  · exact ⟨_, e, d0, .inl rfl⟩
  · exact ⟨_, e, d0, .inr rfl⟩
/-- a method of what a slot holds: its arguments may do things -/
theorem se_mut {i : Nat} {T : String} {r : V → List V → Hp → VK → Prop} {f : D → List D → Option (D × D)} {ta : TA} {Fa : SS → R (List D)} (hm : MutS K C r f) (ha : SimA K C W ta Fa) : SimE K C W (tBM K T r (tVar i) ta) (eMut i pRoot T f Fa) := fun Φ Λ π ss σ H Q rel p => by
  unfold eMut at p
  cases q0 : fP i pRoot ss with
  | none => rw [q0] at p; exact p.elim
  | some e0 =>
    rw [q0] at p
    simp only at p
    split at p
    · rename_i ty
      have hv0 : valAt i ss = some e0 := by
        unfold fP pRoot at q0
        simp only [Option.bind] at q0
        cases h : valAt i ss with
        | none => rw [h] at q0; cases q0
        | some d => rw [h] at q0; exact q0
      obtain ⟨v0, A0, e1, al0, o0⟩ := rel.val hv0
      refine ⟨v0, e1, tyV_of o0 ty, ?_⟩
      refine ha Φ Λ π ss σ H _ rel ?_
      cases ea : Fa ss with
      | stuck => rw [ea] at p; exact p
      | exc x s => rw [ea] at p; exact p
      | ok ds s1 =>
        rw [ea] at p
        intro ws H1 B1 k1 r1 sp1 o1
        have p' : PostE K C W Φ Λ π σ H Q (ofM (modP i [] (fun e => f e ds) s1)) := p
        cases em : modP i [] (fun e => f e ds) s1 with
        | none => rw [em] at p'; exact p'.elim
        | some x =>
          obtain ⟨r', s2⟩ := x
          rw [em] at p'
          obtain ⟨d, e, e', h1, h2, h3, h4⟩ := modP_inv em
          obtain ⟨s0, hs0, hm0⟩ := setV_slot h4
          obtain ⟨v, w, B, ev, va, ob, alB, sepB, fin⟩ := r1.place hs0 h1 hm0 h2 rel.psi sp1
          rw [e1] at ev; cases ev
          cases (show w = v0 from va)
          refine hm H1 v0 ws e ds B B1 r' e' Q alB ob o1 (sepB.mono (Sub.refl _) cup_r) (r1.al.mono cup_r) h3 fun u H' A' kp al' sb' grow o' ores => ?_
          have rr := fin H' e' A' s2 kp al' sb' grow o' h4
          exact p' u H' Mt (k1.trans (kp Φ (sepB.mono (Sub.refl _) cup_l) (r1.al.mono cup_l))) rr.mt sep_mt ores
    · exact p.elim
/-- new or immutable arguments, without doing anything -/
def SimFA (K : PySem.W.Frag) (C : Nat → Addr) (t : TA) (F : SS → Option (List D)) : Prop := ∀ Φ Λ π ss σ H (Q : List V → Hp → Prop) ds, Rel K C Φ Λ π ss σ H → F ss = some ds → (∀ vs H' B, Same H H' → Fr H B → Al H' B → OwnL K C H' ds vs B → Q vs H') → t σ H Q
theorem sfa_nil : SimFA K C tNil psN := fun Φ Λ π ss σ H Q ds r e k => by cases e; exact k [] H Mt (Same.refl H) fr_mt al_mt .nil
theorem sfa_cons {ta : TE} {tr : TA} {F : SS → Option D} {G : SS → Option (List D)} (ha : SimF K C ta F) (hr : SimFA K C tr G) : SimFA K C (tCons ta tr) (psC F G) := fun Φ Λ π ss σ H Q ds rel e k => by
  unfold psC at e
  cases ea : F ss with
  | none => rw [ea] at e; cases e
  | some x =>
    cases eb : G ss with
    | none => rw [ea, eb] at e; cases e
    | some y =>
      rw [ea, eb] at e; cases e
      refine ha Φ Λ π ss σ H _ x rel ea fun v H1 B1 s1 f1 al1 o1 => ?_
      refine hr Φ Λ π ss σ H1 _ y (rel.same s1) eb fun u H2 B2 s2 f2 al2 o2 => ?_
      exact k _ _ (Cup B1 B2) (s1.trans s2) (fun a z => z.elim (f1 a) fun z => s1.free (f2 a z)) ((al1.same s2).cup al2) (.cons (A1 := B1) (A2 := B2) (fr_sep f2 al1) cup_l cup_r (o1.same s2) o2)
def ofP (F : SS → Option (List D)) : SS → R (List D) := fun s => R.of (F s) s
/-- a method of what stands at a place -/
theorem se_mutP {i : Nat} {PF : SS → Option (List Stp)} {T : String} {r : V → List V → Hp → VK → Prop} {f : D → List D → Option (D × D)} {te : TE} {ta : TA} {Fa : SS → Option (List D)} (hm : MutS K C r f) (ho : SimLP K C te i PF) (ha : SimFA K C ta Fa) :
    SimE K C W (tBM K T r te ta) (eMut i PF T f (ofP Fa)) := fun Φ Λ π ss σ H Q rel p => by
  unfold eMut at p
  cases q0 : fP i PF ss with
  | none => rw [q0] at p; exact p.elim
  | some e0 =>
    rw [q0] at p
    simp only at p
    split at p
    · rename_i ty
      unfold fP at q0
      cases q1 : PF ss with
      | none => rw [q1] at q0; cases q0
      | some pp =>
        rw [q1] at q0
        simp only [Option.bind] at q0
        cases q2 : valAt i ss with
        | none => rw [q2] at q0; cases q0
        | some d0 =>
          rw [q2] at q0
          simp only at q0
          unfold ofP at p
          cases ea : Fa ss with
          | none => rw [ea] at p; exact p.elim
          | some ds =>
            rw [ea] at p
            simp only [R.of, R.bind, q1] at p
            refine ho Φ Λ π ss σ H _ d0 pp e0 rel q2 q1 q0 fun v0 w0 H0 e1 sm0 va0 => ?_
            obtain ⟨v', A0, e2, al0, o0⟩ := (rel.same sm0).val q2
            rw [e1] at e2; cases e2
            obtain ⟨w', B', S', va', o', _⟩ := lens o0 q0
            cases va0.det va'
            refine ⟨tyV_of o' ty, ?_⟩
            refine ha Φ Λ π ss σ H0 _ ds (rel.same sm0) ea fun ws H1 B1 sm1 fr1 al1 o1 => ?_
            have sm := sm0.trans sm1
            have r1 : Rel K C (Cup Φ B1) Λ π ss σ H1 := (rel.same sm0).grow sm1 fr1 al1
            cases em : modP i pp (fun e => f e ds) ss with
            | none => rw [em] at p; exact p.elim
            | some x =>
              obtain ⟨r', s2⟩ := x
              rw [em] at p
              obtain ⟨d, e, e', h1, h2, h3, h4⟩ := modP_inv em
              obtain ⟨s0, hs0, hm0⟩ := setV_slot h4
              obtain ⟨v, w, B, ev, va, ob, alB, sepB, fin⟩ := r1.place hs0 h1 hm0 h2 rel.psi ((fr_sep fr1 (rel.same sm0).al).symm)
              rw [e1] at ev; cases ev
              cases (va0.same sm1).det va
              refine hm H1 w0 ws e ds B B1 r' e' Q alB ob o1 (sepB.mono (Sub.refl _) cup_r) al1 h3 fun u H' A' kp al' sb' grow o' ores => ?_
              have rr := fin H' e' A' s2 kp al' sb' grow o' h4
              exact p u H' Mt ((Keep.of sm).trans (kp Φ (sepB.mono (Sub.refl _) cup_l) (r1.al.mono cup_l))) rr.mt sep_mt ores
    · exact p.elim
/-- without arguments -/
theorem se_mut0 {i : Nat} {PF : SS → Option (List Stp)} {T : String} {r : V → List V → Hp → VK → Prop} {f : D → List D → Option (D × D)} {te : TE} (hm : MutS K C r f) (ho : SimLP K C te i PF) :
    SimE K C W (tBM0 K T r te) (eMut i PF T f (ofP psN)) := se_mutP (ta := tNil) hm ho sfa_nil
/-! ### lists -/
theorem upd_keep {A R : AP} {p : Addr} {u o : HO} (h : H p = some u) (ht : ∀ xs, u ≠ .tup xs) (hz : ∀ q w, u ≠ .frz q w) (ha : A p) (s : Sep A R) : Keep R H (upd H p o) := keep_upd h ht hz fun z => s p ha z
theorem upd_grow {p : Addr} {o : HO} : ∀ a, H a ≠ none → upd H p o a ≠ none := fun a h => by
  by_cases e : a = p
  · rw [e, upd_same]; exact fun z => by cases z
  · rw [upd_ne e]; exact h
theorem upd_al {A : AP} {p : Addr} {o : HO} (h : Al H A) : Al (upd H p o) A := fun a x => upd_grow a (h a x)
def fAppend (e : D) (l : List D) : Option (D × D) := match e, l with
  | .lst ds, [d] => if ds.length < 1000000 then some (.non, .lst (ds ++ [d])) else none
  | _, _ => none
theorem sl_lt {n : Nat} (h : n < 1000000) : n < sizeLine := Nat.lt_of_lt_of_le h (by decide)
theorem ms_append : MutS K C rAppend fAppend := fun H w ws e ds A B r' e' Q al o ol sp alB h k => by
  cases e <;> simp [fAppend] at h
  cases ol with
  | nil => simp at h
  | cons a b c x y =>
    cases y with
    | cons _ _ _ _ _ => simp at h
    | nil =>
      rename_i xs A1 A2 d v
      simp at h
      obtain ⟨hl, rfl, rfl⟩ := h
      cases o with
      | lst ha q z =>
        rename_i p vs
        have nB : ¬ A1 p := fun zz => sp p ha (b p zz)
        refine ⟨p, vs, v, rfl, rfl, q, by rw [← z.length]; exact sl_lt hl, k .non _ (Cup A B) (fun R s _ => upd_keep q (fun _ z => by cases z) (fun _ _ z => by cases z) ha s) ((upd_al al).cup (upd_al alB)) (Sub.refl _) upd_grow ?_ .non⟩
        have kp : ∀ R : AP, ¬ R p → Keep R H (upd H p (.lst (vs ++ [v]))) := fun R n => keep_upd q (fun _ z => by cases z) (fun _ _ z => by cases z) n
        refine .lst (.inl ha) upd_same ((OwnL.snoc (A := But A p) (B := A1) (fun t t1 t2 => sp t t1.1 (b t t2)) (z.keep (kp _ fun t => t.2 rfl)) (x.keep (kp _ nB))).mono fun t tt => ?_)
        rcases tt with tt | tt
        · exact ⟨.inl tt.1, tt.2⟩
        · exact ⟨.inr (b t tt), fun e => nB (by rw [← e]; exact tt)⟩
def fExtend (e : D) (l : List D) : Option (D × D) := match e, l with
  | .lst ds, [.lst es] => if immL es = true ∧ ds.length + es.length ≤ 1000000 then some (.non, .lst (ds ++ es)) else none
  | _, _ => none
theorem OwnL.appI : ∀ {ds es : List D} {vs ws : List V} {A : AP}, OwnL K C H ds vs A → IL K C H es ws → OwnL K C H (ds ++ es) (vs ++ ws) A
  | [], es, vs, ws, A, h, g => by cases h; exact g.mono sub_mt
  | d :: ds, es, vs, ws, A, h, g => by
    cases h with | cons a b c x y => exact .cons a b c x (OwnL.appI y g)
theorem ms_extend : MutS K C rExtend fExtend := fun H w ws e ds A B r' e' Q al o ol sp alB h k => by
  cases e <;> simp [fExtend] at h
  cases ol with
  | nil => simp at h
  | cons a b c x y =>
    cases y with
    | cons _ _ _ _ _ => simp at h
    | nil =>
      rename_i xs A1 A2 d v
      cases d <;> simp at h
      obtain ⟨⟨ie, hl⟩, rfl, rfl⟩ := h
      cases o with
      | lst ha q z =>
        cases x with
        | lst ha2 q2 z2 =>
          rename_i p vs p2 vs2
          have kp : ∀ R : AP, ¬ R p → Keep R H (upd H p (.lst (vs ++ vs2))) := fun R n => keep_upd q (fun _ z => by cases z) (fun _ _ z => by cases z) n
          refine ⟨p, p2, vs, vs2, rfl, rfl, q, q2, by rw [← z.length, ← z2.length]; exact sl100 hl, k .non _ A (fun R s _ => upd_keep q (fun _ z => by cases z) (fun _ _ z => by cases z) ha s) (upd_al al) cup_l upd_grow ?_ .non⟩
          exact .lst ha upd_same (OwnL.appI (z.keep (kp _ fun t => t.2 rfl)) ((z2.imm (B := Mt) ie).keep (kp _ fun t => t)))
def fPop (e : D) (l : List D) : Option (D × D) := match e, l with
  | .lst ds, [] => if immL ds = true then (ds[ds.length - 1]?).map fun d => (d, .lst ds.dropLast) else none
  | _, _ => none
theorem IL.dropLast : ∀ {ds : List D} {vs : List V}, IL K C H ds vs → IL K C H ds.dropLast vs.dropLast := fun {ds vs} h => by
  rw [List.dropLast_eq_take, List.dropLast_eq_take, ← h.length]
  exact IL.take _ h
theorem ms_pop : MutS K C rPop fPop := fun H w ws e ds A B r' e' Q al o ol sp alB h k => by
  cases e <;> simp [fPop] at h
  cases ol with
  | cons _ _ _ _ _ => simp at h
  | nil =>
    rename_i xs
    simp at h
    obtain ⟨hi, d, hd, rfl, rfl⟩ := h
    cases o with
    | lst ha q z =>
      rename_i p vs
      have il := z.imm (B := Mt) hi
      obtain ⟨v, hv, ov⟩ := IL.get il hd
      have kp : ∀ R : AP, ¬ R p → Keep R H (upd H p (.lst vs.dropLast)) := fun R n => keep_upd q (fun _ z => by cases z) (fun _ _ z => by cases z) n
      refine ⟨p, vs, v, rfl, rfl, q, by rw [← z.length]; exact hv, k v _ A (fun R s _ => upd_keep q (fun _ z => by cases z) (fun _ _ z => by cases z) ha s) (upd_al al) cup_l upd_grow ?_ (ov.keep (kp _ fun t => t))⟩
      exact .lst ha upd_same (((IL.dropLast il).keep (kp _ fun t => t)).mono sub_mt)
def fPopAt (e : D) (l : List D) : Option (D × D) := match e, l with
  | .lst ds, [.int i] => if immL ds = true ∧ 0 ≤ i ∧ i < ds.length ∧ ds.length ≤ 1000000 then (ds[i.toNat]?).map fun d => (d, .lst (ds.eraseIdx i.toNat)) else none
  | _, _ => none
theorem ms_popAt : MutS K C rPopAt fPopAt := fun H w ws e ds A B r' e' Q al o ol sp alB h k => by
  cases e <;> simp [fPopAt] at h
  cases ol with
  | nil => simp at h
  | cons a b c x y =>
    cases y with
    | cons _ _ _ _ _ => simp at h
    | nil =>
      rename_i xs A1 A2 d v
      cases d <;> simp at h
      rename_i i
      obtain ⟨⟨hi, h0, h1, h2⟩, d, hd, rfl, rfl⟩ := h
      cases x
      cases o with
      | lst ha q z =>
        rename_i p vs
        have il := z.imm (B := Mt) hi
        obtain ⟨v, hv, ov⟩ := IL.get il hd
        have kp : ∀ R : AP, ¬ R p → Keep R H (upd H p (.lst (vs.eraseIdx i.toNat))) := fun R n => keep_upd q (fun _ z => by cases z) (fun _ _ z => by cases z) n
        refine ⟨p, vs, i, i.toNat, v, rfl, rfl, q, by omega, by omega, ?_, hv, k v _ A (fun R s _ => upd_keep q (fun _ z => by cases z) (fun _ _ z => by cases z) ha s) (upd_al al) cup_l upd_grow ?_ (ov.keep (kp _ fun t => t))⟩
        · exact PySem.seqIndex_of h0 (by rw [← z.length]; exact h1)
        · exact .lst ha upd_same (((IL.eraseIdx _ il).keep (kp _ fun t => t)).mono sub_mt)
def fPopA (e : D) (l : List D) : Option (D × D) := fPopAt e l
def fReverse (e : D) (l : List D) : Option (D × D) := match e, l with
  | .lst ds, [] => if immL ds = true then some (.non, .lst ds.reverse) else none
  | _, _ => none
theorem ms_reverse : MutS K C rReverse fReverse := fun H w ws e ds A B r' e' Q al o ol sp alB h k => by
  cases e <;> simp [fReverse] at h
  cases ol with
  | cons _ _ _ _ _ => simp at h
  | nil =>
    simp at h
    obtain ⟨hi, rfl, rfl⟩ := h
    cases o with
    | lst ha q z =>
      rename_i p vs
      have il := z.imm (B := Mt) hi
      have kp : ∀ R : AP, ¬ R p → Keep R H (upd H p (.lst vs.reverse)) := fun R n => keep_upd q (fun _ z => by cases z) (fun _ _ z => by cases z) n
      exact ⟨p, vs, rfl, rfl, q, k .non _ A (fun R s _ => upd_keep q (fun _ z => by cases z) (fun _ _ z => by cases z) ha s) (upd_al al) cup_l upd_grow (.lst ha upd_same (((IL.reverse il).keep (kp _ fun t => t)).mono sub_mt)) .non⟩
def fClear (e : D) (l : List D) : Option (D × D) := match e, l with
  | .lst ds, [] => some (.non, .lst [])
  | _, _ => none
theorem ms_clear : MutS K C rClear fClear := fun H w ws e ds A B r' e' Q al o ol sp alB h k => by
  cases e <;> simp [fClear] at h
  cases ol with
  | cons _ _ _ _ _ => simp at h
  | nil =>
    simp at h
    obtain ⟨rfl, rfl⟩ := h
    cases o with
    | lst ha q z =>
      rename_i p vs
      exact ⟨p, vs, rfl, rfl, q, k .non _ A (fun R s _ => upd_keep q (fun _ z => by cases z) (fun _ _ z => by cases z) ha s) (upd_al al) cup_l upd_grow (.lst ha upd_same .nil) .non⟩
/-! ### o[i] = e, o.f = e -/
def SetS (K : PySem.W.Frag) (C : Nat → Addr) (t : TSet) (f : D → D → D → Option D) : Prop :=
  ∀ H w j v e dj d A B e' (Q : Hp → Prop), Al H A → Own K C H e w A → Rb K C H dj j → Own K C H d v B → Sep A B → Al H B → f e dj d = some e' → Chg K C H w A B .non e' (fun _ H' => Q H') → t w j v H Q
def updP (i : Nat) (p : List Stp) (f : D → Option D) (s : SS) : Option SS := (modP i p (fun e => (f e).map fun x => ((), x)) s).map (·.2)
theorem updP_inv {i : Nat} {p : List Stp} {f : D → Option D} {s s' : SS} (h : updP i p f s = some s') : ∃ d e e', valAt i s = some d ∧ getP d p = some e ∧ f e = some e' ∧ setV i (setP d p e') s = some s' := by
  unfold updP at h
  cases q : modP i p (fun e => (f e).map fun x => ((), x)) s with
  | none => rw [q] at h; cases h
  | some x =>
    obtain ⟨u, s2⟩ := x
    rw [q] at h; cases h
    obtain ⟨d, e, e', h1, h2, h3, h4⟩ := modP_inv q
    cases h5 : f e with
    | none => rw [h5] at h3; cases h3
    | some y => rw [h5] at h3; cases h3; exact ⟨d, e, _, h1, h2, h5, h4⟩
def sItem (i : Nat) (PF : SS → Option (List Stp)) (J : SS → Option D) (f : D → D → D → Option D) (Fe : SS → R D) : SS → RS := fun s => (Fe s).thn fun d s1 => nxO ((PF s1).bind fun p => (J s1).bind fun j => updP i p (fun e => f e j d) s1)
theorem ss_item {i : Nat} {PF : SS → Option (List Stp)} {J : SS → Option D} {Fe : SS → R D} {te to ti : TE} {t : TSet} {f : D → D → D → Option D} (ht : SetS K C t f) (he : SimE K C W te Fe) (ho : SimLP K C to i PF) (hj : SimP K C ti J) :
    SimS K C W (tAsg te (gSub to ti t)) (sItem i PF J f Fe) := fun Φ Λ π ss σ H E rel p => by
  unfold sItem at p
  refine he Φ Λ π ss σ H _ rel ?_
  cases q : Fe ss with
  | stuck => rw [q] at p; exact p
  | exc x s => rw [q] at p; exact fun H' cls da => p σ H' cls da
  | ok d s1 =>
    rw [q] at p
    intro v H1 B1 k1 r1 sp1 o1
    simp only [R.thn] at p
    cases q1 : PF s1 with
    | none => rw [q1] at p; exact p.elim
    | some pp =>
      rw [q1] at p
      simp only [Option.bind] at p
      cases q2 : J s1 with
      | none => rw [q2] at p; exact p.elim
      | some j =>
        rw [q2] at p
        simp only at p
        cases q3 : updP i pp (fun e => f e j d) s1 with
        | none => rw [q3] at p; exact p.elim
        | some s2 =>
          rw [q3] at p
          obtain ⟨d0, e, e', h1, h2, h3, h4⟩ := updP_inv q3
          refine ho _ Λ π s1 σ H1 _ d0 pp e r1 h1 q1 h2 fun v0 w0 H2 e1 sm va => ?_
          refine hj _ Λ π s1 σ H2 _ j (r1.same sm) q2 fun jv H3 sm3 rb => ?_
          have sm13 := sm.trans sm3
          have r3 := r1.same sm13
          obtain ⟨s0, hs0, hm0⟩ := setV_slot h4
          obtain ⟨v', w, B, ev, va', ob, alB, sepB, fin⟩ := r3.place hs0 h1 hm0 h2 rel.psi sp1
          rw [e1] at ev; cases ev
          cases (va.same sm3).det va'
          refine ht H3 w0 jv v e j d B B1 e' _ alB ob rb (o1.same sm13) (sepB.mono (Sub.refl _) cup_r) (r3.al.mono cup_r) h3 fun u H' A' kp al' sb' grow o' _ => ?_
          exact p σ H' ((k1.trans (Keep.of sm13)).trans (kp Φ (sepB.mono (Sub.refl _) cup_l) (r3.al.mono cup_l))) (fin H' e' A' s2 kp al' sb' grow o' h4)
theorem OwnL.setI {d : D} {v : V} {B : AP} (o : Own K C H d v B) : ∀ {ds : List D} {vs : List V} {A : AP} (i : Nat), OwnL K C H ds vs A → Sep A B → OwnL K C H (ds.set i d) (vs.set i v) (Cup A B)
  | [], _, A, _, h, _ => by cases h; exact .nil
  | x :: ds, _, A, 0, h, s => by
    cases h with | cons a b c x y => exact .cons (A1 := B) (s.mono c (Sub.refl _)).symm cup_r (c.trans cup_l) o y
  | x :: ds, _, A, i + 1, h, s => by
    cases h with
    | cons a b c x y =>
      rename_i A1 A2 w ws
      exact .cons (A1 := A1) (A2 := Cup A2 B) (a.cup (s.mono b (Sub.refl _))) (b.trans cup_l) (cup_sub (c.trans cup_l) cup_r) x (OwnL.setI o i y (s.mono c (Sub.refl _)))
def fSetI (e j d : D) : Option D := match e, j with
  | .lst ds, .int i => (ixN ds.length i).map fun n => .lst (ds.set n d)
  | _, _ => none
theorem sts_list : SetS K C rSetL fSetI := fun H w j v e dj d A B e' Q al o rb ov sp alB h k => by
  cases e <;> cases dj <;> simp [fSetI] at h
  obtain ⟨n, hn, rfl⟩ := h
  rw [rb_int' rb]
  cases o with
  | lst ha q z =>
    rename_i i p vs
    have nB : ¬ B p := fun zz => sp p ha zz
    have kp : ∀ R : AP, ¬ R p → Keep R H (upd H p (.lst (vs.set n v))) := fun R n => keep_upd q (fun _ z => by cases z) (fun _ _ z => by cases z) n
    refine ⟨p, vs, _, n, rfl, rfl, q, by rw [← z.length]; exact hn, k .non _ (Cup A B) (fun R s _ => upd_keep q (fun _ z => by cases z) (fun _ _ z => by cases z) ha s) ((upd_al al).cup (upd_al alB)) (Sub.refl _) upd_grow ?_ .non⟩
    refine .lst (.inl ha) upd_same ((OwnL.setI (ov.keep (kp _ nB)) n (z.keep (kp _ fun t => t.2 rfl)) (fun t t1 t2 => sp t t1.1 t2)).mono fun t tt => ?_)
    rcases tt with tt | tt
    · exact ⟨.inl tt.1, tt.2⟩
    · exact ⟨.inr tt, fun e => nB (by rw [← e]; exact tt)⟩
/-! fields -/
def putN : List Str → List D → Str → D → List Str × List D
  | [], _, f, d => ([f], [d])
  | g :: ns, x :: ds, f, d => if g = f then (g :: ns, d :: ds) else (g :: (putN ns ds f d).1, x :: (putN ns ds f d).2)
  | g :: ns, [], f, d => (g :: ns, [])
def fPutF (f : Str) (e d : D) : Option D := match e with
  | .ob c ns ds => if ns.length < 900 ∧ c < 5 then some (.ob c (putN ns ds f d).1 (putN ns ds f d).2) else none
  | _ => none
theorem putN_own {d : D} {v : V} {B : AP} {f : Str} (o : Own K C H d v B) : ∀ {ns : List Str} {ds : List D} {vs : List V} {A : AP}, ns.length = ds.length → OwnL K C H ds vs A → Sep A B →
    ∃ ws, (putN ns ds f d).1.length = (putN ns ds f d).2.length ∧ putF f v (ns.zip vs) = (putN ns ds f d).1.zip ws ∧ OwnL K C H (putN ns ds f d).2 ws (Cup A B)
  | [], [], _, A, _, h, s => by
    cases h
    exact ⟨[v], rfl, rfl, .cons (A1 := B) (A2 := Mt) mt_sep cup_r sub_mt o .nil⟩
  | g :: ns, x :: ds, _, A, hl, h, s => by
    cases h with
    | cons a b c xx y =>
      rename_i A1 A2 w ws
      obtain ⟨us, h1, h2, h3⟩ := putN_own o (ns := ns) (by simpa using hl) y (s.mono c (Sub.refl _))
      unfold putN
      by_cases e : g = f
      · rw [if_pos e]
        refine ⟨v :: ws, by simpa using hl, ?_, .cons (A1 := B) (s.mono c (Sub.refl _)).symm cup_r (c.trans cup_l) o y⟩
        rw [List.zip_cons_cons, List.zip_cons_cons]
        show (if g = f then (g, v) :: ns.zip ws else (g, w) :: putF f v (ns.zip ws)) = (g, v) :: ns.zip ws
        rw [if_pos e]
      · rw [if_neg e]
        refine ⟨w :: us, by simp only [List.length_cons, h1], ?_, .cons (A1 := A1) (A2 := Cup A2 B) (a.cup (s.mono b (Sub.refl _))) (b.trans cup_l) (cup_sub (c.trans cup_l) cup_r) xx h3⟩
        rw [List.zip_cons_cons, List.zip_cons_cons]
        show (if g = f then (g, v) :: ns.zip ws else (g, w) :: putF f v (ns.zip ws)) = _
        rw [if_neg e, h2]
  | [], _ :: _, _, _, hl, _, _ => by cases hl
  | _ :: _, [], _, _, hl, _, _ => by cases hl
def sFldD (i : Nat) (PF : SS → Option (List Stp)) (f : Str) (Fe : SS → R D) : SS → RS := fun s => (Fe s).thn fun d s1 => nxO ((PF s1).bind fun p => updP i p (fun e => fPutF f e d) s1)
theorem ss_fld {i : Nat} {PF : SS → Option (List Stp)} {f : Str} {Fe : SS → R D} {te to : TE} (he : SimE K C W te Fe) (ho : SimLP K C to i PF) (hc : ∀ c, c < 5 → Cls K (C c)) (hn : ∀ c, c < 5 → NoAttr K (C c) f) : SimS K C W (sFld K to te f) (sFldD i PF f Fe) := fun Φ Λ π ss σ H E rel p => by
  unfold sFldD at p
  refine he Φ Λ π ss σ H _ rel ?_
  cases q : Fe ss with
  | stuck => rw [q] at p; exact p
  | exc x s => rw [q] at p; exact fun H' cls da => p σ H' cls da
  | ok d s1 =>
    rw [q] at p
    intro v H1 B1 k1 r1 sp1 o1
    simp only [R.thn] at p
    cases q1 : PF s1 with
    | none => rw [q1] at p; exact p.elim
    | some pp =>
      rw [q1] at p
      simp only [Option.bind] at p
      cases q3 : updP i pp (fun e => fPutF f e d) s1 with
      | none => rw [q3] at p; exact p.elim
      | some s2 =>
        rw [q3] at p
        obtain ⟨d0, e, e', h1, h2, h3, h4⟩ := updP_inv q3
        refine ho _ Λ π s1 σ H1 _ d0 pp e r1 h1 q1 h2 fun v0 w0 H2 e1 sm va => ?_
        have r3 := r1.same sm
        obtain ⟨s0, hs0, hm0⟩ := setV_slot h4
        obtain ⟨v', w, B, ev, va', ob, alB, sepB, fin⟩ := r3.place hs0 h1 hm0 h2 rel.psi sp1
        rw [e1] at ev; cases ev
        cases va.det va'
        cases e <;> simp [fPutF] at h3
        obtain ⟨⟨hl, hc5⟩, rfl⟩ := h3
        cases ob with
        | ob ha l q z =>
          rename_i c ns ds a dx vs
          have sAB : Sep B B1 := sepB.mono (Sub.refl _) cup_r
          have nB : ¬ B1 a := fun zz => sAB a ha zz
          obtain ⟨ws, g1, g2, g3⟩ := putN_own (f := f) (o1.same sm) l z (fun t t1 t2 => sAB t t1.1 t2)
          refine ⟨a, _, dx, _, rfl, q, hc c hc5, hn c hc5, ?_, ?_⟩
          · rw [List.length_zip]; omega
          have kp : ∀ R : AP, ¬ R a → Keep R H2 (upd H2 a (.ins (C c) dx (putF f v (ns.zip vs)))) := fun R n => keep_upd q (fun _ z => by cases z) (fun _ _ z => by cases z) n
          have o' : Own K C (upd H2 a (.ins (C c) dx (putF f v (ns.zip vs)))) (.ob c (putN ns ds f d).1 (putN ns ds f d).2) (.ref a) (Cup B B1) := by
            refine .ob (vs := ws) (.inl ha) g1 (by rw [← g2]; exact upd_same) ((g3.keep (kp _ fun t => ?_)).mono fun t tt => ?_)
            · rcases t with t | t
              · exact t.2 rfl
              · exact nB t
            · rcases tt with tt | tt
              · exact ⟨.inl tt.1, tt.2⟩
              · exact ⟨.inr tt, fun e => nB (by rw [← e]; exact tt)⟩
          exact p σ _ ((k1.trans (Keep.of sm)).trans (kp Φ fun zz => sepB a ha (.inl zz))) (fin _ _ (Cup B B1) s2 (fun R s _ => upd_keep q (fun _ z => by cases z) (fun _ _ z => by cases z) ha s) ((upd_al alB).cup (upd_al (r3.al.mono cup_r))) (Sub.refl _) upd_grow o' h4)
end
end Dy

/-! Calls of own defs: arguments lent, or changed in place. -/
namespace Dy
open PySem L2
inductive Ar where
  | inn (i : Nat) (p : List Stp) | len (i : Nat) (p : List Stp) | val (d : D)
def valO (i : Nat) (s : SS) : Option D := match s[i]? with
  | some (.own d) => some d
  | some (.inn d) => some d
  | _ => none
def mkc : List Ar → SS → Option SS
  | [], _ => some []
  | .inn i p :: as, s => (valO i s).bind fun d => (getP d p).bind fun e => (mkc as s).map fun r => .inn e :: r
  | .len i p :: as, s => (valAt i s).bind fun d => (getP d p).bind fun e => (mkc as s).map fun r => .bor e :: r
  | .val d :: as, s => (mkc as s).map fun r => .bor d :: r
def arN : List Ar → List Nat
  | [] => []
  | .inn i _ :: as => i :: arN as
  | _ :: as => arN as
def arL : List Ar → List Nat
  | [] => []
  | .len i _ :: as => i :: arL as
  | _ :: as => arL as
def okAr : List Ar → Bool
  | [] => true
  | .inn i _ :: as => !(arN as).contains i && okAr as
  | _ :: as => okAr as
def okLe (as : List Ar) : Bool := (arL as).all fun i => !(arN as).contains i
def bk : List Ar → SS → SS → Option SS
  | [], _, s => some s
  | .inn i p :: as, .inn e :: cs, s => (valO i s).bind fun d => (setV i (setP d p e) s).bind (bk as cs)
  | .len _ _ :: as, _ :: cs, s => bk as cs s
  | .val _ :: as, _ :: cs, s => bk as cs s
  | _, _, _ => none
section
variable (K : PySem.W.Frag) (C : Nat → Addr)
inductive ArL (H : Hp) (σ : L2.St) : List Ar → List V → AP → Prop
  | nil {B : AP} : ArL H σ [] [] B
  | inn {i : Nat} {p : List Stp} {v v0 : V} {as : List Ar} {vs : List V} {B : AP} : σ[i]? = some (some v0) → VAt H v0 p v → ArL H σ as vs B → ArL H σ (.inn i p :: as) (v :: vs) B
  | len {i : Nat} {p : List Stp} {v v0 : V} {as : List Ar} {vs : List V} {B : AP} : σ[i]? = some (some v0) → VAt H v0 p v → ArL H σ as vs B → ArL H σ (.len i p :: as) (v :: vs) B
  | val {d : D} {v : V} {as : List Ar} {vs : List V} {B : AP} : Own K C H d v B → ArL H σ as vs B → ArL H σ (.val d :: as) (v :: vs) B
end
section
variable {K : PySem.W.Frag} {C : Nat → Addr} {W : WX} {Φ : AP} {Λ : Nat → AP} {π : Nat → Option V} {ss : SS} {σ : L2.St} {H H' : Hp}
def ArOne (K : PySem.W.Frag) (C : Nat → Addr) (H : Hp) (σ : L2.St) (B : AP) (v : V) : Ar → Prop
  | .inn i p => ∃ v0, σ[i]? = some (some v0) ∧ VAt H v0 p v
  | .len i p => ∃ v0, σ[i]? = some (some v0) ∧ VAt H v0 p v
  | .val d => Own K C H d v B
theorem ArL.get : ∀ {as : List Ar} {vs : List V} {B : AP} {j : Nat} {x : Ar}, ArL K C H σ as vs B → as[j]? = some x → ∃ v, vs[j]? = some v ∧ ArOne K C H σ B v x
  | [], _, _, _, _, _, e => by simp at e
  | a :: as, vs, B, 0, x, h, e => by
    simp at e; subst e
    cases h with
    | inn h1 h2 h3 => exact ⟨_, rfl, _, h1, h2⟩
    | len h1 h2 h3 => exact ⟨_, rfl, _, h1, h2⟩
    | val h1 h3 => exact ⟨_, rfl, h1⟩
  | a :: as, vs, B, j + 1, x, h, e => by
    have e' : as[j]? = some x := by simpa using e
    cases h with
    | inn h1 h2 h3 => obtain ⟨v, g1, g2⟩ := h3.get e'; exact ⟨v, by simpa using g1, g2⟩
    | len h1 h2 h3 => obtain ⟨v, g1, g2⟩ := h3.get e'; exact ⟨v, by simpa using g1, g2⟩
    | val h1 h3 => obtain ⟨v, g1, g2⟩ := h3.get e'; exact ⟨v, by simpa using g1, g2⟩
theorem ArL.length : ∀ {as : List Ar} {vs : List V} {B : AP}, ArL K C H σ as vs B → as.length = vs.length
  | [], _, _, h => by cases h; rfl
  | a :: as, vs, B, h => by
    cases h with
    | inn h1 h2 h3 => simp [h3.length]
    | len h1 h2 h3 => simp [h3.length]
    | val h1 h3 => simp [h3.length]
theorem mkc_len : ∀ {as : List Ar} {s cs : SS}, mkc as s = some cs → cs.length = as.length
  | [], s, cs, h => by cases h; rfl
  | .inn i p :: as, s, cs, h => by
    unfold mkc at h
    simp only [Option.bind_eq_some_iff, Option.map_eq_some_iff] at h
    obtain ⟨d, _, e, _, r, h, rfl⟩ := h
    simp [mkc_len h]
  | .len i p :: as, s, cs, h => by
    unfold mkc at h
    simp only [Option.bind_eq_some_iff, Option.map_eq_some_iff] at h
    obtain ⟨d, _, e, _, r, h, rfl⟩ := h
    simp [mkc_len h]
  | .val d :: as, s, cs, h => by
    unfold mkc at h
    simp only [Option.map_eq_some_iff] at h
    obtain ⟨r, h, rfl⟩ := h
    simp [mkc_len h]
def MkOne (s : SS) (c : Sl) : Ar → Prop
  | .inn i p => ∃ d e, valO i s = some d ∧ getP d p = some e ∧ c = .inn e
  | .len i p => ∃ d e, valAt i s = some d ∧ getP d p = some e ∧ c = .bor e
  | .val d => c = .bor d
theorem mkc_get : ∀ {as : List Ar} {s cs : SS} {j : Nat} {x : Ar}, mkc as s = some cs → as[j]? = some x → ∃ c, cs[j]? = some c ∧ MkOne s c x
  | [], _, _, _, _, _, e => by simp at e
  | .inn i p :: as, s, cs, j, x, h, g => by
    unfold mkc at h
    simp only [Option.bind_eq_some_iff, Option.map_eq_some_iff] at h
    obtain ⟨d, h1, e, h2, r, h, rfl⟩ := h
    cases j with
    | zero => simp at g; subst g; exact ⟨_, rfl, d, e, h1, h2, rfl⟩
    | succ j => obtain ⟨c, g1, g2⟩ := mkc_get h (show as[j]? = some x by simpa using g); exact ⟨c, by simpa using g1, g2⟩
  | .len i p :: as, s, cs, j, x, h, g => by
    unfold mkc at h
    simp only [Option.bind_eq_some_iff, Option.map_eq_some_iff] at h
    obtain ⟨d, h1, e, h2, r, h, rfl⟩ := h
    cases j with
    | zero => simp at g; subst g; exact ⟨_, rfl, d, e, h1, h2, rfl⟩
    | succ j => obtain ⟨c, g1, g2⟩ := mkc_get h (show as[j]? = some x by simpa using g); exact ⟨c, by simpa using g1, g2⟩
  | .val d :: as, s, cs, j, x, h, g => by
    unfold mkc at h
    simp only [Option.map_eq_some_iff] at h
    obtain ⟨r, h, rfl⟩ := h
    cases j with
    | zero => simp at g; subst g; exact ⟨_, rfl, rfl⟩
    | succ j => obtain ⟨c, g1, g2⟩ := mkc_get h (show as[j]? = some x by simpa using g); exact ⟨c, by simpa using g1, g2⟩
theorem arN_mem : ∀ {as : List Ar} {j i : Nat} {p : List Stp}, as[j]? = some (.inn i p) → i ∈ arN as
  | [], _, _, _, e => by simp at e
  | a :: as, 0, i, p, e => by simp at e; subst e; simp [arN]
  | a :: as, j + 1, i, p, e => by
    have := arN_mem (show as[j]? = some (.inn i p) by simpa using e)
    cases a <;> simp [arN, this]
theorem arL_mem : ∀ {as : List Ar} {j i : Nat} {p : List Stp}, as[j]? = some (.len i p) → i ∈ arL as
  | [], _, _, _, e => by simp at e
  | a :: as, 0, i, p, e => by simp at e; subst e; simp [arL]
  | a :: as, j + 1, i, p, e => by
    have := arL_mem (show as[j]? = some (.len i p) by simpa using e)
    cases a <;> simp [arL, this]
theorem mem_arN : ∀ {as : List Ar} {i : Nat}, i ∈ arN as → ∃ (j : Nat) (p : List Stp), as[j]? = some (.inn i p)
  | [], _, h => by simp [arN] at h
  | .inn k p :: as, i, h => by
    simp [arN] at h
    rcases h with rfl | h
    · exact ⟨0, p, rfl⟩
    · obtain ⟨j, q, e⟩ := mem_arN h; exact ⟨j + 1, q, by simpa using e⟩
  | .len k p :: as, i, h => by
    simp [arN] at h
    obtain ⟨j, q, e⟩ := mem_arN h; exact ⟨j + 1, q, by simpa using e⟩
  | .val d :: as, i, h => by
    simp [arN] at h
    obtain ⟨j, q, e⟩ := mem_arN h; exact ⟨j + 1, q, by simpa using e⟩
theorem okAr_ne : ∀ {as : List Ar} {j k i i' : Nat} {p q : List Stp}, okAr as = true → as[j]? = some (.inn i p) → as[k]? = some (.inn i' q) → j ≠ k → i ≠ i'
  | [], _, _, _, _, _, _, _, e, _, _ => by simp at e
  | a :: as, 0, 0, _, _, _, _, _, _, _, n => (n rfl).elim
  | a :: as, 0, k + 1, i, i', p, q, h, e1, e2, n => by
    simp at e1; subst e1
    simp [okAr] at h
    have := arN_mem (show as[k]? = some (.inn i' q) by simpa using e2)
    exact fun z => h.1 (by rw [z]; exact this)
  | a :: as, j + 1, 0, i, i', p, q, h, e1, e2, n => by
    simp at e2; subst e2
    simp [okAr] at h
    have := arN_mem (show as[j]? = some (.inn i p) by simpa using e1)
    exact fun z => h.1 (by rw [← z]; exact this)
  | a :: as, j + 1, k + 1, i, i', p, q, h, e1, e2, n => by
    have h' : okAr as = true := by cases a <;> simp [okAr] at h <;> first | exact h.2 | exact h
    exact okAr_ne h' (by simpa using e1) (by simpa using e2) (fun z => n (by rw [z]))
theorem okLe_ne {as : List Ar} {j k i i' : Nat} {p q : List Stp} (h : okLe as = true) (e1 : as[j]? = some (.len i p)) (e2 : as[k]? = some (.inn i' q)) : i ≠ i' := fun z => by
  unfold okLe at h
  rw [List.all_eq_true] at h
  have h1 := h i (arL_mem e1)
  have h2 := arN_mem e2
  rw [← z] at h2
  simp at h1
  exact h1 h2
theorem valO_inv {i : Nat} {s : SS} {d : D} (h : valO i s = some d) : s[i]? = some (.own d) ∨ s[i]? = some (.inn d) := by
  unfold valO at h
  split at h
  · cases h; rename_i e; exact .inl e
  · cases h; rename_i e; exact .inr e
  · cases h
/-- as RelA, but for the slots Z -/
structure RelW (K : PySem.W.Frag) (C : Nat → Addr) (Φ : AP) (Λ : Nat → AP) (π : Nat → Option V) (Z : List Nat) (ss : SS) (σ : L2.St) (H : Hp) (As : Nat → AP) : Prop where
  al : Al H Φ
  sub : ∀ i, Sub (Λ i) Φ
  len : σ.length = ss.length
  pin : ∀ i v, π i = some v → σ[i]? = some (some v) ∧ ∃ d, ss[i]? = some (.inn d)
  aa : ∀ i, Al H (As i)
  af : ∀ i, Sep (As i) Φ
  ap : ∀ i j, i ≠ j → Sep (As i) (As j)
  ok : ∀ i s o, i ∉ Z → ss[i]? = some s → σ[i]? = some o → SlOk K C H (Λ i) (As i) s o
theorem RelW.set {Z : List Nat} {i : Nat} {As : Nat → AP} {v0 : V} {d' : D} {T : AP} {s' : SS} (w : RelW K C Φ Λ π (i :: Z) ss σ H As) (hs : setV i d' ss = some s') (e : σ[i]? = some (some v0)) (o : Own K C H d' v0 T) (al : Al H T) (sf : Sep T Φ) (sp : ∀ k, k ≠ i → Sep T (As k)) :
    RelW K C Φ Λ π Z s' σ H (fun k => if k = i then T else As k) := by
  have key : ∀ s0 s1 : Sl, ss[i]? = some s0 → SlOk K C H (Λ i) T s1 (some v0) → ((∃ x, s0 = .inn x) → ∃ y, s1 = .inn y) → RelW K C Φ Λ π Z (ss.set i s1) σ H (fun k => if k = i then T else As k) := fun s0 s1 h0 h1 hn => by
    have hi : i < ss.length := (List.getElem?_eq_some_iff.mp h0).1
    refine ⟨w.al, w.sub, by rw [List.length_set]; exact w.len, fun j u hj => ?_, fun j => ?_, fun j => ?_, fun j k hjk => ?_, fun j t u hz h2 h3 => ?_⟩
    · obtain ⟨h1, x, h2⟩ := w.pin j u hj
      by_cases nj : i = j
      · subst nj
        rw [h0] at h2
        obtain ⟨y, ey⟩ := hn ⟨x, Option.some.inj h2⟩
        exact ⟨h1, y, by rw [List.getElem?_set_self hi, ey]⟩
      · exact ⟨h1, x, by rw [List.getElem?_set_ne nj]; exact h2⟩
    · show Al H (if j = i then T else As j)
      split
      · exact al
      · exact w.aa j
    · show Sep (if j = i then T else As j) Φ
      split
      · exact sf
      · exact w.af j
    · show Sep (if j = i then T else As j) (if k = i then T else As k)
      by_cases hj : j = i
      · rw [if_pos hj, if_neg (fun z => hjk (hj.trans z.symm))]
        exact sp k fun z => hjk (hj.trans z.symm)
      · rw [if_neg hj]
        by_cases hk : k = i
        · rw [if_pos hk]; exact (sp j hj).symm
        · rw [if_neg hk]; exact w.ap j k hjk
    · by_cases nj : i = j
      · subst nj
        rw [List.getElem?_set_self hi] at h2
        cases h2
        rw [e] at h3; cases h3
        show SlOk K C H (Λ i) (if i = i then T else As i) s1 _
        rw [if_pos rfl]
        exact h1
      · rw [List.getElem?_set_ne nj] at h2
        show SlOk K C H (Λ j) (if j = i then T else As j) t u
        rw [if_neg (fun z => nj z.symm)]
        exact w.ok j t u (by simp only [List.mem_cons, not_or]; exact ⟨fun z => nj z.symm, hz⟩) h2 h3
  rcases setV_inv hs with ⟨d0, e0, rfl⟩ | ⟨d0, e0, rfl⟩
  · exact key _ _ e0 ⟨v0, rfl, o⟩ fun ⟨x, z⟩ => by cases z
  · exact key _ _ e0 ⟨v0, rfl, o⟩ fun _ => ⟨_, rfl⟩
theorem valO_set {i k : Nat} {d : D} {s s' : SS} (h : setV i d s = some s') (n : k ≠ i) : valO k s' = valO k s := by
  have q : s'[k]? = s[k]? := by
    rcases setV_inv h with ⟨d0, e0, rfl⟩ | ⟨d0, e0, rfl⟩
    · rw [List.getElem?_set_ne fun z => n z.symm]
    · rw [List.getElem?_set_ne fun z => n z.symm]
  unfold valO
  rw [q]
theorem bk_rel : ∀ {as : List Ar} {cs s s2 : SS} {As T : Nat → AP}, RelW K C Φ Λ π (arN as) s σ H As → bk as cs s = some s2 → okAr as = true →
    (∀ j i p, as[j]? = some (.inn i p) → ∃ d v0, valO i s = some d ∧ σ[i]? = some (some v0) ∧ (∀ e', cs[j]? = some (.inn e') → Own K C H (setP d p e') v0 (T j)) ∧ Al H (T j) ∧ Sep (T j) Φ ∧ (∀ k, k ≠ i → Sep (T j) (As k))) →
    (∀ j j' i i' p p', as[j]? = some (.inn i p) → as[j']? = some (.inn i' p') → j ≠ j' → Sep (T j) (T j')) → Rel K C Φ Λ π s2 σ H
  | [], cs, s, s2, As, T, w, hb, _, _, _ => by
    cases hb
    exact ⟨As, w.al, w.sub, w.len, w.pin, w.aa, w.af, w.ap, fun i s o => w.ok i s o (by simp [arN])⟩
  | .inn i p :: as, [], s, s2, As, T, w, hb, _, _, _ => by unfold bk at hb; cases hb
  | .inn i p :: as, c :: cs, s, s2, As, T, w, hb, ho, hj, hT => by
    cases c with
    | no => unfold bk at hb; cases hb
    | own d => unfold bk at hb; cases hb
    | bor d => unfold bk at hb; cases hb
    | inn e =>
    simp only [bk, Option.bind_eq_some_iff] at hb
    obtain ⟨d, h1, s1, h2, h3⟩ := hb
    simp [okAr] at ho
    obtain ⟨d', v0, g1, g2, g3, g4, g5, g6⟩ := hj 0 i p rfl
    rw [h1] at g1; cases g1
    have w1 := w.set (Z := arN as) h2 g2 (g3 e rfl) g4 g5 g6
    refine bk_rel (as := as) (cs := cs) (s := s1) (As := fun k => if k = i then T 0 else As k) (T := fun j => T (j + 1)) w1 h3 ho.2 (fun j i' p' q => ?_) fun j j' i1 i2 p1 p2 q1 q2 n => hT (j + 1) (j' + 1) i1 i2 p1 p2 (by simpa using q1) (by simpa using q2) (by omega)
    obtain ⟨d2, v2, k1, k2, k3, k4, k5, k6⟩ := hj (j + 1) i' p' (by simpa using q)
    have ni : i' ≠ i := fun z => ho.1 (by rw [← z]; exact arN_mem q)
    refine ⟨d2, v2, by rw [valO_set h2 ni]; exact k1, k2, fun e' he => k3 e' (by simpa using he), k4, k5, fun k nk => ?_⟩
    show Sep (T (j + 1)) (if k = i then T 0 else As k)
    split
    · exact hT (j + 1) 0 i' i p' p (by simpa using q) rfl (by omega)
    · exact k6 k nk
  | .len i p :: as, [], s, s2, As, T, w, hb, _, _, _ => by simp [bk] at hb
  | .len i p :: as, c :: cs, s, s2, As, T, w, hb, ho, hj, hT => by
    simp [bk] at hb
    exact bk_rel (as := as) (cs := cs) (s := s) (As := As) (T := fun j => T (j + 1)) w hb (by simpa [okAr] using ho) (fun j i' p' q => by simpa using hj (j + 1) i' p' (by simpa using q)) fun j j' i1 i2 p1 p2 q1 q2 n => hT (j + 1) (j' + 1) i1 i2 p1 p2 (by simpa using q1) (by simpa using q2) (by omega)
  | .val d :: as, [], s, s2, As, T, w, hb, _, _, _ => by simp [bk] at hb
  | .val d :: as, c :: cs, s, s2, As, T, w, hb, ho, hj, hT => by
    simp [bk] at hb
    exact bk_rel (as := as) (cs := cs) (s := s) (As := As) (T := fun j => T (j + 1)) w hb (by simpa [okAr] using ho) (fun j i' p' q => by simpa using hj (j + 1) i' p' (by simpa using q)) fun j j' i1 i2 p1 p2 q1 q2 n => hT (j + 1) (j' + 1) i1 i2 p1 p2 (by simpa using q1) (by simpa using q2) (by omega)
def isInn : Ar → Bool
  | .inn _ _ => true
  | _ => false
/-- THE CALL: what the callee starts from, and what comes of it behind -/
theorem call_rel {B : AP} {as : List Ar} {vs : List V} {cs : SS} {N : List Str} {m : Nat} (rel : Rel K C (Cup Φ B) Λ π ss σ H) (spB : Sep B Φ) (psi : ∀ i, Sub (Λ i) Φ) (ar : ArL K C H σ as vs B) (hm : mkc as ss = some cs) (ho : okAr as = true) (hl : okLe as = true) (hN : N.length - vs.length = m) :
    ∃ (Φc : AP) (Λc : Nat → AP) (πc : Nat → Option V), Rel K C Φc Λc πc (cs ++ List.replicate m .no) (L2.start N vs) H ∧ (arN as = [] → ∀ x, H x ≠ none → Φc x) ∧
      ∀ H' B' s' σ' s2, Keep Φc H H' → Rel K C (Cup Φc B') Λc πc s' σ' H' → Sep B' Φc → bk as s' ss = some s2 → Keep Φ H H' ∧ Rel K C (Cup Φ B') Λ π s2 σ H' ∧ Sep B' Φ := by
  obtain ⟨As, a⟩ := rel
  have hlv := ar.length
  have hlc := mkc_len hm
  -- the lenses
  have hex : ∀ j : Nat, ∃ z : AP × AP, (∀ i p, as[j]? = some (.inn i p) → ∃ d e v0 w, valO i ss = some d ∧ getP d p = some e ∧ σ[i]? = some (some v0) ∧ vs[j]? = some w ∧ Own K C H e w z.1 ∧ Sub z.1 (As i) ∧ Sub z.2 (As i) ∧ Sep z.1 z.2 ∧
      ∀ H' e' B', Keep z.2 H H' → Own K C H' e' w B' → Sep B' z.2 → Own K C H' (setP d p e') v0 (Cup z.2 B')) ∧ ((∀ i p, as[j]? ≠ some (Ar.inn i p)) → z = (Mt, Mt)) := fun j => by
    by_cases hi : ∃ i p, as[j]? = some (.inn i p)
    · obtain ⟨i, p, e0⟩ := hi
      obtain ⟨w, hw, v0, hv0, va⟩ := ar.get e0
      obtain ⟨c, hc, d, e, h1, h2, rfl⟩ := mkc_get hm e0
      have ow : Own K C H d v0 (As i) := by
        rcases valO_inv h1 with q | q
        · obtain ⟨x, ex, ow⟩ := a.ok i _ _ q hv0; cases ex; exact ow
        · obtain ⟨x, ex, ow⟩ := a.ok i _ _ q hv0; cases ex; exact ow
      obtain ⟨w', B1, S1, va', o1, b1, c1, d1, f1⟩ := lens ow h2
      cases va.det va'
      refine ⟨(B1, S1), fun i' p' q => ?_, fun n => (n i p e0).elim⟩
      rw [e0] at q; cases q
      exact ⟨d, e, v0, w, h1, h2, hv0, hw, o1, b1, c1, d1, f1⟩
    · exact ⟨(Mt, Mt), fun i p q => (hi ⟨i, p, q⟩).elim, fun _ => rfl⟩
  obtain ⟨g, hg⟩ := Classical.axiomOfChoice hex
  have notI : ∀ {j : Nat}, (∀ i p, as[j]? ≠ some (Ar.inn i p)) → g j = (Mt, Mt) := fun n => (hg _).2 n
  have gB : ∀ j, (∃ i p, as[j]? = some (.inn i p) ∧ Sub (g j).1 (As i)) ∨ (g j).1 = Mt := fun j => by
    by_cases hi : ∃ i p, as[j]? = some (.inn i p)
    · obtain ⟨i, p, e0⟩ := hi
      obtain ⟨_, _, _, _, _, _, _, _, _, b, _⟩ := (hg j).1 i p e0
      exact .inl ⟨i, p, e0, b⟩
    · exact .inr (by rw [notI fun i p q => hi ⟨i, p, q⟩])
  obtain ⟨Φc, hΦc⟩ : ∃ Φc : AP, Φc = fun x => H x ≠ none ∧ ∀ j, ¬ (g j).1 x := ⟨_, rfl⟩
  have inC : ∀ R : AP, Al H R → (∀ j i p, as[j]? = some (.inn i p) → Sep (g j).1 R) → Sub R Φc := fun R al sp => by
    rw [hΦc]
    intro x hx
    refine ⟨al x hx, fun j hj => ?_⟩
    rcases gB j with ⟨i, p, e0, _⟩ | e
    · exact sp j i p e0 x hj hx
    · rw [e] at hj; exact hj
  have sΦB : Sub (Cup Φ B) Φc := inC _ a.al fun j i p e0 => by
    obtain ⟨_, _, _, _, _, _, _, _, _, b, _⟩ := (hg j).1 i p e0
    exact (a.af i).mono b (Sub.refl _)
  have sΦ : Sub Φ Φc := cup_l.trans sΦB
  have sAs : ∀ k, (∀ j p, as[j]? ≠ some (Ar.inn k p)) → Sub (As k) Φc := fun k n => inC _ (a.aa k) fun j i p e0 => by
    obtain ⟨_, _, _, _, _, _, _, _, _, b, _⟩ := (hg j).1 i p e0
    have ni : i ≠ k := fun z => by subst z; exact n j p e0
    exact (a.ap i k ni).mono b (Sub.refl _)
  refine ⟨Φc, fun _ => Φc, fun j => match as[j]? with | some (Ar.inn _ _) => vs[j]? | _ => none, ⟨fun j => (g j).1, ?_⟩, fun hn => ?_, ?_⟩
  · refine ⟨fun x hx => by rw [hΦc] at hx; exact hx.1, fun _ => Sub.refl _, ?_, fun j v hj => ?_, fun j => ?_, fun j => ?_, fun j k n => ?_, fun j s o h1 h2 => ?_⟩
    · unfold L2.start
      rw [List.length_append, List.length_append, List.length_map, List.length_replicate, List.length_replicate, hN, hlc, hlv]
    · have : ∃ i p, as[j]? = some (.inn i p) := by
        cases q : as[j]? with
        | none => rw [q] at hj; cases hj
        | some x =>
          rw [q] at hj
          cases x with
          | inn i p => exact ⟨i, p, rfl⟩
          | len i p => cases hj
          | val d => cases hj
      obtain ⟨i, p, e0⟩ := this
      rw [e0] at hj
      replace hj : vs[j]? = some v := hj
      obtain ⟨c, hc, d, e, _, _, rfl⟩ := mkc_get hm e0
      have hjv : j < vs.length := (List.getElem?_eq_some_iff.mp hj).1
      refine ⟨?_, e, ?_⟩
      · unfold L2.start
        rw [List.getElem?_append_left (by rw [List.length_map]; exact hjv), List.getElem?_map, hj]; rfl
      · rw [List.getElem?_append_left (by rw [hlc, hlv]; exact hjv)]; exact hc
    · rcases gB j with ⟨i, p, e0, b⟩ | e
      · exact (a.aa i).mono b
      · show Al H (g j).1
        rw [e]; exact al_mt
    · intro x hx hc
      rw [hΦc] at hc
      exact hc.2 j hx
    · rcases gB j with ⟨i, p, e0, b⟩ | e
      · rcases gB k with ⟨i', p', e0', b'⟩ | e'
        · exact (a.ap i i' (okAr_ne ho e0 e0' n)).mono b b'
        · show Sep (g j).1 (g k).1
          rw [e']; exact mt_sep
      · show Sep (g j).1 (g k).1
        rw [e]; exact sep_mt
    · by_cases hj : j < as.length
      · rw [List.getElem?_append_left (by rw [hlc]; exact hj)] at h1
        unfold L2.start at h2
        rw [List.getElem?_append_left (by rw [List.length_map, ← hlv]; exact hj), List.getElem?_map] at h2
        obtain ⟨c, hc, mo⟩ := mkc_get hm (List.getElem?_eq_getElem hj)
        obtain ⟨v, hv, ao⟩ := ar.get (List.getElem?_eq_getElem hj)
        rw [hc] at h1; cases h1
        rw [hv] at h2; cases h2
        have ej : as[j]? = some as[j] := List.getElem?_eq_getElem hj
        generalize as[j] = x at mo ao ej
        cases x with
        | inn i p =>
          obtain ⟨d, e, h1, h2, rfl⟩ := mo
          obtain ⟨d', e', v0, w, q1, q2, q3, q4, q5, _⟩ := (hg j).1 i p ej
          rw [h1] at q1; cases q1
          rw [h2] at q2; cases q2
          rw [hv] at q4; cases q4
          exact ⟨v, rfl, q5⟩
        | len i p =>
          obtain ⟨d, e, h1, h2, rfl⟩ := mo
          obtain ⟨v0, hv0, va⟩ := ao
          unfold valAt at h1
          cases qs : ss[i]? with
          | none => rw [qs] at h1; cases h1
          | some s1 =>
            rw [qs] at h1
            have nin : ∀ j p, as[j]? ≠ some (Ar.inn i p) := fun k q z => okLe_ne hl ej z rfl
            have q := a.ok i _ _ qs hv0
            have ow : Own K C H d v0 Φc := by
              cases s1 with
              | no => cases h1
              | own x => cases h1; obtain ⟨_, z, w⟩ := q; cases z; exact w.mono (sAs i nin)
              | inn x => cases h1; obtain ⟨_, z, w⟩ := q; cases z; exact w.mono (sAs i nin)
              | bor x => cases h1; obtain ⟨_, z, w⟩ := q; cases z; exact w.mono ((psi i).trans sΦ)
            obtain ⟨w', B1, S1, va', o1, b1, _⟩ := lens ow h2
            cases va.det va'
            exact ⟨v, rfl, o1.mono b1⟩
        | val d =>
          obtain rfl := mo
          exact ⟨v, rfl, ao.mono (cup_r.trans sΦB)⟩
      · rw [List.getElem?_append_right (by rw [hlc]; omega)] at h1
        rw [List.getElem?_replicate] at h1
        split at h1
        · cases h1; trivial
        · cases h1
  · rw [hΦc]
    refine fun x hx => ⟨hx, fun j hj => ?_⟩
    rw [notI fun i p q => by have := arN_mem q; rw [hn] at this; cases this] at hj
    exact hj
  · intro H' B' s' σ' s2 kp rel' spB' hb
    obtain ⟨As', a'⟩ := rel'
    refine ⟨kp.mono sΦ, ?_, spB'.mono (Sub.refl _) sΦ⟩
    have inn' : ∀ {j i : Nat} {p : List Stp}, as[j]? = some (.inn i p) → ∃ w, vs[j]? = some w ∧ ∀ e', s'[j]? = some (.inn e') → Own K C H' e' w (As' j) := fun {j i p} e0 => by
      obtain ⟨w, hw, _⟩ := ar.get e0
      refine ⟨w, hw, fun e' he => ?_⟩
      obtain ⟨h1, _⟩ := a'.pin j w (by simp only [e0]; exact hw)
      obtain ⟨x, z, ow⟩ := a'.ok j _ _ he h1
      cases z
      exact ow
    have sepA : ∀ j, Sep (As' j) Φc := fun j => (a'.af j).mono (Sub.refl _) cup_l
    have alΦ : Al H' Φc := a'.al.mono cup_l
    have keyS : ∀ {j i : Nat} {p : List Stp}, as[j]? = some (.inn i p) → Sub (g j).2 (As i) ∧ Sub (g j).2 Φc := fun {j i p} e0 => by
      obtain ⟨_, _, _, _, _, _, _, _, _, b, c, dd, _⟩ := (hg j).1 i p e0
      refine ⟨c, inC _ ((a.aa i).mono c) fun j' i' p' e0' => ?_⟩
      by_cases n : j' = j
      · subst n
        rw [e0] at e0'; cases e0'
        exact dd
      · obtain ⟨_, _, _, _, _, _, _, _, _, b', _⟩ := (hg j').1 i' p' e0'
        exact (a.ap i' i (okAr_ne ho e0' e0 n)).mono b' c
    refine bk_rel (As := fun k => fun x => As k x ∧ k ∉ arN as) (T := fun j => Cup (g j).2 (As' j)) (as := as) (cs := s') (s := ss) ⟨?_, ?_, a.len, a.pin, ?_, ?_, ?_, ?_⟩ hb ho ?_ ?_
    · exact (alΦ.mono sΦ).cup (a'.al.mono cup_r)
    · exact fun i => (psi i).trans cup_l
    · intro k x hx
      refine (alΦ.mono (sAs k fun j p e0 => hx.2 (arN_mem e0))) x hx.1
    · intro k x hx hc
      rcases hc with hc | hc
      · exact a.af k x hx.1 (.inl hc)
      · exact spB' x hc (sAs k (fun j p e0 => hx.2 (arN_mem e0)) x hx.1)
    · exact fun i j n x hx hy => a.ap i j n x hx.1 hy.1
    · intro k s o nk h1 h2
      have nin : ∀ j p, as[j]? ≠ some (Ar.inn k p) := fun j p z => nk (arN_mem z)
      have q := (a.ok k s o h1 h2).keep (kp.mono (sAs k nin)) ((kp.mono sΦ).mono (psi k))
      have e : (fun x => As k x ∧ k ∉ arN as) = As k := funext fun x => propext ⟨fun z => z.1, fun z => ⟨z, nk⟩⟩
      show SlOk K C H' (Λ k) (fun x => As k x ∧ k ∉ arN as) s o
      rw [e]; exact q
    · intro j i p e0
      obtain ⟨d, e, v0, w, q1, q2, q3, q4, q5, q6, q7, q8, q9⟩ := (hg j).1 i p e0
      obtain ⟨s1, s2⟩ := keyS e0
      obtain ⟨w', hw', ow⟩ := inn' e0
      rw [q4] at hw'; cases hw'
      refine ⟨d, v0, q1, q3, fun e' he => q9 H' e' (As' j) (kp.mono s2) (ow e' he) ((sepA j).mono (Sub.refl _) s2), ?_, ?_, fun k nk => ?_⟩
      · exact (alΦ.mono s2).cup (a'.aa j)
      · refine Sep.cupl (Sep.cup ?_ ?_) (Sep.cup ?_ ?_)
        · exact (a.af i).mono s1 cup_l
        · exact (spB'.mono (Sub.refl _) s2).symm
        · exact (sepA j).mono (Sub.refl _) sΦ
        · exact (a'.af j).mono (Sub.refl _) cup_r
      · intro x hx hy
        rcases hx with hx | hx
        · exact a.ap i k (fun z => nk z.symm) x (s1 x hx) hy.1
        · exact sepA j x hx (sAs k (fun j p e0 => hy.2 (arN_mem e0)) x hy.1)
    · intro j j' i i' p p' e0 e0' n
      obtain ⟨s1, s2⟩ := keyS e0
      obtain ⟨s1', s2'⟩ := keyS e0'
      refine Sep.cupl (Sep.cup ?_ ?_) (Sep.cup ?_ ?_)
      · exact (a.ap i i' (okAr_ne ho e0 e0' n)).mono s1 s1'
      · exact ((sepA j').mono (Sub.refl _) s2).symm
      · exact (sepA j).mono (Sub.refl _) s2'
      · exact a'.ap j j' n
end
end Dy

/-! The words of a call: f(..), o.m(..), C(..), and the def's own rule. -/
namespace Dy
open PySem L2
section
variable (K : PySem.W.Frag) (C : Nat → Addr) (W : WX)
def PostR (Φ : AP) (Λ : Nat → AP) (π : Nat → Option V) (σ : L2.St) (H : Hp) (Q : List V → Hp → Prop) : R (List Ar) → Prop
  | .ok as s => ∀ vs H' B, Keep Φ H H' → Rel K C (Cup Φ B) Λ π s σ H' → Sep B Φ → ArL K C H' σ as vs B → Q vs H'
  | .exc x s => PostX K C W Φ Λ π σ H x s
  | .stuck => False
def SimR (t : TA) (G : SS → R (List Ar)) : Prop := ∀ Φ Λ π ss σ H (Q : List V → Hp → Prop), Rel K C Φ Λ π ss σ H → PostR K C W Φ Λ π σ H Q (G ss) → t σ H Q
def SimRP (t : TA) (G : SS → Option (List Ar)) : Prop := ∀ Φ Λ π ss σ H (Q : List V → Hp → Prop) as, Rel K C Φ Λ π ss σ H → G ss = some as →
  (∀ vs H' B, Same H H' → Fr H B → Al H' B → ArL K C H' σ as vs B → Q vs H') → t σ H Q
end
def rP (G : SS → Option (List Ar)) : SS → R (List Ar) := fun s => R.of (G s) s
section
variable {K : PySem.W.Frag} {C : Nat → Addr} {W : WX} {Φ : AP} {Λ : Nat → AP} {π : Nat → Option V} {ss : SS} {σ : L2.St} {H H' : Hp}
theorem ArL.mono {A B : AP} {as : List Ar} {vs : List V} (h : ArL K C H σ as vs A) (s : Sub A B) : ArL K C H σ as vs B := by
  induction h with
  | nil => exact .nil
  | inn a b _ ih => exact .inn a b (ih s)
  | len a b _ ih => exact .len a b (ih s)
  | val a _ ih => exact .val (a.mono s) (ih s)
theorem ArL.same {A : AP} {as : List Ar} {vs : List V} (h : ArL K C H σ as vs A) (s : Same H H') : ArL K C H' σ as vs A := by
  induction h with
  | nil => exact .nil
  | inn a b _ ih => exact .inn a (b.same s) ih
  | len a b _ ih => exact .len a (b.same s) ih
  | val a _ ih => exact .val (a.same s) ih
theorem SimRP.r {t : TA} {G : SS → Option (List Ar)} (h : SimRP K C t G) : SimR K C W t (rP G) := fun Φ Λ π ss σ H Q r p => by
  unfold rP at p
  cases e : G ss with
  | none => rw [e] at p; exact p.elim
  | some as =>
    rw [e] at p
    exact h Φ Λ π ss σ H Q as r e fun vs H' B s f al o => p vs H' B (Keep.of s) (r.grow s f al) ((fr_sep f r.al).symm) o
def qN : SS → Option (List Ar) := fun _ => some []
def qV (F : SS → Option D) (G : SS → Option (List Ar)) : SS → Option (List Ar) := fun s => (F s).bind fun d => (G s).map fun r => .val d :: r
def qI (i : Nat) (PF : SS → Option (List Stp)) (G : SS → Option (List Ar)) : SS → Option (List Ar) := fun s => (PF s).bind fun p => (fP i PF s).bind fun _ => (G s).map fun r => .inn i p :: r
def qL (i : Nat) (PF : SS → Option (List Stp)) (G : SS → Option (List Ar)) : SS → Option (List Ar) := fun s => (PF s).bind fun p => (fP i PF s).bind fun _ => (G s).map fun r => .len i p :: r
theorem srp_nil : SimRP K C tNil qN := fun Φ Λ π ss σ H Q as r e k => by cases e; exact k [] H Mt (Same.refl H) fr_mt al_mt .nil
theorem srp_val {te : TE} {tr : TA} {F : SS → Option D} {G : SS → Option (List Ar)} (ha : SimF K C te F) (hr : SimRP K C tr G) : SimRP K C (tCons te tr) (qV F G) := fun Φ Λ π ss σ H Q as rel e k => by
  unfold qV at e
  cases ea : F ss with
  | none => rw [ea] at e; cases e
  | some x =>
    cases eb : G ss with
    | none => rw [ea, eb] at e; cases e
    | some y =>
      rw [ea, eb] at e; cases e
      refine ha Φ Λ π ss σ H _ x rel ea fun v H1 B1 s1 f1 al1 o1 => ?_
      refine hr Φ Λ π ss σ H1 _ y (rel.same s1) eb fun u H2 B2 s2 f2 al2 o2 => ?_
      exact k _ _ (Cup B1 B2) (s1.trans s2) (fun a z => z.elim (f1 a) fun z => s1.free (f2 a z)) ((al1.same s2).cup al2) (.val ((o1.same s2).mono cup_l) (o2.mono cup_r))
theorem fP_inv {i : Nat} {PF : SS → Option (List Stp)} {p : List Stp} {e : D} (h1 : PF ss = some p) (h : fP i PF ss = some e) : ∃ d, valAt i ss = some d ∧ getP d p = some e := by
  unfold fP at h
  rw [h1] at h
  simp only [Option.bind_eq_some_iff] at h
  obtain ⟨_, hp, d, h2, h3⟩ := h
  cases hp
  exact ⟨d, h2, h3⟩
theorem srp_inn {i : Nat} {PF : SS → Option (List Stp)} {te : TE} {tr : TA} {G : SS → Option (List Ar)} (ha : SimLP K C te i PF) (hr : SimRP K C tr G) : SimRP K C (tCons te tr) (qI i PF G) := fun Φ Λ π ss σ H Q as rel e k => by
  unfold qI at e
  cases ea : PF ss with
  | none => rw [ea] at e; cases e
  | some p =>
    cases ec : fP i PF ss with
    | none => rw [ea, ec] at e; cases e
    | some y0 =>
    cases eb : G ss with
    | none => rw [ea, eb, ec] at e; cases e
    | some y =>
      rw [ea, eb, ec] at e; cases e
      obtain ⟨d, h1, h2⟩ := fP_inv ea ec
      refine ha Φ Λ π ss σ H _ d p y0 rel h1 ea h2 fun v w H1 e1 s1 va => ?_
      refine hr Φ Λ π ss σ H1 _ y (rel.same s1) eb fun u H2 B2 s2 f2 al2 o2 => ?_
      exact k _ _ B2 (s1.trans s2) (fun a z => s1.free (f2 a z)) al2 (.inn e1 (va.same s2) o2)
theorem srp_len {i : Nat} {PF : SS → Option (List Stp)} {te : TE} {tr : TA} {G : SS → Option (List Ar)} (ha : SimLP K C te i PF) (hr : SimRP K C tr G) : SimRP K C (tCons te tr) (qL i PF G) := fun Φ Λ π ss σ H Q as rel e k => by
  unfold qL at e
  cases ea : PF ss with
  | none => rw [ea] at e; cases e
  | some p =>
    cases ec : fP i PF ss with
    | none => rw [ea, ec] at e; cases e
    | some y0 =>
    cases eb : G ss with
    | none => rw [ea, eb, ec] at e; cases e
    | some y =>
      rw [ea, eb, ec] at e; cases e
      obtain ⟨d, h1, h2⟩ := fP_inv ea ec
      refine ha Φ Λ π ss σ H _ d p y0 rel h1 ea h2 fun v w H1 e1 s1 va => ?_
      refine hr Φ Λ π ss σ H1 _ y (rel.same s1) eb fun u H2 B2 s2 f2 al2 o2 => ?_
      exact k _ _ B2 (s1.trans s2) (fun a z => s1.free (f2 a z)) al2 (.len e1 (va.same s2) o2)
/-! with effects: what is handed in by place is a slot -/
def gV (F : SS → R D) (G : SS → R (List Ar)) : SS → R (List Ar) := fun s => (F s).bind fun d s1 => (G s1).bind fun r s2 => .ok (.val d :: r) s2
def gI (i : Nat) (G : SS → R (List Ar)) : SS → R (List Ar) := fun s => match valAt i s with
  | some _ => (G s).bind fun r s2 => .ok (.inn i [] :: r) s2
  | none => .stuck
def gL (i : Nat) (G : SS → R (List Ar)) : SS → R (List Ar) := fun s => match valAt i s with
  | some _ => (G s).bind fun r s2 => .ok (.len i [] :: r) s2
  | none => .stuck
theorem sr_val {te : TE} {tr : TA} {F : SS → R D} {G : SS → R (List Ar)} (ha : SimE K C W te F) (hr : SimR K C W tr G) : SimR K C W (tCons te tr) (gV F G) := fun Φ Λ π ss σ H Q rel p => by
  unfold gV at p
  refine ha Φ Λ π ss σ H _ rel ?_
  cases ea : F ss with
  | stuck => rw [ea] at p; exact p
  | exc x s => rw [ea] at p; exact p
  | ok x s1 =>
    rw [ea] at p
    intro v H1 B1 k1 r1 sp1 o1
    refine hr (Cup Φ B1) Λ π s1 σ H1 _ r1 ?_
    have p' : PostR K C W Φ Λ π σ H Q ((G s1).bind fun r s2 => .ok (.val x :: r) s2) := p
    cases eb : G s1 with
    | stuck => rw [eb] at p'; exact p'
    | exc x s => rw [eb] at p'; exact PostX.more p' k1 rel.psi
    | ok y s2 =>
      rw [eb] at p'
      intro u H2 B2 k2 r2 sp2 o2
      refine p' (v :: u) H2 (Cup B1 B2) (k1.trans (k2.mono cup_l)) (r2.eqv ?_ ?_) (Sep.cupl sp1 (sp2.mono (Sub.refl _) cup_l)) (.val ((o1.keep (k2.mono cup_r)).mono cup_l) (o2.mono cup_r))
      · exact cup_sub (cup_sub cup_l (cup_l.trans cup_r)) (cup_r.trans cup_r)
      · exact cup_sub (cup_l.trans cup_l) (cup_sub (cup_r.trans cup_l) cup_r)
theorem sr_slot {i : Nat} {tr : TA} {G : SS → R (List Ar)} {f : List Ar → List Ar} (hf : ∀ H v as vs B, σ[i]? = some (some v) → ArL K C H σ as vs B → ArL K C H σ (f as) (v :: vs) B) (hr : SimR K C W tr G) {Q : List V → Hp → Prop} (rel : Rel K C Φ Λ π ss σ H)
    (p : PostR K C W Φ Λ π σ H Q (match valAt i ss with | some _ => (G ss).bind fun r s2 => .ok (f r) s2 | none => .stuck)) : tCons (tVar i) tr σ H Q := by
  cases e : valAt i ss with
  | none => rw [e] at p; exact p.elim
  | some d =>
    rw [e] at p
    obtain ⟨v, A, e1, al, o⟩ := rel.val e
    refine ⟨v, e1, hr Φ Λ π ss σ H _ rel ?_⟩
    have p' : PostR K C W Φ Λ π σ H Q ((G ss).bind fun r s2 => .ok (f r) s2) := p
    cases eb : G ss with
    | stuck => rw [eb] at p'; exact p'
    | exc x s => rw [eb] at p'; exact p'
    | ok y s2 =>
      rw [eb] at p'
      exact fun u H2 B2 k2 r2 sp2 o2 => p' (v :: u) H2 B2 k2 r2 sp2 (hf _ _ _ _ _ e1 o2)
theorem sr_inn (i : Nat) {tr : TA} {G : SS → R (List Ar)} (hr : SimR K C W tr G) : SimR K C W (tCons (tVar i) tr) (gI i G) := fun Φ Λ π ss σ H Q rel p =>
  sr_slot (f := fun r => .inn i [] :: r) (fun H v as vs B e a => .inn e rfl a) hr rel p
theorem sr_len (i : Nat) {tr : TA} {G : SS → R (List Ar)} (hr : SimR K C W tr G) : SimR K C W (tCons (tVar i) tr) (gL i G) := fun Φ Λ π ss σ H Q rel p =>
  sr_slot (f := fun r => .len i [] :: r) (fun H v as vs B e a => .len e rfl a) hr rel p

/-! ### the promise -/
def dE (Q : VK) : Ends := { nx := fun _ H' => Q .non H', rt := Q }
def spD (K : PySem.W.Frag) (C : Nat → Addr) (N : List Str) (n : Nat) (Fn : SS → RS) : Sp := fun vs H Q E =>
  vs.length = n ∧ ∃ Φ Λ π ss, Rel K C Φ Λ π ss (L2.start N vs) H ∧ PostS K C (fun cls da _ H => E cls da H) Φ Λ π H (dE Q) (Fn ss)
/-- the def's own rule -/
theorem def_ok {P : Program} {w : World} {mg : Str → Option Value} {base : Heap} {x qual : Str} {st : Stmt} {f : Addr} {fd : FuncData} {N ps : List Str} {k : Nat} {Fn : SS → RS} (F : FunD K x qual (defArgs st) (defBody st) (defScope st) [] [] f fd) (S : FnScope N ps (defScope st))
    (hb : ∀ (cdv : Value) (A : Around) (outer : List Env) (s : Shared) (H : Hp) (E : XK) (W : WX), Room k (A.deeper (PyProof.Rows.envOfC qual (defScope st) s.heap.objs.size f cdv)) → Takes (cxOf (L2.CX P w) P w K mg base N qual (defScope st) f cdv A outer s H E) W →
      ∃ t, PSs (cxOf (L2.CX P w) P w K mg base N qual (defScope st) f cdv A outer s H E) (defBody st) t ∧ SimS K C W t Fn) : FnOk P w K mg base (L2.CX P w) (k + 1) f fd ps (spD K C N ps.length Fn) := by
  refine F.ok S (fun vs H Q E h => h.1) (fun cdv A outer s H vs Q E hr h => ?_)
  obtain ⟨t, h1, h2⟩ := hb cdv A outer s H E (fun cls d _ H => E cls d H) hr (takes_of rfl rfl rfl rfl)
  obtain ⟨_, Φ, Λ, π, ss, rel, post⟩ := h
  exact ⟨t, h1, h2 Φ Λ π ss _ H _ rel post⟩
/-- what a call makes of the slots -/
def fnR (n m : Nat) (Fn : SS → RS) (as : List Ar) (s : SS) : R D :=
  if (as.length == n && okAr as && okLe as) = true then
    match mkc as s with
    | none => .stuck
    | some cs => match Fn (cs ++ List.replicate m .no) with
      | .ret d s' => match bk as s' s with
        | some s2 => .ok d s2
        | none => .stuck
      | .nx s' => match bk as s' s with
        | some s2 => .ok .non s2
        | none => .stuck
      | .exc x s' => match bk as s' s with
        | some s2 => .exc x s2
        | none => .stuck
      | _ => .stuck
  else .stuck
theorem fn_core {n m : Nat} {N : List Str} {Fn : SS → RS} {as : List Ar} {s : SS} {vs : List V} {B : AP} {H1 : Hp} {Q : VK} (k1 : Keep Φ H H1) (r1 : Rel K C (Cup Φ B) Λ π s σ H1) (sp1 : Sep B Φ) (psi : ∀ i, Sub (Λ i) Φ) (ar : ArL K C H1 σ as vs B) (hN : N.length - n = m)
    (p : PostE K C W Φ Λ π σ H Q (fnR n m Fn as s)) : spD K C N n Fn vs H1 Q (WE W σ) := by
  unfold fnR at p
  split at p
  · rename_i hc
    simp only [Bool.and_eq_true, beq_iff_eq] at hc
    obtain ⟨⟨h1, h2⟩, h3⟩ := hc
    cases hm : mkc as s with
    | none => rw [hm] at p; exact p.elim
    | some cs =>
      rw [hm] at p
      simp only at p
      obtain ⟨Φc, Λc, πc, rel, _, back⟩ := call_rel (N := N) (m := m) r1 sp1 psi ar hm h2 h3 (by rw [← ar.length, h1]; exact hN)
      refine ⟨by rw [← ar.length]; exact h1, Φc, Λc, πc, _, rel, ?_⟩
      cases hF : Fn (cs ++ List.replicate m .no) with
      | stuck => rw [hF] at p; exact p.elim
      | brk s' => rw [hF] at p; exact p.elim
      | ct s' => rw [hF] at p; exact p.elim
      | ret d s' =>
        rw [hF] at p
        simp only at p
        cases hb : bk as s' s with
        | none => rw [hb] at p; exact p.elim
        | some s2 =>
          rw [hb] at p
          intro v σ' H' B' kp rel' sp' o'
          obtain ⟨q1, q2, q3⟩ := back H' B' s' σ' s2 kp rel' sp' hb
          exact p v H' B' (k1.trans q1) q2 q3 o'
      | nx s' =>
        rw [hF] at p
        simp only at p
        cases hb : bk as s' s with
        | none => rw [hb] at p; exact p.elim
        | some s2 =>
          rw [hb] at p
          intro σ' H' kp rel'
          obtain ⟨q1, q2, q3⟩ := back H' Mt s' σ' s2 kp rel'.mt sep_mt hb
          exact p .non H' Mt (k1.trans q1) q2 q3 .non
      | exc x s' =>
        rw [hF] at p
        simp only at p
        cases hb : bk as s' s with
        | none => rw [hb] at p; exact p.elim
        | some s2 =>
          rw [hb] at p
          intro σ' H' cls da kp rel' ix
          obtain ⟨q1, q2, q3⟩ := back H' Mt s' σ' s2 kp rel'.mt sep_mt hb
          exact p H' cls da (k1.trans q1) (q2.shrink cup_l psi) ix
  · exact p.elim
/-- f(..) -/
def eCall (n m : Nat) (Fn : SS → RS) (G : SS → R (List Ar)) : SS → R D := fun s => (G s).bind fun as s1 => fnR n m Fn as s1
theorem se_fn {n m : Nat} {N : List Str} {Fn : SS → RS} {ta : TA} {G : SS → R (List Ar)} (ha : SimR K C W ta G) (hN : N.length - n = m) : SimE K C W (tCallS (spD K C N n Fn) (WE W) ta) (eCall n m Fn G) := fun Φ Λ π ss σ H Q rel p => by
  unfold eCall at p
  refine ha Φ Λ π ss σ H _ rel ?_
  cases eb : G ss with
  | stuck => rw [eb] at p; exact p
  | exc x s => rw [eb] at p; exact p
  | ok as s1 =>
    rw [eb] at p
    intro vs H1 B1 k1 r1 sp1 ar
    exact fn_core k1 r1 sp1 rel.psi ar hN p
/-! o.m(..) -/
def tMethS (C : Addr) (m : Str) (sp : Sp) (E : L2.St → XK) (ta : TE) (t : TA) : TE := fun σ H Q => ta σ H fun x H1 => ∃ a dx fs, x = .ref a ∧ H1 a = some (.ins C dx fs) ∧ fs.lookup m = none ∧ t σ H1 fun vs H2 => sp (x :: vs) H2 Q (E σ)
def obOk (c : Nat) (m : Str) : D → Bool
  | .ob c' ns _ => c' == c && !ns.contains m
  | _ => false
theorem lookup_zip_none {m : Str} : ∀ {ns : List Str} {vs : List V}, ns.contains m = false → (ns.zip vs).lookup m = none
  | [], _, _ => rfl
  | n :: ns, [], _ => rfl
  | n :: ns, v :: vs, h => by
    simp only [List.contains_cons, Bool.or_eq_false_iff] at h
    rw [List.zip_cons_cons, List.lookup_cons, h.1]
    exact lookup_zip_none h.2
theorem obOk_ins {c : Nat} {m : Str} {e : D} {v : V} {A : AP} (h : obOk c m e = true) (o : Own K C H e v A) : ∃ a dx fs, v = .ref a ∧ H a = some (.ins (C c) dx fs) ∧ fs.lookup m = none := by
  cases o <;> simp only [obOk] at h <;> try (cases h)
  rename_i a dx c' ns vs ds l q ha y
  simp only [Bool.and_eq_true, beq_iff_eq, Bool.not_eq_true'] at h
  obtain ⟨rfl, hn⟩ := h
  exact ⟨a, dx, _, rfl, q, lookup_zip_none hn⟩
/-- of what a slot holds; f: how it is handed in -/
def eMethR (f : Nat → List Stp → Ar) (i c : Nat) (mn : Str) (n m : Nat) (Fn : SS → RS) (G : SS → R (List Ar)) : SS → R D := fun s => match valAt i s with
  | some e => if obOk c mn e = true then (G s).bind fun as s1 => fnR n m Fn (f i [] :: as) s1 else .stuck
  | none => .stuck
def ArF (f : Nat → List Stp → Ar) : Prop := f = Ar.inn ∨ f = Ar.len
theorem ArF.mk {f : Nat → List Stp → Ar} (hf : ArF f) {i : Nat} {p : List Stp} {v v0 : V} {as : List Ar} {vs : List V} {B : AP} (h1 : σ[i]? = some (some v0)) (h2 : VAt H v0 p v) (h3 : ArL K C H σ as vs B) : ArL K C H σ (f i p :: as) (v :: vs) B := by
  rcases hf with rfl | rfl
  · exact .inn h1 h2 h3
  · exact .len h1 h2 h3
theorem se_methR {f : Nat → List Stp → Ar} (hf : ArF f) {i c n m : Nat} {mn : Str} {N : List Str} {Fn : SS → RS} {ta : TA} {G : SS → R (List Ar)} (ha : SimR K C W ta G) (hN : N.length - n = m) : SimE K C W (tMethS (C c) mn (spD K C N n Fn) (WE W) (tVar i) ta) (eMethR f i c mn n m Fn G) := fun Φ Λ π ss σ H Q rel p => by
  unfold eMethR at p
  cases e : valAt i ss with
  | none => rw [e] at p; exact p.elim
  | some d =>
    rw [e] at p
    simp only at p
    split at p
    · rename_i ho
      obtain ⟨v, A, e1, al, o⟩ := rel.val e
      refine ⟨v, e1, ?_⟩
      obtain ⟨a, dx, fs, rfl, q1, q2⟩ := obOk_ins ho o
      refine ⟨a, dx, fs, rfl, q1, q2, ha Φ Λ π ss σ H _ rel ?_⟩
      cases eb : G ss with
      | stuck => rw [eb] at p; exact p
      | exc x s => rw [eb] at p; exact p
      | ok as s1 =>
        rw [eb] at p
        intro vs H1 B1 k1 r1 sp1 ar
        exact fn_core k1 r1 sp1 rel.psi (hf.mk (p := []) e1 rfl ar) hN p
    · exact p.elim
/-- of what stands at a place -/
def eMethP (f : Nat → List Stp → Ar) (i : Nat) (PF : SS → Option (List Stp)) (c : Nat) (mn : Str) (n m : Nat) (Fn : SS → RS) (G : SS → Option (List Ar)) : SS → R D := fun s => match PF s, fP i PF s with
  | some p, some e => if obOk c mn e = true then match G s with
      | some as => fnR n m Fn (f i p :: as) s
      | none => .stuck
    else .stuck
  | _, _ => .stuck
theorem se_methP {f : Nat → List Stp → Ar} (hf : ArF f) {i c n m : Nat} {mn : Str} {N : List Str} {Fn : SS → RS} {PF : SS → Option (List Stp)} {te : TE} {ta : TA} {G : SS → Option (List Ar)} (hp : SimLP K C te i PF) (ha : SimRP K C ta G) (hN : N.length - n = m) :
    SimE K C W (tMethS (C c) mn (spD K C N n Fn) (WE W) te ta) (eMethP f i PF c mn n m Fn G) := fun Φ Λ π ss σ H Q rel p => by
  unfold eMethP at p
  cases e0 : PF ss with
  | none => rw [e0] at p; exact p.elim
  | some pp =>
    cases e : fP i PF ss with
    | none => rw [e0, e] at p; exact p.elim
    | some d =>
      rw [e0, e] at p
      simp only at p
      split at p
      · rename_i ho
        cases eb : G ss with
        | none => rw [eb] at p; exact p.elim
        | some as =>
          rw [eb] at p
          obtain ⟨d0, g1, g2⟩ := fP_inv e0 e
          refine hp Φ Λ π ss σ H _ d0 pp d rel g1 e0 g2 fun v0 v H1 e1 sm va => ?_
          obtain ⟨v', A, e2, al, o⟩ := (rel.same sm).val g1
          rw [e1] at e2; cases e2
          obtain ⟨w', B', S', va', o', _⟩ := lens o g2
          cases va.det va'
          obtain ⟨a, dx, fs, rfl, q1, q2⟩ := obOk_ins ho o'
          refine ⟨a, dx, fs, rfl, q1, q2, ha Φ Λ π ss σ H1 _ as (rel.same sm) eb fun vs H2 B s2 f2 al2 ar => ?_⟩
          have r2 := (rel.same sm).grow s2 f2 al2
          exact fn_core (Keep.of (sm.trans s2)) r2 ((fr_sep f2 (rel.same sm).al).symm) rel.psi (hf.mk e1 (va.same s2) ar) hN p
      · exact p.elim
/-! C(..) -/
theorem Rel.cons {d : D} {v : V} {A : AP} (r : Rel K C Φ Λ π ss σ H) (s : Same H H') (f : Fr H A) (al : Al H' A) (o : Own K C H' d v A) :
    Rel K C Φ (fun j => match j with | 0 => Φ | j + 1 => Λ j) (fun j => match j with | 0 => some v | j + 1 => π j) (.inn d :: ss) (some v :: σ) H' := by
  obtain ⟨As, a0⟩ := r
  have a := a0.same s
  refine ⟨fun j => match j with | 0 => A | j + 1 => As j, a.al, fun j => ?_, by simp [a.len], fun j w hj => ?_, fun j => ?_, fun j => ?_, fun j k n => ?_, fun j t w h1 h2 => ?_⟩
  · cases j with
    | zero => exact Sub.refl _
    | succ j => exact a.sub j
  · cases j with
    | zero => cases hj; exact ⟨rfl, d, rfl⟩
    | succ j => obtain ⟨h1, x, h2⟩ := a.pin j w hj; exact ⟨by simpa using h1, x, by simpa using h2⟩
  · cases j with
    | zero => exact al
    | succ j => exact a.aa j
  · cases j with
    | zero => exact (fr_sep f a0.al).symm
    | succ j => exact a.af j
  · cases j with
    | zero => cases k with
      | zero => exact (n rfl).elim
      | succ k => exact (fr_sep f (a0.aa k)).symm
    | succ j => cases k with
      | zero => exact fr_sep f (a0.aa j)
      | succ k => exact a.ap j k fun z => n (by rw [z])
  · cases j with
    | zero => simp at h1 h2; subst h1; subst h2; exact ⟨v, rfl, o⟩
    | succ j => exact a.ok j t w (by simpa using h1) (by simpa using h2)
def tMakeS (C : Addr) (sp : Sp) (E : L2.St → XK) (t : TA) : TE := fun σ H Q => t σ H fun vs H1 => ∀ x dx, H1 x = none → H1 dx = none → dx ≠ x →
  sp (.ref x :: vs) (upd (upd H1 dx (.own x)) x (.ins C dx [])) (fun v H2 => v = .non ∧ Q (.ref x) H2) (E σ)
def mkR (c n m : Nat) (Fn : SS → RS) (as : List Ar) (s : SS) : R D :=
  if (as.length == n && okAr as && okLe as) = true then
    match mkc as s with
    | none => .stuck
    | some cs => match Fn (.inn (.ob c [] []) :: (cs ++ List.replicate m .no)) with
      | .nx (.inn d :: s') => match bk as s' s with
        | some s2 => .ok d s2
        | none => .stuck
      | .ret .non (.inn d :: s') => match bk as s' s with
        | some s2 => .ok d s2
        | none => .stuck
      | .exc x (.inn d :: s') => match bk as s' s with
        | some s2 => .exc x s2
        | none => .stuck
      | _ => .stuck
  else .stuck
def eMake (c n m : Nat) (Fn : SS → RS) (G : SS → R (List Ar)) : SS → R D := fun s => (G s).bind fun as s1 => mkR c n m Fn as s1
theorem se_make {c n m : Nat} {nm : Str} {N : List Str} {Fn : SS → RS} {ta : TA} {G : SS → R (List Ar)} (ha : SimR K C W ta G) (hN : N.length - n = m) : SimE K C W (tMakeS (C c) (spD K C (nm :: N) (n + 1) Fn) (WE W) ta) (eMake c n m Fn G) := fun Φ Λ π ss σ H Q rel p => by
  unfold eMake at p
  refine ha Φ Λ π ss σ H _ rel ?_
  cases eb : G ss with
  | stuck => rw [eb] at p; exact p
  | exc x s => rw [eb] at p; exact p
  | ok as s1 =>
    rw [eb] at p
    intro vs H1 B1 k1 r1 sp1 ar x dx nx ndx nex
    have p' : PostE K C W Φ Λ π σ H Q (mkR c n m Fn as s1) := p
    unfold mkR at p'
    split at p'
    · rename_i hc
      simp only [Bool.and_eq_true, beq_iff_eq] at hc
      obtain ⟨⟨h1, h2⟩, h3⟩ := hc
      cases hm : mkc as s1 with
      | none => rw [hm] at p'; exact p'.elim
      | some cs =>
        rw [hm] at p'
        simp only at p'
        obtain ⟨Φc, Λc, πc, rel', _, back⟩ := call_rel (N := N) (m := m) r1 sp1 rel.psi ar hm h2 h3 (by rw [← ar.length, h1]; exact hN)
        have sm : Same H1 (upd (upd H1 dx (.own x)) x (.ins (C c) dx [])) := fun b o e => by
          rw [upd_ne (ne_of_none e nx), upd_ne (ne_of_none e ndx)]; exact e
        have frx : Fr H1 (One x) := fun b hb => by rw [show b = x from hb]; exact nx
        have alx : Al (upd (upd H1 dx (.own x)) x (.ins (C c) dx [])) (One x) := fun b hb => by rw [show b = x from hb, upd_same]; exact fun z => by cases z
        have ow : Own K C (upd (upd H1 dx (.own x)) x (.ins (C c) dx [])) (.ob c [] []) (.ref x) (One x) := .ob (vs := []) rfl rfl upd_same .nil
        have rc := rel'.cons (d := .ob c [] []) sm frx alx ow
        have est : (some (V.ref x) :: L2.start N vs) = L2.start (nm :: N) (.ref x :: vs) := by
          unfold L2.start
          simp
        rw [est] at rc
        refine ⟨by simp [← ar.length, h1], _, _, _, _, rc, ?_⟩
        have kf : Keep Φ H1 (upd (upd H1 dx (.own x)) x (.ins (C c) dx [])) := Keep.of sm
        -- what is left behind
        have fin : ∀ (H' : Hp) (s' : SS) (σ' : L2.St) (d : D) (B' : AP) (s2 : SS), Keep Φc (upd (upd H1 dx (.own x)) x (.ins (C c) dx [])) H' → Rel K C (Cup Φc B') (fun j => match j with | 0 => Φc | j + 1 => Λc j) (fun j => match j with | 0 => some (.ref x) | j + 1 => πc j) (.inn d :: s') σ' H' → Sep B' Φc → bk as s' s1 = some s2 →
            ∃ A, Keep Φ H H' ∧ Rel K C (Cup Φ A) Λ π s2 σ H' ∧ Sep A Φ ∧ Own K C H' d (.ref x) A := fun H' s' σ' d B' s2 kp rl sp' hb => by
          obtain ⟨As, a⟩ := rl
          obtain ⟨e1, _⟩ := a.pin 0 (.ref x) rfl
          obtain ⟨v, ev, o⟩ := a.ok 0 _ _ rfl e1
          cases ev
          cases σ' with
          | nil => simp at e1
          | cons o' σ'' =>
            have kk : Keep Φc H1 H' := (Keep.of sm).trans kp
            have rl2 : Rel K C (Cup Φc (Cup B' (As 0))) Λc πc s' σ'' H' := by
              refine ⟨fun j => As (j + 1), (a.al.mono cup_l).cup ((a.al.mono cup_r).cup (a.aa 0)), fun j => ?_, by simpa using a.len, fun j v hj => ?_, fun j => a.aa (j + 1), fun j => ?_, fun j k n => a.ap (j + 1) (k + 1) (by omega), fun j t w h1 h2 => a.ok (j + 1) t w (by simpa using h1) (by simpa using h2)⟩
              · exact (rel'.psi j).trans cup_l
              · obtain ⟨h1, d, h2⟩ := a.pin (j + 1) v hj
                exact ⟨by simpa using h1, d, by simpa using h2⟩
              · exact Sep.cup ((a.af (j + 1)).mono (Sub.refl _) cup_l) (Sep.cup ((a.af (j + 1)).mono (Sub.refl _) cup_r) (a.ap (j + 1) 0 (by omega)))
            obtain ⟨q1, q2, q3⟩ := back H' (Cup B' (As 0)) s' σ'' s2 kk rl2 (Sep.cupl sp' ((a.af 0).mono (Sub.refl _) cup_l)) hb
            exact ⟨As 0, k1.trans q1, q2.shrink (cup_sub cup_l (cup_r.trans cup_r)) (fun i => (rel.psi i).trans cup_l), q3.mono cup_r (Sub.refl _), o⟩
        cases hF : Fn (.inn (.ob c [] []) :: (cs ++ List.replicate m .no)) with
        | stuck => rw [hF] at p'; exact p'.elim
        | brk s' => rw [hF] at p'; exact p'.elim
        | ct s' => rw [hF] at p'; exact p'.elim
        | nx s' =>
          rw [hF] at p'
          cases s' with
          | nil => exact p'.elim
          | cons t s' =>
            cases t <;> try (exact p'.elim)
            rename_i d
            simp only at p'
            cases hb : bk as s' s1 with
            | none => rw [hb] at p'; exact p'.elim
            | some s2 =>
              rw [hb] at p'
              intro σ' H' kp rl
              obtain ⟨A, f1, f2, f3, f4⟩ := fin H' s' σ' d Mt s2 kp rl.mt sep_mt hb
              exact ⟨rfl, p' _ H' A f1 f2 f3 f4⟩
        | ret u s' =>
          rw [hF] at p'
          cases u <;> try (exact p'.elim)
          cases s' with
          | nil => exact p'.elim
          | cons t s' =>
            cases t <;> try (exact p'.elim)
            rename_i d
            simp only at p'
            cases hb : bk as s' s1 with
            | none => rw [hb] at p'; exact p'.elim
            | some s2 =>
              rw [hb] at p'
              intro v σ' H' B' kp rl sp' o'
              cases o'
              obtain ⟨A, f1, f2, f3, f4⟩ := fin H' s' σ' d B' s2 kp rl sp' hb
              exact ⟨rfl, p' _ H' A f1 f2 f3 f4⟩
        | exc e s' =>
          rw [hF] at p'
          cases s' with
          | nil => exact p'.elim
          | cons t s' =>
            cases t <;> try (exact p'.elim)
            rename_i d
            simp only at p'
            cases hb : bk as s' s1 with
            | none => rw [hb] at p'; exact p'.elim
            | some s2 =>
              rw [hb] at p'
              intro σ' H' cls da kp rl ix
              obtain ⟨A, f1, f2, f3, f4⟩ := fin H' s' σ' d Mt s2 kp rl.mt sep_mt hb
              exact p' H' cls da f1 (f2.shrink cup_l rel.psi) ix
    · exact p'.elim
end
end Dy

/-! Calls that change nothing; the words of calls with the wish at the slots; raise. -/
namespace Dy
open PySem PyProof.Rows L2
section
variable {K : PySem.W.Frag} {C : Nat → Addr} {W : WX} {Φ : AP} {Λ : Nat → AP} {π : Nat → Option V} {ss : SS} {σ : L2.St} {H H' : Hp}
/-- f(..) of one that changes nothing and lets nothing out -/
def pFn (n m : Nat) (Fn : SS → RS) (as : List Ar) : Option D :=
  if (as.length == n && (arN as).isEmpty) = true then match fnR n m Fn as [] with
    | .ok d _ => some d
    | _ => none
  else none
def lnd : List Ar → SS → Option (List Ar)
  | [], _ => some []
  | .len i p :: as, s => (valAt i s).bind fun d => (getP d p).bind fun e => (lnd as s).map fun r => .val e :: r
  | .val d :: as, s => (lnd as s).map fun r => .val d :: r
  | .inn _ _ :: _, _ => none
theorem mkc_lnd : ∀ {as bs : List Ar} {s s' : SS}, lnd as s = some bs → mkc as s = mkc bs s' ∧ arN as = [] ∧ arN bs = [] ∧ arL bs = [] ∧ bs.length = as.length
  | [], bs, s, s', h => by cases h; exact ⟨rfl, rfl, rfl, rfl, rfl⟩
  | .len i p :: as, bs, s, s', h => by
    unfold lnd at h
    simp only [Option.bind_eq_some_iff, Option.map_eq_some_iff] at h
    obtain ⟨d, h1, e, h2, r, h3, rfl⟩ := h
    obtain ⟨q1, q2, q3, q4, q5⟩ := mkc_lnd (s' := s') h3
    refine ⟨?_, q2, q3, q4, by simp [q5]⟩
    unfold mkc
    rw [h1]
    simp only [Option.bind, h2, q1]
  | .val d :: as, bs, s, s', h => by
    unfold lnd at h
    simp only [Option.map_eq_some_iff] at h
    obtain ⟨r, h3, rfl⟩ := h
    obtain ⟨q1, q2, q3, q4, q5⟩ := mkc_lnd (s' := s') h3
    refine ⟨?_, q2, q3, q4, by simp [q5]⟩
    unfold mkc
    rw [q1]
  | .inn _ _ :: _, bs, s, s', h => by cases h
theorem okAr_of {as : List Ar} : arN as = [] → okAr as = true := by
  induction as with
  | nil => intro _; rfl
  | cons a as ih =>
    intro h
    cases a with
    | inn i p => simp [arN] at h
    | len i p => exact ih h
    | val d => exact ih h
def pCall (n m : Nat) (Fn : SS → RS) (G : SS → Option (List Ar)) : SS → Option D := fun s => (G s).bind fun as => (lnd as s).bind fun bs => pFn n m Fn bs
theorem fn_pure {n m : Nat} {N : List Str} {Fn : SS → RS} {as bs : List Ar} {vs : List V} {B : AP} {H1 : Hp} {Q : VK} {E : XK} {d : D} (r1 : Rel K C (Cup Φ B) Λ π ss σ H1) (sp1 : Sep B Φ) (psi : ∀ i, Sub (Λ i) Φ) (ar : ArL K C H1 σ as vs B) (hN : N.length - n = m)
    (hl : lnd as ss = some bs) (hp : pFn n m Fn bs = some d) (k : ∀ v H' B', Same H1 H' → Fr H1 B' → Al H' B' → Own K C H' d v B' → Q v H') : spD K C N n Fn vs H1 Q E := by
  unfold pFn at hp
  split at hp
  · rename_i hc
    simp only [Bool.and_eq_true, beq_iff_eq, List.isEmpty_iff] at hc
    obtain ⟨c1, c2⟩ := hc
    obtain ⟨q1, q2, q3, q4, q5⟩ := mkc_lnd (s' := []) hl
    cases hR0 : fnR n m Fn bs [] with
    | stuck => rw [hR0] at hp; cases hp
    | exc x s0 => rw [hR0] at hp; cases hp
    | ok d0 s0 =>
    rw [hR0] at hp
    cases hp
    unfold fnR at hR0
    split at hR0
    · cases hF : mkc bs [] with
      | none => rw [hF] at hR0; cases hR0
      | some cs =>
        rw [hF] at hR0 q1
        simp only at hR0
        obtain ⟨Φc, Λc, πc, rel, alive, back⟩ := call_rel (N := N) (m := m) r1 sp1 psi ar q1 (okAr_of q2) (by unfold okLe; rw [q2]; simp) (by rw [← ar.length, ← q5, c1]; exact hN)
        refine ⟨by rw [← ar.length, ← q5]; exact c1, Φc, Λc, πc, _, rel, ?_⟩
        have sm : ∀ H', Keep Φc H1 H' → Same H1 H' := fun H' kp a o e => kp.k a o (alive q2 a (by rw [e]; exact fun z => by cases z)) e
        have fr : ∀ B', Sep B' Φc → Fr H1 B' := fun B' sp a ha => by
          cases e : H1 a with
          | none => rfl
          | some o => exact (sp a ha (alive q2 a (by rw [e]; exact fun z => by cases z))).elim
        cases hR : Fn (cs ++ List.replicate m .no) with
        | stuck => rw [hR] at hR0; cases hR0
        | brk s' => rw [hR] at hR0; cases hR0
        | ct s' => rw [hR] at hR0; cases hR0
        | exc x s' =>
          rw [hR] at hR0
          simp only at hR0
          cases hb : bk bs s' [] with
          | none => rw [hb] at hR0; cases hR0
          | some s2 => rw [hb] at hR0; cases hR0
        | ret d' s' =>
          rw [hR] at hR0
          simp only at hR0
          cases hb : bk bs s' [] with
          | none => rw [hb] at hR0; cases hR0
          | some s2 =>
            rw [hb] at hR0
            cases hR0
            intro v σ' H' B' kp rel' sp' o'
            exact k v H' B' (sm H' kp) (fr B' sp') (rel'.al.mono cup_r) o'
        | nx s' =>
          rw [hR] at hR0
          simp only at hR0
          cases hb : bk bs s' [] with
          | none => rw [hb] at hR0; cases hR0
          | some s2 =>
            rw [hb] at hR0
            cases hR0
            intro σ' H' kp rel'
            exact k .non H' Mt (sm H' kp) fr_mt al_mt .non
    · cases hR0
  · cases hp
theorem sf_fn {n m : Nat} {N : List Str} {Fn : SS → RS} {E : L2.St → XK} {ta : TA} {G : SS → Option (List Ar)} (ha : SimRP K C ta G) (hN : N.length - n = m) : SimF K C (tCallS (spD K C N n Fn) E ta) (pCall n m Fn G) := fun Φ Λ π ss σ H Q d rel e k => by
  unfold pCall at e
  simp only [Option.bind_eq_some_iff] at e
  obtain ⟨as, e1, bs, e2, e3⟩ := e
  refine ha Φ Λ π ss σ H _ as rel e1 fun vs H1 B1 s1 f1 al1 ar => ?_
  have r1 := rel.grow s1 f1 al1
  exact fn_pure r1 ((fr_sep f1 rel.al).symm) rel.psi ar hN e2 e3 fun v H' B' s2 f2 al2 o => k v H' B' (s1.trans s2) (fun a z => s1.free (f2 a z)) al2 o
/-- o.m(..) of one that changes nothing -/
def pMeth (i : Nat) (PF : SS → Option (List Stp)) (c : Nat) (mn : Str) (n m : Nat) (Fn : SS → RS) (G : SS → Option (List Ar)) : SS → Option D := fun s =>
  (PF s).bind fun p => (fP i PF s).bind fun e => if obOk c mn e = true then (G s).bind fun as => (lnd (.len i p :: as) s).bind fun bs => pFn n m Fn bs else none
theorem sf_meth {i c n m : Nat} {mn : Str} {N : List Str} {Fn : SS → RS} {E : L2.St → XK} {PF : SS → Option (List Stp)} {te : TE} {ta : TA} {G : SS → Option (List Ar)} (hp : SimLP K C te i PF) (ha : SimRP K C ta G) (hN : N.length - n = m) :
    SimF K C (tMethS (C c) mn (spD K C N n Fn) E te ta) (pMeth i PF c mn n m Fn G) := fun Φ Λ π ss σ H Q d rel e k => by
  unfold pMeth at e
  simp only [Option.bind_eq_some_iff] at e
  obtain ⟨pp, e0, x, e1, e⟩ := e
  split at e
  · rename_i ho
    simp only [Option.bind_eq_some_iff] at e
    obtain ⟨as, eb, bs, e2, e3⟩ := e
    obtain ⟨d0, g1, g2⟩ := fP_inv e0 e1
    refine hp Φ Λ π ss σ H _ d0 pp x rel g1 e0 g2 fun v0 v H1 e1 sm va => ?_
    obtain ⟨v', A, e4, al, o⟩ := (rel.same sm).val g1
    rw [e1] at e4; cases e4
    obtain ⟨w', B', S', va', o', _⟩ := lens o g2
    cases va.det va'
    obtain ⟨a, dx, fs, rfl, q1, q2⟩ := obOk_ins ho o'
    refine ⟨a, dx, fs, rfl, q1, q2, ha Φ Λ π ss σ H1 _ as (rel.same sm) eb fun vs H2 B s2 f2 al2 ar => ?_⟩
    have r2 := (rel.same sm).grow s2 f2 al2
    exact fn_pure r2 ((fr_sep f2 (rel.same sm).al).symm) rel.psi (.len (as := as) e1 (va.same s2) ar) hN e2 e3 fun v H' B' s3 f3 al3 o => k v H' B' ((sm.trans s2).trans s3) (fun a z => (sm.trans s2).free (f3 a z)) al3 o
  · cases e
/-! ### raise -/
def sRaise (c : Nat) : SS → RS := fun s => .exc ⟨c, none⟩ s
theorem ss_raise (c : Nat) : SimS K C W (fun _ σ H => (fun (_ : L2.St) (H : Hp) (Q : XK) => Q (.ref (C c)) none H) σ H fun cls d H' => W cls d σ H') (sRaise c) := fun Φ Λ π ss σ H E r p =>
  p σ H _ _ (Keep.refl _ _) r ⟨rfl, fun f i z => by cases z⟩
end
/-! ### the words -/
section
variable {X : Cx} {CX : CXT} {k : Nat} {f C : Addr} {fd : FuncData} {ps : List Str} {sp : Sp} {E : L2.St → XK} {x m : Str} {p pos apos : Pos} {e o : Expr} {es : List Expr} {ta : TE} {t : TA}
theorem pe_callS0 (F : FnOk X.prog X.w X.K X.mg X.base CX k f fd ps sp) (hr : Room k X.A) (hg : Gl X x) (hm : X.mg x = some (.ref f)) (hk : PySem.W.keepIn X.K (.ref f) = true) (hb : Binds X.K fd ps []) (hx : ∀ σ, PassesAt CX X σ (E σ))
    (hdb : (x == ("__debug__" : Str)) = false := by decide) : PE X (.Call (.Name x p) [] [] pos) (tCallS sp E tNil) := by
  refine ⟨fun pins s σ H Q I h => ?_⟩
  refine wpAny_Call_Name_kw (ld_glob I hg hm ?_ hdb)
  exact PySem.W.callWith_K0 I.kIn hk (run_fnS (us := []) F hr hb (hx σ) I .nil h)
theorem pe_methE {pl : Sem Bool} (he : PE X o ta) (c : Cls X.K C) (hm : Meth X.K C m f) (F : FnOk X.prog X.w X.K X.mg X.base CX k f fd ps sp) (hr : Room k X.A) (hb : Binds X.K fd ps []) (hx : ∀ σ, PassesAt CX X σ (E σ)) (ha : PA X (e :: es) t)
    (hst : starEach (e :: es) X.env = (false, eval e X.env) :: starEach es X.env := by rfl) (hpl : (backTo pos (starEach es X.env)).any (·.1) = false := by rfl)
    (ht : eval (.Call (.Attribute o m apos) (e :: es) [] pos) X.env = (do
      let ov ← eval o X.env
      standAt apos.atName
      let (f, first) ← holding [ov] (getMethod ov m pl)
      callWith pos f first (backTo pos (starEach (e :: es) X.env)) (backToKw pos (keywordEach [] X.env))) := by rfl) :
    PE X (.Call (.Attribute o m apos) (e :: es) [] pos) (tMethS C m sp E ta t) := by
  refine ⟨fun pins s σ H Q I h => ?_⟩
  refine PySem.W.methodCall_KW (pl := pl) (thn (he.run pins s σ H _ I h) fun u s1 ⟨x, H1, I1, rx, a, dx, fs, ex, ea, l, q⟩ => ?_) ht
  subst ex
  obtain rfl : u = Value.ref a := rx
  refine getmeth_ok I1 ea c hm l ?_
  refine PySem.W.callWith_K (first := [.ref a]) (h₀ := X.base) I.ok.mod.kin hm.kp (thn (ha.run pos pins s1 σ H1 _ I1 q) fun us s2 ⟨vs, H2, I2, r, q2⟩ => ⟨I2.kIn, ?_⟩) hst hpl
  exact run_fnS (us := .ref a :: us) (vs := .ref a :: vs) F hr hb (hx σ) I2 (.cons rfl r) q2
theorem pe_methE0 {pl : Sem Bool} (he : PE X o ta) (c : Cls X.K C) (hm : Meth X.K C m f) (F : FnOk X.prog X.w X.K X.mg X.base CX k f fd ps sp) (hr : Room k X.A) (hb : Binds X.K fd ps []) (hx : ∀ σ, PassesAt CX X σ (E σ))
    (ht : eval (.Call (.Attribute o m apos) [] [] pos) X.env = (do
      let ov ← eval o X.env
      standAt apos.atName
      let (f, first) ← holding [ov] (getMethod ov m pl)
      callWith pos f first (backTo pos (starEach [] X.env)) (backToKw pos (keywordEach [] X.env))) := by rfl) :
    PE X (.Call (.Attribute o m apos) [] [] pos) (tMethS C m sp E ta tNil) := by
  refine ⟨fun pins s σ H Q I h => ?_⟩
  refine PySem.W.methodCall_KW (pl := pl) (thn (he.run pins s σ H _ I h) fun u s1 ⟨x, H1, I1, rx, a, dx, fs, ex, ea, l, q⟩ => ?_) ht
  subst ex
  obtain rfl : u = Value.ref a := rx
  refine getmeth_ok I1 ea c hm l ?_
  exact PySem.W.callWith_K0 (first := [.ref a]) I1.kIn hm.kp (run_fnS (us := [.ref a]) (vs := [.ref a]) F hr hb (hx σ) I1 (.cons rfl .nil) q)
theorem run_makeS {pins : List (Addr × Obj)} {σ : L2.St} {H : Hp} {s : Shared} {Q : VK} {us : List Value} {vs : List V} (M : Mk X.K C f) (F : FnOk X.prog X.w X.K X.mg X.base CX k f fd ps sp) (hr : Room (k + 1) X.A) (hb : Binds X.K fd ps [])
    (hx : ∀ (pins : List (Addr × Obj)) (H : Hp) (s : Shared) (e : Value) (s' : Shared), Inv X pins σ H s → CX X.stack H s (E σ) e s' → X.xe e s') (I : Inv X pins σ H s) (r : Vals vs us)
    (h : ∀ x dx, H x = none → H dx = none → dx ≠ x → sp (.ref x :: vs) (upd (upd H dx (.own x)) x (.ins C dx [])) (fun v H2 => v = .non ∧ Q (.ref x) H2) (E σ)) :
    wpAny (model X.prog X.w) X.A (call (.ref C) us) (EP X pins σ Q) X.xe s := by
  have hq := h (s.heap.objs.size + 1) s.heap.objs.size (I.hok.fresh (Nat.le_succ _)) (I.hok.fresh (Nat.le_refl _)) (Nat.ne_of_lt (Nat.lt_succ_self _))
  have I2 := Inv.made (C := C) I
  have r2 : Vals (V.ref (s.heap.objs.size + 1) :: vs) (Value.ref (s.heap.objs.size + 1) :: us) := .cons rfl r
  have hl : (Value.ref (s.heap.objs.size + 1) :: us).length = ps.length := by
    have e := r2.length
    rw [F.len _ _ _ _ hq] at e
    exact e.symm
  refine wpAny_call (make_map (f := f) I.kIn M.makes M.init (beq_iff_eq.mp M.fn) (codeAny_mono (F.run _ X.stack _ _ ⟨Value.ref (s.heap.objs.size + 1) :: us, []⟩ (Value.ref (s.heap.objs.size + 1) :: us) _ _ (E σ) (hr.make C us [])
    (I2.env0.make C us []) (by have := hb _ (Value.ref (s.heap.objs.size + 1) :: us) I2.kIn (by rw [List.append_nil]; exact hl); rw [List.append_nil] at this; exact this) r2 hq) fun r s' hq' => ?_))
  cases r with
  | error e => exact hx pins _ _ e s' I2 hq'
  | ok fl =>
    cases fl with
    | ret u =>
      obtain ⟨v, H', I3, rv, ev, q3⟩ := I2.after hq'
      subst ev
      exact ⟨rv, ⟨V.ref (s.heap.objs.size + 1), H', I3, rfl, q3⟩⟩
    | next => exact False.elim hq'
    | brk => exact False.elim hq'
    | cont => exact False.elim hq'
theorem pe_makeE (M : Mk X.K C f) (F : FnOk X.prog X.w X.K X.mg X.base CX k f fd ps sp) (hr : Room (k + 1) X.A) (hg : Gl X x) (hm : X.mg x = some (.ref C)) (hb : Binds X.K fd ps []) (hx : ∀ σ, PassesAt CX X σ (E σ))
    (ha : PA X (e :: es) t) (hdb : (x == ("__debug__" : Str)) = false := by decide) (he : starEach (e :: es) X.env = (false, eval e X.env) :: starEach es X.env := by rfl) (hpl : (backTo pos (starEach es X.env)).any (·.1) = false := by rfl) :
    PE X (.Call (.Name x p) (e :: es) [] pos) (tMakeS C sp E t) := by
  refine ⟨fun pins s σ H Q I h => ?_⟩
  refine wpAny_Call_Name_kw (ld_glob I hg hm ?_ hdb)
  refine PySem.W.callWith_K (h₀ := X.base) I.ok.mod.kin M.kp (thn (ha.run pos pins s σ H _ I h) fun us s1 ⟨vs, H1, I1, r, q⟩ => ⟨I1.kIn, ?_⟩) he hpl
  exact run_makeS M F hr hb (hx σ) I1 r q
theorem pe_makeE0 (M : Mk X.K C f) (F : FnOk X.prog X.w X.K X.mg X.base CX k f fd ps sp) (hr : Room (k + 1) X.A) (hg : Gl X x) (hm : X.mg x = some (.ref C)) (hb : Binds X.K fd ps []) (hx : ∀ σ, PassesAt CX X σ (E σ))
    (hdb : (x == ("__debug__" : Str)) = false := by decide) : PE X (.Call (.Name x p) [] [] pos) (tMakeS C sp E tNil) := by
  refine ⟨fun pins s σ H Q I h => ?_⟩
  refine wpAny_Call_Name_kw (ld_glob I hg hm ?_ hdb)
  exact PySem.W.callWith_K0 I.kIn M.kp (run_makeS (us := []) M F hr hb (hx σ) I .nil h)
end
end Dy

/-! Words for whole defs: constants, chains, calls by name. -/
namespace Dy
open PySem PyProof.Rows L2
section
variable {X : Cx} {x : Str} {pos : Pos}
theorem pe_gint {i : Int} (hg : Gl X x) (hm : ∃ t, X.mg x = some (.int i t)) (hd : (x == ("__debug__" : Str)) = false := by decide) : PE X (.Name x pos) (tC (.int i)) := by
  obtain ⟨t, h⟩ := hm
  exact pe_glob hg h ⟨t, rfl⟩ hd
theorem pe_gstr {z : Str} (hg : Gl X x) (hm : ∃ t, X.mg x = some (.str z t)) (hd : (x == ("__debug__" : Str)) = false := by decide) : PE X (.Name x pos) (tC (.str z)) := by
  obtain ⟨t, h⟩ := hm
  exact pe_glob hg h ⟨t, rfl⟩ hd
theorem u65 {k : Nat} {A : Around} (r : Room k A) : A.units + 65 < cLine := by have := r.un; omega
theorem u64 {k : Nat} {A : Around} (r : Room k A) : A.units + 64 < cLine := by have := r.un; omega
theorem u1 {k : Nat} {A : Around} (r : Room k A) : A.units + 1 < cLine := by have := r.un; omega
end
section
variable {K : PySem.W.Frag} {C : Nat → Addr} {W : WX} {Φ : AP} {Λ : Nat → AP} {π : Nat → Option V} {ss : SS} {σ : L2.St} {H H' : Hp}
theorem spt_yes : SimPT K C tYes (fun _ => some true) := fun Φ Λ π ss σ H Q b r e k => by
  cases e
  exact k H (Same.refl H)
theorem st_yes : SimT K C W tYes (tP fun _ => some true) := SimPT.e spt_yes
/-- a slot's value moved out -/
def eMv (i : Nat) : SS → R D := fun s => match s[i]? with
  | some (.own d) => .ok d (s.set i .no)
  | _ => .stuck
theorem se_mv (i : Nat) : SimE K C W (tVar i) (eMv i) := fun Φ Λ π ss σ H Q rel p => by
  unfold eMv at p
  split at p
  · rename_i d e
    obtain ⟨As, a⟩ := rel
    obtain ⟨o, eo⟩ := getσ a.len e
    obtain ⟨v, ev, w⟩ := a.ok i _ _ e eo
    subst ev
    refine ⟨v, eo, p v H (As i) (Keep.refl _ _) ⟨fun j => if j = i then Mt else As j, a.al.cup (a.aa i), fun j => (a.sub j).trans cup_l, by rw [List.length_set]; exact a.len, fun j u hj => ?_, fun j => ?_, fun j => ?_, fun j k h => ?_, fun j t u h1 h2 => ?_⟩ (a.af i) w⟩
    · obtain ⟨h1, x, h2⟩ := a.pin j u hj
      have nj : i ≠ j := fun z => by subst z; rw [e] at h2; cases h2
      exact ⟨h1, x, by rw [List.getElem?_set_ne nj]; exact h2⟩
    · show Al H (if j = i then Mt else As j)
      split
      · exact al_mt
      · exact a.aa j
    · show Sep (if j = i then Mt else As j) _
      split
      · exact sep_mt
      · rename_i n; exact (a.af j).cup (a.ap j i n)
    · show Sep (if j = i then Mt else As j) (if k = i then Mt else As k)
      split
      · exact sep_mt
      · split
        · exact mt_sep
        · exact a.ap j k h
    · by_cases nj : i = j
      · subst nj
        have hi : i < ss.length := (List.getElem?_eq_some_iff.mp e).1
        rw [List.getElem?_set_self hi] at h1
        cases h1; trivial
      · rw [List.getElem?_set_ne nj] at h1
        show SlOk K C H (Λ j) (if j = i then Mt else As j) t u
        rw [if_neg (fun z => nj z.symm)]
        exact a.ok j t u h1 h2
  · exact p.elim
/-- a < b < c -/
def pChain (f g : D → D → Option D) (F G J : SS → Option D) : SS → Option D := fun s => (F s).bind fun a => (G s).bind fun b => ((f a b).bind asB).bind fun k => if k = true then (J s).bind fun c => g b c else some (.bl false)
theorem sf_chain {r r' : R2} {f g : D → D → Option D} {ta tb tc : TE} {F G J : SS → Option D} (ho : OpS K C r f) (ho' : OpS K C r' g) (ha : SimP K C ta F) (hb : SimP K C tb G) (hc : SimP K C tc J) : SimF K C (tChain r r' ta tb tc) (pChain f g F G J) := fun Φ Λ π ss σ H Q d rel e k => by
  unfold pChain at e
  cases ea : F ss with
  | none => rw [ea] at e; cases e
  | some x =>
    cases eb : G ss with
    | none => rw [ea, eb] at e; cases e
    | some y =>
      rw [ea, eb] at e
      simp only [Option.bind_some] at e
      cases ef : f x y with
      | none => rw [ef] at e; cases e
      | some z =>
        rw [ef] at e
        refine ha Φ Λ π ss σ H _ x rel ea fun v H1 s1 r1 => ?_
        refine hb Φ Λ π ss σ H1 _ y (rel.same s1) eb fun u H2 s2 r2 => ?_
        have s12 := s1.trans s2
        refine ho H2 v u x y z _ (r1.same s2) r2 ef fun w H3 B s3 f3 al3 o3 => ?_
        cases z <;> try (cases e)
        rename_i kb
        cases o3
        refine ⟨kb, rfl, ?_⟩
        have e' : (if kb = true then (J ss).bind fun c => g y c else some (.bl false)) = some d := e
        cases kb with
        | false =>
          simp at e'
          subst e'
          simp only [Bool.false_eq_true, if_false]
          exact k _ H3 Mt (s12.trans s3) fr_mt al_mt (.bl _)
        | true =>
          simp only [if_true] at e' ⊢
          cases ec : J ss with
          | none => rw [ec] at e'; cases e'
          | some c =>
            rw [ec] at e'
            have s123 := s12.trans s3
            refine hc Φ Λ π ss σ H3 _ c (rel.same s123) ec fun w' H4 s4 r4 => ?_
            exact ho' H4 u w' y c d Q ((r2.same s3).same s4) r4 e' fun w2 H5 B5 s5 f5 al5 o5 => k w2 H5 B5 ((s123.trans s4).trans s5) (fun a z => (s123.trans s4).free (f5 a z)) al5 o5
end
abbrev rTupA (K : PySem.W.Frag) : List V → Hp → VK → Prop := fun xs H Q => ∃ p ys, xs = [.ref p] ∧ ((SqL K H p ys ∧ ∀ l, H l = none → Q (.ref l) (upd H l (.tup ys))) ∨ (SqT K H p ys ∧ Q (.ref p) H))
/-- a def of the text: it keeps its promise, and stands under its name -/
structure FnAt (P : Program) (w : World) (K : PySem.W.Frag) (mg : Str → Option Value) (base : Heap) (C : Nat → Addr) (k : Nat) (f : Addr) (fd : FuncData) (x : Str) (N ps : List Str) (Fn : SS → RS) : Prop where
  ok : FnOk P w K mg base (L2.CX P w) k f fd ps (spD K C N ps.length Fn)
  gl : mg x = some (.ref f)
  kp : PySem.W.keepIn K (.ref f) = true
  bd : Binds K fd ps []
/-- an own exception class without __init__, below ValueError -/
structure ExAt (K : PySem.W.Frag) (mg : Str → Option Value) (C : Addr) (x : Str) : Prop where
  q : PySem.W.excIn K C [.type "ValueError", .type "Exception", .type "BaseException", .type "object"] "ValueError.__new__" = true
  gl : mg x = some (.ref C)
  kp : PySem.W.keepIn K (.ref C) = true
  sub : PySem.W.subIn K (.ref C) (.type "BaseException") = some true
  ty : PySem.W.typeIn K (.ref C) = some (.type "type")
theorem ps_rs {X : Cx} {W : WX} {C : Addr} {x m : Str} {j : Nat} {p p2 pos pos' : Pos} (A : ExAt X.K X.mg C x) (tk : Takes X W) (hc : X.calm = true := by rfl) (hg : Gl X x := by rfl) (hdb : (x == ("__debug__" : Str)) = false := by decide) :
    PS X (.Raise (some (.Call (.Name x p) [.Constant (.str m) j p2] [] pos)) none pos') (fun _ σ H => (fun (_ : L2.St) (H : Hp) (Q : XK) => Q (.ref C) none H) σ H fun cls d H' => W cls d σ H') :=
  ps_raise hc tk (pmk_own PySem.F.excBase_ValueError A.q A.gl A.kp (raises_own A.sub A.ty) hg hdb)
theorem fn_stuck {P : Program} {w : World} {K : PySem.W.Frag} {mg : Str → Option Value} {base : Heap} {C : Nat → Addr} {k : Nat} {f : Addr} {fd : FuncData} {N ps : List Str} : FnOk P w K mg base (L2.CX P w) k f fd ps (spD K C N ps.length sStuck) :=
  ⟨fun _ _ _ _ h => h.1, fun _ _ _ _ _ _ _ _ _ _ _ _ _ h => by
    obtain ⟨_, _, _, _, _, _, h⟩ := h
    exact h.elim⟩
section
variable {X : Cx} {K : PySem.W.Frag} {C : Nat → Addr} {j k : Nat} {f : Addr} {fd : FuncData} {N ps : List Str} {Fn : SS → RS} {W : WX} {x : Str} {p pos : Pos} {e : Expr} {es : List Expr} {t : TA}
theorem pe_fn (A : FnAt X.prog X.w K X.mg X.base C j f fd x N ps Fn) (hr : Room k X.A) (tk : Takes X W) (ha : PA X (e :: es) t) (hK : X.K = K := by rfl) (hj : j ≤ k := by omega) (hg : Gl X x := by rfl)
    (hdb : (x == ("__debug__" : Str)) = false := by decide) (he : starEach (e :: es) X.env = (false, eval e X.env) :: starEach es X.env := by rfl) (hpl : (backTo pos (starEach es X.env)).any (·.1) = false := by rfl) :
    PE X (.Call (.Name x p) (e :: es) [] pos) (tCallS (spD K C N ps.length Fn) (WE W) t) := by
  subst hK
  exact pe_callS A.ok (hr.mono hj) hg A.gl A.kp A.bd (passAt tk) ha hdb he hpl
theorem pe_fn0 (A : FnAt X.prog X.w K X.mg X.base C j f fd x N ps Fn) (hr : Room k X.A) (tk : Takes X W) (hK : X.K = K := by rfl) (hj : j ≤ k := by omega) (hg : Gl X x := by rfl)
    (hdb : (x == ("__debug__" : Str)) = false := by decide) :
    PE X (.Call (.Name x p) [] [] pos) (tCallS (spD K C N ps.length Fn) (WE W) tNil) := by
  subst hK
  exact pe_callS0 A.ok (hr.mono hj) hg A.gl A.kp A.bd (passAt tk) hdb
theorem pe_fldK {f : Str} {ta : TE} (K : PySem.W.Frag) (he : PE X e ta) (hb : attributeBase e f X.env (eval e X.env) = eval e X.env) (hK : X.K = K := by rfl) : PE X (.Attribute e f pos) (tFld K ta f) := by
  subst hK
  exact pe_fld he hb
end
end Dy

/-! The law's end: the script lent, the answer read. -/
namespace Dy
open PySem PyProof.Rows L2
theorem il_ints {K : PySem.W.Frag} {C : Nat → Addr} {H : Hp} {A : AP} : ∀ ns : List Int, OwnL K C H (ns.map D.int) (ns.map V.int) A
  | [] => .nil
  | n :: ns => .cons (A1 := Mt) (A2 := Mt) mt_sep sub_mt sub_mt (.int n) (il_ints ns)
/-- what is to be shown of the law's mirror -/
def LawYes (m : Nat) (Fn : SS → RS) : Prop := ∀ (c : List D → D) (ns : List Int), (c = D.lst ∨ c = D.fls) → ns.length ≤ 63 → (∀ z ∈ ns, Builtin.Int.intBits z ≤ 1048576) → ∃ s, Fn (.bor (c (ns.map D.int)) :: List.replicate m .no) = .ret (.bl true) s
theorem law_sp {K : PySem.W.Frag} {C : Nat → Addr} {N : List Str} {m : Nat} {Fn : SS → RS} {H : Hp} {a : Addr} {ns : List Int} {E : XK} (hN : N.length - 1 = m) (hS : SqL K H a (ns.map V.int)) (y : LawYes m Fn) (hl : ns.length ≤ 63) (hb : ∀ z ∈ ns, Builtin.Int.intBits z ≤ 1048576) :
    spD K C N 1 Fn [.ref a] H (fun v _ => v = .bl true) E := by
  refine ⟨rfl, ?_⟩
  have key : ∀ c : List D → D, (c = D.lst ∨ c = D.fls) → Own K C H (c (ns.map D.int)) (.ref a) (fun x => H x ≠ none) → ∃ Φ Λ π ss, Rel K C Φ Λ π ss (L2.start N [.ref a]) H ∧ PostS K C (fun cls da _ H => E cls da H) Φ Λ π H (dE fun v _ => v = .bl true) (Fn ss) := fun c hc o => by
    obtain ⟨s, e⟩ := y c ns hc hl hb
    refine ⟨fun x => H x ≠ none, fun _ => fun x => H x ≠ none, fun _ => none, _, ⟨fun _ => Mt, fun x h => h, fun _ => Sub.refl _, ?_, fun i v h => by (cases h), fun _ => al_mt, fun _ => sep_mt, fun _ _ _ => sep_mt, fun i s o' h1 h2 => ?_⟩, by rw [e]; exact fun v σ' H' B _ _ _ o => by (cases o; rfl)⟩
    · simp [L2.start, hN]
    · cases i with
      | zero => cases h1; cases h2; exact ⟨_, rfl, o⟩
      | succ i =>
        rw [List.getElem?_cons_succ, List.getElem?_replicate] at h1
        split at h1
        · cases h1; trivial
        · cases h1
  rcases hS with (h | ⟨o, h⟩) | h
  · exact key _ (.inl rfl) (.lst (by rw [h]; exact fun z => by cases z) h (il_ints ns))
  · exact key _ (.inr rfl) (.fls (.inl ⟨o, h⟩) (il_ints ns))
  · exact key _ (.inr rfl) (.fls (.inr h) (il_ints ns))
theorem cx_no {P : Program} {w : World} {H : Hp} {s : Shared} {e : Value} {s' : Shared} (h : L2.CX P w [] H s (fun _ _ _ => False) e s') : False := by
  obtain ⟨_, _, _, _, _, _, _, _, _, _, _, _, z⟩ := h
  exact z
theorem ex_at {K : PySem.W.Frag} {mg : Str → Option Value} {h : Heap} {x : Str} (X : K.In h) (G : h.Ns mainGlobals mg) (c : (He.Fa.exc x).ok K = true) (g : (He.Fa.glo x).ok K = true) : ExAt K mg (He.ga K x) x := by
  obtain ⟨c1, c2, c3, c4⟩ := He.exc_ok c
  exact ⟨c1, He.glo_ok X G g, c2, c3, c4⟩
end Dy

/-! What the mirrors' words make of known data. -/
namespace Dy
open PySem L2
theorem z_addI (i j : Int) : fAdd (.int i) (.int j) = some (.int (i + j)) := rfl
theorem z_mulI {i j : Int} (h : cMul i j = true) : fMul (.int i) (.int j) = some (.int (i * j)) := by
  simp [fMul, orF, fMulI, fIC, h]
theorem z_mulR {i j : Int} (h : -(2 ^ 64) < j ∧ j < 2 ^ 64) : fMul (.int i) (.int j) = some (.int (i * j)) := z_mulI (by
  simp only [cMul, Bool.or_eq_true, Bool.and_eq_true, decide_eq_true_eq]; exact .inr h)
theorem z_mulL {i j : Int} (h : -(2 ^ 64) < i ∧ i < 2 ^ 64) : fMul (.int i) (.int j) = some (.int (i * j)) := z_mulI (by
  simp only [cMul, Bool.or_eq_true, Bool.and_eq_true, decide_eq_true_eq]; exact .inl h)
theorem z_sub (i j : Int) : fSubI (.int i) (.int j) = some (.int (i - j)) := rfl
theorem z_lt (i j : Int) : fLt (.int i) (.int j) = some (.bl (decide (i < j))) := rfl
theorem z_le (i j : Int) : fLe (.int i) (.int j) = some (.bl (decide (i ≤ j))) := rfl
theorem z_gt (i j : Int) : fGt (.int i) (.int j) = some (.bl (decide (j < i))) := rfl
theorem z_ge (i j : Int) : fGe (.int i) (.int j) = some (.bl (decide (j ≤ i))) := rfl
theorem z_mod {i j : Int} (h : j ≠ 0) : fMod (.int i) (.int j) = some (.int (i.fmod j)) := by simp [fMod, fIC, cMod, h]
theorem z_div {i j : Int} (h : j ≠ 0) (h2 : j.natAbs < 1073741824) : fDiv (.int i) (.int j) = some (.int (i.fdiv j)) := by simp [fDiv, fIC, cDiv, h, h2]
theorem z_ixL (ds : List D) (i : Int) : fIx (.lst ds) (.int i) = atI ds i := by
  simp only [fIx, orF, fIxL, fIxT, fIxS, fDG]
  cases atI ds i <;> simp [dGet]
theorem z_ixT (ds : List D) (i : Int) : fIx (.tup ds) (.int i) = atI ds i := by
  simp only [fIx, orF, fIxL, fIxT, fIxS, fDG]
  cases atI ds i <;> simp [dGet]
theorem z_ixF (ds : List D) (i : Int) : fIx (.fls ds) (.int i) = atI ds i := by
  simp only [fIx, orF, fIxL, fIxT, fIxS, fDG]
  cases atI ds i <;> simp [dGet]
theorem z_imm : ∀ ns : List Int, immL (ns.map D.int) = true
  | [] => rfl
  | n :: ns => by simp [immL, imm, z_imm ns]
theorem z_dep : ∀ ns : List Int, depL (ns.map D.int) = 0
  | [] => rfl
  | n :: ns => by simp [depL, dep, z_dep ns]
theorem z_neNil {ds : List D} (h : depL ds ≤ 59) : fNe (.lst ds) (.lst []) = some (.bl (!ds.isEmpty)) := by
  have h1 : dep (.lst ds) ≤ 60 := by simp only [dep]; omega
  have h2 : dep (.lst []) ≤ 60 := by simp [dep, depL]
  unfold fNe
  rw [if_pos ⟨h1, h2⟩]
  cases ds <;> simp [eqD, eqDs]
theorem z_eqI (i j : Int) : fEq (.int i) (.int j) = some (.bl (decide (i = j))) := by
  simp only [fEq, dep]
  simp [eqD]
  rfl
theorem z_max2 (i j : Int) : fMax [.int i, .int j] = some (.int (max i j)) := rfl
theorem z_min2 (i j : Int) : fMin [.int i, .int j] = some (.int (min i j)) := rfl
theorem z_at {α : Type} {xs : List α} {i : Int} (h0 : 0 ≤ i) (h1 : i < xs.length) : atI xs i = xs[i.toNat]? := by
  simp [atI, ixN, h0, h1]
theorem z_ixN {n : Nat} {i : Int} (h0 : 0 ≤ i) (h1 : i < n) : ixN n i = some i.toNat := by simp [ixN, h0, h1]
theorem at0 {α : Type} (x : α) (xs : List α) : atI (x :: xs) 0 = some x := by
  have : (0 : Int) < ((x :: xs).length : Int) := by simp only [List.length_cons]; omega
  rw [z_at (by omega) this]; rfl
theorem at1 {α : Type} (x y : α) (xs : List α) : atI (x :: y :: xs) 1 = some y := by
  have : (1 : Int) < ((x :: y :: xs).length : Int) := by simp only [List.length_cons]; omega
  rw [z_at (by omega) this]; rfl
theorem at2 {α : Type} (x y z : α) (xs : List α) : atI (x :: y :: z :: xs) 2 = some z := by
  have : (2 : Int) < ((x :: y :: z :: xs).length : Int) := by simp only [List.length_cons]; omega
  rw [z_at (by omega) this]; rfl
theorem at3 {α : Type} (x y z w : α) (xs : List α) : atI (x :: y :: z :: w :: xs) 3 = some w := by
  have : (3 : Int) < ((x :: y :: z :: w :: xs).length : Int) := by simp only [List.length_cons]; omega
  rw [z_at (by omega) this]; rfl
theorem r_of {α : Type} (a : α) (s : SS) : R.of (some a) s = .ok a s := rfl
theorem r_bind {α β : Type} (a : α) (s : SS) (f : α → SS → R β) : (R.ok a s).bind f = f a s := rfl
theorem r_thn {α : Type} (a : α) (s : SS) (f : α → SS → RS) : (R.ok a s).thn f = f a s := rfl
theorem r_thnx {α : Type} (x : Xn) (s : SS) (f : α → SS → RS) : (R.exc x s : R α).thn f = .exc x s := rfl
theorem s_nx (s : SS) (f : SS → RS) : (RS.nx s).seq f = f s := rfl
theorem s_ret (d : D) (s : SS) (f : SS → RS) : (RS.ret d s).seq f = .ret d s := rfl
theorem s_exc (d : Xn) (s : SS) (f : SS → RS) : (RS.exc d s).seq f = .exc d s := rfl
theorem z_nx (s : SS) : nxO (some s) = .nx s := rfl
theorem on1_ (f : D → Option D) (d : D) : on1 f [d] = f d := rfl
theorem on2_ (f : D → D → Option D) (d e : D) : on2 f [d, e] = f d e := rfl
theorem z_asB (b : Bool) : asB (.bl b) = some b := rfl
theorem z_len (ds : List D) : fLen (.lst ds) = some (.int ds.length) := rfl
theorem z_lenT (ds : List D) : fLen (.tup ds) = some (.int ds.length) := rfl
theorem z_lenF (ds : List D) : fLen (.fls ds) = some (.int ds.length) := rfl
theorem z_pow18 : fPow (.int 10) (.int 18) = some (.int 1000000000000000000) := by
  simp [fPow, fIC, cPow]
theorem z_setI {ds : List D} {i : Int} {d : D} (h0 : 0 ≤ i) (h1 : i < ds.length) : fSetI (.lst ds) (.int i) d = some (.lst (ds.set i.toNat d)) := by
  simp [fSetI, z_ixN h0 h1]
theorem z_lst0 : fLst [] = some (.lst []) := rfl
theorem z_empty {α β : Type} (f : α → β) (l : List α) : (l.map f).isEmpty = l.isEmpty := by cases l <;> rfl
theorem z_atI {ns : List Int} {i : Int} (h0 : 0 ≤ i) (h1 : i < ns.length) : atI (ns.map D.int) i = some (.int (ns.getD i.toNat 0)) := by
  have e : i.toNat < ns.length := by omega
  rw [z_at h0 (by rw [List.length_map]; exact h1), List.getElem?_map, List.getD_eq_getElem?_getD, List.getElem?_eq_getElem e]
  rfl
theorem z_set (ns : List Int) (i : Nat) (x : Int) : (ns.map D.int).set i (.int x) = (ns.set i x).map D.int := by
  rw [List.map_set]
theorem tn0 : Int.toNat 0 = 0 := rfl
theorem tn1 : Int.toNat 1 = 1 := rfl
theorem tn2 : Int.toNat 2 = 2 := rfl
theorem tn3 : Int.toNat 3 = 3 := rfl
theorem si0 (x d : D) (xs : List D) : fSetI (.lst (x :: xs)) (.int 0) d = some (.lst (d :: xs)) := by
  rw [z_setI (by omega) (by simp only [List.length_cons]; omega)]; rfl
theorem si1 (x y d : D) (xs : List D) : fSetI (.lst (x :: y :: xs)) (.int 1) d = some (.lst (x :: d :: xs)) := by
  rw [z_setI (by omega) (by simp only [List.length_cons]; omega)]; rfl
theorem si2 (x y z d : D) (xs : List D) : fSetI (.lst (x :: y :: z :: xs)) (.int 2) d = some (.lst (x :: y :: d :: xs)) := by
  rw [z_setI (by omega) (by simp only [List.length_cons]; omega)]; rfl
/-! loops -/
theorem for_inv {st : D → SS → Option SS} {body : SS → RS} {I : SS → Prop} : ∀ {ds : List D} {s : SS}, (∀ d ∈ ds, ∀ s, I s → ∃ s1 s2, st d s = some s1 ∧ body s1 = .nx s2 ∧ I s2) → I s → ∃ s', forL st body ds s = .nx s' ∧ I s'
  | [], s, _, h => ⟨s, rfl, h⟩
  | d :: ds, s, k, h => by
    obtain ⟨s1, s2, e1, e2, h2⟩ := k d (by simp) s h
    obtain ⟨s', e3, h3⟩ := for_inv (ds := ds) (fun d hd => k d (by simp [hd])) h2
    refine ⟨s', ?_, h3⟩
    unfold forL
    rw [e1]
    simp only
    rw [e2]
    exact e3
theorem for_ix {st : D → SS → Option SS} {body : SS → RS} {I : Nat → SS → Prop} : ∀ {ds : List D} {s : SS} {k : Nat}, (∀ j d, ds[j]? = some d → ∀ s, I (k + j) s → ∃ s1 s2, st d s = some s1 ∧ body s1 = .nx s2 ∧ I (k + j + 1) s2) → I k s → ∃ s', forL st body ds s = .nx s' ∧ I (k + ds.length) s'
  | [], s, k, _, h => ⟨s, rfl, h⟩
  | d :: ds, s, k, q, h => by
    obtain ⟨s1, s2, e1, e2, h2⟩ := q 0 d rfl s h
    obtain ⟨s', e3, h3⟩ := for_ix (ds := ds) (k := k + 1) (s := s2) (fun j d' hj s hs => by
      have := q (j + 1) d' (by simpa using hj) s (by rw [show k + (j + 1) = k + 1 + j by omega]; exact hs)
      rw [show k + (j + 1) + 1 = k + 1 + j + 1 by omega] at this
      exact this) h2
    refine ⟨s', ?_, ?_⟩
    · unfold forL
      rw [e1]
      simp only
      rw [e2]
      exact e3
    · rw [List.length_cons, show k + (ds.length + 1) = k + 1 + ds.length by omega]; exact h3
theorem isi_ii (i : Int) : fIsi (.int i) (.op (.ty "int")) = some (.bl true) := by simp [fIsi, tyN, tyB]
theorem isi_ib (i : Int) : fIsi (.int i) (.op (.ty "bool")) = some (.bl false) := by simp [fIsi, tyN, tyB]
theorem isi_is (i : Int) : fIsi (.int i) (.op (.ty "str")) = some (.bl false) := by simp [fIsi, tyN, tyB]
theorem isi_itl (i : Int) : fIsi (.int i) (.tup [.op (.ty "tuple"), .op (.ty "list")]) = some (.bl false) := by simp [fIsi, tyN, tyB]
theorem isi_ntl : fIsi .non (.tup [.op (.ty "tuple"), .op (.ty "list")]) = some (.bl false) := by simp [fIsi, tyN, tyB]
theorem isi_tt (ds : List D) : fIsi (.tup ds) (.op (.ty "tuple")) = some (.bl true) := by simp [fIsi, tyN, tyB]
theorem isN_n : fIsN .non .non = some (.bl true) := rfl
theorem isN_i (i : Int) : fIsN (.int i) .non = some (.bl false) := rfl
theorem tup2 : fTup [.op (.ty "tuple"), .op (.ty "list")] = some (.tup [.op (.ty "tuple"), .op (.ty "list")]) := rfl
theorem z_neL {a b : List Int} : fNe (.int 0) (.int 0) = some (.bl false) := by simp [fNe, dep, eqD]
theorem z_neI (i j : Int) : fNe (.int i) (.int j) = some (.bl (!decide (i = j))) := by
  simp only [fNe, dep]
  simp [eqD]
  rfl
/-! big steps -/
theorem seq_nx {F G : SS → RS} {s s1 : SS} {r : RS} (h : F s = .nx s1) (h2 : G s1 = r) : sSeq F G s = r := by
  unfold sSeq; rw [h]; exact h2
theorem seq_ret {F G : SS → RS} {s s1 : SS} {d : D} (h : F s = .ret d s1) : sSeq F G s = .ret d s1 := by
  unfold sSeq; rw [h]; rfl
theorem seq_exc {F G : SS → RS} {s s1 : SS} {d : Xn} (h : F s = .exc d s1) : sSeq F G s = .exc d s1 := by
  unfold sSeq; rw [h]; rfl
theorem e1_ev {α β : Type} {f : α → Option β} {F : SS → R α} {s s1 : SS} {a : α} {b : β} (h : F s = .ok a s1) (h2 : f a = some b) : e1 f F s = .ok b s1 := by
  unfold e1; rw [h]; show R.of (f a) s1 = _; rw [h2]; rfl
theorem for_run {ts : List Nat} {u : SS → SS} {it : SS → R (List D)} {st : D → SS → Option SS} {body : SS → RS} {s s1 s2 : SS} {ds : List D} (h : it s = .ok ds s1) (h2 : forL st body ds (clr ts s1) = .nx s2) : sFor ts u it st body s = .nx (u (clr ts s2)) := by
  unfold sFor; rw [h]; show RS.map _ (forL st body ds (clr ts s1)) = _; rw [h2]; rfl
theorem set_run {i : Nat} {F : SS → R D} {s s1 s2 : SS} {d : D} (h : F s = .ok d s1) (h2 : setSl i d s1 = some s2) : sSet i F s = .nx s2 := by
  unfold sSet; rw [h]; show nxO (setSl i d s1) = _; rw [h2]; rfl
theorem drop_run {F : SS → R D} {s s1 : SS} {d : D} (h : F s = .ok d s1) : sDrop F s = .nx s1 := by
  unfold sDrop; rw [h]; rfl
theorem ret_run {F : SS → R D} {s s1 : SS} {d : D} (h : F s = .ok d s1) : sRet F s = .ret d s1 := by
  unfold sRet; rw [h]; rfl
theorem if_run {T : SS → R Bool} {F G : SS → RS} {s s1 : SS} {b : Bool} (h : T s = .ok b s1) : sIf T F G s = if b = true then F s1 else G s1 := by
  unfold sIf; rw [h]; rfl
theorem while_inv {c : SS → R Bool} {body : SS → RS} {I : Nat → SS → Prop} {J : SS → Prop} (h : ∀ k s, I k s → (∃ s1, c s = .ok true s1 ∧ ∃ s2 k', body s1 = .nx s2 ∧ k' < k ∧ I k' s2) ∨ ∃ s1, c s = .ok false s1 ∧ J s1) :
    ∀ (n k : Nat) (s : SS), k < n → I k s → ∃ s', whL c body n s = .nx s' ∧ J s'
  | 0, k, s, hk, _ => by omega
  | n + 1, k, s, hk, hi => by
    rcases h k s hi with ⟨s1, e1, s2, k', e2, hlt, hi2⟩ | ⟨s1, e1, hj⟩
    · obtain ⟨s', e3, hj⟩ := while_inv h n k' s2 (by omega) hi2
      refine ⟨s', ?_, hj⟩
      unfold whL
      rw [e1]
      simp only [r_thn, if_true]
      rw [e2]
      exact e3
    · refine ⟨s1, ?_, hj⟩
      unfold whL
      rw [e1]
      rfl
theorem cmpL_inv {vs : List Nat} {st : D → SS → Option SS} {te : SS → R D} {I : SS → List D → Prop} : ∀ {ds : List D} {s : SS} {acc : List D}, (∀ d ∈ ds, ∀ s acc, I s acc → ∃ s1 y s3 s4, st d s = some s1 ∧ te s1 = .ok y s3 ∧ clrC vs s3 = some s4 ∧ I s4 (acc ++ [y])) → I s acc → acc.length + ds.length ≤ 1000000 →
    ∃ acc' s', cmpL vs st (tP fun _ => some true) te ds s acc = .ok acc' s' ∧ I s' acc' ∧ acc'.length = acc.length + ds.length
  | [], s, acc, _, hi, _ => ⟨acc, s, rfl, hi, rfl⟩
  | d :: ds, s, acc, h, hi, hl => by
    obtain ⟨s1, y, s3, s4, e1, e2, e3, hi2⟩ := h d (by simp) s acc hi
    rw [List.length_cons] at hl
    obtain ⟨acc', s', e4, hi3, hl3⟩ := cmpL_inv (ds := ds) (fun d hd => h d (by simp [hd])) hi2 (by rw [List.length_append, List.length_singleton]; omega)
    refine ⟨acc', s', ?_, hi3, by rw [hl3, List.length_append, List.length_singleton, List.length_cons]; omega⟩
    unfold cmpL
    rw [e1]
    show (if true = true then _ else _) = _
    rw [if_pos rfl, e2]
    simp only
    rw [e3]
    simp only
    rw [if_pos (by omega)]
    exact e4
theorem cmp_run {vs : List Nat} {u : SS → SS} {it : SS → R (List D)} {st : D → SS → Option SS} {tt : SS → R Bool} {te : SS → R D} {s s1 s0 s2 : SS} {ds acc : List D} (h : it s = .ok ds s1) (h0 : clrC vs s1 = some s0) (h2 : cmpL vs st tt te ds s0 [] = .ok acc s2) : eCmp vs u it st tt te s = .ok (.lst acc) (u (clr vs s2)) := by
  unfold eCmp
  rw [h]
  simp only
  rw [h0]
  simp only
  rw [h2]
theorem while_run {n : Nat} {c : SS → R Bool} {body : SS → RS} {s : SS} {r : RS} (h : whL c body n s = r) : sWhile n c body s = r := h
theorem eaC_run {F : SS → R D} {G : SS → R (List D)} {s s1 s2 : SS} {a : D} {r : List D} (h : F s = .ok a s1) (h2 : G s1 = .ok r s2) : eaC F G s = .ok (a :: r) s2 := by
  unfold eaC; rw [h]; show (G s1).bind _ = _; rw [h2]; rfl
theorem nl1 : (0 + 1 : Nat) = 1 := rfl
theorem nl2 : (0 + 1 + 1 : Nat) = 2 := rfl
theorem nl3 : (0 + 1 + 1 + 1 : Nat) = 3 := rfl
theorem nl4 : (0 + 1 + 1 + 1 + 1 : Nat) = 4 := rfl
theorem nc2 : ((2 : Nat) : Int) = 2 := rfl
theorem nc3 : ((3 : Nat) : Int) = 3 := rfl
theorem nc4 : ((4 : Nat) : Int) = 4 := rfl
theorem ix20 : ixN 2 0 = some 0 := rfl
theorem ix21 : ixN 2 1 = some 1 := rfl
theorem ix30 : ixN 3 0 = some 0 := rfl
theorem ix31 : ixN 3 1 = some 1 := rfl
theorem ix32 : ixN 3 2 = some 2 := rfl
theorem pCall_run {n m : Nat} {Fn : SS → RS} {G : SS → Option (List Ar)} {s : SS} {as bs : List Ar} {d : D} (h : G s = some as) (h2 : lnd as s = some bs) (h3 : pFn n m Fn bs = some d) : pCall n m Fn G s = some d := by
  unfold pCall; rw [h, Option.bind_some, h2, Option.bind_some, h3]
theorem p1_run {α β : Type} {f : α → Option β} {F : SS → Option α} {s : SS} {a : α} {b : β} (h : F s = some a) (h2 : f a = some b) : p1 f F s = some b := by
  unfold p1; rw [h, Option.bind_some, h2]
theorem p2_run {f : D → D → Option D} {F G : SS → Option D} {s : SS} {a b c : D} (h : F s = some a) (h2 : G s = some b) (h3 : f a b = some c) : p2 f F G s = some c := by
  unfold p2; rw [h, Option.bind_some, h2, Option.bind_some, h3]
theorem psC_run {F : SS → Option D} {G : SS → Option (List D)} {s : SS} {d : D} {r : List D} (h : F s = some d) (h2 : G s = some r) : psC F G s = some (d :: r) := by
  unfold psC; rw [h, h2]; rfl
theorem eN_run {F : SS → Option D} {s : SS} {d : D} (h : F s = some d) : eN F s = .ok d s := by
  unfold eN; rw [h]; rfl
end Dy

/-! The laws' own numbers. -/
namespace Dy
open PySem L2
def L_mix : SS → RS := (sSet 2 (eN (p2 fMod (p2 fAdd (p2 fAdd (p2 fMul (fV 2) (fC (.int 48271))) (p2 fMod (fV 3) (fC (.int 2147483629)))) (fC (.int 1))) (fC (.int 2147483647)))))
def F_mix : SS → RS := (sSeq (sSet 2 (eI (fV 1)))
  (sSeq (sFor [3] id (iBor 0) (lendSl 3) L_mix)
  (sRet (e1 gLstD (eaC (eI (fV 2)) (eaC (eN (p1 (on1 fList) (psC (fV 0) psN))) (eaC (eN (fC (.int 0))) eaN)))))))
def F_next : SS → RS := (sSeq (sSet 2 (eN (p2 fMod (p2 fIx (fV 0) (fC (.int 2))) (p1 fMax (psC (fC (.int 1)) (psC (p1 (on1 fLen) (psC (p2 fIx (fV 0) (fC (.int 1))) psN)) psN))))))
  (sSeq (sSet 3 (eI (pIf (p1 asB (p2 fNe (p2 fIx (fV 0) (fC (.int 1))) (p1 fLst psN))) (p2 fIx (p2 fIx (fV 0) (fC (.int 1))) (fV 2)) (fC (.int 0)))))
  (sSeq (sIf (tP (p1 asB (p2 fGe (fV 3) (p2 fPow (fC (.int 10)) (fC (.int 18)))))) (sSeq (sItem 0 (pIdx 0 pRoot (fC (.int 1))) (fV 2) fSetI (eN (p2 fDiv (fV 3) (fV 1))))
  (sRet (eN (p2 fMod (fV 3) (fV 1))))) sNil)
  (sSeq (sItem 0 pRoot (fC (.int 0)) fSetI (eN (p2 fMod (p2 fAdd (p2 fAdd (p2 fMul (p2 fIx (fV 0) (fC (.int 0))) (fC (.int 48271))) (p2 fMul (fV 3) (fC (.int 69621)))) (fC (.int 11))) (fC (.int 2147483647)))))
  (sSeq (sItem 0 pRoot (fC (.int 2)) fSetI (eN (p2 fAdd (p2 fIx (fV 0) (fC (.int 2))) (fC (.int 1)))))
  (sRet (eN (p2 fMod (p2 fDiv (p2 fIx (fV 0) (fC (.int 0))) (fC (.int 7))) (fV 1)))))))))
def B_alike (rec : SS → RS) : SS → RS := (sSeq (sIf (tP (p1 asB (p1 (on2 fIsi) (psC (fV 1) (psC (p1 fTup (psC (fC (.op (.ty "tuple"))) (psC (fC (.op (.ty "list"))) psN))) psN))))) (sSeq (sIf (tP (pOr (pNot (p1 asB (p1 (on2 fIsi) (psC (fV 0) (psC (p1 fTup (psC (fC (.op (.ty "tuple"))) (psC (fC (.op (.ty "list"))) psN))) psN))))) (p1 asB (p2 fNe (p1 (on2 fIsi) (psC (fV 0) (psC (fC (.op (.ty "list"))) psN))) (p1 (on2 fIsi) (psC (fV 1) (psC (fC (.op (.ty "list"))) psN))))))) (sRet (eN (fC (.bl false)))) sNil)
  (sSeq (sIf (tP (p1 asB (p2 fNe (p1 (on1 fLen) (psC (fV 0) psN)) (p1 (on1 fLen) (psC (fV 1) psN))))) (sRet (eN (fC (.bl false)))) sNil)
  (sRet (eN (p2 fEq (pCmp [2] (p1 iR1 (psC (p1 (on1 fLen) (psC (fV 1) psN)) psN)) (lendSl 2) (pNot (p1 asB (pCall 2 1 rec (qL 0 (pIdx 0 pRoot (fV 2)) (qL 1 (pIdx 1 pRoot (fV 2)) qN))))) (fV 2)) (p1 fLst psN)))))) sNil)
  (sSeq (sIf (tP (p1 asB (p2 fIsN (fV 1) (fC .non)))) (sRet (eN (p2 fIsN (fV 0) (fC .non)))) sNil)
  (sSeq (sIf (tP (p1 asB (p1 (on2 fIsi) (psC (fV 1) (psC (fC (.op (.ty "str"))) psN))))) (sRet (eN (pBl (pAnd (p1 asB (p1 (on2 fIsi) (psC (fV 0) (psC (fC (.op (.ty "str"))) psN)))) (p1 asB (p2 fEq (fV 0) (fV 1))))))) sNil)
  (sSeq (sIf (tP (pOr (p1 asB (p1 (on2 fIsi) (psC (fV 1) (psC (fC (.op (.ty "bool"))) psN)))) (p1 asB (p1 (on2 fIsi) (psC (fV 0) (psC (fC (.op (.ty "bool"))) psN)))))) (sRet (eN (pBl (pAnd (p1 asB (p1 (on2 fIsi) (psC (fV 1) (psC (fC (.op (.ty "bool"))) psN)))) (p1 asB (pBl (pAnd (p1 asB (p1 (on2 fIsi) (psC (fV 0) (psC (fC (.op (.ty "bool"))) psN)))) (p1 asB (p2 fEq (fV 0) (fV 1)))))))))) sNil)
  (sRet (eN (pBl (pAnd (p1 asB (p1 (on2 fIsi) (psC (fV 0) (psC (fC (.op (.ty "int"))) psN)))) (p1 asB (p2 fEq (fV 0) (fV 1)))))))))))
def F_alike : Nat → SS → RS
  | 0 => sStuck
  | n + 1 => B_alike (F_alike n)
structure Hs where
  a : Int
  cs : List Int
  n : Int
def Hs.d (h : Hs) : D := .lst [.int h.a, .lst (h.cs.map D.int), .int h.n]
structure Hs.ok (h : Hs) : Prop where
  a0 : 0 ≤ h.a
  a1 : h.a < 2147483647
  n0 : 0 ≤ h.n
def Hs.at_ (h : Hs) : Int := h.n.fmod (max 1 (h.cs.length : Int))
def Hs.cell (h : Hs) : Int := if h.cs = [] then 0 else h.cs.getD h.at_.toNat 0
def Hs.nx (h : Hs) : Hs := ⟨(h.a * 48271 + h.cell * 69621 + 11).fmod 2147483647, h.cs, h.n + 1⟩
def nxt (h : Hs) (m : Int) : Int × Hs :=
  if 1000000000000000000 ≤ h.cell then (h.cell.fmod m, ⟨h.a, h.cs.set h.at_.toNat (h.cell.fdiv m), h.n⟩)
  else ((h.nx.a.fdiv 7).fmod m, h.nx)
theorem at_ok {h : Hs} (k : h.ok) : 0 ≤ h.at_ ∧ h.at_ < max 1 (h.cs.length : Int) := by
  have : 0 < max 1 (h.cs.length : Int) := by omega
  exact ⟨Int.fmod_nonneg_of_pos _ this, Int.fmod_lt_of_pos _ this⟩
theorem next_ev {h : Hs} (k : h.ok) {m : Int} (m1 : 1 ≤ m) (m2 : m < 1000000) : ∃ x y, F_next [.inn h.d, .bor (.int m), .no, .no] = .ret (.int (nxt h m).1) [.inn (nxt h m).2.d, .bor (.int m), x, y] := by
  obtain ⟨q1, q2⟩ := at_ok k
  have m0 : m ≠ 0 := by omega
  have mm : max 1 (h.cs.length : Int) ≠ 0 := by omega
  have hcell : (if (!h.cs.isEmpty) = true then (atI (h.cs.map D.int) (h.n.fmod (max 1 (h.cs.length : Int)))) else some (.int 0)) = some (.int h.cell) := by
    unfold Hs.cell
    cases e : h.cs with
    | nil => rfl
    | cons x xs =>
      have hl : (1 : Int) ≤ (h.cs.length : Int) := by rw [e, List.length_cons]; omega
      have hm : max 1 (h.cs.length : Int) = h.cs.length := by omega
      rw [hm] at q2
      have q4 : h.n.fmod (max 1 (h.cs.length : Int)) < h.cs.length := q2
      rw [← e]
      simp only [show h.cs ≠ [] by rw [e]; simp, if_false]
      rw [if_pos (by rw [e]; rfl)]
      exact z_atI q1 q4
  have c1 := z_neNil (ds := h.cs.map D.int) (by rw [z_dep]; omega)
  rw [z_empty] at c1
  have e1 : (-(2 ^ 64) < (48271 : Int) ∧ (48271 : Int) < 2 ^ 64) := by omega
  have e2 : (-(2 ^ 64) < (69621 : Int) ∧ (69621 : Int) < 2 ^ 64) := by omega
  have e3 : (2147483647 : Int) ≠ 0 := by omega
  have e4 : (7 : Int) ≠ 0 := by omega
  have e5 : (7 : Int).natAbs < 1073741824 := by omega
  have e6 : m.natAbs < 1073741824 := by omega
  unfold F_next
  simp (disch := first | assumption | omega) only [nl1, nl2, nl3, nl4, nc2, nc3, nc4, ix20, ix21, ix30, ix31, ix32, eq_self, isi_ii, isi_ib, isi_is, isi_itl, isi_ntl, isi_tt, isN_n, isN_i, tup2, z_eqI, z_neI, si0, si1, si2, tn0, tn1, tn2, tn3, List.nil_append, List.cons_append, sSeq, sSet, sIf, sRet, sItem, sDrop, sNil, eN, eI, tP, p2, p1, fV, fC, psC, psN, eaC, eaN, e1, e2, pBl, pAnd, pOr, pNot, pIf, eIf, imm, immL, on1_, on2_, List.getElem?_cons_zero, List.getElem?_cons_succ, List.set_cons_zero, List.set_cons_succ, Option.bind_some, Option.map_some, Sl.val, Sl.isInn, z_ixL, z_ixT, at0, at1, at2, at3, r_of, r_bind, r_thn, s_nx, s_ret, z_nx, z_asB, z_len, z_lenT, z_addI, z_mulR, z_mulL, z_sub, z_lt, z_le, z_gt, z_ge, z_mod, z_div, z_max2, z_min2, setSl, updP, modP, valAt, getP, get1, setP, set1, setV, pIdx, pRoot, stpOf, z_ixN, z_setI, List.length_map, List.length_cons, List.length_nil, if_true, if_false, Bool.false_eq_true, Bool.not_true, Bool.not_false, decide_true, decide_false, Hs.d, z_pow18, c1, z_lst0, hcell]
  unfold nxt
  by_cases hb : 1000000000000000000 ≤ h.cell
  · have hn : h.cs ≠ [] := fun z => by unfold Hs.cell at hb; rw [if_pos z] at hb; omega
    have hl : (1 : Int) ≤ (h.cs.length : Int) := by
      have := List.length_pos_iff.mpr hn
      omega
    have hm : max 1 (h.cs.length : Int) = h.cs.length := by omega
    have q3 : h.at_ < (h.cs.map D.int).length := by rw [List.length_map]; omega
    have q1' : 0 ≤ h.n.fmod (max 1 (h.cs.length : Int)) := q1
    have q3' : h.n.fmod (max 1 (h.cs.length : Int)) < (h.cs.map D.int).length := q3
    simp (disch := first | assumption | omega) only [nl1, nl2, nl3, nl4, nc2, nc3, nc4, ix20, ix21, ix30, ix31, ix32, eq_self, isi_ii, isi_ib, isi_is, isi_itl, isi_ntl, isi_tt, isN_n, isN_i, tup2, z_eqI, z_neI, si0, si1, si2, tn0, tn1, tn2, tn3, List.nil_append, List.cons_append, sSeq, sSet, sIf, sRet, sItem, sDrop, sNil, eN, eI, tP, p2, p1, fV, fC, psC, psN, eaC, eaN, e1, e2, pBl, pAnd, pOr, pNot, pIf, eIf, imm, immL, on1_, on2_, List.getElem?_cons_zero, List.getElem?_cons_succ, List.set_cons_zero, List.set_cons_succ, Option.bind_some, Option.map_some, Sl.val, Sl.isInn, z_ixL, z_ixT, at0, at1, at2, at3, r_of, r_bind, r_thn, s_nx, s_ret, z_nx, z_asB, z_len, z_lenT, z_addI, z_mulR, z_mulL, z_sub, z_lt, z_le, z_gt, z_ge, z_mod, z_div, z_max2, z_min2, setSl, updP, modP, valAt, getP, get1, setP, set1, setV, pIdx, pRoot, stpOf, z_ixN, z_setI, List.length_map, List.length_cons, List.length_nil, if_true, if_false, Bool.false_eq_true, Bool.not_true, Bool.not_false, decide_true, decide_false, hb]
    exact ⟨_, _, by rw [z_set]; rfl⟩
  · simp (disch := first | assumption | omega) only [nl1, nl2, nl3, nl4, nc2, nc3, nc4, ix20, ix21, ix30, ix31, ix32, eq_self, isi_ii, isi_ib, isi_is, isi_itl, isi_ntl, isi_tt, isN_n, isN_i, tup2, z_eqI, z_neI, si0, si1, si2, tn0, tn1, tn2, tn3, List.nil_append, List.cons_append, sSeq, sSet, sIf, sRet, sItem, sDrop, sNil, eN, eI, tP, p2, p1, fV, fC, psC, psN, eaC, eaN, e1, e2, pBl, pAnd, pOr, pNot, pIf, eIf, imm, immL, on1_, on2_, List.getElem?_cons_zero, List.getElem?_cons_succ, List.set_cons_zero, List.set_cons_succ, Option.bind_some, Option.map_some, Sl.val, Sl.isInn, z_ixL, z_ixT, at0, at1, at2, at3, r_of, r_bind, r_thn, s_nx, s_ret, z_nx, z_asB, z_len, z_lenT, z_addI, z_mulR, z_mulL, z_sub, z_lt, z_le, z_gt, z_ge, z_mod, z_div, z_max2, z_min2, setSl, updP, modP, valAt, getP, get1, setP, set1, setV, pIdx, pRoot, stpOf, z_ixN, z_setI, List.length_map, List.length_cons, List.length_nil, if_true, if_false, Bool.false_eq_true, Bool.not_true, Bool.not_false, decide_true, decide_false, hb]
    exact ⟨_, _, rfl⟩
theorem nxt_ok {h : Hs} (k : h.ok) (m : Int) : (nxt h m).2.ok := by
  unfold nxt
  split
  · exact ⟨k.a0, k.a1, k.n0⟩
  · exact ⟨Int.fmod_nonneg_of_pos _ (by omega), Int.fmod_lt_of_pos _ (by omega), by have := k.n0; show 0 ≤ h.n + 1; omega⟩
theorem nxt_lt {h : Hs} {m : Int} (m1 : 1 ≤ m) : 0 ≤ (nxt h m).1 ∧ (nxt h m).1 < m := by
  unfold nxt
  split
  · exact ⟨Int.fmod_nonneg_of_pos _ (by omega), Int.fmod_lt_of_pos _ (by omega)⟩
  · exact ⟨Int.fmod_nonneg_of_pos _ (by omega), Int.fmod_lt_of_pos _ (by omega)⟩
theorem mix_ev {c : List D → D} (hc : c = D.lst ∨ c = D.fls) (ns : List Int) (seed : Int) (h0 : 0 ≤ seed ∧ seed < 2147483647) : ∃ (h : Hs) (x y : Sl) (r : SS), h.ok ∧ F_mix [.bor (c (ns.map D.int)), .bor (.int seed), .no, .no] = .ret h.d (x :: y :: r) := by
  have asq : asSeq (c (ns.map D.int)) = some (ns.map D.int) := by rcases hc with rfl | rfl <;> rfl
  have hlist : fList (c (ns.map D.int)) = some (.lst (ns.map D.int)) := by rcases hc with rfl | rfl <;> simp [fList, z_imm]
  have himm : imm (D.int seed) = true := rfl
  obtain ⟨s', f1, a, x, a0, a1, hx, rfl⟩ := for_inv (st := lendSl 3) (body := L_mix) (ds := ns.map D.int) (s := [.bor (c (ns.map D.int)), .bor (.int seed), .own (.int seed), .no])
    (I := fun s => ∃ (a : Int) (x : Sl), 0 ≤ a ∧ a < 2147483647 ∧ x.isInn = false ∧ s = [.bor (c (ns.map D.int)), .bor (.int seed), .own (.int a), x]) (fun d hd s ⟨a, x, a0, a1, hx, e⟩ => by
      obtain ⟨z, _, rfl⟩ := List.mem_map.mp hd
      subst e
      refine ⟨_, [_, _, .own (.int ((a * 48271 + z.fmod 2147483629 + 1).fmod 2147483647)), .own (.int z)], by simp only [lendSl, List.getElem?_cons_zero, List.getElem?_cons_succ, hx, Bool.false_eq_true, if_false, List.set_cons_succ, List.set_cons_zero, imm, if_true]; rfl, ?_, _, _, Int.fmod_nonneg_of_pos _ (by omega), Int.fmod_lt_of_pos _ (by omega), rfl, rfl⟩
      have e1 : (-(2 ^ 64) < (48271 : Int) ∧ (48271 : Int) < 2 ^ 64) := by omega
      have e3 : (2147483647 : Int) ≠ 0 := by omega
      have e4 : (2147483629 : Int) ≠ 0 := by omega
      unfold L_mix
      simp (disch := first | assumption | omega) only [nl1, nl2, nl3, nl4, nc2, nc3, nc4, ix20, ix21, ix30, ix31, ix32, eq_self, isi_ii, isi_ib, isi_is, isi_itl, isi_ntl, isi_tt, isN_n, isN_i, tup2, z_eqI, z_neI, si0, si1, si2, tn0, tn1, tn2, tn3, List.nil_append, List.cons_append, sSeq, sSet, sIf, sRet, sItem, sDrop, sNil, eN, eI, tP, p2, p1, fV, fC, psC, psN, eaC, eaN, e1, e2, pBl, pAnd, pOr, pNot, pIf, eIf, imm, immL, on1_, on2_, List.getElem?_cons_zero, List.getElem?_cons_succ, List.set_cons_zero, List.set_cons_succ, Option.bind_some, Option.map_some, Sl.val, Sl.isInn, z_ixL, z_ixT, at0, at1, at2, at3, r_of, r_bind, r_thn, s_nx, s_ret, z_nx, z_asB, z_len, z_lenT, z_addI, z_mulR, z_mulL, z_sub, z_lt, z_le, z_gt, z_ge, z_mod, z_div, z_max2, z_min2, setSl, updP, modP, valAt, getP, get1, setP, set1, setV, pIdx, pRoot, stpOf, z_ixN, z_setI, List.length_map, List.length_cons, List.length_nil, if_true, if_false, Bool.false_eq_true, Bool.not_true, Bool.not_false, decide_true, decide_false]) ⟨seed, .no, h0.1, h0.2, rfl, rfl⟩
  have c1 : clr [3] [.bor (c (ns.map D.int)), .bor (.int seed), .own (.int seed), .no] = [.bor (c (ns.map D.int)), .bor (.int seed), .own (.int seed), .no] := rfl
  have c2 : clr [3] [.bor (c (ns.map D.int)), .bor (.int seed), .own (.int a), x] = [.bor (c (ns.map D.int)), .bor (.int seed), .own (.int a), .no] := by
    cases x <;> first | rfl | cases hx
  have g3 : gLstD [.int a, .lst (ns.map D.int), .int 0] = some (.lst [.int a, .lst (ns.map D.int), .int 0]) := rfl
  refine ⟨⟨a, ns, 0⟩, .bor (c (ns.map D.int)), .bor (.int seed), [.own (.int a), .no], ⟨a0, a1, Int.le_refl _⟩, ?_⟩
  unfold F_mix
  simp (disch := first | assumption | omega) only [nl1, nl2, nl3, nl4, nc2, nc3, nc4, ix20, ix21, ix30, ix31, ix32, eq_self, isi_ii, isi_ib, isi_is, isi_itl, isi_ntl, isi_tt, isN_n, isN_i, tup2, z_eqI, z_neI, si0, si1, si2, tn0, tn1, tn2, tn3, List.nil_append, List.cons_append, sSeq, sSet, sIf, sRet, sItem, sDrop, sNil, eN, eI, tP, p2, p1, fV, fC, psC, psN, eaC, eaN, e1, e2, pBl, pAnd, pOr, pNot, pIf, eIf, imm, immL, on1_, on2_, List.getElem?_cons_zero, List.getElem?_cons_succ, List.set_cons_zero, List.set_cons_succ, Option.bind_some, Option.map_some, Sl.val, Sl.isInn, z_ixL, z_ixT, at0, at1, at2, at3, r_of, r_bind, r_thn, s_nx, s_ret, z_nx, z_asB, z_len, z_lenT, z_addI, z_mulR, z_mulL, z_sub, z_lt, z_le, z_gt, z_ge, z_mod, z_div, z_max2, z_min2, setSl, updP, modP, valAt, getP, get1, setP, set1, setV, pIdx, pRoot, stpOf, z_ixN, z_setI, List.length_map, List.length_cons, List.length_nil, if_true, if_false, Bool.false_eq_true, Bool.not_true, Bool.not_false, decide_true, decide_false, sFor, iBor, asq, c1, f1, RS.map, c2, hlist, id, g3, Hs.d]
theorem alike_i (n : Nat) (a b : Int) : F_alike (n + 1) [.bor (.int a), .bor (.int b), .no] = .ret (.bl (decide (a = b))) [.bor (.int a), .bor (.int b), .no] := by
  unfold F_alike B_alike
  simp (disch := first | assumption | omega) only [nl1, nl2, nl3, nl4, nc2, nc3, nc4, ix20, ix21, ix30, ix31, ix32, eq_self, isi_ii, isi_ib, isi_is, isi_itl, isi_ntl, isi_tt, isN_n, isN_i, tup2, z_eqI, z_neI, si0, si1, si2, tn0, tn1, tn2, tn3, List.nil_append, List.cons_append, sSeq, sSet, sIf, sRet, sItem, sDrop, sNil, eN, eI, tP, p2, p1, fV, fC, psC, psN, eaC, eaN, e1, e2, pBl, pAnd, pOr, pNot, pIf, eIf, imm, immL, on1_, on2_, List.getElem?_cons_zero, List.getElem?_cons_succ, List.set_cons_zero, List.set_cons_succ, Option.bind_some, Option.map_some, Sl.val, Sl.isInn, z_ixL, z_ixT, at0, at1, at2, at3, r_of, r_bind, r_thn, s_nx, s_ret, z_nx, z_asB, z_len, z_lenT, z_addI, z_mulR, z_mulL, z_sub, z_lt, z_le, z_gt, z_ge, z_mod, z_div, z_max2, z_min2, setSl, updP, modP, valAt, getP, get1, setP, set1, setV, pIdx, pRoot, stpOf, z_ixN, z_setI, List.length_map, List.length_cons, List.length_nil, if_true, if_false, Bool.false_eq_true, Bool.not_true, Bool.not_false, decide_true, decide_false]
theorem alike_n (n : Nat) (b : D) (v : Bool) (h : fIsN b .non = some (.bl v)) : F_alike (n + 1) [.bor b, .bor .non, .no] = .ret (.bl v) [.bor b, .bor .non, .no] := by
  unfold F_alike B_alike
  simp (disch := first | assumption | omega) only [nl1, nl2, nl3, nl4, nc2, nc3, nc4, ix20, ix21, ix30, ix31, ix32, eq_self, isi_ii, isi_ib, isi_is, isi_itl, isi_ntl, isi_tt, isN_n, isN_i, tup2, z_eqI, z_neI, si0, si1, si2, tn0, tn1, tn2, tn3, List.nil_append, List.cons_append, sSeq, sSet, sIf, sRet, sItem, sDrop, sNil, eN, eI, tP, p2, p1, fV, fC, psC, psN, eaC, eaN, e1, e2, pBl, pAnd, pOr, pNot, pIf, eIf, imm, immL, on1_, on2_, List.getElem?_cons_zero, List.getElem?_cons_succ, List.set_cons_zero, List.set_cons_succ, Option.bind_some, Option.map_some, Sl.val, Sl.isInn, z_ixL, z_ixT, at0, at1, at2, at3, r_of, r_bind, r_thn, s_nx, s_ret, z_nx, z_asB, z_len, z_lenT, z_addI, z_mulR, z_mulL, z_sub, z_lt, z_le, z_gt, z_ge, z_mod, z_div, z_max2, z_min2, setSl, updP, modP, valAt, getP, get1, setP, set1, setV, pIdx, pRoot, stpOf, z_ixN, z_setI, List.length_map, List.length_cons, List.length_nil, if_true, if_false, Bool.false_eq_true, Bool.not_true, Bool.not_false, decide_true, decide_false, h]
theorem next_fn {h : Hs} (k : h.ok) {m : Int} (m1 : 1 ≤ m) (m2 : m < 1000000) {i : Nat} {s s2 : SS} (h1 : valO i s = some h.d) (h2 : setV i (nxt h m).2.d s = some s2) : fnR 2 2 F_next [.inn i [], .val (.int m)] s = .ok (.int (nxt h m).1) s2 := by
  obtain ⟨x, y, e⟩ := next_ev k m1 m2
  have c : mkc [.inn i [], .val (.int m)] s = some [.inn h.d, .bor (.int m)] := by
    simp only [mkc, h1, Option.bind_some, getP, Option.map_some]
  have b : bk [.inn i [], .val (.int m)] [.inn (nxt h m).2.d, .bor (.int m), x, y] s = some s2 := by
    simp only [bk, h1, Option.bind_some, setP, h2]
  unfold fnR
  rw [if_pos (by simp [okAr, okLe, arN, arL]), c]
  show (match F_next [.inn h.d, .bor (.int m), .no, .no] with | .ret d s' => _ | .nx s' => _ | .exc x s' => _ | _ => _) = _
  rw [e]
  simp only [b]
theorem next_fnL {h : Hs} (k : h.ok) {m : Int} (m1 : 1 ≤ m) (m2 : m < 1000000) {i j : Nat} {s s2 : SS} (hij : i ≠ j) (h1 : valO i s = some h.d) (hj : valAt j s = some (.int m)) (h2 : setV i (nxt h m).2.d s = some s2) : fnR 2 2 F_next [.inn i [], .len j []] s = .ok (.int (nxt h m).1) s2 := by
  obtain ⟨x, y, e⟩ := next_ev k m1 m2
  have c : mkc [.inn i [], .len j []] s = some [.inn h.d, .bor (.int m)] := by
    simp only [mkc, h1, hj, Option.bind_some, getP, Option.map_some]
  have b : bk [.inn i [], .len j []] [.inn (nxt h m).2.d, .bor (.int m), x, y] s = some s2 := by
    simp only [bk, h1, Option.bind_some, setP, h2]
  unfold fnR
  rw [if_pos (by simp [okAr, okLe, arN, arL, Ne.symm hij]), c]
  show (match F_next [.inn h.d, .bor (.int m), .no, .no] with | .ret d s' => _ | .nx s' => _ | .exc x s' => _ | _ => _) = _
  rw [e]
  simp only [b]
theorem call_run {n m : Nat} {Fn : SS → RS} {G : SS → R (List Ar)} {s s1 : SS} {as : List Ar} {r : R D} (h : G s = .ok as s1) (h2 : fnR n m Fn as s1 = r) : eCall n m Fn G s = r := by
  unfold eCall; rw [h]; exact h2
theorem e2_run {f : D → D → Option D} {F G : SS → R D} {s s1 s2 : SS} {a b c : D} (h : F s = .ok a s1) (h2 : G s1 = .ok b s2) (h3 : f a b = some c) : e2 f F G s = .ok c s2 := by
  unfold e2; rw [h]; show (G s1).bind _ = _; rw [h2]; show R.of (f a b) s2 = _; rw [h3]; rfl
theorem gI_run {i : Nat} {G : SS → R (List Ar)} {s s1 : SS} {d : D} {r : List Ar} (h0 : valAt i s = some d) (h : G s = .ok r s1) : gI i G s = .ok (.inn i [] :: r) s1 := by
  unfold gI; rw [h0]; show (G s).bind _ = _; rw [h]; rfl
theorem gV_run {F : SS → R D} {G : SS → R (List Ar)} {s s1 s2 : SS} {d : D} {r : List Ar} (h0 : F s = .ok d s1) (h : G s1 = .ok r s2) : gV F G s = .ok (.val d :: r) s2 := by
  unfold gV; rw [h0]; show (G s1).bind _ = _; rw [h]; rfl
/-- h at slot 0, lent in -/
theorem nx0 {h : Hs} (k : h.ok) {m : Int} (m1 : 1 ≤ m) (m2 : m < 1000000) {r : SS} : eCall 2 2 F_next (rP (qI 0 pRoot (qV (fC (.int m)) qN))) (.inn h.d :: r) = .ok (.int (nxt h m).1) (.inn (nxt h m).2.d :: r) :=
  call_run (s1 := .inn h.d :: r) rfl (next_fn k m1 m2 rfl rfl)
/-- h at slot 1, one's own -/
theorem nx1 {h : Hs} (k : h.ok) {m : Int} (m1 : 1 ≤ m) (m2 : m < 1000000) {x : Sl} {r : SS} : eCall 2 2 F_next (rP (qI 1 pRoot (qV (fC (.int m)) qN))) (x :: .own h.d :: r) = .ok (.int (nxt h m).1) (x :: .own (nxt h m).2.d :: r) :=
  call_run (s1 := x :: .own h.d :: r) rfl (next_fn k m1 m2 rfl rfl)
/-- next(h, [a, b][next(h, 2)]) -/
theorem nx0_pick2 {h : Hs} (k : h.ok) {a b : Int} (ha : 1 ≤ a ∧ a < 1000000) (hb : 1 ≤ b ∧ b < 1000000) {r : SS} : ∃ (v : Int) (h' : Hs), h'.ok ∧ 0 ≤ v ∧ v < max a b ∧
    eCall 2 2 F_next (gI 0 (gV (e2 fIx (eN (p1 fLst (psC (fC (.int a)) (psC (fC (.int b)) psN)))) (eCall 2 2 F_next (rP (qI 0 pRoot (qV (fC (.int 2)) qN))))) (rP qN))) (.inn h.d :: r) = .ok (.int v) (.inn h'.d :: r) := by
  have l1 := nxt_lt (h := h) (m := 2) (by omega)
  have k1 := nxt_ok k 2
  generalize hv : (nxt h 2).1 = v at l1
  have hl : eN (p1 fLst (psC (fC (.int a)) (psC (fC (.int b)) psN))) (.inn h.d :: r) = .ok (.lst [.int a, .int b]) (.inn h.d :: r) := rfl
  have hn := nx0 k (m := 2) (by omega) (by omega) (r := r)
  rw [hv] at hn
  have fin : ∀ c : Int, 1 ≤ c ∧ c < 1000000 → c ≤ max a b → fIx (.lst [.int a, .int b]) (.int v) = some (.int c) → ∃ (v : Int) (h' : Hs), h'.ok ∧ 0 ≤ v ∧ v < max a b ∧
    eCall 2 2 F_next (gI 0 (gV (e2 fIx (eN (p1 fLst (psC (fC (.int a)) (psC (fC (.int b)) psN)))) (eCall 2 2 F_next (rP (qI 0 pRoot (qV (fC (.int 2)) qN))))) (rP qN))) (.inn h.d :: r) = .ok (.int v) (.inn h'.d :: r) := fun c hc hm hf => by
    have l2 := nxt_lt (h := (nxt h 2).2) (m := c) hc.1
    exact ⟨(nxt (nxt h 2).2 c).1, (nxt (nxt h 2).2 c).2, nxt_ok k1 c, l2.1, by omega, call_run (gI_run rfl (gV_run (e2_run hl hn hf) rfl)) (next_fn k1 hc.1 hc.2 rfl rfl)⟩
  by_cases h0 : v = 0
  · subst h0; exact fin a ha (by omega) (by rw [z_ixL, at0])
  · have : v = 1 := by omega
    subst this; exact fin b hb (by omega) (by rw [z_ixL, at1])
/-- next(h, [a, b, c][next(h, 3)]) -/
theorem nx0_pick3 {h : Hs} (k : h.ok) {a b c0 : Int} (ha : 1 ≤ a ∧ a < 1000000) (hb : 1 ≤ b ∧ b < 1000000) (hc0 : 1 ≤ c0 ∧ c0 < 1000000) {r : SS} : ∃ (v : Int) (h' : Hs), h'.ok ∧ 0 ≤ v ∧ v < max a (max b c0) ∧
    eCall 2 2 F_next (gI 0 (gV (e2 fIx (eN (p1 fLst (psC (fC (.int a)) (psC (fC (.int b)) (psC (fC (.int c0)) psN))))) (eCall 2 2 F_next (rP (qI 0 pRoot (qV (fC (.int 3)) qN))))) (rP qN))) (.inn h.d :: r) = .ok (.int v) (.inn h'.d :: r) := by
  have l1 := nxt_lt (h := h) (m := 3) (by omega)
  have k1 := nxt_ok k 3
  generalize hv : (nxt h 3).1 = v at l1
  have hl : eN (p1 fLst (psC (fC (.int a)) (psC (fC (.int b)) (psC (fC (.int c0)) psN)))) (.inn h.d :: r) = .ok (.lst [.int a, .int b, .int c0]) (.inn h.d :: r) := rfl
  have hn := nx0 k (m := 3) (by omega) (by omega) (r := r)
  rw [hv] at hn
  have fin : ∀ c : Int, 1 ≤ c ∧ c < 1000000 → c ≤ max a (max b c0) → fIx (.lst [.int a, .int b, .int c0]) (.int v) = some (.int c) → ∃ (v : Int) (h' : Hs), h'.ok ∧ 0 ≤ v ∧ v < max a (max b c0) ∧
    eCall 2 2 F_next (gI 0 (gV (e2 fIx (eN (p1 fLst (psC (fC (.int a)) (psC (fC (.int b)) (psC (fC (.int c0)) psN))))) (eCall 2 2 F_next (rP (qI 0 pRoot (qV (fC (.int 3)) qN))))) (rP qN))) (.inn h.d :: r) = .ok (.int v) (.inn h'.d :: r) := fun c hc hm hf => by
    have l2 := nxt_lt (h := (nxt h 3).2) (m := c) hc.1
    exact ⟨(nxt (nxt h 3).2 c).1, (nxt (nxt h 3).2 c).2, nxt_ok k1 c, l2.1, by omega, call_run (gI_run rfl (gV_run (e2_run hl hn hf) rfl)) (next_fn k1 hc.1 hc.2 rfl rfl)⟩
  by_cases h0 : v = 0
  · subst h0; exact fin a ha (by omega) (by rw [z_ixL, at0])
  · by_cases h1 : v = 1
    · subst h1; exact fin b hb (by omega) (by rw [z_ixL, at1])
    · have : v = 2 := by omega
      subst this; exact fin c0 hc0 (by omega) (by rw [z_ixL, at2])
end Dy
namespace K09
open PySem PyProof.Rows L2 Dy
def top (i : Nat) : Stmt := PySem.Challenge.pw_skyframes_k09_room.main.body.getD i (.Pass ⟨0, 0, 0, 0⟩)
abbrev WN : Nat := 100000
structure Tx (K : PySem.W.Frag) (mg : Str → Option Value) (C : Nat → Addr) : Prop where
  z_bool : mg "bool" = none
  z_int : mg "int" = none
  z_isinstance : mg "isinstance" = none
  z_len : mg "len" = none
  z_list : mg "list" = none
  z_max : mg "max" = none
  z_min : mg "min" = none
  z_range : mg "range" = none
  z_str : mg "str" = none
  z_tuple : mg "tuple" = none
  c_MOST_BEATS : ∃ t, mg "MOST_BEATS" = some (.int 200 t)
  c_MOST_MADE : ∃ t, mg "MOST_MADE" = some (.int 6 t)
  c_MOST_ROOM : ∃ t, mg "MOST_ROOM" = some (.int 60 t)
  x_BadPlan : ExAt K mg (C 2) "BadPlan"
  x_BadRoom : ExAt K mg (C 1) "BadRoom"
section
variable {P : Program} {w : World} {K : PySem.W.Frag} {mg : Str → Option Value} {base : Heap} {C : Nat → Addr}
abbrev s_is_number : Stmt := top 6
abbrev N_is_number : List Str := ["part", "low", "high"]
abbrev P_is_number : List Str := ["part", "low", "high"]
def F_is_number : SS → RS := (sRet (eN (pBl (pAnd (p1 asB (p1 (on2 fIsi) (psC (fV 0) (psC (fC (.op (.ty "int"))) psN)))) (p1 asB (pBl (pAnd (p1 asB (pBl (pNot (p1 asB (p1 (on2 fIsi) (psC (fV 0) (psC (fC (.op (.ty "bool"))) psN))))))) (p1 asB (pChain fLe fLe (fV 1) (fV 0) (fV 2))))))))))
theorem sc_is_number : FnScope N_is_number P_is_number (defScope s_is_number) := ⟨rfl, rfl, rfl, by decide +kernel, rfl, by decide +kernel, by decide +kernel⟩
theorem ok_is_number (T : Tx K mg C) {f : Addr} {fd : FuncData} (F : FunD K "is_number" "is_number" (defArgs s_is_number) (defBody s_is_number) (defScope s_is_number) [] [] f fd) : FnOk P w K mg base (L2.CX P w) 1 f fd P_is_number (spD K C N_is_number P_is_number.length F_is_number) := by
  refine def_ok (k := 0) F sc_is_number ?_
  intro cdv A outer s H E W hr tk
  have ND := sc_is_number.nd
  refine ⟨_, (pss_one (ps_ret (pe_and (pe_callB (show CallR _ _ (rIsiA K) from call_isiA) (by rfl) T.z_isinstance (by decide +kernel) (pa_cons (pv 0) (pa_cons (pe_bltn (v := .ty "int") (by rfl) T.z_int (by decide +kernel) rfl) pa_nil))) (pe_and (pe_not (pe_callB (show CallR _ _ (rIsiA K) from call_isiA) (by rfl) T.z_isinstance (by decide +kernel) (pa_cons (pv 0) (pa_cons (pe_bltn (v := .ty "bool") (by rfl) T.z_bool (by decide +kernel) rfl) pa_nil)))) (pe_one (pe_chain op_le op_le (pv 1) (pv 0) (pv 2))))))), ?s⟩
  case s => exact (ss_ret (SimF.e (sf_andV (SimF.p (sf_call cs_isi (sps_cons (sp_var 0) (sps_cons (SimF.p (sf_c _)) sps_nil)))) (SimF.p (sf_andV (SimF.p (sf_notV (SimF.p (sf_call cs_isi (sps_cons (sp_var 0) (sps_cons (SimF.p (sf_c _)) sps_nil)))))) (SimF.p (sf_chain os_le os_le (sp_var 1) (sp_var 0) (sp_var 2))))))))
abbrev s_kept_by : Stmt := top 12
abbrev N_kept_by : List Str := ["makes", "windows", "found", "kept", "beat", "pair"]
abbrev P_kept_by : List Str := ["makes", "windows"]
def T_kept_by_0 : SS → Option Bool := (p1 asB (pChain fLe fLt (p2 fIx (fV 5) (fC (.int 0))) (fV 4) (p2 fIx (fV 5) (fC (.int 1)))))
def E_kept_by_1 : SS → Option D := (fV 5)
def L_kept_by_2 : SS → RS := (sSeq (sSet 3 (eN (p2 fAdd (fV 3) (p2 fIx (fV 0) (fV 4)))))
  (sSeq (sDrop (eMut 2 pRoot "list" fAppend (eaC (eI (fV 3)) eaN)))
  (sIf (tP (pAnd (p1 asB (p2 fGt (fV 3) (fC (.int 0)))) (p1 asB (p2 fNe (pCmp [5] (iP (fV 1)) (lendSl 5) T_kept_by_0 E_kept_by_1) (p1 fLst psN))))) (sSet 3 (eN (p2 fSubI (fV 3) (fC (.int 1))))) sNil)))
def F_kept_by : SS → RS := (sSeq (sSet 2 (eN (p1 fLst psN)))
  (sSeq (sSet 3 (eN (fC (.int 0))))
  (sSeq (sFor [4] id (e1 iR1 (eaC (eN (p1 (on1 fLen) (psC (fV 0) psN))) eaN)) (lendSl 4) L_kept_by_2)
  (sRet (eMv 2)))))
theorem sc_kept_by : FnScope N_kept_by P_kept_by (defScope s_kept_by) := ⟨rfl, rfl, rfl, by decide +kernel, rfl, by decide +kernel, by decide +kernel⟩
theorem ok_kept_by (T : Tx K mg C) {f : Addr} {fd : FuncData} (F : FunD K "kept_by" "kept_by" (defArgs s_kept_by) (defBody s_kept_by) (defScope s_kept_by) [] [] f fd) : FnOk P w K mg base (L2.CX P w) 1 f fd P_kept_by (spD K C N_kept_by P_kept_by.length F_kept_by) := by
  refine def_ok (k := 0) F sc_kept_by ?_
  intro cdv A outer s H E W hr tk
  have ND := sc_kept_by.nd
  refine ⟨_, (pss_cons (ps_set (i := 2) ND rfl (by first | exact Or.inl rfl | exact Or.inr rfl) (pe_lst pa_nil))
  (pss_cons (ps_set (i := 3) ND rfl (by first | exact Or.inl rfl | exact Or.inr rfl) pe_int)
  (pss_cons (ps_for (passes_of rfl) rfl (pi_range1 (by rfl) T.z_range (pa_cons (pe_callB (show CallR _ _ (fun xs H Q => ∃ x n, xs = [x] ∧ LenV K x H n ∧ Q (.int n) H) from call_len) (by rfl) T.z_len PySem.boot_len (pa_cons (pv 0) pa_nil)) pa_nil)) (pg_name (i := 4) ND rfl (by first | exact Or.inl rfl | exact Or.inr rfl)) (pss_cons (ps_set (i := 3) ND rfl (by first | exact Or.inl rfl | exact Or.inr rfl) (pe_op (show OpR _ _ (rAddA K) from op_addA) (pv 3) (pe_ix (show IxR _ (rIxA K) from ix_any (u1 hr)) (pv 0) (pv 4) (by intro _ _; rfl))))
  (pss_cons (ps_expr (pe_bm PySem.F.plainAttrs_list PySem.F.slot_list_append PySem.F.type_list_append mt_append (pv 2) (pa_cons (pv 3) pa_nil)))
  (pss_one (ps_if (PW.pt (pw_and (pt_cmpR op_gt (pv 3) pe_int (nomark _)) (pw_and1 (pt_cmpR (show OpR _ _ (rNeD K) from op_neD (u64 hr)) (pe_lc rfl ND (pi_seq (pv 1)) (blkOk_by (own := [("pair", 5)]) (by rfl)) (fun _ _ _ _ _ => (pg_name (i := 5) ND rfl (by first | exact Or.inl rfl | exact Or.inr rfl))) (fun _ _ _ _ _ => pts_one (pt_chain op_le op_lt (pe_ix (show IxR _ (rIxA K) from ix_any (u1 hr)) (pv 5) pe_int (by intro _ _; rfl)) (pv 4) (pe_ix (show IxR _ (rIxA K) from ix_any (u1 hr)) (pv 5) pe_int (by intro _ _; rfl)))) (fun _ _ _ _ _ => (pv 5))) (pe_lst pa_nil) (nomark _))))) (pss_one (ps_set (i := 3) ND rfl (by first | exact Or.inl rfl | exact Or.inr rfl) (pe_op op_sub (pv 3) pe_int))) pss_nil)))))
  (pss_one (ps_ret (pv 2)))))), ?s⟩
  case s => exact (ss_seq (ss_set (SimF.e (sf_lst sps_nil)))
  (ss_seq (ss_set (SimF.e (sf_c _)))
  (ss_seq (ss_for (si_r1 (sea_cons (SimF.e (sf_call cs_len (sps_cons (sp_var 0) sps_nil))) sea_nil)) (sg_name 4) (ss_seq (ss_set (SimF.e (sf_op os_add (sp_var 3) (sp_op op_ix (sp_var 0) (sp_var 4)))))
  (ss_seq (ss_expr (se_mut ms_append (sea_cons (SimP.e (sp_var 3)) sea_nil)))
  (ss_if (SimPT.e (spt_and (spt_test (SimF.p (sf_op os_gt (sp_var 3) (SimF.p (sf_c _))))) (spt_test (SimF.p (sf_op os_ne (SimF.p (sf_cmp (sip_seq (sp_var 1)) (sg_name 5) (spt_test (SimF.p (sf_chain os_le os_lt (sp_op op_ix (sp_var 5) (SimF.p (sf_c _))) (sp_var 4) (sp_op op_ix (sp_var 5) (SimF.p (sf_c _)))))) (sp_var 5))) (SimF.p (sf_lst sps_nil))))))) (ss_set (SimF.e (sf_op os_sub (sp_var 3) (SimF.p (sf_c _))))) ss_nil))))
  (ss_ret (se_mv 2)))))
abbrev s__law_mix : Stmt := top 16
abbrev N__law_mix : List Str := ["_law_script", "_law_seed", "_law_mixed", "_law_cell"]
abbrev P__law_mix : List Str := ["_law_script", "_law_seed"]
def L__law_mix_0 : SS → RS := (sSet 2 (eN (p2 fMod (p2 fAdd (p2 fAdd (p2 fMul (fV 2) (fC (.int 48271))) (p2 fMod (fV 3) (fC (.int 2147483629)))) (fC (.int 1))) (fC (.int 2147483647)))))
def F__law_mix : SS → RS := (sSeq (sSet 2 (eI (fV 1)))
  (sSeq (sFor [3] id (iBor 0) (lendSl 3) L__law_mix_0)
  (sRet (e1 gLstD (eaC (eI (fV 2)) (eaC (eN (p1 (on1 fList) (psC (fV 0) psN))) (eaC (eN (fC (.int 0))) eaN)))))))
theorem sc__law_mix : FnScope N__law_mix P__law_mix (defScope s__law_mix) := ⟨rfl, rfl, rfl, by decide +kernel, rfl, by decide +kernel, by decide +kernel⟩
theorem ok__law_mix (T : Tx K mg C) {f : Addr} {fd : FuncData} (F : FunD K "_law_mix" "_law_mix" (defArgs s__law_mix) (defBody s__law_mix) (defScope s__law_mix) [] [] f fd) : FnOk P w K mg base (L2.CX P w) 1 f fd P__law_mix (spD K C N__law_mix P__law_mix.length F__law_mix) := by
  refine def_ok (k := 0) F sc__law_mix ?_
  intro cdv A outer s H E W hr tk
  have ND := sc__law_mix.nd
  refine ⟨_, (pss_cons (ps_set (i := 2) ND rfl (by first | exact Or.inl rfl | exact Or.inr rfl) (pv 1))
  (pss_cons (ps_for (passes_of rfl) rfl (pi_seq (pv 0)) (pg_name (i := 3) ND rfl (by first | exact Or.inl rfl | exact Or.inr rfl)) (pss_one (ps_set (i := 2) ND rfl (by first | exact Or.inl rfl | exact Or.inr rfl) (pe_op op_modN (pe_op (show OpR _ _ (rAddA K) from op_addA) (pe_op (show OpR _ _ (rAddA K) from op_addA) (pe_op (show OpR _ _ (rMulA K) from op_mulA) (pv 2) pe_int) (pe_op op_modN (pv 3) pe_int)) pe_int) pe_int))))
  (pss_one (ps_ret (pe_lst (pa_cons (pv 2) (pa_cons (pe_callTy (show CallR _ _ (rListA K) from call_listA rfl) (by rfl) T.z_list (by decide +kernel) (pa_cons (pv 0) pa_nil)) (pa_cons pe_int pa_nil)))))))), ?s⟩
  case s => exact (ss_seq (ss_set (SimP.e (sp_var 1)))
  (ss_seq (ss_for (si_bor 0) (sg_name 3) (ss_set (SimF.e (sf_op os_mod (SimF.p (sf_op os_add (SimF.p (sf_op os_add (SimF.p (sf_op os_mul (sp_var 2) (SimF.p (sf_c _)))) (SimF.p (sf_op os_mod (sp_var 3) (SimF.p (sf_c _)))))) (SimF.p (sf_c _)))) (SimF.p (sf_c _))))))
  (ss_ret (se_lst (sea_cons (SimP.e (sp_var 2)) (sea_cons (SimF.e (sf_call cs_list (sps_cons (sp_var 0) sps_nil))) (sea_cons (SimF.e (sf_c _)) sea_nil)))))))
abbrev s__law_next : Stmt := top 17
abbrev N__law_next : List Str := ["_law_h", "_law_many", "_law_at", "_law_cell"]
abbrev P__law_next : List Str := ["_law_h", "_law_many"]
def F__law_next : SS → RS := (sSeq (sSet 2 (eN (p2 fMod (p2 fIx (fV 0) (fC (.int 2))) (p1 fMax (psC (fC (.int 1)) (psC (p1 (on1 fLen) (psC (p2 fIx (fV 0) (fC (.int 1))) psN)) psN))))))
  (sSeq (sSet 3 (eI (pIf (p1 asB (p2 fNe (p2 fIx (fV 0) (fC (.int 1))) (p1 fLst psN))) (p2 fIx (p2 fIx (fV 0) (fC (.int 1))) (fV 2)) (fC (.int 0)))))
  (sSeq (sIf (tP (p1 asB (p2 fGe (fV 3) (p2 fPow (fC (.int 10)) (fC (.int 18)))))) (sSeq (sItem 0 (pIdx 0 pRoot (fC (.int 1))) (fV 2) fSetI (eN (p2 fDiv (fV 3) (fV 1))))
  (sRet (eN (p2 fMod (fV 3) (fV 1))))) sNil)
  (sSeq (sItem 0 pRoot (fC (.int 0)) fSetI (eN (p2 fMod (p2 fAdd (p2 fAdd (p2 fMul (p2 fIx (fV 0) (fC (.int 0))) (fC (.int 48271))) (p2 fMul (fV 3) (fC (.int 69621)))) (fC (.int 11))) (fC (.int 2147483647)))))
  (sSeq (sItem 0 pRoot (fC (.int 2)) fSetI (eN (p2 fAdd (p2 fIx (fV 0) (fC (.int 2))) (fC (.int 1)))))
  (sRet (eN (p2 fMod (p2 fDiv (p2 fIx (fV 0) (fC (.int 0))) (fC (.int 7))) (fV 1)))))))))
theorem sc__law_next : FnScope N__law_next P__law_next (defScope s__law_next) := ⟨rfl, rfl, rfl, by decide +kernel, rfl, by decide +kernel, by decide +kernel⟩
theorem ok__law_next (T : Tx K mg C) {f : Addr} {fd : FuncData} (F : FunD K "_law_next" "_law_next" (defArgs s__law_next) (defBody s__law_next) (defScope s__law_next) [] [] f fd) : FnOk P w K mg base (L2.CX P w) 1 f fd P__law_next (spD K C N__law_next P__law_next.length F__law_next) := by
  refine def_ok (k := 0) F sc__law_next ?_
  intro cdv A outer s H E W hr tk
  have ND := sc__law_next.nd
  refine ⟨_, (pss_cons (ps_set (i := 2) ND rfl (by first | exact Or.inl rfl | exact Or.inr rfl) (pe_op op_modN (pe_ix (show IxR _ (rIxA K) from ix_any (u1 hr)) (pv 0) pe_int (by intro _ _; rfl)) (pe_callB (show CallR _ _ (rMaxA K) from call_maxA rfl) (by rfl) T.z_max PyProof.Rows.boot_max (pa_cons pe_int (pa_cons (pe_callB (show CallR _ _ (fun xs H Q => ∃ x n, xs = [x] ∧ LenV K x H n ∧ Q (.int n) H) from call_len) (by rfl) T.z_len PySem.boot_len (pa_cons (pe_ix (show IxR _ (rIxA K) from ix_any (u1 hr)) (pv 0) pe_int (by intro _ _; rfl)) pa_nil)) pa_nil)))))
  (pss_cons (ps_set (i := 3) ND rfl (by first | exact Or.inl rfl | exact Or.inr rfl) (pe_ifExp (pt_cmpR (show OpR _ _ (rNeD K) from op_neD (u64 hr)) (pe_ix (show IxR _ (rIxA K) from ix_any (u1 hr)) (pv 0) pe_int (by intro _ _; rfl)) (pe_lst pa_nil) (nomark _)) (pe_ix (show IxR _ (rIxA K) from ix_any (u1 hr)) (pe_ix (show IxR _ (rIxA K) from ix_any (u1 hr)) (pv 0) pe_int (by intro _ _; rfl)) (pv 2) (by intro _ _; rfl)) pe_int))
  (pss_cons (ps_if (pt_cmpR op_ge (pv 3) (pe_op op_pow pe_int pe_int) (nomark _)) (pss_cons (ps_asg (pe_op op_fdivN (pv 3) (pv 1)) (pg_sub (pe_ix (show IxR _ (rIxA K) from ix_any (u1 hr)) (pv 0) pe_int (by intro _ _; rfl)) (pv 2) set_list))
  (pss_one (ps_ret (pe_op op_modN (pv 3) (pv 1))))) pss_nil)
  (pss_cons (ps_asg (pe_op op_modN (pe_op (show OpR _ _ (rAddA K) from op_addA) (pe_op (show OpR _ _ (rAddA K) from op_addA) (pe_op (show OpR _ _ (rMulA K) from op_mulA) (pe_ix (show IxR _ (rIxA K) from ix_any (u1 hr)) (pv 0) pe_int (by intro _ _; rfl)) pe_int) (pe_op (show OpR _ _ (rMulA K) from op_mulA) (pv 3) pe_int)) pe_int) pe_int) (pg_sub (pv 0) pe_int set_list))
  (pss_cons (ps_asg (pe_op (show OpR _ _ (rAddA K) from op_addA) (pe_ix (show IxR _ (rIxA K) from ix_any (u1 hr)) (pv 0) pe_int (by intro _ _; rfl)) pe_int) (pg_sub (pv 0) pe_int set_list))
  (pss_one (ps_ret (pe_op op_modN (pe_op op_fdivN (pe_ix (show IxR _ (rIxA K) from ix_any (u1 hr)) (pv 0) pe_int (by intro _ _; rfl)) pe_int) (pv 1))))))))), ?s⟩
  case s => exact (ss_seq (ss_set (SimF.e (sf_op os_mod (sp_op op_ix (sp_var 0) (SimF.p (sf_c _))) (SimF.p (sf_call cs_max (sps_cons (SimF.p (sf_c _)) (sps_cons (SimF.p (sf_call cs_len (sps_cons (sp_op op_ix (sp_var 0) (SimF.p (sf_c _))) sps_nil))) sps_nil)))))))
  (ss_seq (ss_set (SimP.e (sp_if (spt_test (SimF.p (sf_op os_ne (sp_op op_ix (sp_var 0) (SimF.p (sf_c _))) (SimF.p (sf_lst sps_nil))))) (sp_op op_ix (sp_op op_ix (sp_var 0) (SimF.p (sf_c _))) (sp_var 2)) (SimF.p (sf_c _)))))
  (ss_seq (ss_if (SimPT.e (spt_test (SimF.p (sf_op os_ge (sp_var 3) (SimF.p (sf_op os_pow (SimF.p (sf_c _)) (SimF.p (sf_c _)))))))) (ss_seq (ss_item sts_list (SimF.e (sf_op os_div (sp_var 3) (sp_var 1))) (lp_idx (lp_var 0) (SimF.p (sf_c _))) (sp_var 2))
  (ss_ret (SimF.e (sf_op os_mod (sp_var 3) (sp_var 1))))) ss_nil)
  (ss_seq (ss_item sts_list (SimF.e (sf_op os_mod (SimF.p (sf_op os_add (SimF.p (sf_op os_add (SimF.p (sf_op os_mul (sp_op op_ix (sp_var 0) (SimF.p (sf_c _))) (SimF.p (sf_c _)))) (SimF.p (sf_op os_mul (sp_var 3) (SimF.p (sf_c _)))))) (SimF.p (sf_c _)))) (SimF.p (sf_c _)))) (lp_var 0) (SimF.p (sf_c _)))
  (ss_seq (ss_item sts_list (SimF.e (sf_op os_add (sp_op op_ix (sp_var 0) (SimF.p (sf_c _))) (SimF.p (sf_c _)))) (lp_var 0) (SimF.p (sf_c _)))
  (ss_ret (SimF.e (sf_op os_mod (SimF.p (sf_op os_div (sp_op op_ix (sp_var 0) (SimF.p (sf_c _))) (SimF.p (sf_c _)))) (sp_var 1)))))))))
abbrev s__law_kept : Stmt := top 20
abbrev N__law_kept : List Str := ["_law_makes", "_law_windows", "_law_found", "_law_kept_here", "_law_beat", "_law_begin", "_law_end"]
abbrev P__law_kept : List Str := ["_law_makes", "_law_windows"]
def L__law_kept_0 : SS → RS := (sIf (tP (p1 asB (pChain fLe fLt (fV 5) (fV 4) (fV 6)))) (sSet 3 (eN (pSl fSl (fV 3) (oS (fC (.int 1))) oN))) sNil)
def L__law_kept_1 : SS → RS := (sSeq (sSet 3 (eN (p2 fAdd (fV 3) (p2 fMul (p1 fLst (psC (fV 4) psN)) (p2 fIx (fV 0) (fV 4))))))
  (sSeq (sDrop (eMut 2 pRoot "list" fAppend (eaC (eN (p1 (on1 fLen) (psC (fV 3) psN))) eaN)))
  (sFor [5, 6] id (iBor 1) (lendAll [5, 6]) L__law_kept_0)))
def F__law_kept : SS → RS := (sSeq (sPar 2 3 (eaC (eN (p1 fLst psN)) (eaC (eN (p1 fLst psN)) eaN)))
  (sSeq (sFor [4] id (e1 iR1 (eaC (eN (p1 (on1 fLen) (psC (fV 0) psN))) eaN)) (lendSl 4) L__law_kept_1)
  (sRet (eMv 2))))
theorem sc__law_kept : FnScope N__law_kept P__law_kept (defScope s__law_kept) := ⟨rfl, rfl, rfl, by decide +kernel, rfl, by decide +kernel, by decide +kernel⟩
theorem ok__law_kept (T : Tx K mg C) {f : Addr} {fd : FuncData} (F : FunD K "_law_kept" "_law_kept" (defArgs s__law_kept) (defBody s__law_kept) (defScope s__law_kept) [] [] f fd) : FnOk P w K mg base (L2.CX P w) 1 f fd P__law_kept (spD K C N__law_kept P__law_kept.length F__law_kept) := by
  refine def_ok (k := 0) F sc__law_kept ?_
  intro cdv A outer s H E W hr tk
  have ND := sc__law_kept.nd
  refine ⟨_, (pss_cons (ps_par (i := 2) (j := 3) rfl ND rfl rfl (by decide) rfl rfl (pa_cons (pe_lst pa_nil) (pa_cons (pe_lst pa_nil) pa_nil)) rfl)
  (pss_cons (ps_for (passes_of rfl) rfl (pi_range1 (by rfl) T.z_range (pa_cons (pe_callB (show CallR _ _ (fun xs H Q => ∃ x n, xs = [x] ∧ LenV K x H n ∧ Q (.int n) H) from call_len) (by rfl) T.z_len PySem.boot_len (pa_cons (pv 0) pa_nil)) pa_nil)) (pg_name (i := 4) ND rfl (by first | exact Or.inl rfl | exact Or.inr rfl)) (pss_cons (ps_set (i := 3) ND rfl (by first | exact Or.inl rfl | exact Or.inr rfl) (pe_op (show OpR _ _ (rAddA K) from op_addA) (pv 3) (pe_op (show OpR _ _ (rMulA K) from op_mulA) (pe_lst (pa_cons (pv 4) pa_nil)) (pe_ix (show IxR _ (rIxA K) from ix_any (u1 hr)) (pv 0) (pv 4) (by intro _ _; rfl)))))
  (pss_cons (ps_expr (pe_bm PySem.F.plainAttrs_list PySem.F.slot_list_append PySem.F.type_list_append mt_append (pv 2) (pa_cons (pe_callB (show CallR _ _ (fun xs H Q => ∃ x n, xs = [x] ∧ LenV K x H n ∧ Q (.int n) H) from call_len) (by rfl) T.z_len PySem.boot_len (pa_cons (pv 3) pa_nil)) pa_nil)))
  (pss_one (ps_for (passes_of rfl) rfl (pi_seq (pv 1)) (show PG _ _ (gTup K _ _) from pg_tup rfl (pgs_cons (pg_name (i := 5) ND rfl (by first | exact Or.inl rfl | exact Or.inr rfl)) (pgs_cons (pg_name (i := 6) ND rfl (by first | exact Or.inl rfl | exact Or.inr rfl)) pgs_nil))) (pss_one (ps_if (pt_chain op_le op_lt (pv 5) (pv 4) (pv 6)) (pss_one (ps_set (i := 3) ND rfl (by first | exact Or.inl rfl | exact Or.inr rfl) (pe_slice (show SlR _ (rSl K) from sl_any) (pv 3) (po_some pe_int) po_none))) pss_nil)))))))
  (pss_one (ps_ret (pv 2))))), ?s⟩
  case s => exact (ss_seq (ss_par (sea_cons (SimF.e (sf_lst sps_nil)) (sea_cons (SimF.e (sf_lst sps_nil)) sea_nil)))
  (ss_seq (ss_for (si_r1 (sea_cons (SimF.e (sf_call cs_len (sps_cons (sp_var 0) sps_nil))) sea_nil)) (sg_name 4) (ss_seq (ss_set (SimF.e (sf_op os_add (sp_var 3) (SimF.p (sf_op os_mul (SimF.p (sf_lst (sps_cons (sp_var 4) sps_nil))) (sp_op op_ix (sp_var 0) (sp_var 4)))))))
  (ss_seq (ss_expr (se_mut ms_append (sea_cons (SimF.e (sf_call cs_len (sps_cons (sp_var 3) sps_nil))) sea_nil)))
  (ss_for (si_bor 1) (sg_tup [5, 6]) (ss_if (SimPT.e (spt_test (SimF.p (sf_chain os_le os_lt (sp_var 5) (sp_var 4) (sp_var 6))))) (ss_set (SimF.e (sf_sl ss_sl (sp_var 3) (so_some (SimF.p (sf_c _))) so_none))) ss_nil)))))
  (ss_ret (se_mv 2))))
abbrev s_need_room : Stmt := top 7
abbrev N_need_room : List Str := ["room"]
abbrev P_need_room : List Str := ["room"]
def F_need_room : SS → RS := (sIf (tP (pNot (p1 asB (pCall 3 0 F_is_number (qL 0 pRoot (qV (fC (.int 1)) (qV (fC (.int 60)) qN))))))) (sRaise 1) sNil)
theorem sc_need_room : FnScope N_need_room P_need_room (defScope s_need_room) := ⟨rfl, rfl, rfl, by decide +kernel, rfl, by decide +kernel, by decide +kernel⟩
theorem ok_need_room (T : Tx K mg C) {f : Addr} {fd : FuncData} (F : FunD K "need_room" "need_room" (defArgs s_need_room) (defBody s_need_room) (defScope s_need_room) [] [] f fd) {f_is_number : Addr} {fd_is_number : FuncData} (A_is_number : FnAt P w K mg base C 1 f_is_number fd_is_number "is_number" N_is_number P_is_number F_is_number) : FnOk P w K mg base (L2.CX P w) 2 f fd P_need_room (spD K C N_need_room P_need_room.length F_need_room) := by
  refine def_ok (k := 1) F sc_need_room ?_
  intro cdv A outer s H E W hr tk
  have ND := sc_need_room.nd
  refine ⟨_, (pss_one (ps_if (pt_not (pt_val (pe_fn A_is_number hr tk (pa_cons (pv 0) (pa_cons pe_int (pa_cons (pe_gint (by rfl) T.c_MOST_ROOM) pa_nil)))))) (pss_one (ps_rs T.x_BadRoom tk)) pss_nil)), ?s⟩
  case s => exact (ss_if (SimPT.e (spt_not (spt_b (SimF.p (sf_fn (srp_len (lp_var 0) (srp_val (sf_c _) (srp_val (sf_c _) srp_nil))) rfl))))) (ss_raise 1) ss_nil)
abbrev s_need_plan : Stmt := top 11
abbrev N_need_plan : List Str := ["makes", "windows", "last", "pair", "one"]
abbrev P_need_plan : List Str := ["makes", "windows"]
def T_need_plan_0 : SS → Option Bool := (pNot (p1 asB (pCall 3 0 F_is_number (qL 4 pRoot (qV (fC (.int 0)) (qV (fC (.int 6)) qN))))))
def E_need_plan_1 : SS → Option D := (fV 4)
def L_need_plan_2 : SS → RS := (sSeq (sIf (tP (pOr (pNot (p1 asB (p1 (on2 fIsi) (psC (fV 3) (psC (fC (.op (.ty "tuple"))) psN))))) (pOr (p1 asB (p2 fNe (p1 (on1 fLen) (psC (fV 3) psN)) (fC (.int 2)))) (pNot (p1 asB (pCall 3 0 F_is_number (qL 3 (pIdx 3 pRoot (fC (.int 0))) (qL 2 pRoot (qV (p1 (on1 fLen) (psC (fV 0) psN)) qN))))))))) (sRaise 2) sNil)
  (sSeq (sIf (tP (pNot (p1 asB (pCall 3 0 F_is_number (qL 3 (pIdx 3 pRoot (fC (.int 1))) (qV (p2 fAdd (p2 fIx (fV 3) (fC (.int 0))) (fC (.int 1))) (qV (p1 (on1 fLen) (psC (fV 0) psN)) qN))))))) (sRaise 2) sNil)
  (sSet 2 (eI (p2 fIx (fV 3) (fC (.int 1)))))))
def F_need_plan : SS → RS := (sSeq (sIf (tP (pOr (pNot (p1 asB (p1 (on2 fIsi) (psC (fV 0) (psC (fC (.op (.ty "tuple"))) psN))))) (pOr (p1 asB (p2 fGt (p1 (on1 fLen) (psC (fV 0) psN)) (fC (.int 200)))) (pNot (p1 asB (p1 (on2 fIsi) (psC (fV 1) (psC (fC (.op (.ty "tuple"))) psN)))))))) (sRaise 2) sNil)
  (sSeq (sIf (tP (p1 asB (p2 fNe (pCmp [4] (iP (fV 0)) (lendSl 4) T_need_plan_0 E_need_plan_1) (p1 fLst psN)))) (sRaise 2) sNil)
  (sSeq (sSet 2 (eN (fC (.int 0))))
  (sFor [3] id (iBor 1) (lendSl 3) L_need_plan_2))))
theorem sc_need_plan : FnScope N_need_plan P_need_plan (defScope s_need_plan) := ⟨rfl, rfl, rfl, by decide +kernel, rfl, by decide +kernel, by decide +kernel⟩
theorem ok_need_plan (T : Tx K mg C) {f : Addr} {fd : FuncData} (F : FunD K "need_plan" "need_plan" (defArgs s_need_plan) (defBody s_need_plan) (defScope s_need_plan) [] [] f fd) {f_is_number : Addr} {fd_is_number : FuncData} (A_is_number : FnAt P w K mg base C 1 f_is_number fd_is_number "is_number" N_is_number P_is_number F_is_number) : FnOk P w K mg base (L2.CX P w) 2 f fd P_need_plan (spD K C N_need_plan P_need_plan.length F_need_plan) := by
  refine def_ok (k := 1) F sc_need_plan ?_
  intro cdv A outer s H E W hr tk
  have ND := sc_need_plan.nd
  refine ⟨_, (pss_cons (ps_if (PW.pt (pw_or (pt_not (pt_val (pe_callB (show CallR _ _ (rIsiA K) from call_isiA) (by rfl) T.z_isinstance (by decide +kernel) (pa_cons (pv 0) (pa_cons (pe_bltn (v := .ty "tuple") (by rfl) T.z_tuple (by decide +kernel) rfl) pa_nil))))) (pw_or (pt_cmpR op_gt (pe_callB (show CallR _ _ (fun xs H Q => ∃ x n, xs = [x] ∧ LenV K x H n ∧ Q (.int n) H) from call_len) (by rfl) T.z_len PySem.boot_len (pa_cons (pv 0) pa_nil)) (pe_gint (by rfl) T.c_MOST_BEATS) (nomark _)) (pw_or1 (pt_not (pt_val (pe_callB (show CallR _ _ (rIsiA K) from call_isiA) (by rfl) T.z_isinstance (by decide +kernel) (pa_cons (pv 1) (pa_cons (pe_bltn (v := .ty "tuple") (by rfl) T.z_tuple (by decide +kernel) rfl) pa_nil))))))))) (pss_one (ps_rs T.x_BadPlan tk)) pss_nil)
  (pss_cons (ps_if (pt_cmpR (show OpR _ _ (rNeD K) from op_neD (u64 hr)) (pe_lc rfl ND (pi_seq (pv 0)) (blkOk_by (own := [("one", 4)]) (by rfl)) (fun _ _ _ _ _ => (pg_name (i := 4) ND rfl (by first | exact Or.inl rfl | exact Or.inr rfl))) (fun _ _ _ _ _ => pts_one (pt_not (pt_val (pe_fn A_is_number hr takes0 (pa_cons (pv 4) (pa_cons pe_int (pa_cons (pe_gint (by rfl) T.c_MOST_MADE) pa_nil))))))) (fun _ _ _ _ _ => (pv 4))) (pe_lst pa_nil) (nomark _)) (pss_one (ps_rs T.x_BadPlan tk)) pss_nil)
  (pss_cons (ps_set (i := 2) ND rfl (by first | exact Or.inl rfl | exact Or.inr rfl) pe_int)
  (pss_one (ps_for (passes_of rfl) rfl (pi_seq (pv 1)) (pg_name (i := 3) ND rfl (by first | exact Or.inl rfl | exact Or.inr rfl)) (pss_cons (ps_if (PW.pt (pw_or (pt_not (pt_val (pe_callB (show CallR _ _ (rIsiA K) from call_isiA) (by rfl) T.z_isinstance (by decide +kernel) (pa_cons (pv 3) (pa_cons (pe_bltn (v := .ty "tuple") (by rfl) T.z_tuple (by decide +kernel) rfl) pa_nil))))) (pw_or (pt_cmpR (show OpR _ _ (rNeD K) from op_neD (u64 hr)) (pe_callB (show CallR _ _ (fun xs H Q => ∃ x n, xs = [x] ∧ LenV K x H n ∧ Q (.int n) H) from call_len) (by rfl) T.z_len PySem.boot_len (pa_cons (pv 3) pa_nil)) pe_int (nomark _)) (pw_or1 (pt_not (pt_val (pe_fn A_is_number hr tk (pa_cons (pe_ix (show IxR _ (rIxA K) from ix_any (u1 hr)) (pv 3) pe_int (by intro _ _; rfl)) (pa_cons (pv 2) (pa_cons (pe_callB (show CallR _ _ (fun xs H Q => ∃ x n, xs = [x] ∧ LenV K x H n ∧ Q (.int n) H) from call_len) (by rfl) T.z_len PySem.boot_len (pa_cons (pv 0) pa_nil)) pa_nil)))))))))) (pss_one (ps_rs T.x_BadPlan tk)) pss_nil)
  (pss_cons (ps_if (pt_not (pt_val (pe_fn A_is_number hr tk (pa_cons (pe_ix (show IxR _ (rIxA K) from ix_any (u1 hr)) (pv 3) pe_int (by intro _ _; rfl)) (pa_cons (pe_op (show OpR _ _ (rAddA K) from op_addA) (pe_ix (show IxR _ (rIxA K) from ix_any (u1 hr)) (pv 3) pe_int (by intro _ _; rfl)) pe_int) (pa_cons (pe_callB (show CallR _ _ (fun xs H Q => ∃ x n, xs = [x] ∧ LenV K x H n ∧ Q (.int n) H) from call_len) (by rfl) T.z_len PySem.boot_len (pa_cons (pv 0) pa_nil)) pa_nil)))))) (pss_one (ps_rs T.x_BadPlan tk)) pss_nil)
  (pss_one (ps_set (i := 2) ND rfl (by first | exact Or.inl rfl | exact Or.inr rfl) (pe_ix (show IxR _ (rIxA K) from ix_any (u1 hr)) (pv 3) pe_int (by intro _ _; rfl))))))))))), ?s⟩
  case s => exact (ss_seq (ss_if (SimPT.e (spt_or (spt_not (spt_b (SimF.p (sf_call cs_isi (sps_cons (sp_var 0) (sps_cons (SimF.p (sf_c _)) sps_nil)))))) (spt_or (spt_test (SimF.p (sf_op os_gt (SimF.p (sf_call cs_len (sps_cons (sp_var 0) sps_nil))) (SimF.p (sf_c _))))) (spt_not (spt_b (SimF.p (sf_call cs_isi (sps_cons (sp_var 1) (sps_cons (SimF.p (sf_c _)) sps_nil))))))))) (ss_raise 2) ss_nil)
  (ss_seq (ss_if (SimPT.e (spt_test (SimF.p (sf_op os_ne (SimF.p (sf_cmp (sip_seq (sp_var 0)) (sg_name 4) (spt_not (spt_b (SimF.p (sf_fn (srp_len (lp_var 4) (srp_val (sf_c _) (srp_val (sf_c _) srp_nil))) rfl)))) (sp_var 4))) (SimF.p (sf_lst sps_nil)))))) (ss_raise 2) ss_nil)
  (ss_seq (ss_set (SimF.e (sf_c _)))
  (ss_for (si_bor 1) (sg_name 3) (ss_seq (ss_if (SimPT.e (spt_or (spt_not (spt_b (SimF.p (sf_call cs_isi (sps_cons (sp_var 3) (sps_cons (SimF.p (sf_c _)) sps_nil)))))) (spt_or (spt_test (SimF.p (sf_op os_ne (SimF.p (sf_call cs_len (sps_cons (sp_var 3) sps_nil))) (SimF.p (sf_c _))))) (spt_not (spt_b (SimF.p (sf_fn (srp_len (lp_idx (lp_var 3) (SimF.p (sf_c _))) (srp_len (lp_var 2) (srp_val (sf_call cs_len (sps_cons (sp_var 0) sps_nil)) srp_nil))) rfl))))))) (ss_raise 2) ss_nil)
  (ss_seq (ss_if (SimPT.e (spt_not (spt_b (SimF.p (sf_fn (srp_len (lp_idx (lp_var 3) (SimF.p (sf_c _))) (srp_val (sf_op os_add (sp_op op_ix (sp_var 3) (SimF.p (sf_c _))) (SimF.p (sf_c _))) (srp_val (sf_call cs_len (sps_cons (sp_var 0) sps_nil)) srp_nil))) rfl))))) (ss_raise 2) ss_nil)
  (ss_set (SimP.e (sp_op op_ix (sp_var 3) (SimF.p (sf_c _)))))))))))
abbrev s__law_plan : Stmt := top 19
abbrev N__law_plan : List Str := ["_law_h", "_law_often", "_law_many", "_law_makes", "_law_windows", "_law_last", "_law_begin", "_law_end", "_law_k"]
abbrev P__law_plan : List Str := ["_law_h"]
def E__law_plan_0 : SS → R D := (e2 fMul (eCall 2 2 F__law_next (rP (qI 0 pRoot (qV (fC (.int 7)) qN)))) (e1 (on1 fInt) (eaC (e2 fEq (eCall 2 2 F__law_next (rP (qI 0 pRoot (qL 1 pRoot qN)))) (eN (fC (.int 0)))) eaN)))
def T__law_plan_1 : SS → R Bool := (tP (p1 asB (p2 fLt (fV 5) (p1 (on1 fLen) (psC (fV 3) psN)))))
def L__law_plan_2 : SS → RS := (sSeq (sSet 6 (e2 fAdd (eI (fV 5)) (eCall 2 2 F__law_next (gI 0 (gV (e2 fIx (eN (p1 fLst (psC (fC (.int 2)) (psC (fC (.int 20)) psN)))) (eCall 2 2 F__law_next (rP (qI 0 pRoot (qV (fC (.int 2)) qN))))) (rP qN))))))
  (sSeq (sSet 7 (e2 fAdd (eN (p2 fAdd (fV 6) (fC (.int 1)))) (eCall 2 2 F__law_next (gI 0 (gV (e2 fIx (eN (p1 fLst (psC (fC (.int 2)) (psC (fC (.int 20)) (psC (fC (.int 200)) psN))))) (eCall 2 2 F__law_next (rP (qI 0 pRoot (qV (fC (.int 3)) qN))))) (rP qN))))))
  (sSeq (sIf (tP (p1 asB (p2 fLe (fV 7) (p1 (on1 fLen) (psC (fV 3) psN))))) (sDrop (eMut 4 pRoot "list" fAppend (eaC (eN (p1 fTup (psC (fV 6) (psC (fV 7) psN)))) eaN))) sNil)
  (sSet 5 (eI (fV 7))))))
def F__law_plan : SS → RS := (sSeq (sSet 1 (e2 fAdd (eN (fC (.int 1))) (eCall 2 2 F__law_next (rP (qI 0 pRoot (qV (fC (.int 6)) qN))))))
  (sSeq (sSet 2 (eCall 2 2 F__law_next (gI 0 (gV (e2 fIx (eN (p1 fLst (psC (fC (.int 12)) (psC (fC (.int 201)) psN)))) (eCall 2 2 F__law_next (rP (qI 0 pRoot (qV (fC (.int 2)) qN))))) (rP qN)))))
  (sSeq (sSet 3 (e1 (on1 fTuple) (eaC (eCmp [8] id (e1 iR1 (eaC (eI (fV 2)) eaN)) (lendSl 8) (tP fun _ => some true) E__law_plan_0) eaN)))
  (sSeq (sPar 4 5 (eaC (eN (p1 fLst psN)) (eaC (eN (fC (.int 0))) eaN)))
  (sSeq (sWhile WN T__law_plan_1 L__law_plan_2)
  (sRet (eN (p1 fTup (psC (fV 3) (psC (p1 (on1 fTuple) (psC (fV 4) psN)) psN))))))))))
theorem sc__law_plan : FnScope N__law_plan P__law_plan (defScope s__law_plan) := ⟨rfl, rfl, rfl, by decide +kernel, rfl, by decide +kernel, by decide +kernel⟩
theorem ok__law_plan (T : Tx K mg C) {f : Addr} {fd : FuncData} (F : FunD K "_law_plan" "_law_plan" (defArgs s__law_plan) (defBody s__law_plan) (defScope s__law_plan) [] [] f fd) {f__law_next : Addr} {fd__law_next : FuncData} (A__law_next : FnAt P w K mg base C 1 f__law_next fd__law_next "_law_next" N__law_next P__law_next F__law_next) : FnOk P w K mg base (L2.CX P w) 2 f fd P__law_plan (spD K C N__law_plan P__law_plan.length F__law_plan) := by
  refine def_ok (k := 1) F sc__law_plan ?_
  intro cdv A outer s H E W hr tk
  have ND := sc__law_plan.nd
  refine ⟨_, (pss_cons (ps_set (i := 1) ND rfl (by first | exact Or.inl rfl | exact Or.inr rfl) (pe_op (show OpR _ _ (rAddA K) from op_addA) pe_int (pe_fn A__law_next hr tk (pa_cons (pv 0) (pa_cons pe_int pa_nil)))))
  (pss_cons (ps_set (i := 2) ND rfl (by first | exact Or.inl rfl | exact Or.inr rfl) (pe_fn A__law_next hr tk (pa_cons (pv 0) (pa_cons (pe_ix (show IxR _ (rIxA K) from ix_any (u1 hr)) (pe_lst (pa_cons pe_int (pa_cons pe_int pa_nil))) (pe_fn A__law_next hr tk (pa_cons (pv 0) (pa_cons pe_int pa_nil))) (by intro _ _; rfl)) pa_nil))))
  (pss_cons (ps_set (i := 3) ND rfl (by first | exact Or.inl rfl | exact Or.inr rfl) (pe_callTy (show CallR _ _ (rTupA K) from call_tuple_of) (by rfl) T.z_tuple (by decide +kernel) (pa_cons (pe_lc rfl ND (pi_range1 (by rfl) T.z_range (pa_cons (pv 2) pa_nil)) (blkOk_by (own := [("_law_k", 8)]) (by rfl)) (fun _ _ _ _ _ => (pg_name (i := 8) ND rfl (by first | exact Or.inl rfl | exact Or.inr rfl))) (fun _ _ _ _ _ => pts_nil) (fun _ _ _ _ _ => (pe_op (show OpR _ _ (rMulA K) from op_mulA) (pe_fn A__law_next hr takes0 (pa_cons (pv 0) (pa_cons pe_int pa_nil))) (pe_callTy call_intA (by rfl) T.z_int (by decide +kernel) (pa_cons (pe_cmpR (show OpR _ _ (rEqD K) from op_eqD (u64 hr)) (pe_fn A__law_next hr takes0 (pa_cons (pv 0) (pa_cons (pv 1) pa_nil))) pe_int (nomark _)) pa_nil))))) pa_nil)))
  (pss_cons (ps_par (i := 4) (j := 5) rfl ND rfl rfl (by decide) rfl rfl (pa_cons (pe_lst pa_nil) (pa_cons pe_int pa_nil)) rfl)
  (pss_cons (ps_while (passes_of rfl) (pt_cmpR op_lt (pv 5) (pe_callB (show CallR _ _ (fun xs H Q => ∃ x n, xs = [x] ∧ LenV K x H n ∧ Q (.int n) H) from call_len) (by rfl) T.z_len PySem.boot_len (pa_cons (pv 3) pa_nil)) (nomark _)) (pss_cons (ps_set (i := 6) ND rfl (by first | exact Or.inl rfl | exact Or.inr rfl) (pe_op (show OpR _ _ (rAddA K) from op_addA) (pv 5) (pe_fn A__law_next hr tk (pa_cons (pv 0) (pa_cons (pe_ix (show IxR _ (rIxA K) from ix_any (u1 hr)) (pe_lst (pa_cons pe_int (pa_cons pe_int pa_nil))) (pe_fn A__law_next hr tk (pa_cons (pv 0) (pa_cons pe_int pa_nil))) (by intro _ _; rfl)) pa_nil)))))
  (pss_cons (ps_set (i := 7) ND rfl (by first | exact Or.inl rfl | exact Or.inr rfl) (pe_op (show OpR _ _ (rAddA K) from op_addA) (pe_op (show OpR _ _ (rAddA K) from op_addA) (pv 6) pe_int) (pe_fn A__law_next hr tk (pa_cons (pv 0) (pa_cons (pe_ix (show IxR _ (rIxA K) from ix_any (u1 hr)) (pe_lst (pa_cons pe_int (pa_cons pe_int (pa_cons pe_int pa_nil)))) (pe_fn A__law_next hr tk (pa_cons (pv 0) (pa_cons pe_int pa_nil))) (by intro _ _; rfl)) pa_nil)))))
  (pss_cons (ps_if (pt_cmpR op_le (pv 7) (pe_callB (show CallR _ _ (fun xs H Q => ∃ x n, xs = [x] ∧ LenV K x H n ∧ Q (.int n) H) from call_len) (by rfl) T.z_len PySem.boot_len (pa_cons (pv 3) pa_nil)) (nomark _)) (pss_one (ps_expr (pe_bm PySem.F.plainAttrs_list PySem.F.slot_list_append PySem.F.type_list_append mt_append (pv 4) (pa_cons (pe_tup (pa_cons (pv 6) (pa_cons (pv 7) pa_nil))) pa_nil)))) pss_nil)
  (pss_one (ps_set (i := 5) ND rfl (by first | exact Or.inl rfl | exact Or.inr rfl) (pv 7)))))))
  (pss_one (ps_ret (pe_tup (pa_cons (pv 3) (pa_cons (pe_callTy (show CallR _ _ (rTupA K) from call_tuple_of) (by rfl) T.z_tuple (by decide +kernel) (pa_cons (pv 4) pa_nil)) pa_nil)))))))))), ?s⟩
  case s => exact (ss_seq (ss_set (se_op os_add (SimF.e (sf_c _)) (se_fn (SimRP.r (srp_inn (lp_var 0) (srp_val (sf_c _) srp_nil))) rfl)))
  (ss_seq (ss_set (se_fn (sr_inn 0 (sr_val (se_opP op_ix (SimF.e (sf_lst (sps_cons (SimF.p (sf_c _)) (sps_cons (SimF.p (sf_c _)) sps_nil)))) (se_fn (SimRP.r (srp_inn (lp_var 0) (srp_val (sf_c _) srp_nil))) rfl)) (SimRP.r srp_nil))) rfl))
  (ss_seq (ss_set (se_call cs_tuple (sea_cons (se_cmp (si_r1 (sea_cons (SimP.e (sp_var 2)) sea_nil)) (sg_name 8) st_yes (se_op os_mul (se_fn (SimRP.r (srp_inn (lp_var 0) (srp_val (sf_c _) srp_nil))) rfl) (se_call cs_int (sea_cons (se_op os_eq (se_fn (SimRP.r (srp_inn (lp_var 0) (srp_len (lp_var 1) srp_nil))) rfl) (SimF.e (sf_c _))) sea_nil)))) sea_nil)))
  (ss_seq (ss_par (sea_cons (SimF.e (sf_lst sps_nil)) (sea_cons (SimF.e (sf_c _)) sea_nil)))
  (ss_seq (ss_while WN (SimPT.e (spt_test (SimF.p (sf_op os_lt (sp_var 5) (SimF.p (sf_call cs_len (sps_cons (sp_var 3) sps_nil))))))) (ss_seq (ss_set (se_op os_add (SimP.e (sp_var 5)) (se_fn (sr_inn 0 (sr_val (se_opP op_ix (SimF.e (sf_lst (sps_cons (SimF.p (sf_c _)) (sps_cons (SimF.p (sf_c _)) sps_nil)))) (se_fn (SimRP.r (srp_inn (lp_var 0) (srp_val (sf_c _) srp_nil))) rfl)) (SimRP.r srp_nil))) rfl)))
  (ss_seq (ss_set (se_op os_add (SimF.e (sf_op os_add (sp_var 6) (SimF.p (sf_c _)))) (se_fn (sr_inn 0 (sr_val (se_opP op_ix (SimF.e (sf_lst (sps_cons (SimF.p (sf_c _)) (sps_cons (SimF.p (sf_c _)) (sps_cons (SimF.p (sf_c _)) sps_nil))))) (se_fn (SimRP.r (srp_inn (lp_var 0) (srp_val (sf_c _) srp_nil))) rfl)) (SimRP.r srp_nil))) rfl)))
  (ss_seq (ss_if (SimPT.e (spt_test (SimF.p (sf_op os_le (sp_var 7) (SimF.p (sf_call cs_len (sps_cons (sp_var 3) sps_nil))))))) (ss_expr (se_mut ms_append (sea_cons (SimF.e (sf_tup (sps_cons (sp_var 6) (sps_cons (sp_var 7) sps_nil)))) sea_nil))) ss_nil)
  (ss_set (SimP.e (sp_var 7)))))))
  (ss_ret (SimF.e (sf_tup (sps_cons (sp_var 3) (sps_cons (SimF.p (sf_call cs_tuple (sps_cons (sp_var 4) sps_nil))) sps_nil))))))))))
abbrev s_most_kept : Stmt := top 13
abbrev N_most_kept : List Str := ["makes", "windows"]
abbrev P_most_kept : List Str := ["makes", "windows"]
def F_most_kept : SS → RS := (sSeq (sDrop (eCall 2 3 F_need_plan (rP (qL 0 pRoot (qL 1 pRoot qN)))))
  (sRet (eN (p1 fMax (psC (p2 fAdd (p1 fLst (psC (fC (.int 0)) psN)) (pCall 2 4 F_kept_by (qL 0 pRoot (qL 1 pRoot qN)))) psN)))))
theorem sc_most_kept : FnScope N_most_kept P_most_kept (defScope s_most_kept) := ⟨rfl, rfl, rfl, by decide +kernel, rfl, by decide +kernel, by decide +kernel⟩
theorem ok_most_kept (T : Tx K mg C) {f : Addr} {fd : FuncData} (F : FunD K "most_kept" "most_kept" (defArgs s_most_kept) (defBody s_most_kept) (defScope s_most_kept) [] [] f fd) {f_need_plan : Addr} {fd_need_plan : FuncData} (A_need_plan : FnAt P w K mg base C 2 f_need_plan fd_need_plan "need_plan" N_need_plan P_need_plan F_need_plan) {f_kept_by : Addr} {fd_kept_by : FuncData} (A_kept_by : FnAt P w K mg base C 1 f_kept_by fd_kept_by "kept_by" N_kept_by P_kept_by F_kept_by) : FnOk P w K mg base (L2.CX P w) 3 f fd P_most_kept (spD K C N_most_kept P_most_kept.length F_most_kept) := by
  refine def_ok (k := 2) F sc_most_kept ?_
  intro cdv A outer s H E W hr tk
  have ND := sc_most_kept.nd
  refine ⟨_, (pss_cons (ps_expr (pe_fn A_need_plan hr tk (pa_cons (pv 0) (pa_cons (pv 1) pa_nil))))
  (pss_one (ps_ret (pe_callB (show CallR _ _ (rMaxA K) from call_maxA rfl) (by rfl) T.z_max PyProof.Rows.boot_max (pa_cons (pe_op (show OpR _ _ (rAddA K) from op_addA) (pe_lst (pa_cons pe_int pa_nil)) (pe_fn A_kept_by hr tk (pa_cons (pv 0) (pa_cons (pv 1) pa_nil)))) pa_nil))))), ?s⟩
  case s => exact (ss_seq (ss_expr (se_fn (SimRP.r (srp_len (lp_var 0) (srp_len (lp_var 1) srp_nil))) rfl))
  (ss_ret (SimF.e (sf_call cs_max (sps_cons (SimF.p (sf_op os_add (SimF.p (sf_lst (sps_cons (SimF.p (sf_c _)) sps_nil))) (SimF.p (sf_fn (srp_len (lp_var 0) (srp_len (lp_var 1) srp_nil)) rfl)))) sps_nil)))))
abbrev s_short_at : Stmt := top 14
abbrev N_short_at : List Str := ["makes", "windows", "room", "found", "some", "beat"]
abbrev P_short_at : List Str := ["makes", "windows", "room"]
def T_short_at_0 : SS → Option Bool := (p1 asB (p2 fGt (p2 fIx (fV 3) (fV 5)) (fV 2)))
def E_short_at_1 : SS → Option D := (fV 5)
def F_short_at : SS → RS := (sSeq (sDrop (eCall 2 3 F_need_plan (rP (qL 0 pRoot (qL 1 pRoot qN)))))
  (sSeq (sDrop (eCall 1 0 F_need_room (rP (qL 2 pRoot qN))))
  (sSeq (sSet 3 (eN (pCall 2 4 F_kept_by (qL 0 pRoot (qL 1 pRoot qN)))))
  (sSeq (sSet 4 (eN (pCmp [5] (p1 iR1 (psC (p1 (on1 fLen) (psC (fV 3) psN)) psN)) (lendSl 5) T_short_at_0 E_short_at_1)))
  (sRet (eI (pIf (p1 asB (p2 fNe (fV 4) (p1 fLst psN))) (p2 fIx (fV 4) (fC (.int 0))) (fC .non))))))))
theorem sc_short_at : FnScope N_short_at P_short_at (defScope s_short_at) := ⟨rfl, rfl, rfl, by decide +kernel, rfl, by decide +kernel, by decide +kernel⟩
theorem ok_short_at (T : Tx K mg C) {f : Addr} {fd : FuncData} (F : FunD K "short_at" "short_at" (defArgs s_short_at) (defBody s_short_at) (defScope s_short_at) [] [] f fd) {f_need_plan : Addr} {fd_need_plan : FuncData} (A_need_plan : FnAt P w K mg base C 2 f_need_plan fd_need_plan "need_plan" N_need_plan P_need_plan F_need_plan) {f_need_room : Addr} {fd_need_room : FuncData} (A_need_room : FnAt P w K mg base C 2 f_need_room fd_need_room "need_room" N_need_room P_need_room F_need_room) {f_kept_by : Addr} {fd_kept_by : FuncData} (A_kept_by : FnAt P w K mg base C 1 f_kept_by fd_kept_by "kept_by" N_kept_by P_kept_by F_kept_by) : FnOk P w K mg base (L2.CX P w) 3 f fd P_short_at (spD K C N_short_at P_short_at.length F_short_at) := by
  refine def_ok (k := 2) F sc_short_at ?_
  intro cdv A outer s H E W hr tk
  have ND := sc_short_at.nd
  refine ⟨_, (pss_cons (ps_expr (pe_fn A_need_plan hr tk (pa_cons (pv 0) (pa_cons (pv 1) pa_nil))))
  (pss_cons (ps_expr (pe_fn A_need_room hr tk (pa_cons (pv 2) pa_nil)))
  (pss_cons (ps_set (i := 3) ND rfl (by first | exact Or.inl rfl | exact Or.inr rfl) (pe_fn A_kept_by hr tk (pa_cons (pv 0) (pa_cons (pv 1) pa_nil))))
  (pss_cons (ps_setLc (i := 4) rfl ND rfl rfl (sw_true rfl rfl rfl rfl) (pi_range1 (by rfl) T.z_range (pa_cons (pe_callB (show CallR _ _ (fun xs H Q => ∃ x n, xs = [x] ∧ LenV K x H n ∧ Q (.int n) H) from call_len) (by rfl) T.z_len PySem.boot_len (pa_cons (pv 3) pa_nil)) pa_nil)) (blkOk_by (own := [("beat", 5)]) (by rfl)) (fun _ _ _ _ _ => (pg_name (i := 5) ND rfl (by first | exact Or.inl rfl | exact Or.inr rfl))) (fun _ _ _ _ _ => pts_one (pt_cmpR op_gt (pe_ix (show IxR _ (rIxA K) from ix_any (u1 hr)) (pv 3) (pv 5) (by intro _ _; rfl)) (pv 2) (nomark _))) (fun _ _ _ _ _ => (pv 5)))
  (pss_one (ps_ret (pe_ifExp (pt_cmpR (show OpR _ _ (rNeD K) from op_neD (u64 hr)) (pv 4) (pe_lst pa_nil) (nomark _)) (pe_ix (show IxR _ (rIxA K) from ix_any (u1 hr)) (pv 4) pe_int (by intro _ _; rfl)) pe_non))))))), ?s⟩
  case s => exact (ss_seq (ss_expr (se_fn (SimRP.r (srp_len (lp_var 0) (srp_len (lp_var 1) srp_nil))) rfl))
  (ss_seq (ss_expr (se_fn (SimRP.r (srp_len (lp_var 2) srp_nil)) rfl))
  (ss_seq (ss_set (SimF.e (sf_fn (srp_len (lp_var 0) (srp_len (lp_var 1) srp_nil)) rfl)))
  (ss_seq (ss_set (SimF.e (sf_cmp (sip_r1 (sps_cons (SimF.p (sf_call cs_len (sps_cons (sp_var 3) sps_nil))) sps_nil)) (sg_name 5) (spt_test (SimF.p (sf_op os_gt (sp_op op_ix (sp_var 3) (sp_var 5)) (sp_var 2)))) (sp_var 5))))
  (ss_ret (SimP.e (sp_if (spt_test (SimF.p (sf_op os_ne (sp_var 4) (SimF.p (sf_lst sps_nil))))) (sp_op op_ix (sp_var 4) (SimF.p (sf_c _))) (SimF.p (sf_c _)))))))))
abbrev s__law_alike : Stmt := top 18
abbrev N__law_alike : List Str := ["_law_found", "_law_due", "_law_k"]
abbrev P__law_alike : List Str := ["_law_found", "_law_due"]
def B__law_alike (rec : SS → RS) : SS → RS := (sSeq (sIf (tP (p1 asB (p1 (on2 fIsi) (psC (fV 1) (psC (p1 fTup (psC (fC (.op (.ty "tuple"))) (psC (fC (.op (.ty "list"))) psN))) psN))))) (sSeq (sIf (tP (pOr (pNot (p1 asB (p1 (on2 fIsi) (psC (fV 0) (psC (p1 fTup (psC (fC (.op (.ty "tuple"))) (psC (fC (.op (.ty "list"))) psN))) psN))))) (p1 asB (p2 fNe (p1 (on2 fIsi) (psC (fV 0) (psC (fC (.op (.ty "list"))) psN))) (p1 (on2 fIsi) (psC (fV 1) (psC (fC (.op (.ty "list"))) psN))))))) (sRet (eN (fC (.bl false)))) sNil)
  (sSeq (sIf (tP (p1 asB (p2 fNe (p1 (on1 fLen) (psC (fV 0) psN)) (p1 (on1 fLen) (psC (fV 1) psN))))) (sRet (eN (fC (.bl false)))) sNil)
  (sRet (eN (p2 fEq (pCmp [2] (p1 iR1 (psC (p1 (on1 fLen) (psC (fV 1) psN)) psN)) (lendSl 2) (pNot (p1 asB (pCall 2 1 rec (qL 0 (pIdx 0 pRoot (fV 2)) (qL 1 (pIdx 1 pRoot (fV 2)) qN))))) (fV 2)) (p1 fLst psN)))))) sNil)
  (sSeq (sIf (tP (p1 asB (p2 fIsN (fV 1) (fC .non)))) (sRet (eN (p2 fIsN (fV 0) (fC .non)))) sNil)
  (sSeq (sIf (tP (p1 asB (p1 (on2 fIsi) (psC (fV 1) (psC (fC (.op (.ty "str"))) psN))))) (sRet (eN (pBl (pAnd (p1 asB (p1 (on2 fIsi) (psC (fV 0) (psC (fC (.op (.ty "str"))) psN)))) (p1 asB (p2 fEq (fV 0) (fV 1))))))) sNil)
  (sSeq (sIf (tP (pOr (p1 asB (p1 (on2 fIsi) (psC (fV 1) (psC (fC (.op (.ty "bool"))) psN)))) (p1 asB (p1 (on2 fIsi) (psC (fV 0) (psC (fC (.op (.ty "bool"))) psN)))))) (sRet (eN (pBl (pAnd (p1 asB (p1 (on2 fIsi) (psC (fV 1) (psC (fC (.op (.ty "bool"))) psN)))) (p1 asB (pBl (pAnd (p1 asB (p1 (on2 fIsi) (psC (fV 0) (psC (fC (.op (.ty "bool"))) psN)))) (p1 asB (p2 fEq (fV 0) (fV 1)))))))))) sNil)
  (sRet (eN (pBl (pAnd (p1 asB (p1 (on2 fIsi) (psC (fV 0) (psC (fC (.op (.ty "int"))) psN)))) (p1 asB (p2 fEq (fV 0) (fV 1)))))))))))
def F__law_alike : Nat → SS → RS
  | 0 => sStuck
  | n + 1 => B__law_alike (F__law_alike n)
theorem sc__law_alike : FnScope N__law_alike P__law_alike (defScope s__law_alike) := ⟨rfl, rfl, rfl, by decide +kernel, rfl, by decide +kernel, by decide +kernel⟩
theorem okb__law_alike (T : Tx K mg C) {f : Addr} {fd : FuncData} (F : FunD K "_law_alike" "_law_alike" (defArgs s__law_alike) (defBody s__law_alike) (defScope s__law_alike) [] [] f fd) {k : Nat} (hk : 1 ≤ k) {rec : SS → RS} (A_self : FnAt P w K mg base C k f fd "_law_alike" N__law_alike P__law_alike rec) : FnOk P w K mg base (L2.CX P w) (k + 1) f fd P__law_alike (spD K C N__law_alike P__law_alike.length (B__law_alike rec)) := by
  refine def_ok (k := k) F sc__law_alike ?_
  intro cdv A outer s H E W hr tk
  have ND := sc__law_alike.nd
  refine ⟨_, (pss_cons (ps_if (pt_val (pe_callB (show CallR _ _ (rIsiA K) from call_isiA) (by rfl) T.z_isinstance (by decide +kernel) (pa_cons (pv 1) (pa_cons (pe_tup (pa_cons (pe_bltn (v := .ty "tuple") (by rfl) T.z_tuple (by decide +kernel) rfl) (pa_cons (pe_bltn (v := .ty "list") (by rfl) T.z_list (by decide +kernel) rfl) pa_nil))) pa_nil)))) (pss_cons (ps_if (PW.pt (pw_or (pt_not (pt_val (pe_callB (show CallR _ _ (rIsiA K) from call_isiA) (by rfl) T.z_isinstance (by decide +kernel) (pa_cons (pv 0) (pa_cons (pe_tup (pa_cons (pe_bltn (v := .ty "tuple") (by rfl) T.z_tuple (by decide +kernel) rfl) (pa_cons (pe_bltn (v := .ty "list") (by rfl) T.z_list (by decide +kernel) rfl) pa_nil))) pa_nil))))) (pw_or1 (pt_cmpR (show OpR _ _ (rNeD K) from op_neD (u64 hr)) (pe_callB (show CallR _ _ (rIsiA K) from call_isiA) (by rfl) T.z_isinstance (by decide +kernel) (pa_cons (pv 0) (pa_cons (pe_bltn (v := .ty "list") (by rfl) T.z_list (by decide +kernel) rfl) pa_nil))) (pe_callB (show CallR _ _ (rIsiA K) from call_isiA) (by rfl) T.z_isinstance (by decide +kernel) (pa_cons (pv 1) (pa_cons (pe_bltn (v := .ty "list") (by rfl) T.z_list (by decide +kernel) rfl) pa_nil))) (nomark _))))) (pss_one (ps_ret pe_bl)) pss_nil)
  (pss_cons (ps_if (pt_cmpR (show OpR _ _ (rNeD K) from op_neD (u64 hr)) (pe_callB (show CallR _ _ (fun xs H Q => ∃ x n, xs = [x] ∧ LenV K x H n ∧ Q (.int n) H) from call_len) (by rfl) T.z_len PySem.boot_len (pa_cons (pv 0) pa_nil)) (pe_callB (show CallR _ _ (fun xs H Q => ∃ x n, xs = [x] ∧ LenV K x H n ∧ Q (.int n) H) from call_len) (by rfl) T.z_len PySem.boot_len (pa_cons (pv 1) pa_nil)) (nomark _)) (pss_one (ps_ret pe_bl)) pss_nil)
  (pss_one (ps_ret (pe_cmpR (show OpR _ _ (rEqD K) from op_eqD (u64 hr)) (pe_lc rfl ND (pi_range1 (by rfl) T.z_range (pa_cons (pe_callB (show CallR _ _ (fun xs H Q => ∃ x n, xs = [x] ∧ LenV K x H n ∧ Q (.int n) H) from call_len) (by rfl) T.z_len PySem.boot_len (pa_cons (pv 1) pa_nil)) pa_nil)) (blkOk_by (own := [("_law_k", 2)]) (by rfl)) (fun _ _ _ _ _ => (pg_name (i := 2) ND rfl (by first | exact Or.inl rfl | exact Or.inr rfl))) (fun _ _ _ _ _ => pts_one (pt_not (pt_val (pe_fn A_self hr takes0 (pa_cons (pe_ix (show IxR _ (rIxA K) from ix_any (u1 hr)) (pv 0) (pv 2) (by intro _ _; rfl)) (pa_cons (pe_ix (show IxR _ (rIxA K) from ix_any (u1 hr)) (pv 1) (pv 2) (by intro _ _; rfl)) pa_nil)))))) (fun _ _ _ _ _ => (pv 2))) (pe_lst pa_nil) (nomark _)))))) pss_nil)
  (pss_cons (ps_if (pt_cmpR op_isN (pv 1) pe_non (nomark _)) (pss_one (ps_ret (pe_cmpR op_isN (pv 0) pe_non (nomark _)))) pss_nil)
  (pss_cons (ps_if (pt_val (pe_callB (show CallR _ _ (rIsiA K) from call_isiA) (by rfl) T.z_isinstance (by decide +kernel) (pa_cons (pv 1) (pa_cons (pe_bltn (v := .ty "str") (by rfl) T.z_str (by decide +kernel) rfl) pa_nil)))) (pss_one (ps_ret (pe_and (pe_callB (show CallR _ _ (rIsiA K) from call_isiA) (by rfl) T.z_isinstance (by decide +kernel) (pa_cons (pv 0) (pa_cons (pe_bltn (v := .ty "str") (by rfl) T.z_str (by decide +kernel) rfl) pa_nil))) (pe_one (pe_cmpR (show OpR _ _ (rEqD K) from op_eqD (u64 hr)) (pv 0) (pv 1) (nomark _)))))) pss_nil)
  (pss_cons (ps_if (PW.pt (pw_or (pt_val (pe_callB (show CallR _ _ (rIsiA K) from call_isiA) (by rfl) T.z_isinstance (by decide +kernel) (pa_cons (pv 1) (pa_cons (pe_bltn (v := .ty "bool") (by rfl) T.z_bool (by decide +kernel) rfl) pa_nil)))) (pw_or1 (pt_val (pe_callB (show CallR _ _ (rIsiA K) from call_isiA) (by rfl) T.z_isinstance (by decide +kernel) (pa_cons (pv 0) (pa_cons (pe_bltn (v := .ty "bool") (by rfl) T.z_bool (by decide +kernel) rfl) pa_nil))))))) (pss_one (ps_ret (pe_and (pe_callB (show CallR _ _ (rIsiA K) from call_isiA) (by rfl) T.z_isinstance (by decide +kernel) (pa_cons (pv 1) (pa_cons (pe_bltn (v := .ty "bool") (by rfl) T.z_bool (by decide +kernel) rfl) pa_nil))) (pe_and (pe_callB (show CallR _ _ (rIsiA K) from call_isiA) (by rfl) T.z_isinstance (by decide +kernel) (pa_cons (pv 0) (pa_cons (pe_bltn (v := .ty "bool") (by rfl) T.z_bool (by decide +kernel) rfl) pa_nil))) (pe_one (pe_cmpR (show OpR _ _ (rEqD K) from op_eqD (u64 hr)) (pv 0) (pv 1) (nomark _))))))) pss_nil)
  (pss_one (ps_ret (pe_and (pe_callB (show CallR _ _ (rIsiA K) from call_isiA) (by rfl) T.z_isinstance (by decide +kernel) (pa_cons (pv 0) (pa_cons (pe_bltn (v := .ty "int") (by rfl) T.z_int (by decide +kernel) rfl) pa_nil))) (pe_one (pe_cmpR (show OpR _ _ (rEqD K) from op_eqD (u64 hr)) (pv 0) (pv 1) (nomark _)))))))))), ?s⟩
  case s => exact (ss_seq (ss_if (SimPT.e (spt_b (SimF.p (sf_call cs_isi (sps_cons (sp_var 1) (sps_cons (SimF.p (sf_tup (sps_cons (SimF.p (sf_c _)) (sps_cons (SimF.p (sf_c _)) sps_nil)))) sps_nil)))))) (ss_seq (ss_if (SimPT.e (spt_or (spt_not (spt_b (SimF.p (sf_call cs_isi (sps_cons (sp_var 0) (sps_cons (SimF.p (sf_tup (sps_cons (SimF.p (sf_c _)) (sps_cons (SimF.p (sf_c _)) sps_nil)))) sps_nil)))))) (spt_test (SimF.p (sf_op os_ne (SimF.p (sf_call cs_isi (sps_cons (sp_var 0) (sps_cons (SimF.p (sf_c _)) sps_nil)))) (SimF.p (sf_call cs_isi (sps_cons (sp_var 1) (sps_cons (SimF.p (sf_c _)) sps_nil))))))))) (ss_ret (SimF.e (sf_c _))) ss_nil)
  (ss_seq (ss_if (SimPT.e (spt_test (SimF.p (sf_op os_ne (SimF.p (sf_call cs_len (sps_cons (sp_var 0) sps_nil))) (SimF.p (sf_call cs_len (sps_cons (sp_var 1) sps_nil))))))) (ss_ret (SimF.e (sf_c _))) ss_nil)
  (ss_ret (SimF.e (sf_op os_eq (SimF.p (sf_cmp (sip_r1 (sps_cons (SimF.p (sf_call cs_len (sps_cons (sp_var 1) sps_nil))) sps_nil)) (sg_name 2) (spt_not (spt_b (SimF.p (sf_fn (srp_len (lp_idx (lp_var 0) (sp_var 2)) (srp_len (lp_idx (lp_var 1) (sp_var 2)) srp_nil)) rfl)))) (sp_var 2))) (SimF.p (sf_lst sps_nil))))))) ss_nil)
  (ss_seq (ss_if (SimPT.e (spt_test (SimF.p (sf_op os_isN (sp_var 1) (SimF.p (sf_c _)))))) (ss_ret (SimF.e (sf_op os_isN (sp_var 0) (SimF.p (sf_c _))))) ss_nil)
  (ss_seq (ss_if (SimPT.e (spt_b (SimF.p (sf_call cs_isi (sps_cons (sp_var 1) (sps_cons (SimF.p (sf_c _)) sps_nil)))))) (ss_ret (SimF.e (sf_andV (SimF.p (sf_call cs_isi (sps_cons (sp_var 0) (sps_cons (SimF.p (sf_c _)) sps_nil)))) (SimF.p (sf_op os_eq (sp_var 0) (sp_var 1)))))) ss_nil)
  (ss_seq (ss_if (SimPT.e (spt_or (spt_b (SimF.p (sf_call cs_isi (sps_cons (sp_var 1) (sps_cons (SimF.p (sf_c _)) sps_nil))))) (spt_b (SimF.p (sf_call cs_isi (sps_cons (sp_var 0) (sps_cons (SimF.p (sf_c _)) sps_nil))))))) (ss_ret (SimF.e (sf_andV (SimF.p (sf_call cs_isi (sps_cons (sp_var 1) (sps_cons (SimF.p (sf_c _)) sps_nil)))) (SimF.p (sf_andV (SimF.p (sf_call cs_isi (sps_cons (sp_var 0) (sps_cons (SimF.p (sf_c _)) sps_nil)))) (SimF.p (sf_op os_eq (sp_var 0) (sp_var 1)))))))) ss_nil)
  (ss_ret (SimF.e (sf_andV (SimF.p (sf_call cs_isi (sps_cons (sp_var 0) (sps_cons (SimF.p (sf_c _)) sps_nil)))) (SimF.p (sf_op os_eq (sp_var 0) (sp_var 1))))))))))
theorem okn__law_alike (T : Tx K mg C) {f : Addr} {fd : FuncData} (F : FunD K "_law_alike" "_law_alike" (defArgs s__law_alike) (defBody s__law_alike) (defScope s__law_alike) [] [] f fd) (gl : mg "_law_alike" = some (.ref f)) (bd : Binds K fd P__law_alike []) : ∀ n, FnOk P w K mg base (L2.CX P w) (1 + n) f fd P__law_alike (spD K C N__law_alike P__law_alike.length (F__law_alike n))
  | 0 => fn_stuck
  | n + 1 => okb__law_alike T F  (k := 1 + n) (by omega) ⟨okn__law_alike T F gl bd  n, gl, F.kp, bd⟩
theorem ok__law_alike (T : Tx K mg C) {f : Addr} {fd : FuncData} (F : FunD K "_law_alike" "_law_alike" (defArgs s__law_alike) (defBody s__law_alike) (defScope s__law_alike) [] [] f fd) (gl : mg "_law_alike" = some (.ref f)) (bd : Binds K fd P__law_alike []) : FnOk P w K mg base (L2.CX P w) 13 f fd P__law_alike (spD K C N__law_alike P__law_alike.length (F__law_alike 12)) := okn__law_alike T F gl bd  12
abbrev s_law : Stmt := top 21
abbrev N_law : List Str := ["_law_script", "_law_h", "_law_turn", "_law_makes", "_law_windows", "_law_due", "_law_most", "_law_room", "_law_some", "_law_k", "_law_beat"]
abbrev P_law : List Str := ["_law_script"]
def E_law_0 : SS → Option D := (p1 fMin (psC (fC (.int 60)) (psC (p1 fMax (psC (fC (.int 1)) (psC (p2 fSubI (p2 fAdd (fV 6) (fV 9)) (fC (.int 2))) psN))) psN)))
def T_law_1 : SS → Option Bool := (p1 asB (p2 fGt (p2 fIx (fV 5) (fV 10)) (fV 7)))
def E_law_2 : SS → Option D := (fV 10)
def L_law_3 : SS → RS := (sSeq (sSet 8 (eN (pCmp [10] (p1 iR1 (psC (p1 (on1 fLen) (psC (fV 3) psN)) psN)) (lendSl 10) T_law_1 E_law_2)))
  (sIf (rNot (e1 asB (eCall 2 1 (F__law_alike 12) (gV (eCall 3 3 F_short_at (rP (qL 3 pRoot (qL 4 pRoot (qL 7 pRoot qN))))) (gV (eI (pIf (p1 asB (p2 fNe (fV 8) (p1 fLst psN))) (p2 fIx (fV 8) (fC (.int 0))) (fC .non))) (rP qN)))))) (sRet (eN (fC (.bl false)))) sNil))
def L_law_4 : SS → RS := (sSeq (sUnp [3, 4] (eCall 1 8 F__law_plan (rP (qI 1 pRoot qN))))
  (sSeq (sSet 5 (eN (pCall 2 5 F__law_kept (qL 3 pRoot (qL 4 pRoot qN)))))
  (sSeq (sSet 6 (eN (p1 fMax (psC (p2 fAdd (fV 5) (p1 fLst (psC (fC (.int 0)) psN))) psN))))
  (sSeq (sIf (rNot (e1 asB (eCall 2 1 (F__law_alike 12) (gV (eCall 2 0 F_most_kept (rP (qL 3 pRoot (qL 4 pRoot qN)))) (gL 6 (rP qN)))))) (sRet (eN (fC (.bl false)))) sNil)
  (sFor [7] id (iE (e2 fAdd (eN (pCmp [9] (p1 iR1 (psC (fC (.int 4)) psN)) (lendSl 9) (fun _ => some true) E_law_0)) (e1 gLstD (eaC (e2 fAdd (eN (fC (.int 1))) (eCall 2 2 F__law_next (rP (qI 1 pRoot (qV (fC (.int 60)) qN))))) eaN)))) (lendSl 7) L_law_3)))))
def F_law : SS → RS := (sSeq (sSet 1 (eN (pCall 2 2 F__law_mix (qL 0 pRoot (qV (fC (.int 29)) qN)))))
  (sSeq (sFor [2] id (e1 iR1 (eaC (eN (fC (.int 5))) eaN)) (lendSl 2) L_law_4)
  (sRet (eN (fC (.bl true))))))
theorem sc_law : FnScope N_law P_law (defScope s_law) := ⟨rfl, rfl, rfl, by decide +kernel, rfl, by decide +kernel, by decide +kernel⟩
theorem ok_law (T : Tx K mg C) {f : Addr} {fd : FuncData} (F : FunD K "law" "law" (defArgs s_law) (defBody s_law) (defScope s_law) [] [] f fd) {f__law_mix : Addr} {fd__law_mix : FuncData} (A__law_mix : FnAt P w K mg base C 1 f__law_mix fd__law_mix "_law_mix" N__law_mix P__law_mix F__law_mix) {f__law_plan : Addr} {fd__law_plan : FuncData} (A__law_plan : FnAt P w K mg base C 2 f__law_plan fd__law_plan "_law_plan" N__law_plan P__law_plan F__law_plan) {f__law_kept : Addr} {fd__law_kept : FuncData} (A__law_kept : FnAt P w K mg base C 1 f__law_kept fd__law_kept "_law_kept" N__law_kept P__law_kept F__law_kept) {f__law_alike : Addr} {fd__law_alike : FuncData} (A__law_alike : FnAt P w K mg base C 13 f__law_alike fd__law_alike "_law_alike" N__law_alike P__law_alike (F__law_alike 12)) {f_most_kept : Addr} {fd_most_kept : FuncData} (A_most_kept : FnAt P w K mg base C 3 f_most_kept fd_most_kept "most_kept" N_most_kept P_most_kept F_most_kept) {f__law_next : Addr} {fd__law_next : FuncData} (A__law_next : FnAt P w K mg base C 1 f__law_next fd__law_next "_law_next" N__law_next P__law_next F__law_next) {f_short_at : Addr} {fd_short_at : FuncData} (A_short_at : FnAt P w K mg base C 3 f_short_at fd_short_at "short_at" N_short_at P_short_at F_short_at) : FnOk P w K mg base (L2.CX P w) 14 f fd P_law (spD K C N_law P_law.length F_law) := by
  refine def_ok (k := 13) F sc_law ?_
  intro cdv A outer s H E W hr tk
  have ND := sc_law.nd
  refine ⟨_, (pss_cons (ps_set (i := 1) ND rfl (by first | exact Or.inl rfl | exact Or.inr rfl) (pe_fn A__law_mix hr tk (pa_cons (pv 0) (pa_cons pe_int pa_nil))))
  (pss_cons (ps_for (passes_of rfl) rfl (pi_range1 (by rfl) T.z_range (pa_cons pe_int pa_nil)) (pg_name (i := 2) ND rfl (by first | exact Or.inl rfl | exact Or.inr rfl)) (pss_cons (ps_asg (pe_fn A__law_plan hr tk (pa_cons (pv 1) pa_nil)) (show PG _ _ (gTup K _ _) from pg_tup rfl (pgs_cons (pg_name (i := 3) ND rfl (by first | exact Or.inl rfl | exact Or.inr rfl)) (pgs_cons (pg_name (i := 4) ND rfl (by first | exact Or.inl rfl | exact Or.inr rfl)) pgs_nil))))
  (pss_cons (ps_set (i := 5) ND rfl (by first | exact Or.inl rfl | exact Or.inr rfl) (pe_fn A__law_kept hr tk (pa_cons (pv 3) (pa_cons (pv 4) pa_nil))))
  (pss_cons (ps_set (i := 6) ND rfl (by first | exact Or.inl rfl | exact Or.inr rfl) (pe_callB (show CallR _ _ (rMaxA K) from call_maxA rfl) (by rfl) T.z_max PyProof.Rows.boot_max (pa_cons (pe_op (show OpR _ _ (rAddA K) from op_addA) (pv 5) (pe_lst (pa_cons pe_int pa_nil))) pa_nil)))
  (pss_cons (ps_if (pt_not (pt_val (pe_fn A__law_alike hr tk (pa_cons (pe_fn A_most_kept hr tk (pa_cons (pv 3) (pa_cons (pv 4) pa_nil))) (pa_cons (pv 6) pa_nil))))) (pss_one (ps_ret pe_bl)) pss_nil)
  (pss_one (ps_for (passes_of rfl) rfl (pi_seq (pe_op (show OpR _ _ (rAddA K) from op_addA) (pe_lc rfl ND (pi_range1 (by rfl) T.z_range (pa_cons pe_int pa_nil)) (blkOk_by (own := [("_law_k", 9)]) (by rfl)) (fun _ _ _ _ _ => (pg_name (i := 9) ND rfl (by first | exact Or.inl rfl | exact Or.inr rfl))) (fun _ _ _ _ _ => pts_nil) (fun _ _ _ _ _ => (pe_callB (show CallR _ _ (rMinA K) from call_minA rfl) (by rfl) T.z_min (by decide +kernel) (pa_cons pe_int (pa_cons (pe_callB (show CallR _ _ (rMaxA K) from call_maxA rfl) (by rfl) T.z_max PyProof.Rows.boot_max (pa_cons pe_int (pa_cons (pe_op op_sub (pe_op (show OpR _ _ (rAddA K) from op_addA) (pv 6) (pv 9)) pe_int) pa_nil))) pa_nil))))) (pe_lst (pa_cons (pe_op (show OpR _ _ (rAddA K) from op_addA) pe_int (pe_fn A__law_next hr tk (pa_cons (pv 1) (pa_cons pe_int pa_nil)))) pa_nil)))) (pg_name (i := 7) ND rfl (by first | exact Or.inl rfl | exact Or.inr rfl)) (pss_cons (ps_setLc (i := 8) rfl ND rfl rfl (sw_true rfl rfl rfl rfl) (pi_range1 (by rfl) T.z_range (pa_cons (pe_callB (show CallR _ _ (fun xs H Q => ∃ x n, xs = [x] ∧ LenV K x H n ∧ Q (.int n) H) from call_len) (by rfl) T.z_len PySem.boot_len (pa_cons (pv 3) pa_nil)) pa_nil)) (blkOk_by (own := [("_law_beat", 10)]) (by rfl)) (fun _ _ _ _ _ => (pg_name (i := 10) ND rfl (by first | exact Or.inl rfl | exact Or.inr rfl))) (fun _ _ _ _ _ => pts_one (pt_cmpR op_gt (pe_ix (show IxR _ (rIxA K) from ix_any (u1 hr)) (pv 5) (pv 10) (by intro _ _; rfl)) (pv 7) (nomark _))) (fun _ _ _ _ _ => (pv 10)))
  (pss_one (ps_if (pt_not (pt_val (pe_fn A__law_alike hr tk (pa_cons (pe_fn A_short_at hr tk (pa_cons (pv 3) (pa_cons (pv 4) (pa_cons (pv 7) pa_nil)))) (pa_cons (pe_ifExp (pt_cmpR (show OpR _ _ (rNeD K) from op_neD (u64 hr)) (pv 8) (pe_lst pa_nil) (nomark _)) (pe_ix (show IxR _ (rIxA K) from ix_any (u1 hr)) (pv 8) pe_int (by intro _ _; rfl)) pe_non) pa_nil))))) (pss_one (ps_ret pe_bl)) pss_nil))))))))))
  (pss_one (ps_ret pe_bl)))), ?s⟩
  case s => exact (ss_seq (ss_set (SimF.e (sf_fn (srp_len (lp_var 0) (srp_val (sf_c _) srp_nil)) rfl)))
  (ss_seq (ss_for (si_r1 (sea_cons (SimF.e (sf_c _)) sea_nil)) (sg_name 2) (ss_seq (ss_unp (is := [3, 4]) (se_fn (SimRP.r (srp_inn (lp_var 1) srp_nil)) rfl))
  (ss_seq (ss_set (SimF.e (sf_fn (srp_len (lp_var 3) (srp_len (lp_var 4) srp_nil)) rfl)))
  (ss_seq (ss_set (SimF.e (sf_call cs_max (sps_cons (SimF.p (sf_op os_add (sp_var 5) (SimF.p (sf_lst (sps_cons (SimF.p (sf_c _)) sps_nil))))) sps_nil))))
  (ss_seq (ss_if (st_not (st_b (se_fn (sr_val (se_fn (SimRP.r (srp_len (lp_var 3) (srp_len (lp_var 4) srp_nil))) rfl) (sr_len 6 (SimRP.r srp_nil))) rfl))) (ss_ret (SimF.e (sf_c _))) ss_nil)
  (ss_for (si_seq (se_op os_add (SimF.e (sf_cmp (sip_r1 (sps_cons (SimF.p (sf_c _)) sps_nil)) (sg_name 9) spt_yes (SimF.p (sf_call cs_min (sps_cons (SimF.p (sf_c _)) (sps_cons (SimF.p (sf_call cs_max (sps_cons (SimF.p (sf_c _)) (sps_cons (SimF.p (sf_op os_sub (SimF.p (sf_op os_add (sp_var 6) (sp_var 9))) (SimF.p (sf_c _)))) sps_nil)))) sps_nil)))))) (se_lst (sea_cons (se_op os_add (SimF.e (sf_c _)) (se_fn (SimRP.r (srp_inn (lp_var 1) (srp_val (sf_c _) srp_nil))) rfl)) sea_nil)))) (sg_name 7) (ss_seq (ss_set (SimF.e (sf_cmp (sip_r1 (sps_cons (SimF.p (sf_call cs_len (sps_cons (sp_var 3) sps_nil))) sps_nil)) (sg_name 10) (spt_test (SimF.p (sf_op os_gt (sp_op op_ix (sp_var 5) (sp_var 10)) (sp_var 7)))) (sp_var 10))))
  (ss_if (st_not (st_b (se_fn (sr_val (se_fn (SimRP.r (srp_len (lp_var 3) (srp_len (lp_var 4) (srp_len (lp_var 7) srp_nil)))) rfl) (sr_val (SimP.e (sp_if (spt_test (SimF.p (sf_op os_ne (sp_var 8) (SimF.p (sf_lst sps_nil))))) (sp_op op_ix (sp_var 8) (SimF.p (sf_c _))) (SimF.p (sf_c _)))) (SimRP.r srp_nil))) rfl))) (ss_ret (SimF.e (sf_c _))) ss_nil))))))))
  (ss_ret (SimF.e (sf_c _)))))
end
end K09

namespace K09
open PySem L2 Dy
def encI (ns : List Int) : List D := ns.map D.int
def encP (w : Int × Int) : D := .tup [.int w.1, .int w.2]
abbrev M (ms : List Int) : D := .tup (ms.map D.int)
abbrev Wd (ws : List (Int × Int)) : D := .tup (ws.map encP)
def cov (ws : List (Int × Int)) (b : Int) : Bool := ws.any fun w => decide (w.1 ≤ b) && decide (b < w.2)
def keep (ws : List (Int × Int)) : Int → Int → List Int → List Int
  | _, _, [] => []
  | b, k, m :: ms => (k + m) :: keep ws (b + 1) (if 0 < k + m ∧ cov ws b = true then k + m - 1 else k + m) ms
theorem cmpP_fm {α : Type} {st : D → SS → Option SS} {tt : SS → Option Bool} {te : SS → Option D} {s0 : SS} (enc : α → D) (p : α → Bool) (g : α → D) : ∀ ws : List α, (∀ w ∈ ws, ∃ s1, st (enc w) s0 = some s1 ∧ tt s1 = some (p w) ∧ (p w = true → te s1 = some (g w) ∧ imm (g w) = true)) → cmpP st tt te s0 (ws.map enc) = some ((ws.filter p).map g)
  | [], _ => rfl
  | w :: ws, h => by
    obtain ⟨s1, h1, h2, h3⟩ := h w (by simp)
    have ih := cmpP_fm enc p g ws fun x hx => h x (by simp [hx])
    rw [List.map_cons]
    unfold cmpP
    rw [h1]
    simp only [Option.bind_some, h2]
    cases e : p w with
    | false => simp only [Bool.false_eq_true, if_false, ih]; rw [List.filter_cons_of_neg (by simp [e])]
    | true =>
      obtain ⟨h4, h5⟩ := h3 e
      simp only [if_true, h4, Option.bind_some, h5, ih, Option.map_some]
      rw [List.filter_cons_of_pos e]; rfl
theorem immP : ∀ ws : List (Int × Int), immL (ws.map encP) = true
  | [] => rfl
  | w :: ws => by simp [immL, imm, encP, immP ws]
theorem depP : ∀ ws : List (Int × Int), depL (ws.map encP) ≤ 1
  | [] => by simp [depL]
  | w :: ws => by have := depP ws; simp [depL, dep, encP]; omega
theorem any_filter {α : Type} (p : α → Bool) (l : List α) : (!(l.filter p).isEmpty) = l.any p := by
  induction l with
  | nil => rfl
  | cons a l ih =>
    cases e : p a with
    | true => simp [List.filter_cons, e]
    | false => rw [List.filter_cons_of_neg (by simp [e]), ih]; simp [e]
theorem isEmpty_map {α β : Type} (f : α → β) (l : List α) : (l.map f).isEmpty = l.isEmpty := by cases l <;> rfl
/-- the windows around a beat -/
theorem cov_ev {m' x y : Sl} {b : Int} (ws : List (Int × Int)) (hl : ws.length ≤ 1000000) :
    (pCmp [5] (iP (fV 1)) (lendSl 5) T_kept_by_0 E_kept_by_1) [m', .bor (Wd ws), x, y, .own (.int b), .no] = some (.lst ((ws.filter fun w => decide (w.1 ≤ b) && decide (b < w.2)).map encP)) := by
  have c : clrC [5] [m', .bor (Wd ws), x, y, .own (.int b), .no] = some [m', .bor (Wd ws), x, y, .own (.int b), .no] := rfl
  have i : iP (fV 1) [m', .bor (Wd ws), x, y, .own (.int b), .no] = some (ws.map encP) := rfl
  unfold pCmp
  rw [i]
  simp only [Option.bind_some]
  rw [if_pos ⟨immP ws, by rw [List.length_map]; exact hl⟩, c]
  simp only [Option.bind_some]
  rw [cmpP_fm encP (fun w => decide (w.1 ≤ b) && decide (b < w.2)) encP ws fun w _ => ⟨[m', .bor (Wd ws), x, y, .own (.int b), .own (encP w)], rfl, ?_, fun _ => ⟨rfl, rfl⟩⟩]
  · rfl
  · unfold T_kept_by_0
    simp only [nl1, nl2, nl3, nl4, nc2, nc3, nc4, ix20, ix21, ix30, ix31, ix32, eq_self, isi_ii, isi_ib, isi_is, isi_itl, isi_ntl, isi_tt, isN_n, isN_i, tup2, z_eqI, z_neI, si0, si1, si2, tn0, tn1, tn2, tn3, List.nil_append, List.cons_append, sSeq, sSet, sIf, sRet, sItem, sDrop, sNil, eN, eI, tP, p2, p1, fV, fC, psC, psN, eaC, eaN, e1, e2, pBl, pAnd, pOr, pNot, pIf, eIf, imm, immL, on1_, on2_, List.getElem?_cons_zero, List.getElem?_cons_succ, List.set_cons_zero, List.set_cons_succ, Option.bind_some, Option.map_some, Sl.val, Sl.isInn, z_ixL, z_ixT, at0, at1, at2, at3, r_of, r_bind, r_thn, s_nx, s_ret, z_nx, z_asB, z_len, z_lenT, z_addI, z_mulR, z_mulL, z_sub, z_lt, z_le, z_gt, z_ge, z_mod, z_div, z_max2, z_min2, setSl, updP, modP, valAt, getP, get1, setP, set1, setV, pIdx, pRoot, stpOf, z_ixN, z_setI, List.length_map, List.length_cons, List.length_nil, if_true, if_false, Bool.false_eq_true, Bool.not_true, Bool.not_false, decide_true, decide_false, pChain, encP]
    by_cases h : w.1 ≤ b <;> simp only [h, nl1, nl2, nl3, nl4, nc2, nc3, nc4, ix20, ix21, ix30, ix31, ix32, eq_self, isi_ii, isi_ib, isi_is, isi_itl, isi_ntl, isi_tt, isN_n, isN_i, tup2, z_eqI, z_neI, si0, si1, si2, tn0, tn1, tn2, tn3, List.nil_append, List.cons_append, sSeq, sSet, sIf, sRet, sItem, sDrop, sNil, eN, eI, tP, p2, p1, fV, fC, psC, psN, eaC, eaN, e1, e2, pBl, pAnd, pOr, pNot, pIf, eIf, imm, immL, on1_, on2_, List.getElem?_cons_zero, List.getElem?_cons_succ, List.set_cons_zero, List.set_cons_succ, Option.bind_some, Option.map_some, Sl.val, Sl.isInn, z_ixL, z_ixT, at0, at1, at2, at3, r_of, r_bind, r_thn, s_nx, s_ret, z_nx, z_asB, z_len, z_lenT, z_addI, z_mulR, z_mulL, z_sub, z_lt, z_le, z_gt, z_ge, z_mod, z_div, z_max2, z_min2, setSl, updP, modP, valAt, getP, get1, setP, set1, setV, pIdx, pRoot, stpOf, z_ixN, z_setI, List.length_map, List.length_cons, List.length_nil, if_true, if_false, Bool.false_eq_true, Bool.not_true, Bool.not_false, decide_true, decide_false, Bool.true_and, Bool.false_and]
theorem append_ev {T : SS → R (List D)} {i : Nat} {s s1 s2 : SS} {ds : List D} {d : D} (h0 : valAt i s = some (.lst ds)) (h1 : T s = .ok [d] s1) (h2 : valAt i s1 = some (.lst ds)) (h3 : setV i (.lst (ds ++ [d])) s1 = some s2) (hl : ds.length < 1000000) : eMut i pRoot "list" fAppend T s = .ok .non s2 := by
  unfold eMut
  simp only [fP, pRoot, Option.bind_some, h0, getP, tyOkD, beq_self_eq_true, if_true, h1, r_bind]
  simp only [modP, h2, Option.bind_some, getP, fAppend, hl, if_true, setP, h3, Option.map_some, ofM]
theorem keptby_loop (ms : List Int) (ws : List (Int × Int)) (hm : ms.length ≤ 200) (hw : ws.length ≤ 200) (b : Nat) (hb : b < ms.length) (k : Int) (acc : List Int) (hacc : acc.length ≤ 200) (x : Sl) (hx : x.isInn = false) :
    ∃ s1, lendSl 4 (.int b) [.bor (M ms), .bor (Wd ws), .own (.lst (acc.map D.int)), .own (.int k), x, .no] = some s1 ∧
      L_kept_by_2 s1 = .nx [.bor (M ms), .bor (Wd ws), .own (.lst ((acc ++ [k + ms.getD b 0]).map D.int)), .own (.int (if 0 < k + ms.getD b 0 ∧ cov ws b = true then k + ms.getD b 0 - 1 else k + ms.getD b 0)), .own (.int b), .no] := by
  refine ⟨[.bor (M ms), .bor (Wd ws), .own (.lst (acc.map D.int)), .own (.int k), .own (.int b), .no], ?_, ?_⟩
  · simp only [lendSl, List.getElem?_cons_zero, List.getElem?_cons_succ, hx, Bool.false_eq_true, if_false, List.set_cons_succ, List.set_cons_zero, imm, if_true]
  · have a1 := z_atI (ns := ms) (i := (b : Int)) (by omega) (by omega)
    rw [show ((b : Int)).toNat = b by omega] at a1
    have a2 : ∀ k', eMut 2 pRoot "list" fAppend (eaC (eI (fV 3)) eaN) [.bor (M ms), .bor (Wd ws), .own (.lst (acc.map D.int)), .own (.int k'), .own (.int b), .no] = .ok .non [.bor (M ms), .bor (Wd ws), .own (.lst ((acc ++ [k']).map D.int)), .own (.int k'), .own (.int b), .no] := fun k' =>
      append_ev rfl rfl rfl (by rw [List.map_append]; rfl) (by rw [List.length_map]; omega)
    have a3 := fun (y1 y2 : Sl) => cov_ev (m' := .bor (M ms)) (x := y1) (y := y2) (b := (b : Int)) ws (by omega)
    have a4 := z_neNil (ds := (ws.filter fun w => decide (w.1 ≤ (b : Int)) && decide ((b : Int) < w.2)).map encP) (by have := depP (ws.filter fun w => decide (w.1 ≤ (b : Int)) && decide ((b : Int) < w.2)); omega)
    rw [isEmpty_map, any_filter] at a4
    unfold L_kept_by_2
    simp (disch := first | assumption | omega) only [nl1, nl2, nl3, nl4, nc2, nc3, nc4, ix20, ix21, ix30, ix31, ix32, eq_self, isi_ii, isi_ib, isi_is, isi_itl, isi_ntl, isi_tt, isN_n, isN_i, tup2, z_eqI, z_neI, si0, si1, si2, tn0, tn1, tn2, tn3, List.nil_append, List.cons_append, sSeq, sSet, sIf, sRet, sItem, sDrop, sNil, eN, eI, tP, p2, p1, fV, fC, psC, psN, eaC, eaN, e1, e2, pBl, pAnd, pOr, pNot, pIf, eIf, imm, immL, on1_, on2_, List.getElem?_cons_zero, List.getElem?_cons_succ, List.set_cons_zero, List.set_cons_succ, Option.bind_some, Option.map_some, Sl.val, Sl.isInn, z_ixL, z_ixT, at0, at1, at2, at3, r_of, r_bind, r_thn, s_nx, s_ret, z_nx, z_asB, z_len, z_lenT, z_addI, z_mulR, z_mulL, z_sub, z_lt, z_le, z_gt, z_ge, z_mod, z_div, z_max2, z_min2, setSl, updP, modP, valAt, getP, get1, setP, set1, setV, pIdx, pRoot, stpOf, z_ixN, z_setI, List.length_map, List.length_cons, List.length_nil, if_true, if_false, Bool.false_eq_true, Bool.not_true, Bool.not_false, decide_true, decide_false, a1, a2, a3, z_lst0, a4]
    by_cases h1 : 0 < k + ms.getD b 0
    · simp only [h1, decide_true, if_true, true_and]
      have : (ws.any fun w => decide (w.1 ≤ (b : Int)) && decide ((b : Int) < w.2)) = cov ws b := rfl
      rw [this]
      cases cov ws b <;> simp only [nl1, nl2, nl3, nl4, nc2, nc3, nc4, ix20, ix21, ix30, ix31, ix32, eq_self, isi_ii, isi_ib, isi_is, isi_itl, isi_ntl, isi_tt, isN_n, isN_i, tup2, z_eqI, z_neI, si0, si1, si2, tn0, tn1, tn2, tn3, List.nil_append, List.cons_append, sSeq, sSet, sIf, sRet, sItem, sDrop, sNil, eN, eI, tP, p2, p1, fV, fC, psC, psN, eaC, eaN, e1, e2, pBl, pAnd, pOr, pNot, pIf, eIf, imm, immL, on1_, on2_, List.getElem?_cons_zero, List.getElem?_cons_succ, List.set_cons_zero, List.set_cons_succ, Option.bind_some, Option.map_some, Sl.val, Sl.isInn, z_ixL, z_ixT, at0, at1, at2, at3, r_of, r_bind, r_thn, s_nx, s_ret, z_nx, z_asB, z_len, z_lenT, z_addI, z_mulR, z_mulL, z_sub, z_lt, z_le, z_gt, z_ge, z_mod, z_div, z_max2, z_min2, setSl, updP, modP, valAt, getP, get1, setP, set1, setV, pIdx, pRoot, stpOf, z_ixN, z_setI, List.length_map, List.length_cons, List.length_nil, if_true, if_false, Bool.false_eq_true, Bool.not_true, Bool.not_false, decide_true, decide_false]
    · simp only [h1, decide_false, Bool.false_eq_true, if_false, false_and, nl1, nl2, nl3, nl4, nc2, nc3, nc4, ix20, ix21, ix30, ix31, ix32, eq_self, isi_ii, isi_ib, isi_is, isi_itl, isi_ntl, isi_tt, isN_n, isN_i, tup2, z_eqI, z_neI, si0, si1, si2, tn0, tn1, tn2, tn3, List.nil_append, List.cons_append, sSeq, sSet, sIf, sRet, sItem, sDrop, sNil, eN, eI, tP, p2, p1, fV, fC, psC, psN, eaC, eaN, e1, e2, pBl, pAnd, pOr, pNot, pIf, eIf, imm, immL, on1_, on2_, List.getElem?_cons_zero, List.getElem?_cons_succ, List.set_cons_zero, List.set_cons_succ, Option.bind_some, Option.map_some, Sl.val, Sl.isInn, z_ixL, z_ixT, at0, at1, at2, at3, r_of, r_bind, r_thn, s_nx, s_ret, z_nx, z_asB, z_len, z_lenT, z_addI, z_mulR, z_mulL, z_sub, z_lt, z_le, z_gt, z_ge, z_mod, z_div, z_max2, z_min2, setSl, updP, modP, valAt, getP, get1, setP, set1, setV, pIdx, pRoot, stpOf, z_ixN, z_setI, List.length_map, List.length_cons, List.length_nil, if_true, if_false, Bool.false_eq_true, Bool.not_true, Bool.not_false, decide_true, decide_false]

theorem rng_get {n : Nat} {j : Nat} {d : D} (h : (rngL 0 n)[j]? = some d) : j < n ∧ d = .int (j : Int) := by
  unfold rngL at h
  rw [List.getElem?_map] at h
  cases e : (List.range n)[j]? with
  | none => rw [e] at h; cases h
  | some i =>
    rw [e] at h
    obtain ⟨h1, h2⟩ := List.getElem?_eq_some_iff.mp e
    rw [List.getElem_range] at h2
    subst h2
    cases h
    exact ⟨by simpa using h1, by simp⟩
theorem rng_len (lo : Int) (n : Nat) : (rngL lo n).length = n := by simp [rngL]
theorem iR1_ev {n : Nat} (h : n ≤ 1000000) : iR1 [.int (n : Int)] = some (rngL 0 n) := by
  simp only [iR1]
  rw [if_pos (by constructor <;> omega), Int.toNat_natCast]
theorem rng1_ev {n : Nat} {X : SS → R (List D)} {s s1 : SS} (hn : n ≤ 1000000) (h : X s = .ok [.int (n : Int)] s1) : e1 iR1 X s = .ok (rngL 0 n) s1 := by
  have r1 := iR1_ev (n := n) hn
  exact e1_ev h r1
theorem keep_cons (ws : List (Int × Int)) (b k m : Int) (ms : List Int) : keep ws b k (m :: ms) = (k + m) :: keep ws (b + 1) (if 0 < k + m ∧ cov ws b = true then k + m - 1 else k + m) ms := rfl
theorem keep_len (ws : List (Int × Int)) : ∀ (ms : List Int) (b k : Int), (keep ws b k ms).length = ms.length
  | [], _, _ => rfl
  | m :: ms, b, k => by simp [keep, keep_len ws ms]
theorem keptby_ev (ms : List Int) (ws : List (Int × Int)) (hm : ms.length ≤ 200) (hw : ws.length ≤ 200) : ∃ k, F_kept_by [.bor (M ms), .bor (Wd ws), .no, .no, .no, .no] = .ret (.lst ((keep ws 0 0 ms).map D.int)) [.bor (M ms), .bor (Wd ws), .no, .own (.int k), .no, .no] := by
  obtain ⟨s', f1, k, acc, x, hx, hl, hk, rfl⟩ := for_ix (st := lendSl 4) (body := L_kept_by_2) (ds := rngL 0 ms.length) (k := 0) (s := [.bor (M ms), .bor (Wd ws), .own (.lst []), .own (.int 0), .no, .no])
    (I := fun j s => ∃ (k : Int) (acc : List Int) (x : Sl), x.isInn = false ∧ acc.length = j ∧ keep ws 0 0 ms = acc ++ keep ws (j : Int) k (ms.drop j) ∧ s = [.bor (M ms), .bor (Wd ws), .own (.lst (acc.map D.int)), .own (.int k), x, .no])
    (fun j d hj s ⟨k, acc, x, hx, hl, hk, e⟩ => by
      obtain ⟨hj1, rfl⟩ := rng_get hj
      subst e
      rw [Nat.zero_add] at hl hk ⊢
      obtain ⟨s1, e1, e2⟩ := keptby_loop ms ws hm hw j hj1 k acc (by omega) x hx
      refine ⟨s1, _, e1, e2, _, _, _, rfl, by rw [List.length_append, hl, List.length_singleton], ?_, rfl⟩
      rw [hk, List.drop_eq_getElem_cons hj1]
      have g : ms.getD j 0 = ms[j] := by rw [List.getD_eq_getElem?_getD, List.getElem?_eq_getElem hj1]; rfl
      rw [g, keep_cons, List.append_assoc, List.cons_append, List.nil_append, Int.natCast_add, Int.natCast_one]) ⟨0, [], .no, rfl, rfl, by simp, rfl⟩
  rw [Nat.zero_add, rng_len] at hl hk
  rw [List.drop_length] at hk
  have hk' : keep ws 0 0 ms = acc := by rw [hk]; simp [keep]
  refine ⟨k, ?_⟩
  have c1 : clr [4] [.bor (M ms), .bor (Wd ws), .own (.lst []), .own (.int 0), .no, .no] = [.bor (M ms), .bor (Wd ws), .own (.lst []), .own (.int 0), .no, .no] := rfl
  have c2 : clr [4] [.bor (M ms), .bor (Wd ws), .own (.lst (acc.map D.int)), .own (.int k), x, .no] = [.bor (M ms), .bor (Wd ws), .own (.lst (acc.map D.int)), .own (.int k), .no, .no] := by
    cases x <;> first | rfl | cases hx
  have it0 : (eaC (eN (p1 (on1 fLen) (psC (fV 0) psN))) eaN) [.bor (M ms), .bor (Wd ws), .own (.lst []), .own (.int 0), .no, .no] = .ok [.int (ms.length : Int)] [.bor (M ms), .bor (Wd ws), .own (.lst []), .own (.int 0), .no, .no] := by
    simp only [nl1, nl2, nl3, nl4, nc2, nc3, nc4, ix20, ix21, ix30, ix31, ix32, eq_self, isi_ii, isi_ib, isi_is, isi_itl, isi_ntl, isi_tt, isN_n, isN_i, tup2, z_eqI, z_neI, si0, si1, si2, tn0, tn1, tn2, tn3, List.nil_append, List.cons_append, sSeq, sSet, sIf, sRet, sItem, sDrop, sNil, eN, eI, tP, p2, p1, fV, fC, psC, psN, eaC, eaN, e1, e2, pBl, pAnd, pOr, pNot, pIf, eIf, imm, immL, on1_, on2_, List.getElem?_cons_zero, List.getElem?_cons_succ, List.set_cons_zero, List.set_cons_succ, Option.bind_some, Option.map_some, Sl.val, Sl.isInn, z_ixL, z_ixT, at0, at1, at2, at3, r_of, r_bind, r_thn, s_nx, s_ret, z_nx, z_asB, z_len, z_lenT, z_addI, z_mulR, z_mulL, z_sub, z_lt, z_le, z_gt, z_ge, z_mod, z_div, z_max2, z_min2, setSl, updP, modP, valAt, getP, get1, setP, set1, setV, pIdx, pRoot, stpOf, z_ixN, z_setI, List.length_map, List.length_cons, List.length_nil, if_true, if_false, Bool.false_eq_true, Bool.not_true, Bool.not_false, decide_true, decide_false]
  have it1 := rng1_ev (by omega) it0
  have f2 : sFor [4] id (e1 iR1 (eaC (eN (p1 (on1 fLen) (psC (fV 0) psN))) eaN)) (lendSl 4) L_kept_by_2 [.bor (M ms), .bor (Wd ws), .own (.lst []), .own (.int 0), .no, .no] = .nx [.bor (M ms), .bor (Wd ws), .own (.lst (acc.map D.int)), .own (.int k), .no, .no] := by
    have f2 := for_run (u := id) it1 (by rw [c1]; exact f1)
    rw [c2] at f2
    exact f2
  refine seq_nx (s1 := [.bor (M ms), .bor (Wd ws), .own (.lst []), .no, .no, .no]) (by simp only [nl1, nl2, nl3, nl4, nc2, nc3, nc4, ix20, ix21, ix30, ix31, ix32, eq_self, isi_ii, isi_ib, isi_is, isi_itl, isi_ntl, isi_tt, isN_n, isN_i, tup2, z_eqI, z_neI, si0, si1, si2, tn0, tn1, tn2, tn3, List.nil_append, List.cons_append, sSeq, sSet, sIf, sRet, sItem, sDrop, sNil, eN, eI, tP, p2, p1, fV, fC, psC, psN, eaC, eaN, e1, e2, pBl, pAnd, pOr, pNot, pIf, eIf, imm, immL, on1_, on2_, List.getElem?_cons_zero, List.getElem?_cons_succ, List.set_cons_zero, List.set_cons_succ, Option.bind_some, Option.map_some, Sl.val, Sl.isInn, z_ixL, z_ixT, at0, at1, at2, at3, r_of, r_bind, r_thn, s_nx, s_ret, z_nx, z_asB, z_len, z_lenT, z_addI, z_mulR, z_mulL, z_sub, z_lt, z_le, z_gt, z_ge, z_mod, z_div, z_max2, z_min2, setSl, updP, modP, valAt, getP, get1, setP, set1, setV, pIdx, pRoot, stpOf, z_ixN, z_setI, List.length_map, List.length_cons, List.length_nil, if_true, if_false, Bool.false_eq_true, Bool.not_true, Bool.not_false, decide_true, decide_false, z_lst0]) (seq_nx (s1 := [.bor (M ms), .bor (Wd ws), .own (.lst []), .own (.int 0), .no, .no]) (by simp only [nl1, nl2, nl3, nl4, nc2, nc3, nc4, ix20, ix21, ix30, ix31, ix32, eq_self, isi_ii, isi_ib, isi_is, isi_itl, isi_ntl, isi_tt, isN_n, isN_i, tup2, z_eqI, z_neI, si0, si1, si2, tn0, tn1, tn2, tn3, List.nil_append, List.cons_append, sSeq, sSet, sIf, sRet, sItem, sDrop, sNil, eN, eI, tP, p2, p1, fV, fC, psC, psN, eaC, eaN, e1, e2, pBl, pAnd, pOr, pNot, pIf, eIf, imm, immL, on1_, on2_, List.getElem?_cons_zero, List.getElem?_cons_succ, List.set_cons_zero, List.set_cons_succ, Option.bind_some, Option.map_some, Sl.val, Sl.isInn, z_ixL, z_ixT, at0, at1, at2, at3, r_of, r_bind, r_thn, s_nx, s_ret, z_nx, z_asB, z_len, z_lenT, z_addI, z_mulR, z_mulL, z_sub, z_lt, z_le, z_gt, z_ge, z_mod, z_div, z_max2, z_min2, setSl, updP, modP, valAt, getP, get1, setP, set1, setV, pIdx, pRoot, stpOf, z_ixN, z_setI, List.length_map, List.length_cons, List.length_nil, if_true, if_false, Bool.false_eq_true, Bool.not_true, Bool.not_false, decide_true, decide_false]) (seq_nx (s1 := [.bor (M ms), .bor (Wd ws), .own (.lst (acc.map D.int)), .own (.int k), .no, .no]) f2 ?_))
  simp only [nl1, nl2, nl3, nl4, nc2, nc3, nc4, ix20, ix21, ix30, ix31, ix32, eq_self, isi_ii, isi_ib, isi_is, isi_itl, isi_ntl, isi_tt, isN_n, isN_i, tup2, z_eqI, z_neI, si0, si1, si2, tn0, tn1, tn2, tn3, List.nil_append, List.cons_append, sSeq, sSet, sIf, sRet, sItem, sDrop, sNil, eN, eI, tP, p2, p1, fV, fC, psC, psN, eaC, eaN, e1, e2, pBl, pAnd, pOr, pNot, pIf, eIf, imm, immL, on1_, on2_, List.getElem?_cons_zero, List.getElem?_cons_succ, List.set_cons_zero, List.set_cons_succ, Option.bind_some, Option.map_some, Sl.val, Sl.isInn, z_ixL, z_ixT, at0, at1, at2, at3, r_of, r_bind, r_thn, s_nx, s_ret, z_nx, z_asB, z_len, z_lenT, z_addI, z_mulR, z_mulL, z_sub, z_lt, z_le, z_gt, z_ge, z_mod, z_div, z_max2, z_min2, setSl, updP, modP, valAt, getP, get1, setP, set1, setV, pIdx, pRoot, stpOf, z_ixN, z_setI, List.length_map, List.length_cons, List.length_nil, if_true, if_false, Bool.false_eq_true, Bool.not_true, Bool.not_false, decide_true, decide_false, eMv, hk']
def Chn (n : Int) : Int → List (Int × Int) → Prop
  | _, [] => True
  | lo, w :: ws => lo ≤ w.1 ∧ w.1 < w.2 ∧ w.2 ≤ n ∧ Chn n w.2 ws
abbrev atw (b : Int) (w : Int × Int) : Bool := decide (w.1 ≤ b) && decide (b < w.2)
theorem chn_out {n b : Int} : ∀ {ws : List (Int × Int)} {lo : Int}, Chn n lo ws → b < lo → ws.countP (atw b) = 0
  | [], _, _, _ => rfl
  | w :: ws, lo, h, hb => by
    obtain ⟨h1, h2, h3, h4⟩ := h
    rw [List.countP_cons_of_neg (by simp [atw]; omega)]
    exact chn_out h4 (by omega)
theorem chn_count {n b : Int} : ∀ {ws : List (Int × Int)} {lo : Int}, Chn n lo ws → ws.countP (atw b) = if cov ws b = true then 1 else 0
  | [], _, _ => rfl
  | w :: ws, lo, h => by
    obtain ⟨h1, h2, h3, h4⟩ := h
    unfold cov
    rw [List.any_cons]
    by_cases hw : atw b w = true
    · have hw' := hw
      simp only [atw, Bool.and_eq_true, decide_eq_true_eq] at hw'
      rw [List.countP_cons_of_pos hw, chn_out h4 (by omega)]
      simp only [atw] at hw
      rw [hw]; rfl
    · have hw' : atw b w = false := by simpa using hw
      rw [List.countP_cons_of_neg hw, chn_count h4]
      simp only [atw] at hw'
      rw [hw', Bool.false_or]; rfl

theorem cut1 (ds : List D) : cutD ds (some 1) none = ds.drop 1 := by
  unfold cutD
  cases ds with
  | nil => simp
  | cons d ds =>
    have h1 : HT.sIx (d :: ds).length 0 (some 1) = 1 := by
      simp [HT.sIx]
    have h2 : HT.sIx (d :: ds).length (d :: ds).length none = (d :: ds).length := by simp [HT.sIx]
    rw [h1, h2, List.take_of_length_le (by simp)]
theorem sl1 {ds : List D} (h : immL ds = true) : fSl (.lst ds) (some 1) none = some (.lst (ds.drop 1)) := by
  simp [fSl, fSlL, h, cut1]
theorem lk_inner {m' x2 x5 x6 : Sl} (h5 : x5.isInn = false) (h6 : x6.isInn = false) (b : Int) (w : Int × Int) (ws : D) (kl : List Int) : ∃ s1, lendAll [5, 6] (encP w) [m', .bor ws, x2, .own (.lst (kl.map D.int)), .own (.int b), x5, x6] = some s1 ∧
    L__law_kept_0 s1 = .nx [m', .bor ws, x2, .own (.lst ((if atw b w = true then kl.drop 1 else kl).map D.int)), .own (.int b), .own (.int w.1), .own (.int w.2)] := by
  refine ⟨[m', .bor ws, x2, .own (.lst (kl.map D.int)), .own (.int b), .own (.int w.1), .own (.int w.2)], ?_, ?_⟩
  · cases x5 <;> cases x6 <;> first | rfl | (simp [Sl.isInn] at h5; done) | (simp [Sl.isInn] at h6; done)
  · have a1 := sl1 (z_imm kl)
    have a2 : asInt (.int 1) = some 1 := rfl
    unfold L__law_kept_0
    simp only [nl1, nl2, nl3, nl4, nc2, nc3, nc4, ix20, ix21, ix30, ix31, ix32, eq_self, isi_ii, isi_ib, isi_is, isi_itl, isi_ntl, isi_tt, isN_n, isN_i, tup2, z_eqI, z_neI, si0, si1, si2, tn0, tn1, tn2, tn3, List.nil_append, List.cons_append, sSeq, sSet, sIf, sRet, sItem, sDrop, sNil, eN, eI, tP, p2, p1, fV, fC, psC, psN, eaC, eaN, e1, e2, pBl, pAnd, pOr, pNot, pIf, eIf, imm, immL, on1_, on2_, List.getElem?_cons_zero, List.getElem?_cons_succ, List.set_cons_zero, List.set_cons_succ, Option.bind_some, Option.map_some, Sl.val, Sl.isInn, z_ixL, z_ixT, at0, at1, at2, at3, r_of, r_bind, r_thn, s_nx, s_ret, z_nx, z_asB, z_len, z_lenT, z_addI, z_mulR, z_mulL, z_sub, z_lt, z_le, z_gt, z_ge, z_mod, z_div, z_max2, z_min2, setSl, updP, modP, valAt, getP, get1, setP, set1, setV, pIdx, pRoot, stpOf, z_ixN, z_setI, List.length_map, List.length_cons, List.length_nil, if_true, if_false, Bool.false_eq_true, Bool.not_true, Bool.not_false, decide_true, decide_false, pChain, pSl, oS, oN, a2, a1, atw]
    by_cases c1 : w.1 ≤ b
    · by_cases c2 : b < w.2
      · simp only [c1, c2, nl1, nl2, nl3, nl4, nc2, nc3, nc4, ix20, ix21, ix30, ix31, ix32, eq_self, isi_ii, isi_ib, isi_is, isi_itl, isi_ntl, isi_tt, isN_n, isN_i, tup2, z_eqI, z_neI, si0, si1, si2, tn0, tn1, tn2, tn3, List.nil_append, List.cons_append, sSeq, sSet, sIf, sRet, sItem, sDrop, sNil, eN, eI, tP, p2, p1, fV, fC, psC, psN, eaC, eaN, e1, e2, pBl, pAnd, pOr, pNot, pIf, eIf, imm, immL, on1_, on2_, List.getElem?_cons_zero, List.getElem?_cons_succ, List.set_cons_zero, List.set_cons_succ, Option.bind_some, Option.map_some, Sl.val, Sl.isInn, z_ixL, z_ixT, at0, at1, at2, at3, r_of, r_bind, r_thn, s_nx, s_ret, z_nx, z_asB, z_len, z_lenT, z_addI, z_mulR, z_mulL, z_sub, z_lt, z_le, z_gt, z_ge, z_mod, z_div, z_max2, z_min2, setSl, updP, modP, valAt, getP, get1, setP, set1, setV, pIdx, pRoot, stpOf, z_ixN, z_setI, List.length_map, List.length_cons, List.length_nil, if_true, if_false, Bool.false_eq_true, Bool.not_true, Bool.not_false, decide_true, decide_false, a1, Bool.and_self, List.map_drop]
      · simp only [c1, c2, nl1, nl2, nl3, nl4, nc2, nc3, nc4, ix20, ix21, ix30, ix31, ix32, eq_self, isi_ii, isi_ib, isi_is, isi_itl, isi_ntl, isi_tt, isN_n, isN_i, tup2, z_eqI, z_neI, si0, si1, si2, tn0, tn1, tn2, tn3, List.nil_append, List.cons_append, sSeq, sSet, sIf, sRet, sItem, sDrop, sNil, eN, eI, tP, p2, p1, fV, fC, psC, psN, eaC, eaN, e1, e2, pBl, pAnd, pOr, pNot, pIf, eIf, imm, immL, on1_, on2_, List.getElem?_cons_zero, List.getElem?_cons_succ, List.set_cons_zero, List.set_cons_succ, Option.bind_some, Option.map_some, Sl.val, Sl.isInn, z_ixL, z_ixT, at0, at1, at2, at3, r_of, r_bind, r_thn, s_nx, s_ret, z_nx, z_asB, z_len, z_lenT, z_addI, z_mulR, z_mulL, z_sub, z_lt, z_le, z_gt, z_ge, z_mod, z_div, z_max2, z_min2, setSl, updP, modP, valAt, getP, get1, setP, set1, setV, pIdx, pRoot, stpOf, z_ixN, z_setI, List.length_map, List.length_cons, List.length_nil, if_true, if_false, Bool.false_eq_true, Bool.not_true, Bool.not_false, decide_true, decide_false, Bool.and_false]
    · simp only [c1, nl1, nl2, nl3, nl4, nc2, nc3, nc4, ix20, ix21, ix30, ix31, ix32, eq_self, isi_ii, isi_ib, isi_is, isi_itl, isi_ntl, isi_tt, isN_n, isN_i, tup2, z_eqI, z_neI, si0, si1, si2, tn0, tn1, tn2, tn3, List.nil_append, List.cons_append, sSeq, sSet, sIf, sRet, sItem, sDrop, sNil, eN, eI, tP, p2, p1, fV, fC, psC, psN, eaC, eaN, e1, e2, pBl, pAnd, pOr, pNot, pIf, eIf, imm, immL, on1_, on2_, List.getElem?_cons_zero, List.getElem?_cons_succ, List.set_cons_zero, List.set_cons_succ, Option.bind_some, Option.map_some, Sl.val, Sl.isInn, z_ixL, z_ixT, at0, at1, at2, at3, r_of, r_bind, r_thn, s_nx, s_ret, z_nx, z_asB, z_len, z_lenT, z_addI, z_mulR, z_mulL, z_sub, z_lt, z_le, z_gt, z_ge, z_mod, z_div, z_max2, z_min2, setSl, updP, modP, valAt, getP, get1, setP, set1, setV, pIdx, pRoot, stpOf, z_ixN, z_setI, List.length_map, List.length_cons, List.length_nil, if_true, if_false, Bool.false_eq_true, Bool.not_true, Bool.not_false, decide_true, decide_false, Bool.false_and]
theorem lk_inners {m' x2 : Sl} (b : Int) (wd : D) : ∀ (ws : List (Int × Int)) (kl : List Int) (x5 x6 : Sl), x5.isInn = false → x6.isInn = false → ∃ y5 y6, y5.isInn = false ∧ y6.isInn = false ∧ forL (lendAll [5, 6]) L__law_kept_0 (ws.map encP) [m', .bor wd, x2, .own (.lst (kl.map D.int)), .own (.int b), x5, x6] =
    .nx [m', .bor wd, x2, .own (.lst ((kl.drop (ws.countP (atw b))).map D.int)), .own (.int b), y5, y6]
  | [], kl, x5, x6, h5, h6 => ⟨x5, x6, h5, h6, rfl⟩
  | w :: ws, kl, x5, x6, h5, h6 => by
    obtain ⟨s1, e1, e2⟩ := lk_inner (m' := m') (x2 := x2) h5 h6 b w wd kl
    obtain ⟨y5, y6, h7, h8, e3⟩ := lk_inners b wd ws (if atw b w = true then kl.drop 1 else kl) (.own (.int w.1)) (.own (.int w.2)) rfl rfl
    refine ⟨y5, y6, h7, h8, ?_⟩
    rw [List.map_cons]
    unfold forL
    rw [e1]
    simp only
    rw [e2]
    simp only
    rw [e3]
    by_cases c : atw b w = true
    · rw [if_pos c, List.countP_cons_of_pos c, List.drop_drop, Nat.add_comm]
    · rw [if_neg c, List.countP_cons_of_neg c]

theorem addL {a b : List Int} (h : a.length + b.length ≤ 1000000) : fAdd (.lst (a.map D.int)) (.lst (b.map D.int)) = some (.lst ((a ++ b).map D.int)) := by
  have : fAddL (.lst (a.map D.int)) (.lst (b.map D.int)) = some (.lst ((a ++ b).map D.int)) := by
    simp only [fAddL, z_imm, Bool.and_self, List.length_map, true_and]
    rw [if_pos h, List.map_append]
  simp only [fAdd, orF, fAddI, fII, fAddS, this]
  rfl
theorem repL (x : Int) {k : Int} (h0 : 0 ≤ k) (h1 : k ≤ 1000) : fMul (.lst [.int x]) (.int k) = some (.lst ((List.replicate k.toNat x).map D.int)) := by
  have : fRepL (.lst [.int x]) (.int k) = some (.lst ((List.replicate k.toNat x).map D.int)) := by
    simp only [fRepL]
    rw [if_pos ⟨rfl, by constructor <;> omega, by simp only [List.length_singleton]; omega⟩]
    congr 2
    rw [List.map_replicate]
    induction k.toNat with
    | zero => rfl
    | succ n ih => rw [List.replicate_succ, List.flatten_cons, ih, List.replicate_succ]; rfl
  simp only [fMul, orF, fMulI, fIC, this]
  rfl
theorem lk_body (ms : List Int) (ws : List (Int × Int)) (hm : ms.length ≤ 200) (h6 : ∀ m ∈ ms, 0 ≤ m ∧ m ≤ 6) {n : Int} (hw : Chn n 0 ws) (b : Nat) (hb : b < ms.length) (kl : List Int) (hk : kl.length ≤ 2000) (acc : List Int) (hacc : acc.length ≤ 200) (x x5 x6 : Sl) (hx : x.isInn = false) (hx5 : x5.isInn = false) (hx6 : x6.isInn = false) :
    ∃ (s1 : SS) (kl' : List Int), lendSl 4 (.int b) [.bor (M ms), .bor (Wd ws), .own (.lst (acc.map D.int)), .own (.lst (kl.map D.int)), x, x5, x6] = some s1 ∧ (kl'.length : Int) = (if 0 < (kl.length : Int) + ms.getD b 0 ∧ cov ws b = true then (kl.length : Int) + ms.getD b 0 - 1 else (kl.length : Int) + ms.getD b 0) ∧
      L__law_kept_1 s1 = .nx [.bor (M ms), .bor (Wd ws), .own (.lst ((acc ++ [(kl.length : Int) + ms.getD b 0]).map D.int)), .own (.lst (kl'.map D.int)), .own (.int b), .no, .no] := by
  have g : ms.getD b 0 = ms[b] := by rw [List.getD_eq_getElem?_getD, List.getElem?_eq_getElem hb]; rfl
  have gm := h6 ms[b] (List.getElem_mem hb)
  rw [← g] at gm
  generalize hmb : ms.getD b 0 = mb at gm ⊢
  refine ⟨[.bor (M ms), .bor (Wd ws), .own (.lst (acc.map D.int)), .own (.lst (kl.map D.int)), .own (.int b), x5, x6], (kl ++ List.replicate mb.toNat (b : Int)).drop (ws.countP (atw b)), ?_, ?_, ?_⟩
  · simp only [lendSl, List.getElem?_cons_zero, List.getElem?_cons_succ, hx, Bool.false_eq_true, if_false, List.set_cons_succ, List.set_cons_zero, imm, if_true]
  · rw [List.length_drop, List.length_append, List.length_replicate, chn_count hw]
    by_cases hc : cov ws (b : Int) = true
    · simp only [hc, if_true, and_true]
      split <;> omega
    · simp only [hc, if_false, and_false, Bool.false_eq_true]
      omega
  · have a1 := z_atI (ns := ms) (i := (b : Int)) (by omega) (by omega)
    rw [show ((b : Int)).toNat = b by omega, hmb] at a1
    have a0 : fLst [.int (b : Int)] = some (.lst [.int (b : Int)]) := rfl
    have a2 := repL (b : Int) gm.1 (by omega)
    have a3 := addL (a := kl) (b := List.replicate mb.toNat (b : Int)) (by rw [List.length_replicate]; omega)
    have l3 : ((kl ++ List.replicate mb.toNat (b : Int)).length : Int) = (kl.length : Int) + mb := by rw [List.length_append, List.length_replicate]; omega
    have a5 : (acc ++ [(kl.length : Int) + mb]).map D.int = acc.map D.int ++ [.int ((kl.length : Int) + mb)] := by rw [List.map_append]; rfl
    have a4 : eMut 2 pRoot "list" fAppend (eaC (eN (p1 (on1 fLen) (psC (fV 3) psN))) eaN) [.bor (M ms), .bor (Wd ws), .own (.lst (acc.map D.int)), .own (.lst ((kl ++ List.replicate mb.toNat (b : Int)).map D.int)), .own (.int b), x5, x6] = .ok .non [.bor (M ms), .bor (Wd ws), .own (.lst ((acc ++ [(kl.length : Int) + mb]).map D.int)), .own (.lst ((kl ++ List.replicate mb.toNat (b : Int)).map D.int)), .own (.int b), x5, x6] :=
      append_ev (ds := acc.map D.int) (d := .int ((kl.length : Int) + mb)) (s1 := [.bor (M ms), .bor (Wd ws), .own (.lst (acc.map D.int)), .own (.lst ((kl ++ List.replicate mb.toNat (b : Int)).map D.int)), .own (.int b), x5, x6]) rfl (by simp only [nl1, nl2, nl3, nl4, nc2, nc3, nc4, ix20, ix21, ix30, ix31, ix32, eq_self, isi_ii, isi_ib, isi_is, isi_itl, isi_ntl, isi_tt, isN_n, isN_i, tup2, z_eqI, z_neI, si0, si1, si2, tn0, tn1, tn2, tn3, List.nil_append, List.cons_append, sSeq, sSet, sIf, sRet, sItem, sDrop, sNil, eN, eI, tP, p2, p1, fV, fC, psC, psN, eaC, eaN, e1, e2, pBl, pAnd, pOr, pNot, pIf, eIf, imm, immL, on1_, on2_, List.getElem?_cons_zero, List.getElem?_cons_succ, List.set_cons_zero, List.set_cons_succ, Option.bind_some, Option.map_some, Sl.val, Sl.isInn, z_ixL, z_ixT, at0, at1, at2, at3, r_of, r_bind, r_thn, s_nx, s_ret, z_nx, z_asB, z_len, z_lenT, z_addI, z_mulR, z_mulL, z_sub, z_lt, z_le, z_gt, z_ge, z_mod, z_div, z_max2, z_min2, setSl, updP, modP, valAt, getP, get1, setP, set1, setV, pIdx, pRoot, stpOf, z_ixN, z_setI, List.length_map, List.length_cons, List.length_nil, if_true, if_false, Bool.false_eq_true, Bool.not_true, Bool.not_false, decide_true, decide_false, l3]) rfl (by rw [a5]; rfl) (by rw [List.length_map]; omega)
    obtain ⟨y5, y6, q5, q6, f1⟩ := lk_inners (m' := .bor (M ms)) (x2 := .own (.lst ((acc ++ [(kl.length : Int) + mb]).map D.int))) (b : Int) (Wd ws) ws (kl ++ List.replicate mb.toNat (b : Int)) .no .no rfl rfl
    have i1 : iBor 1 [.bor (M ms), .bor (Wd ws), .own (.lst ((acc ++ [(kl.length : Int) + mb]).map D.int)), .own (.lst ((kl ++ List.replicate mb.toNat (b : Int)).map D.int)), .own (.int b), x5, x6] = .ok (ws.map encP) [.bor (M ms), .bor (Wd ws), .own (.lst ((acc ++ [(kl.length : Int) + mb]).map D.int)), .own (.lst ((kl ++ List.replicate mb.toNat (b : Int)).map D.int)), .own (.int b), x5, x6] := rfl
    have c1 : ∀ (a c : Sl) (y5 y6 : Sl), y5.isInn = false → y6.isInn = false → clr [5, 6] [.bor (M ms), .bor (Wd ws), a, c, .own (.int b), y5, y6] = [.bor (M ms), .bor (Wd ws), a, c, .own (.int b), .no, .no] := fun a c y5 y6 h5 h6 => by
      cases y5 <;> cases y6 <;> first | rfl | (simp [Sl.isInn] at h5; done) | (simp [Sl.isInn] at h6; done)
    have f2 := for_run (u := id) i1 (by rw [c1 _ _ _ _ hx5 hx6]; exact f1)
    rw [c1 _ _ _ _ q5 q6] at f2
    unfold L__law_kept_1
    refine seq_nx (s1 := [.bor (M ms), .bor (Wd ws), .own (.lst (acc.map D.int)), .own (.lst ((kl ++ List.replicate mb.toNat (b : Int)).map D.int)), .own (.int b), x5, x6]) (by simp only [nl1, nl2, nl3, nl4, nc2, nc3, nc4, ix20, ix21, ix30, ix31, ix32, eq_self, isi_ii, isi_ib, isi_is, isi_itl, isi_ntl, isi_tt, isN_n, isN_i, tup2, z_eqI, z_neI, si0, si1, si2, tn0, tn1, tn2, tn3, List.nil_append, List.cons_append, sSeq, sSet, sIf, sRet, sItem, sDrop, sNil, eN, eI, tP, p2, p1, fV, fC, psC, psN, eaC, eaN, e1, e2, pBl, pAnd, pOr, pNot, pIf, eIf, imm, immL, on1_, on2_, List.getElem?_cons_zero, List.getElem?_cons_succ, List.set_cons_zero, List.set_cons_succ, Option.bind_some, Option.map_some, Sl.val, Sl.isInn, z_ixL, z_ixT, at0, at1, at2, at3, r_of, r_bind, r_thn, s_nx, s_ret, z_nx, z_asB, z_len, z_lenT, z_addI, z_mulR, z_mulL, z_sub, z_lt, z_le, z_gt, z_ge, z_mod, z_div, z_max2, z_min2, setSl, updP, modP, valAt, getP, get1, setP, set1, setV, pIdx, pRoot, stpOf, z_ixN, z_setI, List.length_map, List.length_cons, List.length_nil, if_true, if_false, Bool.false_eq_true, Bool.not_true, Bool.not_false, decide_true, decide_false, a0, a1, a2, a3]) (seq_nx (drop_run a4) f2)

theorem keep_le (ws : List (Int × Int)) : ∀ (ms : List Int) (b k : Int), 0 ≤ k → (∀ m ∈ ms, 0 ≤ m ∧ m ≤ 6) → ∀ x ∈ keep ws b k ms, 0 ≤ x ∧ x ≤ k + 6 * ms.length
  | [], _, _, _, _, x, h => by simp [keep] at h
  | m :: ms, b, k, hk, h6, x, h => by
    have hm := h6 m (by simp)
    rw [keep_cons] at h
    rw [List.length_cons]
    rcases List.mem_cons.mp h with rfl | h
    · constructor <;> omega
    · have := keep_le ws ms (b + 1) _ (by split <;> omega) (fun y hy => h6 y (by simp [hy])) x h
      split at this <;> constructor <;> omega
theorem lkept_ev (ms : List Int) (ws : List (Int × Int)) (hm : ms.length ≤ 200) (h6 : ∀ m ∈ ms, 0 ≤ m ∧ m ≤ 6) {n : Int} (hw : Chn n 0 ws) : ∃ kl, F__law_kept [.bor (M ms), .bor (Wd ws), .no, .no, .no, .no, .no] = .ret (.lst ((keep ws 0 0 ms).map D.int)) [.bor (M ms), .bor (Wd ws), .no, .own kl, .no, .no, .no] := by
  obtain ⟨s', f1, kl, acc, x, hx, hl, hkl, hk, rfl⟩ := for_ix (st := lendSl 4) (body := L__law_kept_1) (ds := rngL 0 ms.length) (k := 0) (s := [.bor (M ms), .bor (Wd ws), .own (.lst []), .own (.lst []), .no, .no, .no])
    (I := fun j s => ∃ (kl acc : List Int) (x : Sl), x.isInn = false ∧ acc.length = j ∧ kl.length ≤ 6 * j ∧ keep ws 0 0 ms = acc ++ keep ws (j : Int) (kl.length : Int) (ms.drop j) ∧ s = [.bor (M ms), .bor (Wd ws), .own (.lst (acc.map D.int)), .own (.lst (kl.map D.int)), x, .no, .no])
    (fun j d hj s ⟨kl, acc, x, hx, hl, hkl, hk, e⟩ => by
      obtain ⟨hj1, rfl⟩ := rng_get hj
      subst e
      rw [Nat.zero_add] at hl hk hkl ⊢
      obtain ⟨s1, kl', e1, e2, e3⟩ := lk_body ms ws hm h6 hw j hj1 kl (by omega) acc (by omega) x .no .no hx rfl rfl
      have g : ms.getD j 0 = ms[j] := by rw [List.getD_eq_getElem?_getD, List.getElem?_eq_getElem hj1]; rfl
      have gm := h6 ms[j] (List.getElem_mem hj1)
      rw [g] at e2 e3
      refine ⟨s1, _, e1, e3, _, _, _, rfl, by rw [List.length_append, hl, List.length_singleton], by split at e2 <;> omega, ?_, rfl⟩
      rw [hk, List.drop_eq_getElem_cons hj1, keep_cons, List.append_assoc, List.cons_append, List.nil_append, Int.natCast_add, Int.natCast_one, e2]) ⟨[], [], .no, rfl, rfl, Nat.le_refl _, by simp, rfl⟩
  rw [Nat.zero_add, rng_len] at hl hk
  rw [List.drop_length] at hk
  have hk' : keep ws 0 0 ms = acc := by rw [hk]; simp [keep]
  refine ⟨.lst (kl.map D.int), ?_⟩
  have c1 : clr [4] [.bor (M ms), .bor (Wd ws), .own (.lst []), .own (.lst []), .no, .no, .no] = [.bor (M ms), .bor (Wd ws), .own (.lst []), .own (.lst []), .no, .no, .no] := rfl
  have c2 : clr [4] [.bor (M ms), .bor (Wd ws), .own (.lst (acc.map D.int)), .own (.lst (kl.map D.int)), x, .no, .no] = [.bor (M ms), .bor (Wd ws), .own (.lst (acc.map D.int)), .own (.lst (kl.map D.int)), .no, .no, .no] := by
    cases x <;> first | rfl | cases hx
  have it0 : (eaC (eN (p1 (on1 fLen) (psC (fV 0) psN))) eaN) [.bor (M ms), .bor (Wd ws), .own (.lst []), .own (.lst []), .no, .no, .no] = .ok [.int (ms.length : Int)] [.bor (M ms), .bor (Wd ws), .own (.lst []), .own (.lst []), .no, .no, .no] := by
    simp only [nl1, nl2, nl3, nl4, nc2, nc3, nc4, ix20, ix21, ix30, ix31, ix32, eq_self, isi_ii, isi_ib, isi_is, isi_itl, isi_ntl, isi_tt, isN_n, isN_i, tup2, z_eqI, z_neI, si0, si1, si2, tn0, tn1, tn2, tn3, List.nil_append, List.cons_append, sSeq, sSet, sIf, sRet, sItem, sDrop, sNil, eN, eI, tP, p2, p1, fV, fC, psC, psN, eaC, eaN, e1, e2, pBl, pAnd, pOr, pNot, pIf, eIf, imm, immL, on1_, on2_, List.getElem?_cons_zero, List.getElem?_cons_succ, List.set_cons_zero, List.set_cons_succ, Option.bind_some, Option.map_some, Sl.val, Sl.isInn, z_ixL, z_ixT, at0, at1, at2, at3, r_of, r_bind, r_thn, s_nx, s_ret, z_nx, z_asB, z_len, z_lenT, z_addI, z_mulR, z_mulL, z_sub, z_lt, z_le, z_gt, z_ge, z_mod, z_div, z_max2, z_min2, setSl, updP, modP, valAt, getP, get1, setP, set1, setV, pIdx, pRoot, stpOf, z_ixN, z_setI, List.length_map, List.length_cons, List.length_nil, if_true, if_false, Bool.false_eq_true, Bool.not_true, Bool.not_false, decide_true, decide_false]
  have it1 := rng1_ev (by omega) it0
  have f2 : sFor [4] id (e1 iR1 (eaC (eN (p1 (on1 fLen) (psC (fV 0) psN))) eaN)) (lendSl 4) L__law_kept_1 [.bor (M ms), .bor (Wd ws), .own (.lst []), .own (.lst []), .no, .no, .no] = .nx [.bor (M ms), .bor (Wd ws), .own (.lst (acc.map D.int)), .own (.lst (kl.map D.int)), .no, .no, .no] := by
    have f2 := for_run (u := id) it1 (by rw [c1]; exact f1)
    rw [c2] at f2
    exact f2
  unfold F__law_kept
  refine seq_nx (s1 := [.bor (M ms), .bor (Wd ws), .own (.lst []), .own (.lst []), .no, .no, .no]) (by simp only [nl1, nl2, nl3, nl4, nc2, nc3, nc4, ix20, ix21, ix30, ix31, ix32, eq_self, isi_ii, isi_ib, isi_is, isi_itl, isi_ntl, isi_tt, isN_n, isN_i, tup2, z_eqI, z_neI, si0, si1, si2, tn0, tn1, tn2, tn3, List.nil_append, List.cons_append, sSeq, sSet, sIf, sRet, sItem, sDrop, sNil, eN, eI, tP, p2, p1, fV, fC, psC, psN, eaC, eaN, e1, e2, pBl, pAnd, pOr, pNot, pIf, eIf, imm, immL, on1_, on2_, List.getElem?_cons_zero, List.getElem?_cons_succ, List.set_cons_zero, List.set_cons_succ, Option.bind_some, Option.map_some, Sl.val, Sl.isInn, z_ixL, z_ixT, at0, at1, at2, at3, r_of, r_bind, r_thn, s_nx, s_ret, z_nx, z_asB, z_len, z_lenT, z_addI, z_mulR, z_mulL, z_sub, z_lt, z_le, z_gt, z_ge, z_mod, z_div, z_max2, z_min2, setSl, updP, modP, valAt, getP, get1, setP, set1, setV, pIdx, pRoot, stpOf, z_ixN, z_setI, List.length_map, List.length_cons, List.length_nil, if_true, if_false, Bool.false_eq_true, Bool.not_true, Bool.not_false, decide_true, decide_false, sPar, z_lst0]) (seq_nx (s1 := [.bor (M ms), .bor (Wd ws), .own (.lst (acc.map D.int)), .own (.lst (kl.map D.int)), .no, .no, .no]) f2 ?_)
  simp only [nl1, nl2, nl3, nl4, nc2, nc3, nc4, ix20, ix21, ix30, ix31, ix32, eq_self, isi_ii, isi_ib, isi_is, isi_itl, isi_ntl, isi_tt, isN_n, isN_i, tup2, z_eqI, z_neI, si0, si1, si2, tn0, tn1, tn2, tn3, List.nil_append, List.cons_append, sSeq, sSet, sIf, sRet, sItem, sDrop, sNil, eN, eI, tP, p2, p1, fV, fC, psC, psN, eaC, eaN, e1, e2, pBl, pAnd, pOr, pNot, pIf, eIf, imm, immL, on1_, on2_, List.getElem?_cons_zero, List.getElem?_cons_succ, List.set_cons_zero, List.set_cons_succ, Option.bind_some, Option.map_some, Sl.val, Sl.isInn, z_ixL, z_ixT, at0, at1, at2, at3, r_of, r_bind, r_thn, s_nx, s_ret, z_nx, z_asB, z_len, z_lenT, z_addI, z_mulR, z_mulL, z_sub, z_lt, z_le, z_gt, z_ge, z_mod, z_div, z_max2, z_min2, setSl, updP, modP, valAt, getP, get1, setP, set1, setV, pIdx, pRoot, stpOf, z_ixN, z_setI, List.length_map, List.length_cons, List.length_nil, if_true, if_false, Bool.false_eq_true, Bool.not_true, Bool.not_false, decide_true, decide_false, eMv, hk']

theorem chn_snoc {n b e : Int} : ∀ {ws : List (Int × Int)} {lo last : Int}, Chn n lo ws → (∀ w ∈ ws, w.2 ≤ last) → lo ≤ last → last ≤ b → b < e → e ≤ n → Chn n lo (ws ++ [(b, e)])
  | [], lo, last, _, _, h0, h1, h2, h3 => ⟨by show lo ≤ b; omega, h2, h3, trivial⟩
  | w :: ws, lo, last, h, hw, h0, h1, h2, h3 => ⟨h.1, h.2.1, h.2.2.1, chn_snoc h.2.2.2 (fun x hx => hw x (by simp [hx])) (hw w (by simp)) h1 h2 h3⟩
/-- one count -/
theorem made_ev {h : Hs} (k : h.ok) {o : Int} (o1 : 1 ≤ o) (o2 : o ≤ 6) (r : SS) : ∃ (v : Int) (h' : Hs), h'.ok ∧ 0 ≤ v ∧ v ≤ 6 ∧ E__law_plan_0 (.inn h.d :: .own (.int o) :: r) = .ok (.int v) (.inn h'.d :: .own (.int o) :: r) := by
  have l1 := nxt_lt (h := h) (m := 7) (by omega)
  have k1 := nxt_ok k 7
  have n1 := nx0 k (m := 7) (by omega) (by omega) (r := .own (.int o) :: r)
  have n2 : eCall 2 2 F_next (rP (qI 0 pRoot (qL 1 pRoot qN))) (.inn (nxt h 7).2.d :: .own (.int o) :: r) = .ok (.int (nxt (nxt h 7).2 o).1) (.inn (nxt (nxt h 7).2 o).2.d :: .own (.int o) :: r) :=
    call_run (s1 := .inn (nxt h 7).2.d :: .own (.int o) :: r) rfl (next_fnL k1 o1 (by omega) (by decide) rfl rfl rfl)
  have n3 : e2 fEq (eCall 2 2 F_next (rP (qI 0 pRoot (qL 1 pRoot qN)))) (eN (fC (.int 0))) (.inn (nxt h 7).2.d :: .own (.int o) :: r) = .ok (.bl (decide ((nxt (nxt h 7).2 o).1 = 0))) (.inn (nxt (nxt h 7).2 o).2.d :: .own (.int o) :: r) :=
    e2_run n2 (b := .int 0) rfl (z_eqI _ _)
  have n4 : (e1 (on1 fInt) (eaC (e2 fEq (eCall 2 2 F_next (rP (qI 0 pRoot (qL 1 pRoot qN)))) (eN (fC (.int 0)))) eaN)) (.inn (nxt h 7).2.d :: .own (.int o) :: r) = .ok (.int (if decide ((nxt (nxt h 7).2 o).1 = 0) = true then 1 else 0)) (.inn (nxt (nxt h 7).2 o).2.d :: .own (.int o) :: r) := by
    unfold e1 eaC
    rw [n3]
    rfl
  refine ⟨(nxt h 7).1 * (if decide ((nxt (nxt h 7).2 o).1 = 0) = true then 1 else 0), (nxt (nxt h 7).2 o).2, nxt_ok k1 o, ?_, ?_, e2_run n1 n4 (z_mulR (by split <;> omega))⟩
  · split <;> omega
  · split <;> omega
theorem lend8 {a b c x d e f g y : Sl} (i : Int) (hy : y.isInn = false) : lendSl 8 (.int i) [a, b, c, x, d, e, f, g, y] = some [a, b, c, x, d, e, f, g, .own (.int i)] := by
  simp only [lendSl, List.getElem?_cons_zero, List.getElem?_cons_succ, hy, Bool.false_eq_true, if_false, List.set_cons_succ, List.set_cons_zero, imm, if_true]
theorem makes_ev {h : Hs} (k : h.ok) {o : Int} (o1 : 1 ≤ o) (o2 : o ≤ 6) {n : Nat} (hn : n ≤ 200) : ∃ (ms : List Int) (h' : Hs), h'.ok ∧ ms.length = n ∧ (∀ m ∈ ms, 0 ≤ m ∧ m ≤ 6) ∧
    eCmp [8] id (e1 iR1 (eaC (eI (fV 2)) eaN)) (lendSl 8) (tP fun _ => some true) E__law_plan_0 [.inn h.d, .own (.int o), .own (.int n), .no, .no, .no, .no, .no, .no] = .ok (.lst (ms.map D.int)) [.inn h'.d, .own (.int o), .own (.int n), .no, .no, .no, .no, .no, .no] := by
  obtain ⟨acc, s', e1, ⟨h', ms, k', rfl, hr, rfl⟩, hl⟩ := cmpL_inv (vs := [8]) (st := lendSl 8) (te := E__law_plan_0) (ds := rngL 0 n) (s := [.inn h.d, .own (.int o), .own (.int n), .no, .no, .no, .no, .no, .no]) (acc := [])
    (I := fun s acc => ∃ (h' : Hs) (ms : List Int), h'.ok ∧ acc = ms.map D.int ∧ (∀ m ∈ ms, 0 ≤ m ∧ m ≤ 6) ∧ s = [.inn h'.d, .own (.int o), .own (.int n), .no, .no, .no, .no, .no, .no])
    (fun d hd s acc ⟨h', ms, k', ea, hr, e⟩ => by
      obtain ⟨j, hj⟩ := List.getElem?_of_mem hd
      obtain ⟨_, rfl⟩ := rng_get hj
      subst e
      obtain ⟨v, h2, k2, v0, v6, e2⟩ := made_ev k' o1 o2 [.own (.int n), .no, .no, .no, .no, .no, .own (.int j)]
      refine ⟨_, _, _, [.inn h2.d, .own (.int o), .own (.int n), .no, .no, .no, .no, .no, .no], lend8 _ rfl, e2, rfl, h2, ms ++ [v], k2, by rw [ea, List.map_append]; rfl, fun m hm => ?_, rfl⟩
      rcases List.mem_append.mp hm with hm | hm
      · exact hr m hm
      · simp at hm; subst hm; exact ⟨v0, v6⟩) ⟨h, [], k, rfl, by simp, rfl⟩ (by rw [rng_len]; simp; omega)
  rw [List.length_map, rng_len, List.length_nil, Nat.zero_add] at hl
  have it0 : (eaC (eI (fV 2)) eaN) [.inn h.d, .own (.int o), .own (.int n), .no, .no, .no, .no, .no, .no] = .ok [.int (n : Int)] [.inn h.d, .own (.int o), .own (.int n), .no, .no, .no, .no, .no, .no] := rfl
  have it1 := rng1_ev (by omega) it0
  exact ⟨ms, h', k', hl, hr, cmp_run (u := id) it1 rfl e1⟩

abbrev PS (h : Hs) (o n : Int) (ms : List Int) (ws : List (Int × Int)) (last : Int) (b e : Sl) : SS := [.inn h.d, .own (.int o), .own (.int n), .own (M ms), .own (.lst (ws.map encP)), .own (.int last), b, e, .no]
theorem plan_body {h : Hs} (k : h.ok) (o n : Int) (ms : List Int) (ws : List (Int × Int)) (hws : ws.length ≤ 200) (last : Int) (b e : Sl) (hb : b.isInn = false) (he : e.isInn = false) :
    ∃ (v v2 : Int) (h' : Hs), h'.ok ∧ 0 ≤ v ∧ 0 ≤ v2 ∧ L__law_plan_2 (PS h o n ms ws last b e) = .nx (PS h' o n ms (if last + v + 1 + v2 ≤ ms.length then ws ++ [(last + v, last + v + 1 + v2)] else ws) (last + v + 1 + v2) (.own (.int (last + v))) (.own (.int (last + v + 1 + v2)))) := by
  obtain ⟨v, h1, k1, v0, _, e1⟩ := nx0_pick2 k (a := 2) (b := 20) (by omega) (by omega) (r := [.own (.int o), .own (.int n), .own (M ms), .own (.lst (ws.map encP)), .own (.int last), b, e, .no])
  obtain ⟨v2, h2, k2, v20, _, e2⟩ := nx0_pick3 k1 (a := 2) (b := 20) (c0 := 200) (by omega) (by omega) (by omega) (r := [.own (.int o), .own (.int n), .own (M ms), .own (.lst (ws.map encP)), .own (.int last), .own (.int (last + v)), e, .no])
  refine ⟨v, v2, h2, k2, v0, v20, ?_⟩
  have s1 := set_run (i := 6) (s := PS h o n ms ws last b e) (s2 := PS h1 o n ms ws last (.own (.int (last + v))) e) (e2_run (F := eI (fV 5)) (a := .int last) (s1 := PS h o n ms ws last b e) rfl e1 (z_addI _ _)) (by cases b <;> first | rfl | (simp [Sl.isInn] at hb; done))
  have s2 := set_run (i := 7) (s := PS h1 o n ms ws last (.own (.int (last + v))) e) (s2 := PS h2 o n ms ws last (.own (.int (last + v))) (.own (.int (last + v + 1 + v2)))) (e2_run (F := eN (p2 fAdd (fV 6) (fC (.int 1)))) (a := .int (last + v + 1)) (s1 := PS h1 o n ms ws last (.own (.int (last + v))) e) rfl e2 (z_addI _ _)) (by cases e <;> first | rfl | (simp [Sl.isInn] at he; done))
  have tt : fTup [.int (last + v), .int (last + v + 1 + v2)] = some (encP (last + v, last + v + 1 + v2)) := rfl
  have a5 : (ws ++ [(last + v, last + v + 1 + v2)]).map encP = ws.map encP ++ [encP (last + v, last + v + 1 + v2)] := by rw [List.map_append]; rfl
  have ap : eMut 4 pRoot "list" fAppend (eaC (eN (p1 fTup (psC (fV 6) (psC (fV 7) psN)))) eaN) (PS h2 o n ms ws last (.own (.int (last + v))) (.own (.int (last + v + 1 + v2)))) = .ok .non (PS h2 o n ms (ws ++ [(last + v, last + v + 1 + v2)]) last (.own (.int (last + v))) (.own (.int (last + v + 1 + v2)))) :=
    append_ev (ds := ws.map encP) (d := encP (last + v, last + v + 1 + v2)) (s1 := PS h2 o n ms ws last (.own (.int (last + v))) (.own (.int (last + v + 1 + v2)))) rfl (by simp only [nl1, nl2, nl3, nl4, nc2, nc3, nc4, ix20, ix21, ix30, ix31, ix32, eq_self, isi_ii, isi_ib, isi_is, isi_itl, isi_ntl, isi_tt, isN_n, isN_i, tup2, z_eqI, z_neI, si0, si1, si2, tn0, tn1, tn2, tn3, List.nil_append, List.cons_append, sSeq, sSet, sIf, sRet, sItem, sDrop, sNil, eN, eI, tP, p2, p1, fV, fC, psC, psN, eaC, eaN, e1, e2, pBl, pAnd, pOr, pNot, pIf, eIf, imm, immL, on1_, on2_, List.getElem?_cons_zero, List.getElem?_cons_succ, List.set_cons_zero, List.set_cons_succ, Option.bind_some, Option.map_some, Sl.val, Sl.isInn, z_ixL, z_ixT, at0, at1, at2, at3, r_of, r_bind, r_thn, s_nx, s_ret, z_nx, z_asB, z_len, z_lenT, z_addI, z_mulR, z_mulL, z_sub, z_lt, z_le, z_gt, z_ge, z_mod, z_div, z_max2, z_min2, setSl, updP, modP, valAt, getP, get1, setP, set1, setV, pIdx, pRoot, stpOf, z_ixN, z_setI, List.length_map, List.length_cons, List.length_nil, if_true, if_false, Bool.false_eq_true, Bool.not_true, Bool.not_false, decide_true, decide_false, tt]) rfl (by simp only [PS, a5]; rfl) (by rw [List.length_map]; omega)
  have tst : tP (p1 asB (p2 fLe (fV 7) (p1 (on1 fLen) (psC (fV 3) psN)))) (PS h2 o n ms ws last (.own (.int (last + v))) (.own (.int (last + v + 1 + v2)))) = .ok (decide (last + v + 1 + v2 ≤ (ms.length : Int))) (PS h2 o n ms ws last (.own (.int (last + v))) (.own (.int (last + v + 1 + v2)))) := by
    simp only [nl1, nl2, nl3, nl4, nc2, nc3, nc4, ix20, ix21, ix30, ix31, ix32, eq_self, isi_ii, isi_ib, isi_is, isi_itl, isi_ntl, isi_tt, isN_n, isN_i, tup2, z_eqI, z_neI, si0, si1, si2, tn0, tn1, tn2, tn3, List.nil_append, List.cons_append, sSeq, sSet, sIf, sRet, sItem, sDrop, sNil, eN, eI, tP, p2, p1, fV, fC, psC, psN, eaC, eaN, e1, e2, pBl, pAnd, pOr, pNot, pIf, eIf, imm, immL, on1_, on2_, List.getElem?_cons_zero, List.getElem?_cons_succ, List.set_cons_zero, List.set_cons_succ, Option.bind_some, Option.map_some, Sl.val, Sl.isInn, z_ixL, z_ixT, at0, at1, at2, at3, r_of, r_bind, r_thn, s_nx, s_ret, z_nx, z_asB, z_len, z_lenT, z_addI, z_mulR, z_mulL, z_sub, z_lt, z_le, z_gt, z_ge, z_mod, z_div, z_max2, z_min2, setSl, updP, modP, valAt, getP, get1, setP, set1, setV, pIdx, pRoot, stpOf, z_ixN, z_setI, List.length_map, List.length_cons, List.length_nil, if_true, if_false, Bool.false_eq_true, Bool.not_true, Bool.not_false, decide_true, decide_false]
  unfold L__law_plan_2
  refine seq_nx s1 (seq_nx s2 ?_)
  by_cases c : last + v + 1 + v2 ≤ (ms.length : Int)
  · rw [if_pos c]
    refine seq_nx (s1 := PS h2 o n ms (ws ++ [(last + v, last + v + 1 + v2)]) last (.own (.int (last + v))) (.own (.int (last + v + 1 + v2)))) ?_ (by simp only [nl1, nl2, nl3, nl4, nc2, nc3, nc4, ix20, ix21, ix30, ix31, ix32, eq_self, isi_ii, isi_ib, isi_is, isi_itl, isi_ntl, isi_tt, isN_n, isN_i, tup2, z_eqI, z_neI, si0, si1, si2, tn0, tn1, tn2, tn3, List.nil_append, List.cons_append, sSeq, sSet, sIf, sRet, sItem, sDrop, sNil, eN, eI, tP, p2, p1, fV, fC, psC, psN, eaC, eaN, e1, e2, pBl, pAnd, pOr, pNot, pIf, eIf, imm, immL, on1_, on2_, List.getElem?_cons_zero, List.getElem?_cons_succ, List.set_cons_zero, List.set_cons_succ, Option.bind_some, Option.map_some, Sl.val, Sl.isInn, z_ixL, z_ixT, at0, at1, at2, at3, r_of, r_bind, r_thn, s_nx, s_ret, z_nx, z_asB, z_len, z_lenT, z_addI, z_mulR, z_mulL, z_sub, z_lt, z_le, z_gt, z_ge, z_mod, z_div, z_max2, z_min2, setSl, updP, modP, valAt, getP, get1, setP, set1, setV, pIdx, pRoot, stpOf, z_ixN, z_setI, List.length_map, List.length_cons, List.length_nil, if_true, if_false, Bool.false_eq_true, Bool.not_true, Bool.not_false, decide_true, decide_false])
    rw [if_run tst, if_pos (by simp [c])]
    exact drop_run ap
  · rw [if_neg c]
    refine seq_nx (s1 := PS h2 o n ms ws last (.own (.int (last + v))) (.own (.int (last + v + 1 + v2)))) ?_ (by simp only [nl1, nl2, nl3, nl4, nc2, nc3, nc4, ix20, ix21, ix30, ix31, ix32, eq_self, isi_ii, isi_ib, isi_is, isi_itl, isi_ntl, isi_tt, isN_n, isN_i, tup2, z_eqI, z_neI, si0, si1, si2, tn0, tn1, tn2, tn3, List.nil_append, List.cons_append, sSeq, sSet, sIf, sRet, sItem, sDrop, sNil, eN, eI, tP, p2, p1, fV, fC, psC, psN, eaC, eaN, e1, e2, pBl, pAnd, pOr, pNot, pIf, eIf, imm, immL, on1_, on2_, List.getElem?_cons_zero, List.getElem?_cons_succ, List.set_cons_zero, List.set_cons_succ, Option.bind_some, Option.map_some, Sl.val, Sl.isInn, z_ixL, z_ixT, at0, at1, at2, at3, r_of, r_bind, r_thn, s_nx, s_ret, z_nx, z_asB, z_len, z_lenT, z_addI, z_mulR, z_mulL, z_sub, z_lt, z_le, z_gt, z_ge, z_mod, z_div, z_max2, z_min2, setSl, updP, modP, valAt, getP, get1, setP, set1, setV, pIdx, pRoot, stpOf, z_ixN, z_setI, List.length_map, List.length_cons, List.length_nil, if_true, if_false, Bool.false_eq_true, Bool.not_true, Bool.not_false, decide_true, decide_false])
    rw [if_run tst, if_neg (by simp [c])]
    rfl

theorem plan_while {h : Hs} (k : h.ok) (o n : Int) (ms : List Int) (hm : ms.length ≤ 200) : ∃ (h' : Hs) (ws : List (Int × Int)) (last : Int) (b e : Sl), h'.ok ∧ Chn ms.length 0 ws ∧ ws.length ≤ 200 ∧
    sWhile WN T__law_plan_1 L__law_plan_2 (PS h o n ms [] 0 .no .no) = .nx (PS h' o n ms ws last b e) := by
  obtain ⟨s', e1, h', ws, last, b, e, k', hc, hl, rfl⟩ := while_inv (c := T__law_plan_1) (body := L__law_plan_2)
    (I := fun m s => ∃ (h' : Hs) (ws : List (Int × Int)) (last : Int) (b e : Sl), h'.ok ∧ 0 ≤ last ∧ Chn ms.length 0 ws ∧ (∀ w ∈ ws, w.2 ≤ last) ∧ (ws.length : Int) ≤ last ∧ ws.length ≤ 200 ∧ m = ((ms.length : Int) - last).toNat ∧ b.isInn = false ∧ e.isInn = false ∧ s = PS h' o n ms ws last b e)
    (J := fun s => ∃ (h' : Hs) (ws : List (Int × Int)) (last : Int) (b e : Sl), h'.ok ∧ Chn ms.length 0 ws ∧ ws.length ≤ 200 ∧ s = PS h' o n ms ws last b e)
    (fun m s ⟨h', ws, last, b, e, k', l0, hc, hw, hl, hl2, em, hb, he, es⟩ => by
      have tst : ∀ s, s = PS h' o n ms ws last b e → T__law_plan_1 s = .ok (decide (last < (ms.length : Int))) s := fun s e => by
        subst e
        unfold T__law_plan_1
        simp only [nl1, nl2, nl3, nl4, nc2, nc3, nc4, ix20, ix21, ix30, ix31, ix32, eq_self, isi_ii, isi_ib, isi_is, isi_itl, isi_ntl, isi_tt, isN_n, isN_i, tup2, z_eqI, z_neI, si0, si1, si2, tn0, tn1, tn2, tn3, List.nil_append, List.cons_append, sSeq, sSet, sIf, sRet, sItem, sDrop, sNil, eN, eI, tP, p2, p1, fV, fC, psC, psN, eaC, eaN, e1, e2, pBl, pAnd, pOr, pNot, pIf, eIf, imm, immL, on1_, on2_, List.getElem?_cons_zero, List.getElem?_cons_succ, List.set_cons_zero, List.set_cons_succ, Option.bind_some, Option.map_some, Sl.val, Sl.isInn, z_ixL, z_ixT, at0, at1, at2, at3, r_of, r_bind, r_thn, s_nx, s_ret, z_nx, z_asB, z_len, z_lenT, z_addI, z_mulR, z_mulL, z_sub, z_lt, z_le, z_gt, z_ge, z_mod, z_div, z_max2, z_min2, setSl, updP, modP, valAt, getP, get1, setP, set1, setV, pIdx, pRoot, stpOf, z_ixN, z_setI, List.length_map, List.length_cons, List.length_nil, if_true, if_false, Bool.false_eq_true, Bool.not_true, Bool.not_false, decide_true, decide_false]
      by_cases c : last < (ms.length : Int)
      · left
        obtain ⟨v, v2, h2, k2, v0, v20, eb⟩ := plan_body k' o n ms ws hl2 last b e hb he
        refine ⟨s, by rw [tst s es]; simp [c], _, _, by rw [es]; exact eb, ?_, h2, _, _, _, _, k2, by omega, ?_, ?_, ?_, ?_, rfl, rfl, rfl, rfl⟩
        · omega
        · split
          · rename_i c2
            exact chn_snoc hc hw l0 (by omega) (by omega) c2
          · exact hc
        · intro w hw'
          split at hw'
          · rcases List.mem_append.mp hw' with hw' | hw'
            · have := hw w hw'; omega
            · simp at hw'; subst hw'; exact Int.le_refl _
          · have := hw w hw'; omega
        · split
          · rw [List.length_append, List.length_singleton]; omega
          · omega
        · split
          · rw [List.length_append, List.length_singleton]; omega
          · omega
      · right
        exact ⟨s, by rw [tst s es]; simp [c], h', ws, last, b, e, k', hc, hl2, es⟩) WN ((ms.length : Int) - 0).toNat _ (by unfold WN; omega) ⟨h, [], 0, .no, .no, k, Int.le_refl _, trivial, by simp, Int.le_refl _, by simp, rfl, rfl, rfl, rfl⟩
  exact ⟨h', ws, last, b, e, k', hc, hl, e1⟩
theorem plan_ev {h : Hs} (k : h.ok) : ∃ (h' : Hs) (ms : List Int) (ws : List (Int × Int)) (r : SS), h'.ok ∧ ms.length ≤ 200 ∧ (∀ m ∈ ms, 0 ≤ m ∧ m ≤ 6) ∧ Chn ms.length 0 ws ∧ ws.length ≤ 200 ∧
    F__law_plan [.inn h.d, .no, .no, .no, .no, .no, .no, .no, .no] = .ret (.tup [M ms, Wd ws]) (.inn h'.d :: r) := by
  have n1 := nx0 k (m := 6) (by omega) (by omega) (r := [.no, .no, .no, .no, .no, .no, .no, .no])
  have l1 := nxt_lt (h := h) (m := 6) (by omega)
  have k1 := nxt_ok k 6
  generalize (nxt h 6).1 = o at n1 l1
  generalize (nxt h 6).2 = h1 at n1 k1
  obtain ⟨n, h2, k2, n0, n9, e2⟩ := nx0_pick2 k1 (a := 12) (b := 201) (by omega) (by omega) (r := [.own (.int (1 + o)), .no, .no, .no, .no, .no, .no, .no])
  obtain ⟨ms, h3, k3, hl, h6, e3⟩ := makes_ev k2 (o := 1 + o) (by omega) (by omega) (n := n.toNat) (by omega)
  rw [Int.toNat_of_nonneg n0] at e3
  obtain ⟨h4, ws, last, b, e, k4, hc, hw, e4⟩ := plan_while k3 (1 + o) n ms (by omega)
  have s1 := set_run (i := 1) (s := [.inn h.d, .no, .no, .no, .no, .no, .no, .no, .no]) (s2 := [.inn h1.d, .own (.int (1 + o)), .no, .no, .no, .no, .no, .no, .no]) (e2_run (F := eN (fC (.int 1))) (a := .int 1) (s1 := [.inn h.d, .no, .no, .no, .no, .no, .no, .no, .no]) rfl n1 (z_addI _ _)) rfl
  have s2 := set_run (i := 2) (s := [.inn h1.d, .own (.int (1 + o)), .no, .no, .no, .no, .no, .no, .no]) (s2 := [.inn h2.d, .own (.int (1 + o)), .own (.int n), .no, .no, .no, .no, .no, .no]) e2 rfl
  have tp : fTuple (.lst (ms.map D.int)) = some (M ms) := by simp [fTuple, z_imm]
  have tw : fTuple (.lst (ws.map encP)) = some (Wd ws) := by simp [fTuple, immP]
  have s3 := set_run (i := 3) (s := [.inn h2.d, .own (.int (1 + o)), .own (.int n), .no, .no, .no, .no, .no, .no]) (s2 := [.inn h3.d, .own (.int (1 + o)), .own (.int n), .own (M ms), .no, .no, .no, .no, .no])
    (e1_ev (f := on1 fTuple) (F := eaC (eCmp [8] id (e1 iR1 (eaC (eI (fV 2)) eaN)) (lendSl 8) (tP fun _ => some true) E__law_plan_0) eaN) (a := [.lst (ms.map D.int)]) (eaC_run e3 rfl) tp) rfl
  have tt : fTup [M ms, Wd ws] = some (.tup [M ms, Wd ws]) := by
    simp [fTup, immL, imm, z_imm, immP]
  refine ⟨h4, ms, ws, [.own (.int (1 + o)), .own (.int n), .own (M ms), .own (.lst (ws.map encP)), .own (.int last), b, e, .no], k4, by omega, h6, hc, hw, ?_⟩
  unfold F__law_plan
  refine seq_nx s1 (seq_nx s2 (seq_nx s3 (seq_nx (s1 := PS h3 (1 + o) n ms [] 0 .no .no) (by simp only [nl1, nl2, nl3, nl4, nc2, nc3, nc4, ix20, ix21, ix30, ix31, ix32, eq_self, isi_ii, isi_ib, isi_is, isi_itl, isi_ntl, isi_tt, isN_n, isN_i, tup2, z_eqI, z_neI, si0, si1, si2, tn0, tn1, tn2, tn3, List.nil_append, List.cons_append, sSeq, sSet, sIf, sRet, sItem, sDrop, sNil, eN, eI, tP, p2, p1, fV, fC, psC, psN, eaC, eaN, e1, e2, pBl, pAnd, pOr, pNot, pIf, eIf, imm, immL, on1_, on2_, List.getElem?_cons_zero, List.getElem?_cons_succ, List.set_cons_zero, List.set_cons_succ, Option.bind_some, Option.map_some, Sl.val, Sl.isInn, z_ixL, z_ixT, at0, at1, at2, at3, r_of, r_bind, r_thn, s_nx, s_ret, z_nx, z_asB, z_len, z_lenT, z_addI, z_mulR, z_mulL, z_sub, z_lt, z_le, z_gt, z_ge, z_mod, z_div, z_max2, z_min2, setSl, updP, modP, valAt, getP, get1, setP, set1, setV, pIdx, pRoot, stpOf, z_ixN, z_setI, List.length_map, List.length_cons, List.length_nil, if_true, if_false, Bool.false_eq_true, Bool.not_true, Bool.not_false, decide_true, decide_false, sPar, z_lst0]; rfl) (seq_nx e4 ?_))))
  exact ret_run (F := eN (p1 fTup (psC (fV 3) (psC (p1 (on1 fTuple) (psC (fV 4) psN)) psN)))) (s1 := PS h4 (1 + o) n ms ws last b e) (by simp only [nl1, nl2, nl3, nl4, nc2, nc3, nc4, ix20, ix21, ix30, ix31, ix32, eq_self, isi_ii, isi_ib, isi_is, isi_itl, isi_ntl, isi_tt, isN_n, isN_i, tup2, z_eqI, z_neI, si0, si1, si2, tn0, tn1, tn2, tn3, List.nil_append, List.cons_append, sSeq, sSet, sIf, sRet, sItem, sDrop, sNil, eN, eI, tP, p2, p1, fV, fC, psC, psN, eaC, eaN, e1, e2, pBl, pAnd, pOr, pNot, pIf, eIf, imm, immL, on1_, on2_, List.getElem?_cons_zero, List.getElem?_cons_succ, List.set_cons_zero, List.set_cons_succ, Option.bind_some, Option.map_some, Sl.val, Sl.isInn, z_ixL, z_ixT, at0, at1, at2, at3, r_of, r_bind, r_thn, s_nx, s_ret, z_nx, z_asB, z_len, z_lenT, z_addI, z_mulR, z_mulL, z_sub, z_lt, z_le, z_gt, z_ge, z_mod, z_div, z_max2, z_min2, setSl, updP, modP, valAt, getP, get1, setP, set1, setV, pIdx, pRoot, stpOf, z_ixN, z_setI, List.length_map, List.length_cons, List.length_nil, if_true, if_false, Bool.false_eq_true, Bool.not_true, Bool.not_false, decide_true, decide_false, tw, tt])

theorem isnum_ev (x lo hi : Int) : F_is_number [.bor (.int x), .bor (.int lo), .bor (.int hi)] = .ret (.bl (decide (lo ≤ x) && decide (x ≤ hi))) [.bor (.int x), .bor (.int lo), .bor (.int hi)] := by
  unfold F_is_number
  by_cases c : lo ≤ x <;> simp only [nl1, nl2, nl3, nl4, nc2, nc3, nc4, ix20, ix21, ix30, ix31, ix32, eq_self, isi_ii, isi_ib, isi_is, isi_itl, isi_ntl, isi_tt, isN_n, isN_i, tup2, z_eqI, z_neI, si0, si1, si2, tn0, tn1, tn2, tn3, List.nil_append, List.cons_append, sSeq, sSet, sIf, sRet, sItem, sDrop, sNil, eN, eI, tP, p2, p1, fV, fC, psC, psN, eaC, eaN, e1, e2, pBl, pAnd, pOr, pNot, pIf, eIf, imm, immL, on1_, on2_, List.getElem?_cons_zero, List.getElem?_cons_succ, List.set_cons_zero, List.set_cons_succ, Option.bind_some, Option.map_some, Sl.val, Sl.isInn, z_ixL, z_ixT, at0, at1, at2, at3, r_of, r_bind, r_thn, s_nx, s_ret, z_nx, z_asB, z_len, z_lenT, z_addI, z_mulR, z_mulL, z_sub, z_lt, z_le, z_gt, z_ge, z_mod, z_div, z_max2, z_min2, setSl, updP, modP, valAt, getP, get1, setP, set1, setV, pIdx, pRoot, stpOf, z_ixN, z_setI, List.length_map, List.length_cons, List.length_nil, if_true, if_false, Bool.false_eq_true, Bool.not_true, Bool.not_false, decide_true, decide_false, pChain, c, Bool.true_and, Bool.false_and]
theorem pFn3 {Fn : SS → RS} {a b c d : D} {x y z : Sl} (h : Fn [.bor a, .bor b, .bor c] = .ret d [x, y, z]) : pFn 3 0 Fn [.val a, .val b, .val c] = some d := by
  unfold pFn
  rw [if_pos (show ([Ar.val a, Ar.val b, Ar.val c].length == 3 && (arN [Ar.val a, Ar.val b, Ar.val c]).isEmpty) = true from rfl)]
  unfold fnR
  rw [if_pos (show ([Ar.val a, Ar.val b, Ar.val c].length == 3 && okAr [Ar.val a, Ar.val b, Ar.val c] && okLe [Ar.val a, Ar.val b, Ar.val c]) = true from rfl)]
  have e : mkc [Ar.val a, Ar.val b, Ar.val c] [] = some [.bor a, .bor b, .bor c] := rfl
  rw [e]
  simp only [List.replicate, List.append_nil, h]
  rfl
theorem isnum_p (x lo hi : Int) : pFn 3 0 F_is_number [.val (.int x), .val (.int lo), .val (.int hi)] = some (.bl (decide (lo ≤ x) && decide (x ≤ hi))) := pFn3 (isnum_ev x lo hi)
theorem np_count (ms : List Int) (wd : D) (hm : ms.length ≤ 200) (h6 : ∀ m ∈ ms, 0 ≤ m ∧ m ≤ 6) (x y : Sl) : pCmp [4] (iP (fV 0)) (lendSl 4) T_need_plan_0 E_need_plan_1 [.bor (M ms), .bor wd, x, y, .no] = some (.lst []) := by
  have c : clrC [4] [.bor (M ms), .bor wd, x, y, .no] = some [.bor (M ms), .bor wd, x, y, .no] := rfl
  have i : iP (fV 0) [.bor (M ms), .bor wd, x, y, .no] = some (ms.map D.int) := rfl
  unfold pCmp
  rw [i]
  simp only [Option.bind_some]
  rw [if_pos ⟨z_imm ms, by rw [List.length_map]; omega⟩, c]
  simp only [Option.bind_some]
  rw [cmpP_fm D.int (fun _ => false) D.int ms fun m hm => ⟨[.bor (M ms), .bor wd, x, y, .own (.int m)], rfl, ?_, fun z => by cases z⟩]
  · simp
  · obtain ⟨m0, m6⟩ := h6 m hm
    unfold T_need_plan_0
    simp only [nl1, nl2, nl3, nl4, nc2, nc3, nc4, ix20, ix21, ix30, ix31, ix32, eq_self, isi_ii, isi_ib, isi_is, isi_itl, isi_ntl, isi_tt, isN_n, isN_i, tup2, z_eqI, z_neI, si0, si1, si2, tn0, tn1, tn2, tn3, List.nil_append, List.cons_append, sSeq, sSet, sIf, sRet, sItem, sDrop, sNil, eN, eI, tP, p2, p1, fV, fC, psC, psN, eaC, eaN, e1, e2, pBl, pAnd, pOr, pNot, pIf, eIf, imm, immL, on1_, on2_, List.getElem?_cons_zero, List.getElem?_cons_succ, List.set_cons_zero, List.set_cons_succ, Option.bind_some, Option.map_some, Sl.val, Sl.isInn, z_ixL, z_ixT, at0, at1, at2, at3, r_of, r_bind, r_thn, s_nx, s_ret, z_nx, z_asB, z_len, z_lenT, z_addI, z_mulR, z_mulL, z_sub, z_lt, z_le, z_gt, z_ge, z_mod, z_div, z_max2, z_min2, setSl, updP, modP, valAt, getP, get1, setP, set1, setV, pIdx, pRoot, stpOf, z_ixN, z_setI, List.length_map, List.length_cons, List.length_nil, if_true, if_false, Bool.false_eq_true, Bool.not_true, Bool.not_false, decide_true, decide_false, pCall, qL, qV, qN, fP, lnd, isnum_p, m0, m6, Bool.and_self]
theorem np_body (ms : List Int) (wd : D) (last : Int) (w : Int × Int) (h1 : last ≤ w.1) (h2 : w.1 < w.2) (h3 : w.2 ≤ ms.length) (x : Sl) :
    L_need_plan_2 [.bor (M ms), .bor wd, .own (.int last), .own (encP w), x] = .nx [.bor (M ms), .bor wd, .own (.int w.2), .own (encP w), x] := by
  have c1 : w.1 ≤ (ms.length : Int) := by omega
  have c2 : w.1 + 1 ≤ w.2 := by omega
  unfold L_need_plan_2 encP
  simp only [nl1, nl2, nl3, nl4, nc2, nc3, nc4, ix20, ix21, ix30, ix31, ix32, eq_self, isi_ii, isi_ib, isi_is, isi_itl, isi_ntl, isi_tt, isN_n, isN_i, tup2, z_eqI, z_neI, si0, si1, si2, tn0, tn1, tn2, tn3, List.nil_append, List.cons_append, sSeq, sSet, sIf, sRet, sItem, sDrop, sNil, eN, eI, tP, p2, p1, fV, fC, psC, psN, eaC, eaN, e1, e2, pBl, pAnd, pOr, pNot, pIf, eIf, imm, immL, on1_, on2_, List.getElem?_cons_zero, List.getElem?_cons_succ, List.set_cons_zero, List.set_cons_succ, Option.bind_some, Option.map_some, Sl.val, Sl.isInn, z_ixL, z_ixT, at0, at1, at2, at3, r_of, r_bind, r_thn, s_nx, s_ret, z_nx, z_asB, z_len, z_lenT, z_addI, z_mulR, z_mulL, z_sub, z_lt, z_le, z_gt, z_ge, z_mod, z_div, z_max2, z_min2, setSl, updP, modP, valAt, getP, get1, setP, set1, setV, pIdx, pRoot, stpOf, z_ixN, z_setI, List.length_map, List.length_cons, List.length_nil, if_true, if_false, Bool.false_eq_true, Bool.not_true, Bool.not_false, decide_true, decide_false, pCall, qL, qV, qN, fP, lnd, isnum_p, h1, c1, c2, h3, Bool.and_self]
theorem np_loop (ms : List Int) (wd : D) : ∀ (ws : List (Int × Int)) (last : Int) (y : Sl), y.isInn = false → Chn ms.length last ws → ∃ last' y', y'.isInn = false ∧ forL (lendSl 3) L_need_plan_2 (ws.map encP) [.bor (M ms), .bor wd, .own (.int last), y, .no] = .nx [.bor (M ms), .bor wd, .own (.int last'), y', .no]
  | [], last, y, hy, _ => ⟨last, y, hy, rfl⟩
  | w :: ws, last, y, hy, ⟨h1, h2, h3, h4⟩ => by
    obtain ⟨last', y', hy', e⟩ := np_loop ms wd ws w.2 (.own (encP w)) rfl h4
    refine ⟨last', y', hy', ?_⟩
    have l : lendSl 3 (encP w) [.bor (M ms), .bor wd, .own (.int last), y, .no] = some [.bor (M ms), .bor wd, .own (.int last), .own (encP w), .no] := by
      cases y <;> first | rfl | (simp [Sl.isInn] at hy; done)
    rw [List.map_cons]
    unfold forL
    rw [l]
    simp only
    rw [np_body ms wd last w h1 h2 h3 .no]
    exact e
theorem np_ev (ms : List Int) (ws : List (Int × Int)) (hm : ms.length ≤ 200) (h6 : ∀ m ∈ ms, 0 ≤ m ∧ m ≤ 6) (hw : Chn ms.length 0 ws) : ∃ last, F_need_plan [.bor (M ms), .bor (Wd ws), .no, .no, .no] = .nx [.bor (M ms), .bor (Wd ws), .own (.int last), .no, .no] := by
  obtain ⟨last, y, hy, e⟩ := np_loop ms (Wd ws) ws 0 .no rfl hw
  refine ⟨last, ?_⟩
  have hl : ¬ (200 : Int) < (ms.length : Int) := by omega
  have c1 := np_count ms (Wd ws) hm h6 .no .no
  have e0 : fNe (.lst []) (.lst []) = some (.bl false) := by rw [z_neNil (by simp [depL])]; rfl
  have it : iBor 1 [.bor (M ms), .bor (Wd ws), .own (.int 0), .no, .no] = .ok (ws.map encP) [.bor (M ms), .bor (Wd ws), .own (.int 0), .no, .no] := rfl
  have f2 : sFor [3] id (iBor 1) (lendSl 3) L_need_plan_2 [.bor (M ms), .bor (Wd ws), .own (.int 0), .no, .no] = .nx [.bor (M ms), .bor (Wd ws), .own (.int last), .no, .no] := by
    have f2 := for_run (ts := [3]) (u := id) it e
    rw [f2]
    cases y <;> first | rfl | (simp [Sl.isInn] at hy; done)
  unfold F_need_plan
  refine seq_nx (s1 := [.bor (M ms), .bor (Wd ws), .no, .no, .no]) (by simp only [nl1, nl2, nl3, nl4, nc2, nc3, nc4, ix20, ix21, ix30, ix31, ix32, eq_self, isi_ii, isi_ib, isi_is, isi_itl, isi_ntl, isi_tt, isN_n, isN_i, tup2, z_eqI, z_neI, si0, si1, si2, tn0, tn1, tn2, tn3, List.nil_append, List.cons_append, sSeq, sSet, sIf, sRet, sItem, sDrop, sNil, eN, eI, tP, p2, p1, fV, fC, psC, psN, eaC, eaN, e1, e2, pBl, pAnd, pOr, pNot, pIf, eIf, imm, immL, on1_, on2_, List.getElem?_cons_zero, List.getElem?_cons_succ, List.set_cons_zero, List.set_cons_succ, Option.bind_some, Option.map_some, Sl.val, Sl.isInn, z_ixL, z_ixT, at0, at1, at2, at3, r_of, r_bind, r_thn, s_nx, s_ret, z_nx, z_asB, z_len, z_lenT, z_addI, z_mulR, z_mulL, z_sub, z_lt, z_le, z_gt, z_ge, z_mod, z_div, z_max2, z_min2, setSl, updP, modP, valAt, getP, get1, setP, set1, setV, pIdx, pRoot, stpOf, z_ixN, z_setI, List.length_map, List.length_cons, List.length_nil, if_true, if_false, Bool.false_eq_true, Bool.not_true, Bool.not_false, decide_true, decide_false, hl]) (seq_nx (s1 := [.bor (M ms), .bor (Wd ws), .no, .no, .no]) (by simp only [nl1, nl2, nl3, nl4, nc2, nc3, nc4, ix20, ix21, ix30, ix31, ix32, eq_self, isi_ii, isi_ib, isi_is, isi_itl, isi_ntl, isi_tt, isN_n, isN_i, tup2, z_eqI, z_neI, si0, si1, si2, tn0, tn1, tn2, tn3, List.nil_append, List.cons_append, sSeq, sSet, sIf, sRet, sItem, sDrop, sNil, eN, eI, tP, p2, p1, fV, fC, psC, psN, eaC, eaN, e1, e2, pBl, pAnd, pOr, pNot, pIf, eIf, imm, immL, on1_, on2_, List.getElem?_cons_zero, List.getElem?_cons_succ, List.set_cons_zero, List.set_cons_succ, Option.bind_some, Option.map_some, Sl.val, Sl.isInn, z_ixL, z_ixT, at0, at1, at2, at3, r_of, r_bind, r_thn, s_nx, s_ret, z_nx, z_asB, z_len, z_lenT, z_addI, z_mulR, z_mulL, z_sub, z_lt, z_le, z_gt, z_ge, z_mod, z_div, z_max2, z_min2, setSl, updP, modP, valAt, getP, get1, setP, set1, setV, pIdx, pRoot, stpOf, z_ixN, z_setI, List.length_map, List.length_cons, List.length_nil, if_true, if_false, Bool.false_eq_true, Bool.not_true, Bool.not_false, decide_true, decide_false, c1, z_lst0, e0]) (seq_nx (s1 := [.bor (M ms), .bor (Wd ws), .own (.int 0), .no, .no]) (by simp only [nl1, nl2, nl3, nl4, nc2, nc3, nc4, ix20, ix21, ix30, ix31, ix32, eq_self, isi_ii, isi_ib, isi_is, isi_itl, isi_ntl, isi_tt, isN_n, isN_i, tup2, z_eqI, z_neI, si0, si1, si2, tn0, tn1, tn2, tn3, List.nil_append, List.cons_append, sSeq, sSet, sIf, sRet, sItem, sDrop, sNil, eN, eI, tP, p2, p1, fV, fC, psC, psN, eaC, eaN, e1, e2, pBl, pAnd, pOr, pNot, pIf, eIf, imm, immL, on1_, on2_, List.getElem?_cons_zero, List.getElem?_cons_succ, List.set_cons_zero, List.set_cons_succ, Option.bind_some, Option.map_some, Sl.val, Sl.isInn, z_ixL, z_ixT, at0, at1, at2, at3, r_of, r_bind, r_thn, s_nx, s_ret, z_nx, z_asB, z_len, z_lenT, z_addI, z_mulR, z_mulL, z_sub, z_lt, z_le, z_gt, z_ge, z_mod, z_div, z_max2, z_min2, setSl, updP, modP, valAt, getP, get1, setP, set1, setV, pIdx, pRoot, stpOf, z_ixN, z_setI, List.length_map, List.length_cons, List.length_nil, if_true, if_false, Bool.false_eq_true, Bool.not_true, Bool.not_false, decide_true, decide_false]) f2))

theorem pFn2 {m : Nat} {Fn : SS → RS} {a b d : D} {x y : Sl} {r : SS} (h : Fn ([.bor a, .bor b] ++ List.replicate m .no) = .ret d (x :: y :: r)) : pFn 2 m Fn [.val a, .val b] = some d := by
  unfold pFn
  rw [if_pos (show ([Ar.val a, Ar.val b].length == 2 && (arN [Ar.val a, Ar.val b]).isEmpty) = true from rfl)]
  unfold fnR
  rw [if_pos (show ([Ar.val a, Ar.val b].length == 2 && okAr [Ar.val a, Ar.val b] && okLe [Ar.val a, Ar.val b]) = true from rfl)]
  have e : mkc [Ar.val a, Ar.val b] [] = some [.bor a, .bor b] := rfl
  rw [e]
  simp only [h]
  rfl
theorem fnR2n {m i j : Nat} {Fn : SS → RS} {a b : D} {x y : Sl} {r s : SS} (hi : valAt i s = some a) (hj : valAt j s = some b) (h : Fn ([.bor a, .bor b] ++ List.replicate m .no) = .nx (x :: y :: r)) : fnR 2 m Fn [.len i [], .len j []] s = .ok .non s := by
  unfold fnR
  rw [if_pos (show ([Ar.len i [], Ar.len j []].length == 2 && okAr [Ar.len i [], Ar.len j []] && okLe [Ar.len i [], Ar.len j []]) = true from rfl)]
  have e : mkc [Ar.len i [], Ar.len j []] s = some [.bor a, .bor b] := by simp only [mkc, hi, hj, Option.bind_some, getP, Option.map_some]
  rw [e]
  simp only [h]
  rfl
theorem fnR1n {m i : Nat} {Fn : SS → RS} {a : D} {x : Sl} {r s : SS} (hi : valAt i s = some a) (h : Fn ([.bor a] ++ List.replicate m .no) = .nx (x :: r)) : fnR 1 m Fn [.len i []] s = .ok .non s := by
  unfold fnR
  rw [if_pos (show ([Ar.len i []].length == 1 && okAr [Ar.len i []] && okLe [Ar.len i []]) = true from rfl)]
  have e : mkc [Ar.len i []] s = some [.bor a] := by simp only [mkc, hi, Option.bind_some, getP, Option.map_some]
  rw [e]
  simp only [h]
  rfl
theorem intsOf_map : ∀ ns : List Int, intsOf (ns.map D.int) = some ns
  | [] => rfl
  | n :: ns => by simp [intsOf, intsOf_map ns]
theorem z_max1 {ns : List Int} (h : ns ≠ []) : fMax [.lst (ns.map D.int)] = some (.int (maxI ns)) := by
  have : fMax1 (.lst (ns.map D.int)) = some (.int (maxI ns)) := by
    simp [fMax1, withInts, asLst, intsOf_map, h]
  simp [fMax, orL, on2, on1, this]
theorem max_eq (k : List Int) : maxI (k ++ [0]) = maxI (0 :: k) := by
  obtain ⟨h1, h2⟩ := maxI_spec (l := k ++ [0]) (by simp)
  obtain ⟨h3, h4⟩ := maxI_spec (l := 0 :: k) (by simp)
  have a := h2 (maxI (0 :: k)) (by rcases List.mem_cons.mp h3 with h | h <;> simp [h])
  have b := h4 (maxI (k ++ [0])) (by rcases List.mem_append.mp h1 with h | h <;> simp_all)
  omega
theorem most_ev (ms : List Int) (ws : List (Int × Int)) (hm : ms.length ≤ 200) (h6 : ∀ m ∈ ms, 0 ≤ m ∧ m ≤ 6) (hw : Chn ms.length 0 ws) (hl : ws.length ≤ 200) : F_most_kept [.bor (M ms), .bor (Wd ws)] = .ret (.int (maxI (0 :: keep ws 0 0 ms))) [.bor (M ms), .bor (Wd ws)] := by
  obtain ⟨last, e1⟩ := np_ev ms ws hm h6 hw
  obtain ⟨k, e2⟩ := keptby_ev ms ws hm hl
  have p1' : pFn 2 4 F_kept_by [.val (M ms), .val (Wd ws)] = some (.lst ((keep ws 0 0 ms).map D.int)) := pFn2 (m := 4) e2
  have c1 : eCall 2 3 F_need_plan (rP (qL 0 pRoot (qL 1 pRoot qN))) [.bor (M ms), .bor (Wd ws)] = .ok .non [.bor (M ms), .bor (Wd ws)] :=
    call_run (as := [.len 0 [], .len 1 []]) (s1 := [.bor (M ms), .bor (Wd ws)]) rfl (fnR2n (m := 3) rfl rfl e1)
  have a1 := addL (a := [0]) (b := keep ws 0 0 ms) (by rw [keep_len]; simp; omega)
  have a2 := z_max1 (ns := 0 :: keep ws 0 0 ms) (by simp)
  have a0 : fLst [.int 0] = some (.lst ([0].map D.int)) := rfl
  rw [List.cons_append, List.nil_append] at a1
  unfold F_most_kept
  refine seq_nx (drop_run c1) (ret_run (eN_run (p1_run (psC_run (p2_run (p1_run (psC_run rfl rfl) a0) (pCall_run (as := [.len 0 [], .len 1 []]) (bs := [.val (M ms), .val (Wd ws)]) rfl rfl p1') a1) rfl) a2)))

theorem prng1_ev {n : Nat} {X : SS → Option (List D)} {s : SS} (hn : n ≤ 1000000) (h : X s = some [.int (n : Int)]) : p1 iR1 X s = some (rngL 0 n) := by
  have r1 := iR1_ev (n := n) hn
  exact p1_run h r1
def idx (k : List Int) (room : Int) : List Int := ((List.range k.length).filter fun i => decide (room < k.getD i 0)).map fun i : Nat => (0 + (i : Int))
def sh (k : List Int) (room : Int) : D := match idx k room with
  | [] => .non
  | b :: _ => .int b
theorem imm_rng (lo : Int) (n : Nat) : immL (rngL lo n) = true := by
  rw [immL_iff]
  intro d hd
  unfold rngL at hd
  obtain ⟨i, _, rfl⟩ := List.mem_map.mp hd
  rfl
theorem sel_ev {vs : List Nat} {it : SS → Option (List D)} {st : D → SS → Option SS} {T : SS → Option Bool} {E : SS → Option D} {s s0 : SS} {k : List Int} {room : Int} (hit : it s = some (rngL 0 k.length)) (hc : clrC vs s = some s0) (hk : k.length ≤ 1000000)
    (h : ∀ i : Nat, i < k.length → ∃ s1, st (.int (0 + (i : Int))) s0 = some s1 ∧ T s1 = some (decide (room < k.getD i 0)) ∧ E s1 = some (.int (0 + (i : Int)))) : pCmp vs it st T E s = some (.lst ((idx k room).map D.int)) := by
  unfold pCmp
  rw [hit, Option.bind_some, if_pos ⟨imm_rng _ _, by rw [rng_len]; exact hk⟩, hc, Option.bind_some]
  unfold rngL
  rw [cmpP_fm (fun i : Nat => D.int (0 + (i : Int))) (fun i => decide (room < k.getD i 0)) (fun i : Nat => D.int (0 + (i : Int))) (List.range k.length) fun i hi => ?_]
  · unfold idx
    rw [Option.map_some, List.map_map]
    rfl
  · obtain ⟨s1, e1, e2, e3⟩ := h i (by simpa using hi)
    exact ⟨s1, e1, e2, fun _ => ⟨e3, rfl⟩⟩
theorem pick_ev (k : List Int) (room : Int) {F : SS → Option D} {s : SS} (h : F s = some (.lst ((idx k room).map D.int))) : pIf (p1 asB (p2 fNe F (p1 fLst psN))) (p2 fIx F (fC (.int 0))) (fC .non) s = some (sh k room) := by
  have c := z_neNil (ds := (idx k room).map D.int) (by rw [z_dep]; omega)
  have t : p1 asB (p2 fNe F (p1 fLst psN)) s = some (!((idx k room).map D.int).isEmpty) := p1_run (p2_run h (b := .lst []) rfl c) rfl
  unfold pIf
  rw [t, Option.bind_some]
  unfold sh
  cases e : idx k room with
  | nil => rfl
  | cons b r =>
    rw [e] at h
    show (if true = true then p2 fIx F (fC (.int 0)) s else _) = _
    rw [if_pos rfl]
    exact p2_run h (b := .int 0) rfl (by rw [z_ixL, List.map_cons, Dy.at0])
theorem sh_imm (k : List Int) (room : Int) : imm (sh k room) = true := by
  unfold sh
  cases idx k room <;> rfl
theorem eI_run {F : SS → Option D} {s : SS} {d : D} (h : F s = some d) (i : imm d = true) : eI F s = .ok d s := by
  unfold eI; rw [h]; simp only [i, if_true]
theorem room_ev {room : Int} (h1 : 1 ≤ room) (h2 : room ≤ 60) : F_need_room [.bor (.int room)] = .nx [.bor (.int room)] := by
  unfold F_need_room
  simp only [nl1, nl2, nl3, nl4, nc2, nc3, nc4, ix20, ix21, ix30, ix31, ix32, eq_self, isi_ii, isi_ib, isi_is, isi_itl, isi_ntl, isi_tt, isN_n, isN_i, tup2, z_eqI, z_neI, si0, si1, si2, tn0, tn1, tn2, tn3, List.nil_append, List.cons_append, sSeq, sSet, sIf, sRet, sItem, sDrop, sNil, eN, eI, tP, p2, p1, fV, fC, psC, psN, eaC, eaN, e1, e2, pBl, pAnd, pOr, pNot, pIf, eIf, imm, immL, on1_, on2_, List.getElem?_cons_zero, List.getElem?_cons_succ, List.set_cons_zero, List.set_cons_succ, Option.bind_some, Option.map_some, Sl.val, Sl.isInn, z_ixL, z_ixT, at0, at1, at2, at3, r_of, r_bind, r_thn, s_nx, s_ret, z_nx, z_asB, z_len, z_lenT, z_addI, z_mulR, z_mulL, z_sub, z_lt, z_le, z_gt, z_ge, z_mod, z_div, z_max2, z_min2, setSl, updP, modP, valAt, getP, get1, setP, set1, setV, pIdx, pRoot, stpOf, z_ixN, z_setI, List.length_map, List.length_cons, List.length_nil, if_true, if_false, Bool.false_eq_true, Bool.not_true, Bool.not_false, decide_true, decide_false, pCall, qL, qV, qN, fP, lnd, isnum_p, h1, h2, Bool.and_self]
theorem short_ev (ms : List Int) (ws : List (Int × Int)) (hm : ms.length ≤ 200) (h6 : ∀ m ∈ ms, 0 ≤ m ∧ m ≤ 6) (hw : Chn ms.length 0 ws) (hl : ws.length ≤ 200) {room : Int} (r1 : 1 ≤ room) (r2 : room ≤ 60) :
    ∃ x y, F_short_at [.bor (M ms), .bor (Wd ws), .bor (.int room), .no, .no, .no] = .ret (sh (keep ws 0 0 ms) room) [.bor (M ms), .bor (Wd ws), .bor (.int room), x, y, .no] := by
  obtain ⟨last, e1⟩ := np_ev ms ws hm h6 hw
  obtain ⟨k, e2⟩ := keptby_ev ms ws hm hl
  have p1' : pFn 2 4 F_kept_by [.val (M ms), .val (Wd ws)] = some (.lst ((keep ws 0 0 ms).map D.int)) := pFn2 (m := 4) e2
  have hkl := keep_len ws ms 0 0
  generalize keep ws 0 0 ms = kp at p1' hkl ⊢
  have c1 : eCall 2 3 F_need_plan (rP (qL 0 pRoot (qL 1 pRoot qN))) [.bor (M ms), .bor (Wd ws), .bor (.int room), .no, .no, .no] = .ok .non [.bor (M ms), .bor (Wd ws), .bor (.int room), .no, .no, .no] :=
    call_run (as := [.len 0 [], .len 1 []]) (s1 := [.bor (M ms), .bor (Wd ws), .bor (.int room), .no, .no, .no]) rfl (fnR2n (m := 3) rfl rfl e1)
  have c2 : eCall 1 0 F_need_room (rP (qL 2 pRoot qN)) [.bor (M ms), .bor (Wd ws), .bor (.int room), .no, .no, .no] = .ok .non [.bor (M ms), .bor (Wd ws), .bor (.int room), .no, .no, .no] :=
    call_run (as := [.len 2 []]) (s1 := [.bor (M ms), .bor (Wd ws), .bor (.int room), .no, .no, .no]) rfl (fnR1n (m := 0) rfl (room_ev r1 r2))
  have c3 := set_run (i := 3) (s := [.bor (M ms), .bor (Wd ws), .bor (.int room), .no, .no, .no]) (s2 := [.bor (M ms), .bor (Wd ws), .bor (.int room), .own (.lst (kp.map D.int)), .no, .no]) (eN_run (pCall_run (G := qL 0 pRoot (qL 1 pRoot qN)) (as := [.len 0 [], .len 1 []]) (bs := [.val (M ms), .val (Wd ws)]) rfl rfl p1')) rfl
  have it : p1 iR1 (psC (p1 (on1 fLen) (psC (fV 3) psN)) psN) [.bor (M ms), .bor (Wd ws), .bor (.int room), .own (.lst (kp.map D.int)), .no, .no] = some (rngL 0 kp.length) := by
    have q : p1 (on1 fLen) (psC (fV 3) psN) [.bor (M ms), .bor (Wd ws), .bor (.int room), .own (.lst (kp.map D.int)), .no, .no] = some (.int (kp.length : Int)) := by
      simp only [nl1, nl2, nl3, nl4, nc2, nc3, nc4, ix20, ix21, ix30, ix31, ix32, eq_self, isi_ii, isi_ib, isi_is, isi_itl, isi_ntl, isi_tt, isN_n, isN_i, tup2, z_eqI, z_neI, si0, si1, si2, tn0, tn1, tn2, tn3, List.nil_append, List.cons_append, sSeq, sSet, sIf, sRet, sItem, sDrop, sNil, eN, eI, tP, p2, p1, fV, fC, psC, psN, eaC, eaN, e1, e2, pBl, pAnd, pOr, pNot, pIf, eIf, imm, immL, on1_, on2_, List.getElem?_cons_zero, List.getElem?_cons_succ, List.set_cons_zero, List.set_cons_succ, Option.bind_some, Option.map_some, Sl.val, Sl.isInn, z_ixL, z_ixT, at0, at1, at2, at3, r_of, r_bind, r_thn, s_nx, s_ret, z_nx, z_asB, z_len, z_lenT, z_addI, z_mulR, z_mulL, z_sub, z_lt, z_le, z_gt, z_ge, z_mod, z_div, z_max2, z_min2, setSl, updP, modP, valAt, getP, get1, setP, set1, setV, pIdx, pRoot, stpOf, z_ixN, z_setI, List.length_map, List.length_cons, List.length_nil, if_true, if_false, Bool.false_eq_true, Bool.not_true, Bool.not_false, decide_true, decide_false]
    exact prng1_ev (by omega) (psC_run q rfl)
  have c4 := set_run (i := 4) (s := [.bor (M ms), .bor (Wd ws), .bor (.int room), .own (.lst (kp.map D.int)), .no, .no]) (s2 := [.bor (M ms), .bor (Wd ws), .bor (.int room), .own (.lst (kp.map D.int)), .own (.lst ((idx kp room).map D.int)), .no]) (eN_run (sel_ev (vs := [5]) (st := lendSl 5) (T := T_short_at_0) (E := E_short_at_1) (room := room) it rfl (by omega) fun i hi => by
    refine ⟨[.bor (M ms), .bor (Wd ws), .bor (.int room), .own (.lst (kp.map D.int)), .no, .own (.int (0 + (i : Int)))], rfl, ?_, rfl⟩
    have a1 := z_atI (ns := kp) (i := 0 + (i : Int)) (by omega) (by omega)
    rw [show (0 + (i : Int)).toNat = i by omega] at a1
    unfold T_short_at_0
    simp only [nl1, nl2, nl3, nl4, nc2, nc3, nc4, ix20, ix21, ix30, ix31, ix32, eq_self, isi_ii, isi_ib, isi_is, isi_itl, isi_ntl, isi_tt, isN_n, isN_i, tup2, z_eqI, z_neI, si0, si1, si2, tn0, tn1, tn2, tn3, List.nil_append, List.cons_append, sSeq, sSet, sIf, sRet, sItem, sDrop, sNil, eN, eI, tP, p2, p1, fV, fC, psC, psN, eaC, eaN, e1, e2, pBl, pAnd, pOr, pNot, pIf, eIf, imm, immL, on1_, on2_, List.getElem?_cons_zero, List.getElem?_cons_succ, List.set_cons_zero, List.set_cons_succ, Option.bind_some, Option.map_some, Sl.val, Sl.isInn, z_ixL, z_ixT, at0, at1, at2, at3, r_of, r_bind, r_thn, s_nx, s_ret, z_nx, z_asB, z_len, z_lenT, z_addI, z_mulR, z_mulL, z_sub, z_lt, z_le, z_gt, z_ge, z_mod, z_div, z_max2, z_min2, setSl, updP, modP, valAt, getP, get1, setP, set1, setV, pIdx, pRoot, stpOf, z_ixN, z_setI, List.length_map, List.length_cons, List.length_nil, if_true, if_false, Bool.false_eq_true, Bool.not_true, Bool.not_false, decide_true, decide_false, a1])) rfl
  refine ⟨.own (.lst (kp.map D.int)), .own (.lst ((idx kp room).map D.int)), ?_⟩
  unfold F_short_at
  exact seq_nx (drop_run c1) (seq_nx (drop_run c2) (seq_nx c3 (seq_nx c4 (ret_run (eI_run (pick_ev kp room (F := fV 4) rfl) (sh_imm kp room))))))

theorem alike_sh (n : Nat) (k : List Int) (room : Int) : F_alike (n + 1) [.bor (sh k room), .bor (sh k room), .no] = .ret (.bl true) [.bor (sh k room), .bor (sh k room), .no] := by
  unfold sh
  cases idx k room with
  | nil => exact alike_n n .non true rfl
  | cons b r =>
    have := alike_i n b b
    simp only [eq_self, decide_true] at this
    exact this
theorem fnR2v {m : Nat} {Fn : SS → RS} {a b d : D} {x y : Sl} {r s : SS} (h : Fn ([.bor a, .bor b] ++ List.replicate m .no) = .ret d (x :: y :: r)) : fnR 2 m Fn [.val a, .val b] s = .ok d s := by
  unfold fnR
  rw [if_pos (show ([Ar.val a, Ar.val b].length == 2 && okAr [Ar.val a, Ar.val b] && okLe [Ar.val a, Ar.val b]) = true from rfl)]
  have e : mkc [Ar.val a, Ar.val b] s = some [.bor a, .bor b] := rfl
  rw [e]
  simp only [h]
  rfl
theorem fnR2vl {m j : Nat} {Fn : SS → RS} {a b d : D} {x y : Sl} {r s : SS} (hj : valAt j s = some b) (h : Fn ([.bor a, .bor b] ++ List.replicate m .no) = .ret d (x :: y :: r)) : fnR 2 m Fn [.val a, .len j []] s = .ok d s := by
  unfold fnR
  rw [if_pos (show ([Ar.val a, Ar.len j []].length == 2 && okAr [Ar.val a, Ar.len j []] && okLe [Ar.val a, Ar.len j []]) = true from rfl)]
  have e : mkc [Ar.val a, Ar.len j []] s = some [.bor a, .bor b] := by simp only [mkc, hj, Option.bind_some, getP, Option.map_some]
  rw [e]
  simp only [h]
  rfl
theorem fnR2l {m i j : Nat} {Fn : SS → RS} {a b d : D} {x y : Sl} {r s : SS} (hi : valAt i s = some a) (hj : valAt j s = some b) (h : Fn ([.bor a, .bor b] ++ List.replicate m .no) = .ret d (x :: y :: r)) : fnR 2 m Fn [.len i [], .len j []] s = .ok d s := by
  unfold fnR
  rw [if_pos (show ([Ar.len i [], Ar.len j []].length == 2 && okAr [Ar.len i [], Ar.len j []] && okLe [Ar.len i [], Ar.len j []]) = true from rfl)]
  have e : mkc [Ar.len i [], Ar.len j []] s = some [.bor a, .bor b] := by simp only [mkc, hi, hj, Option.bind_some, getP, Option.map_some]
  rw [e]
  simp only [h]
  rfl
theorem fnR3l {m i j l : Nat} {Fn : SS → RS} {a b c d : D} {x y z : Sl} {r s : SS} (hi : valAt i s = some a) (hj : valAt j s = some b) (hl : valAt l s = some c) (h : Fn ([.bor a, .bor b, .bor c] ++ List.replicate m .no) = .ret d (x :: y :: z :: r)) : fnR 3 m Fn [.len i [], .len j [], .len l []] s = .ok d s := by
  unfold fnR
  rw [if_pos (show ([Ar.len i [], Ar.len j [], Ar.len l []].length == 3 && okAr [Ar.len i [], Ar.len j [], Ar.len l []] && okLe [Ar.len i [], Ar.len j [], Ar.len l []]) = true from rfl)]
  have e : mkc [Ar.len i [], Ar.len j [], Ar.len l []] s = some [.bor a, .bor b, .bor c] := by simp only [mkc, hi, hj, hl, Option.bind_some, getP, Option.map_some]
  rw [e]
  simp only [h]
  rfl
theorem rNot_run {T : SS → R Bool} {s s1 : SS} {b : Bool} (h : T s = .ok b s1) : rNot T s = .ok (!b) s1 := by
  unfold rNot; rw [h]; rfl
abbrev LS (scr : Sl) (h : Hs) (t : Sl) (ms : List Int) (ws : List (Int × Int)) (kp : List Int) (most : Int) (x7 x8 : Sl) : SS := [scr, .own h.d, t, .own (M ms), .own (Wd ws), .own (.lst (kp.map D.int)), .own (.int most), x7, x8, .no, .no]
theorem room_body (scr t x8 : Sl) (h8 : x8.isInn = false) (h : Hs) (ms : List Int) (ws : List (Int × Int)) (hm : ms.length ≤ 200) (h6 : ∀ m ∈ ms, 0 ≤ m ∧ m ≤ 6) (hw : Chn ms.length 0 ws) (hl : ws.length ≤ 200) (most : Int) {room : Int} (r1 : 1 ≤ room) (r2 : room ≤ 60) :
    ∃ y, y.isInn = false ∧ L_law_3 (LS scr h t ms ws (keep ws 0 0 ms) most (.own (.int room)) x8) = .nx (LS scr h t ms ws (keep ws 0 0 ms) most (.own (.int room)) y) := by
  obtain ⟨x, y, e1⟩ := short_ev ms ws hm h6 hw hl r1 r2
  have hkl := keep_len ws ms 0 0
  generalize keep ws 0 0 ms = kp at e1 hkl ⊢
  have it : p1 iR1 (psC (p1 (on1 fLen) (psC (fV 3) psN)) psN) (LS scr h t ms ws kp most (.own (.int room)) x8) = some (rngL 0 kp.length) := by
    have q : p1 (on1 fLen) (psC (fV 3) psN) (LS scr h t ms ws kp most (.own (.int room)) x8) = some (.int (kp.length : Int)) := by
      simp only [nl1, nl2, nl3, nl4, nc2, nc3, nc4, ix20, ix21, ix30, ix31, ix32, eq_self, isi_ii, isi_ib, isi_is, isi_itl, isi_ntl, isi_tt, isN_n, isN_i, tup2, z_eqI, z_neI, si0, si1, si2, tn0, tn1, tn2, tn3, List.nil_append, List.cons_append, sSeq, sSet, sIf, sRet, sItem, sDrop, sNil, eN, eI, tP, p2, p1, fV, fC, psC, psN, eaC, eaN, e1, e2, pBl, pAnd, pOr, pNot, pIf, eIf, imm, immL, on1_, on2_, List.getElem?_cons_zero, List.getElem?_cons_succ, List.set_cons_zero, List.set_cons_succ, Option.bind_some, Option.map_some, Sl.val, Sl.isInn, z_ixL, z_ixT, at0, at1, at2, at3, r_of, r_bind, r_thn, s_nx, s_ret, z_nx, z_asB, z_len, z_lenT, z_addI, z_mulR, z_mulL, z_sub, z_lt, z_le, z_gt, z_ge, z_mod, z_div, z_max2, z_min2, setSl, updP, modP, valAt, getP, get1, setP, set1, setV, pIdx, pRoot, stpOf, z_ixN, z_setI, List.length_map, List.length_cons, List.length_nil, if_true, if_false, Bool.false_eq_true, Bool.not_true, Bool.not_false, decide_true, decide_false, hkl]
    exact prng1_ev (by omega) (psC_run q rfl)
  have c1 := set_run (i := 8) (s := LS scr h t ms ws kp most (.own (.int room)) x8) (s2 := LS scr h t ms ws kp most (.own (.int room)) (.own (.lst ((idx kp room).map D.int)))) (eN_run (sel_ev (vs := [10]) (st := lendSl 10) (T := T_law_1) (E := E_law_2) (room := room) it rfl (by omega) fun i hi => by
    refine ⟨[scr, .own h.d, t, .own (M ms), .own (Wd ws), .own (.lst (kp.map D.int)), .own (.int most), .own (.int room), x8, .no, .own (.int (0 + (i : Int)))], rfl, ?_, rfl⟩
    have a1 := z_atI (ns := kp) (i := 0 + (i : Int)) (by omega) (by omega)
    rw [show (0 + (i : Int)).toNat = i by omega] at a1
    unfold T_law_1
    simp only [nl1, nl2, nl3, nl4, nc2, nc3, nc4, ix20, ix21, ix30, ix31, ix32, eq_self, isi_ii, isi_ib, isi_is, isi_itl, isi_ntl, isi_tt, isN_n, isN_i, tup2, z_eqI, z_neI, si0, si1, si2, tn0, tn1, tn2, tn3, List.nil_append, List.cons_append, sSeq, sSet, sIf, sRet, sItem, sDrop, sNil, eN, eI, tP, p2, p1, fV, fC, psC, psN, eaC, eaN, e1, e2, pBl, pAnd, pOr, pNot, pIf, eIf, imm, immL, on1_, on2_, List.getElem?_cons_zero, List.getElem?_cons_succ, List.set_cons_zero, List.set_cons_succ, Option.bind_some, Option.map_some, Sl.val, Sl.isInn, z_ixL, z_ixT, at0, at1, at2, at3, r_of, r_bind, r_thn, s_nx, s_ret, z_nx, z_asB, z_len, z_lenT, z_addI, z_mulR, z_mulL, z_sub, z_lt, z_le, z_gt, z_ge, z_mod, z_div, z_max2, z_min2, setSl, updP, modP, valAt, getP, get1, setP, set1, setV, pIdx, pRoot, stpOf, z_ixN, z_setI, List.length_map, List.length_cons, List.length_nil, if_true, if_false, Bool.false_eq_true, Bool.not_true, Bool.not_false, decide_true, decide_false, a1])) (by cases x8 <;> first | rfl | (simp [Sl.isInn] at h8; done))
  have c2 : eCall 3 3 F_short_at (rP (qL 3 pRoot (qL 4 pRoot (qL 7 pRoot qN)))) (LS scr h t ms ws kp most (.own (.int room)) (.own (.lst ((idx kp room).map D.int)))) = .ok (sh kp room) (LS scr h t ms ws kp most (.own (.int room)) (.own (.lst ((idx kp room).map D.int)))) :=
    call_run (as := [.len 3 [], .len 4 [], .len 7 []]) (s1 := LS scr h t ms ws kp most (.own (.int room)) (.own (.lst ((idx kp room).map D.int)))) rfl (fnR3l (m := 3) rfl rfl rfl e1)
  have c3 := eI_run (pick_ev kp room (F := fV 8) (s := LS scr h t ms ws kp most (.own (.int room)) (.own (.lst ((idx kp room).map D.int)))) rfl) (sh_imm kp room)
  have c4 := call_run (n := 2) (m := 1) (Fn := F__law_alike 12) (gV_run c2 (gV_run c3 (r := []) (G := rP qN) rfl)) (fnR2v (m := 1) (alike_sh 11 kp room))
  refine ⟨.own (.lst ((idx kp room).map D.int)), rfl, ?_⟩
  unfold L_law_3
  refine seq_nx c1 ?_
  rw [if_run (rNot_run (e1_ev c4 (f := asB) rfl)), if_neg (by simp)]
  rfl

theorem setSl_run {i : Nat} {d : D} {s : SS} {x : Sl} (h : s[i]? = some x) (n : x.isInn = false) : setSl i d s = some (s.set i (.own d)) := by
  unfold setSl; rw [h]; simp [n]
theorem unp_run {is : List Nat} {F : SS → R D} {s s1 s2 : SS} {ds : List D} (h : F s = .ok (.tup ds) s1) (h2 : setAll is ds s1 = some s2) : sUnp is F s = .nx s2 := by
  unfold sUnp; rw [h]; show nxO ((asTup (.tup ds)).bind fun ds => setAll is ds s1) = _; simp only [asTup, Option.bind_some, h2]; rfl
theorem plan_call {h : Hs} (k : h.ok) (scr t x3 x4 x5 x6 x7 x8 : Sl) (n3 : x3.isInn = false) (n4 : x4.isInn = false) : ∃ (h' : Hs) (ms : List Int) (ws : List (Int × Int)), h'.ok ∧ ms.length ≤ 200 ∧ (∀ m ∈ ms, 0 ≤ m ∧ m ≤ 6) ∧ Chn ms.length 0 ws ∧ ws.length ≤ 200 ∧
    sUnp [3, 4] (eCall 1 8 F__law_plan (rP (qI 1 pRoot qN))) [scr, .own h.d, t, x3, x4, x5, x6, x7, x8, .no, .no] = .nx [scr, .own h'.d, t, .own (M ms), .own (Wd ws), x5, x6, x7, x8, .no, .no] := by
  obtain ⟨h', ms, ws, r, k', hm, h6, hc, hl, e⟩ := plan_ev k
  refine ⟨h', ms, ws, k', hm, h6, hc, hl, ?_⟩
  have f : fnR 1 8 F__law_plan [.inn 1 []] [scr, .own h.d, t, x3, x4, x5, x6, x7, x8, .no, .no] = .ok (.tup [M ms, Wd ws]) [scr, .own h'.d, t, x3, x4, x5, x6, x7, x8, .no, .no] := by
    unfold fnR
    rw [if_pos (show ([Ar.inn 1 []].length == 1 && okAr [Ar.inn 1 []] && okLe [Ar.inn 1 []]) = true from rfl)]
    have e0 : mkc [Ar.inn 1 []] [scr, .own h.d, t, x3, x4, x5, x6, x7, x8, .no, .no] = some [.inn h.d] := rfl
    have e' : F__law_plan ([.inn h.d] ++ List.replicate 8 .no) = .ret (.tup [M ms, Wd ws]) (.inn h'.d :: r) := e
    rw [e0]
    simp only [e']
    rfl
  refine unp_run (call_run (as := [.inn 1 []]) (s1 := [scr, .own h.d, t, x3, x4, x5, x6, x7, x8, .no, .no]) rfl f) ?_
  cases x3 <;> cases x4 <;> first | rfl | (simp [Sl.isInn] at n3; done) | (simp [Sl.isInn] at n4; done)

theorem iE_run {F : SS → R D} {s s1 : SS} {d : D} {ds : List D} (h : F s = .ok d s1) (h2 : asSeq d = some ds) : iE F s = .ok ds s1 := by
  unfold iE; rw [h]; show R.of (asSeq d) s1 = _; rw [h2]; rfl
theorem rooms_it {h : Hs} (k : h.ok) (scr t x7 x8 : Sl) (ms : List Int) (ws : List (Int × Int)) (kp : List Int) (most : Int) : ∃ (h' : Hs) (rs : List Int), h'.ok ∧ (∀ r ∈ rs, 1 ≤ r ∧ r ≤ 60) ∧
    iE (e2 fAdd (eN (pCmp [9] (p1 iR1 (psC (fC (.int 4)) psN)) (lendSl 9) (fun _ => some true) E_law_0)) (e1 gLstD (eaC (e2 fAdd (eN (fC (.int 1))) (eCall 2 2 F__law_next (rP (qI 1 pRoot (qV (fC (.int 60)) qN))))) eaN))) (LS scr h t ms ws kp most x7 x8) = .ok (rs.map D.int) (LS scr h' t ms ws kp most x7 x8) := by
  have it : p1 iR1 (psC (fC (.int 4)) psN) (LS scr h t ms ws kp most x7 x8) = some (rngL 0 4) := prng1_ev (n := 4) (by omega) rfl
  have c1 : pCmp [9] (p1 iR1 (psC (fC (.int 4)) psN)) (lendSl 9) (fun _ => some true) E_law_0 (LS scr h t ms ws kp most x7 x8) = some (.lst (((List.range 4).map fun i : Nat => min 60 (max 1 (most + (0 + (i : Int)) - 2))).map D.int)) := by
    unfold pCmp
    rw [it, Option.bind_some, if_pos ⟨imm_rng _ _, by rw [rng_len]; omega⟩]
    have c : clrC [9] (LS scr h t ms ws kp most x7 x8) = some (LS scr h t ms ws kp most x7 x8) := rfl
    rw [c, Option.bind_some]
    unfold rngL
    rw [cmpP_fm (fun i : Nat => D.int (0 + (i : Int))) (fun _ => true) (fun i : Nat => D.int (min 60 (max 1 (most + (0 + (i : Int)) - 2)))) (List.range 4) fun i hi => ⟨[scr, .own h.d, t, .own (M ms), .own (Wd ws), .own (.lst (kp.map D.int)), .own (.int most), x7, x8, .own (.int (0 + (i : Int))), .no], rfl, rfl, fun _ => ⟨?_, rfl⟩⟩]
    · rw [List.filter_eq_self.mpr (fun _ _ => rfl), Option.map_some, List.map_map]; rfl
    · unfold E_law_0
      simp only [nl1, nl2, nl3, nl4, nc2, nc3, nc4, ix20, ix21, ix30, ix31, ix32, eq_self, isi_ii, isi_ib, isi_is, isi_itl, isi_ntl, isi_tt, isN_n, isN_i, tup2, z_eqI, z_neI, si0, si1, si2, tn0, tn1, tn2, tn3, List.nil_append, List.cons_append, sSeq, sSet, sIf, sRet, sItem, sDrop, sNil, eN, eI, tP, p2, p1, fV, fC, psC, psN, eaC, eaN, e1, e2, pBl, pAnd, pOr, pNot, pIf, eIf, imm, immL, on1_, on2_, List.getElem?_cons_zero, List.getElem?_cons_succ, List.set_cons_zero, List.set_cons_succ, Option.bind_some, Option.map_some, Sl.val, Sl.isInn, z_ixL, z_ixT, at0, at1, at2, at3, r_of, r_bind, r_thn, s_nx, s_ret, z_nx, z_asB, z_len, z_lenT, z_addI, z_mulR, z_mulL, z_sub, z_lt, z_le, z_gt, z_ge, z_mod, z_div, z_max2, z_min2, setSl, updP, modP, valAt, getP, get1, setP, set1, setV, pIdx, pRoot, stpOf, z_ixN, z_setI, List.length_map, List.length_cons, List.length_nil, if_true, if_false, Bool.false_eq_true, Bool.not_true, Bool.not_false, decide_true, decide_false]
  have n1 := nx1 k (m := 60) (by omega) (by omega) (x := scr) (r := [t, .own (M ms), .own (Wd ws), .own (.lst (kp.map D.int)), .own (.int most), x7, x8, .no, .no])
  have l1 := nxt_lt (h := h) (m := 60) (by omega)
  refine ⟨(nxt h 60).2, ((List.range 4).map fun i : Nat => min 60 (max 1 (most + (0 + (i : Int)) - 2))) ++ [1 + (nxt h 60).1], nxt_ok k 60, fun r hr => ?_, ?_⟩
  · rcases List.mem_append.mp hr with hr | hr
    · obtain ⟨i, _, rfl⟩ := List.mem_map.mp hr
      omega
    · simp at hr; omega
  · have q := e2_run (eN_run c1) (e1_ev (f := gLstD) (eaC_run (G := eaN) (e2_run (F := eN (fC (.int 1))) (a := .int 1) rfl n1 (z_addI _ _)) rfl) (b := .lst ([1 + (nxt h 60).1].map D.int)) rfl) (addL (by simp))
    exact iE_run q rfl

theorem turn_body {h : Hs} (k : h.ok) (scr t x3 x4 x5 x6 x7 x8 : Sl) (n3 : x3.isInn = false) (n4 : x4.isInn = false) (n5 : x5.isInn = false) (n6 : x6.isInn = false) (n7 : x7.isInn = false) (n8 : x8.isInn = false) : ∃ (h' : Hs) (y3 y4 y5 y6 y7 y8 : Sl), h'.ok ∧ y3.isInn = false ∧ y4.isInn = false ∧ y5.isInn = false ∧ y6.isInn = false ∧ y7.isInn = false ∧ y8.isInn = false ∧
    L_law_4 [scr, .own h.d, t, x3, x4, x5, x6, x7, x8, .no, .no] = .nx [scr, .own h'.d, t, y3, y4, y5, y6, y7, y8, .no, .no] := by
  obtain ⟨h1, ms, ws, k1, hm, h6, hc, hl, e1⟩ := plan_call k scr t x3 x4 x5 x6 x7 x8 n3 n4
  obtain ⟨kl, e2⟩ := lkept_ev ms ws hm h6 hc
  have em := most_ev ms ws hm h6 hc hl
  have hkl := keep_len ws ms 0 0
  have p1' : pFn 2 5 F__law_kept [.val (M ms), .val (Wd ws)] = some (.lst ((keep ws 0 0 ms).map D.int)) := pFn2 (m := 5) e2
  have rb := fun (t x8 : Sl) (h8 : x8.isInn = false) (h : Hs) (most room : Int) (r1 : 1 ≤ room) (r2 : room ≤ 60) => room_body scr t x8 h8 h ms ws hm h6 hc hl most r1 r2
  generalize keep ws 0 0 ms = kp at p1' em hkl rb
  rw [← max_eq] at em
  have s2 := set_run (i := 5) (s := [scr, .own h1.d, t, .own (M ms), .own (Wd ws), x5, x6, x7, x8, .no, .no]) (s2 := [scr, .own h1.d, t, .own (M ms), .own (Wd ws), .own (.lst (kp.map D.int)), x6, x7, x8, .no, .no]) (eN_run (pCall_run (G := qL 3 pRoot (qL 4 pRoot qN)) (as := [.len 3 [], .len 4 []]) (bs := [.val (M ms), .val (Wd ws)]) rfl rfl p1')) (setSl_run rfl n5)
  have q3 : p1 fMax (psC (p2 fAdd (fV 5) (p1 fLst (psC (fC (.int 0)) psN))) psN) [scr, .own h1.d, t, .own (M ms), .own (Wd ws), .own (.lst (kp.map D.int)), x6, x7, x8, .no, .no] = some (.int (maxI (kp ++ [0]))) :=
    p1_run (psC_run (p2_run rfl (p1_run (psC_run rfl rfl) (b := .lst ([0].map D.int)) rfl) (addL (a := kp) (b := [0]) (by simp; omega))) rfl) (z_max1 (by simp))
  have s3 := set_run (i := 6) (s := [scr, .own h1.d, t, .own (M ms), .own (Wd ws), .own (.lst (kp.map D.int)), x6, x7, x8, .no, .no]) (s2 := LS scr h1 t ms ws kp (maxI (kp ++ [0])) x7 x8) (eN_run q3) (setSl_run rfl n6)
  have c4 : eCall 2 0 F_most_kept (rP (qL 3 pRoot (qL 4 pRoot qN))) (LS scr h1 t ms ws kp (maxI (kp ++ [0])) x7 x8) = .ok (.int (maxI (kp ++ [0]))) (LS scr h1 t ms ws kp (maxI (kp ++ [0])) x7 x8) :=
    call_run (as := [.len 3 [], .len 4 []]) (s1 := LS scr h1 t ms ws kp (maxI (kp ++ [0])) x7 x8) rfl (fnR2l (m := 0) rfl rfl em)
  have al := alike_i 11 (maxI (kp ++ [0])) (maxI (kp ++ [0]))
  simp only [eq_self, decide_true] at al
  have gl : gL 6 (rP qN) (LS scr h1 t ms ws kp (maxI (kp ++ [0])) x7 x8) = .ok [.len 6 []] (LS scr h1 t ms ws kp (maxI (kp ++ [0])) x7 x8) := rfl
  have c5 := call_run (n := 2) (m := 1) (Fn := F__law_alike 12) (gV_run c4 gl) (fnR2vl (m := 1) (b := .int (maxI (kp ++ [0]))) rfl al)
  obtain ⟨h2, rs, k2, hr, e6⟩ := rooms_it k1 scr t x7 x8 ms ws kp (maxI (kp ++ [0]))
  obtain ⟨s', f1, y7, y8, m7, m8, rfl⟩ := for_inv (st := lendSl 7) (body := L_law_3) (ds := rs.map D.int) (s := LS scr h2 t ms ws kp (maxI (kp ++ [0])) .no x8)
    (I := fun s => ∃ y7 y8 : Sl, y7.isInn = false ∧ y8.isInn = false ∧ s = LS scr h2 t ms ws kp (maxI (kp ++ [0])) y7 y8) (fun d hd s ⟨y7, y8, m7, m8, es⟩ => by
      obtain ⟨r, hr', rfl⟩ := List.mem_map.mp hd
      obtain ⟨r1, r2⟩ := hr r hr'
      obtain ⟨y, my, eb⟩ := rb t y8 m8 h2 (maxI (kp ++ [0])) r r1 r2
      subst es
      exact ⟨_, _, (by cases y7 <;> first | rfl | (simp [Sl.isInn] at m7; done)), eb, _, _, rfl, my, rfl⟩) ⟨.no, x8, rfl, n8, rfl⟩
  have f2 := for_run (ts := [7]) (u := id) e6 (by
    have c : clr [7] (LS scr h2 t ms ws kp (maxI (kp ++ [0])) x7 x8) = LS scr h2 t ms ws kp (maxI (kp ++ [0])) .no x8 := by cases x7 <;> first | rfl | (simp [Sl.isInn] at n7; done)
    rw [c]; exact f1)
  have c9 : id (clr [7] (LS scr h2 t ms ws kp (maxI (kp ++ [0])) y7 y8)) = LS scr h2 t ms ws kp (maxI (kp ++ [0])) .no y8 := by cases y7 <;> first | rfl | (simp [Sl.isInn] at m7; done)
  rw [c9] at f2
  refine ⟨h2, _, _, _, _, _, _, k2, ?_, ?_, ?_, ?_, ?_, ?_, (by
    unfold L_law_4
    refine seq_nx e1 (seq_nx s2 (seq_nx s3 (seq_nx (s1 := LS scr h1 t ms ws kp (maxI (kp ++ [0])) x7 x8) ?_ f2)))
    rw [if_run (rNot_run (e1_ev c5 (f := asB) rfl)), if_neg (by simp)]
    rfl)⟩ <;> first | rfl | exact m8

theorem law_yes : LawYes 10 F_law := fun c ns hc hl hb => by
  obtain ⟨h, x, y, r, k, e⟩ := mix_ev hc ns 29 (by omega)
  have p1' : pFn 2 2 F__law_mix [.val (c (ns.map D.int)), .val (.int 29)] = some h.d := pFn2 (m := 2) e
  have s1 := set_run (i := 1) (s := .bor (c (ns.map D.int)) :: List.replicate 10 .no) (s2 := [.bor (c (ns.map D.int)), .own h.d, .no, .no, .no, .no, .no, .no, .no, .no, .no]) (eN_run (pCall_run (G := qL 0 pRoot (qV (fC (.int 29)) qN)) (as := [.len 0 [], .val (.int 29)]) (bs := [.val (c (ns.map D.int)), .val (.int 29)]) rfl rfl p1')) rfl
  obtain ⟨s', f1, h', t, y3, y4, y5, y6, y7, y8, k', nt, n3, n4, n5, n6, n7, n8, rfl⟩ := for_inv (st := lendSl 2) (body := L_law_4) (ds := rngL 0 5) (s := [.bor (c (ns.map D.int)), .own h.d, .no, .no, .no, .no, .no, .no, .no, .no, .no])
    (I := fun s => ∃ (h : Hs) (t y3 y4 y5 y6 y7 y8 : Sl), h.ok ∧ t.isInn = false ∧ y3.isInn = false ∧ y4.isInn = false ∧ y5.isInn = false ∧ y6.isInn = false ∧ y7.isInn = false ∧ y8.isInn = false ∧ s = [.bor (c (ns.map D.int)), .own h.d, t, y3, y4, y5, y6, y7, y8, .no, .no]) (fun d hd s ⟨h, t, y3, y4, y5, y6, y7, y8, k, nt, n3, n4, n5, n6, n7, n8, es⟩ => by
      obtain ⟨j, hj⟩ := List.getElem?_of_mem hd
      obtain ⟨_, rfl⟩ := rng_get hj
      obtain ⟨h2, z3, z4, z5, z6, z7, z8, k2, m3, m4, m5, m6, m7, m8, eb⟩ := turn_body k (.bor (c (ns.map D.int))) (.own (.int j)) y3 y4 y5 y6 y7 y8 n3 n4 n5 n6 n7 n8
      subst es
      exact ⟨_, _, (by cases t <;> first | rfl | (simp [Sl.isInn] at nt; done)), eb, h2, _, z3, z4, z5, z6, z7, z8, k2, rfl, m3, m4, m5, m6, m7, m8, rfl⟩) ⟨h, .no, .no, .no, .no, .no, .no, .no, k, rfl, rfl, rfl, rfl, rfl, rfl, rfl, rfl⟩
  have it := rng1_ev (n := 5) (by omega) (X := eaC (eN (fC (.int 5))) eaN) (s := [.bor (c (ns.map D.int)), .own h.d, .no, .no, .no, .no, .no, .no, .no, .no, .no]) rfl
  have f2 := for_run (ts := [2]) (u := id) it f1
  exact ⟨_, seq_nx s1 (seq_nx f2 rfl)⟩
end K09

namespace K09
open PySem PySem.Spec PyProof.Rows L2 Dy
def clsN : List Str := ["SkyError", "BadRoom", "BadPlan"]
def d_is_number : He.DefD := ⟨("is_number", none), "is_number", "is_number", defArgs s_is_number, defBody s_is_number, defScope s_is_number, [], []⟩
def d_kept_by : He.DefD := ⟨("kept_by", none), "kept_by", "kept_by", defArgs s_kept_by, defBody s_kept_by, defScope s_kept_by, [], []⟩
def d__law_mix : He.DefD := ⟨("_law_mix", none), "_law_mix", "_law_mix", defArgs s__law_mix, defBody s__law_mix, defScope s__law_mix, [], []⟩
def d__law_next : He.DefD := ⟨("_law_next", none), "_law_next", "_law_next", defArgs s__law_next, defBody s__law_next, defScope s__law_next, [], []⟩
def d__law_kept : He.DefD := ⟨("_law_kept", none), "_law_kept", "_law_kept", defArgs s__law_kept, defBody s__law_kept, defScope s__law_kept, [], []⟩
def d_need_room : He.DefD := ⟨("need_room", none), "need_room", "need_room", defArgs s_need_room, defBody s_need_room, defScope s_need_room, [], []⟩
def d_need_plan : He.DefD := ⟨("need_plan", none), "need_plan", "need_plan", defArgs s_need_plan, defBody s_need_plan, defScope s_need_plan, [], []⟩
def d__law_plan : He.DefD := ⟨("_law_plan", none), "_law_plan", "_law_plan", defArgs s__law_plan, defBody s__law_plan, defScope s__law_plan, [], []⟩
def d_most_kept : He.DefD := ⟨("most_kept", none), "most_kept", "most_kept", defArgs s_most_kept, defBody s_most_kept, defScope s_most_kept, [], []⟩
def d_short_at : He.DefD := ⟨("short_at", none), "short_at", "short_at", defArgs s_short_at, defBody s_short_at, defScope s_short_at, [], []⟩
def d__law_alike : He.DefD := ⟨("_law_alike", none), "_law_alike", "_law_alike", defArgs s__law_alike, defBody s__law_alike, defScope s__law_alike, [], []⟩
def d_law : He.DefD := ⟨("law", none), "law", "law", defArgs s_law, defBody s_law, defScope s_law, [], []⟩
def fn : List He.DefD := [d_is_number, d_kept_by, d__law_mix, d__law_next, d__law_kept, d_need_room, d_need_plan, d__law_plan, d_most_kept, d_short_at, d__law_alike, d_law]
def fa : List He.Fa := [.glo "is_number", .glo "kept_by", .glo "_law_mix", .glo "_law_next", .glo "_law_kept", .glo "need_room", .glo "need_plan", .glo "_law_plan", .glo "most_kept", .glo "short_at", .glo "_law_alike", .glo "law", .free "bool", .free "int", .free "isinstance", .free "len", .free "list", .free "max", .free "min", .free "range", .free "str", .free "tuple", .int "MOST_BEATS" 200, .int "MOST_MADE" 6, .int "MOST_ROOM" 60, .exc "BadPlan", .glo "BadPlan", .exc "BadRoom", .glo "BadRoom"]
abbrev R : PySem.W.OpenRow := PySem.W.OpenLaw.row PySem.Challenge.rw_skyframes_k09_room
abbrev hk : PySem.W.Hook := He.hookD 4 fa fn
def ob (s : PySem.W.SharedT) : He.AlD := He.obsDG 4 fa fn (HandSHeadRun.getT s)
theorem ob_eq (s : PySem.W.SharedT) : ob s = hk.obs s.abs := He.obsDG_eq (HandSHeadRun.getT_eq s)
def loose0 : List Str := ["SkyError", "BadRoom", "BadPlan", "MOST_ROOM", "is_number", "need_room", "MOST_BEATS", "MOST_MADE", "need_plan", "kept_by", "most_kept", "short_at", "_law_mix", "_law_next", "_law_alike", "_law_plan", "_law_kept"]
def loose : List Str := loose0
theorem run (w : World) : HandSHeadRun.RunEq R (PySem.W.view R.prog [21]) hk ob 3000 loose w := by
  intro os
  kernel_rfl
def Cs (K : PySem.W.Frag) : Nat → Addr := fun i => He.ga K (clsN.getD i "")
theorem facts (Y : LawYes 10 F_law) {w : World} {K : PySem.W.Frag} {h : Heap} {mg : Str → Option Value} {f : Addr} (X : K.In h) (G : h.Ns mainGlobals mg) (hfa : mg ("law" : Str) = some (.ref f)) (c : He.SaysD fa fn K) :
    LamX.LawAtS PySem.Challenge.rw_skyframes_k09_room w K (L2.CX (PySem.Challenge.rw_skyframes_k09_room).prog w) 14 63 "_law_script" mg f h := by
  have hT : ∀ (h : Heap) (mg : Str → Option Value), K.In h → h.Ns mainGlobals mg → Tx K mg (Cs K) := fun h mg X G => ⟨He.free_ok X G (c.fact 12 (f := .free "bool") rfl), He.free_ok X G (c.fact 13 (f := .free "int") rfl), He.free_ok X G (c.fact 14 (f := .free "isinstance") rfl), He.free_ok X G (c.fact 15 (f := .free "len") rfl), He.free_ok X G (c.fact 16 (f := .free "list") rfl), He.free_ok X G (c.fact 17 (f := .free "max") rfl), He.free_ok X G (c.fact 18 (f := .free "min") rfl), He.free_ok X G (c.fact 19 (f := .free "range") rfl), He.free_ok X G (c.fact 20 (f := .free "str") rfl), He.free_ok X G (c.fact 21 (f := .free "tuple") rfl), He.int_ok X G (c.fact 22 (f := .int "MOST_BEATS" 200) rfl), He.int_ok X G (c.fact 23 (f := .int "MOST_MADE" 6) rfl), He.int_ok X G (c.fact 24 (f := .int "MOST_ROOM" 60) rfl), ex_at X G (c.fact 25 (f := .exc "BadPlan") rfl) (c.fact 26 (f := .glo "BadPlan") rfl), ex_at X G (c.fact 27 (f := .exc "BadRoom") rfl) (c.fact 28 (f := .glo "BadRoom") rfl)⟩
  obtain ⟨fd_is_number, W_is_number⟩ := c.def_ 0 (d := d_is_number) rfl
  obtain ⟨fd_kept_by, W_kept_by⟩ := c.def_ 1 (d := d_kept_by) rfl
  obtain ⟨fd__law_mix, W__law_mix⟩ := c.def_ 2 (d := d__law_mix) rfl
  obtain ⟨fd__law_next, W__law_next⟩ := c.def_ 3 (d := d__law_next) rfl
  obtain ⟨fd__law_kept, W__law_kept⟩ := c.def_ 4 (d := d__law_kept) rfl
  obtain ⟨fd_need_room, W_need_room⟩ := c.def_ 5 (d := d_need_room) rfl
  obtain ⟨fd_need_plan, W_need_plan⟩ := c.def_ 6 (d := d_need_plan) rfl
  obtain ⟨fd__law_plan, W__law_plan⟩ := c.def_ 7 (d := d__law_plan) rfl
  obtain ⟨fd_most_kept, W_most_kept⟩ := c.def_ 8 (d := d_most_kept) rfl
  obtain ⟨fd_short_at, W_short_at⟩ := c.def_ 9 (d := d_short_at) rfl
  obtain ⟨fd__law_alike, W__law_alike⟩ := c.def_ 10 (d := d__law_alike) rfl
  obtain ⟨fd_law, W_law⟩ := c.def_ 11 (d := d_law) rfl
  have e := hfa.symm.trans (He.glo_ok X G (c.fact 11 (f := .glo "law") rfl))
  cases e
  have b := FunD.bindsA (ps := P_law) W_law fun _ _ _ _ _ _ us hl => match us, hl with | [_], _ => rfl
  refine ⟨fd_law, [], spD K (Cs K) N_law P_law.length F_law, fun p hp => (by cases hp), fun p hp => (by cases hp), fun p hp => (by cases hp), fun s v => b s [v] rfl, fun H a ns hl hb _ hS => law_sp (m := 10) rfl hS Y hl hb, fun base X G _ => ?_⟩
  have T := hT base mg X G
  have A_is_number : FnAt (PySem.Challenge.rw_skyframes_k09_room).prog w K mg base (Cs K) 1 _ fd_is_number "is_number" N_is_number P_is_number F_is_number := ⟨ok_is_number T W_is_number , (He.glo_ok X G (c.fact 0 (f := .glo "is_number") rfl)), W_is_number.kp, (W_is_number.bindsN fun _ _ _ _ _ _ us hl => match us, hl with | [_, _, _], _ => rfl)⟩
  have A_kept_by : FnAt (PySem.Challenge.rw_skyframes_k09_room).prog w K mg base (Cs K) 1 _ fd_kept_by "kept_by" N_kept_by P_kept_by F_kept_by := ⟨ok_kept_by T W_kept_by , (He.glo_ok X G (c.fact 1 (f := .glo "kept_by") rfl)), W_kept_by.kp, (W_kept_by.bindsN fun _ _ _ _ _ _ us hl => match us, hl with | [_, _], _ => rfl)⟩
  have A__law_mix : FnAt (PySem.Challenge.rw_skyframes_k09_room).prog w K mg base (Cs K) 1 _ fd__law_mix "_law_mix" N__law_mix P__law_mix F__law_mix := ⟨ok__law_mix T W__law_mix , (He.glo_ok X G (c.fact 2 (f := .glo "_law_mix") rfl)), W__law_mix.kp, (W__law_mix.bindsN fun _ _ _ _ _ _ us hl => match us, hl with | [_, _], _ => rfl)⟩
  have A__law_next : FnAt (PySem.Challenge.rw_skyframes_k09_room).prog w K mg base (Cs K) 1 _ fd__law_next "_law_next" N__law_next P__law_next F__law_next := ⟨ok__law_next T W__law_next , (He.glo_ok X G (c.fact 3 (f := .glo "_law_next") rfl)), W__law_next.kp, (W__law_next.bindsN fun _ _ _ _ _ _ us hl => match us, hl with | [_, _], _ => rfl)⟩
  have A__law_kept : FnAt (PySem.Challenge.rw_skyframes_k09_room).prog w K mg base (Cs K) 1 _ fd__law_kept "_law_kept" N__law_kept P__law_kept F__law_kept := ⟨ok__law_kept T W__law_kept , (He.glo_ok X G (c.fact 4 (f := .glo "_law_kept") rfl)), W__law_kept.kp, (W__law_kept.bindsN fun _ _ _ _ _ _ us hl => match us, hl with | [_, _], _ => rfl)⟩
  have A_need_room : FnAt (PySem.Challenge.rw_skyframes_k09_room).prog w K mg base (Cs K) 2 _ fd_need_room "need_room" N_need_room P_need_room F_need_room := ⟨ok_need_room T W_need_room A_is_number, (He.glo_ok X G (c.fact 5 (f := .glo "need_room") rfl)), W_need_room.kp, (W_need_room.bindsN fun _ _ _ _ _ _ us hl => match us, hl with | [_], _ => rfl)⟩
  have A_need_plan : FnAt (PySem.Challenge.rw_skyframes_k09_room).prog w K mg base (Cs K) 2 _ fd_need_plan "need_plan" N_need_plan P_need_plan F_need_plan := ⟨ok_need_plan T W_need_plan A_is_number, (He.glo_ok X G (c.fact 6 (f := .glo "need_plan") rfl)), W_need_plan.kp, (W_need_plan.bindsN fun _ _ _ _ _ _ us hl => match us, hl with | [_, _], _ => rfl)⟩
  have A__law_plan : FnAt (PySem.Challenge.rw_skyframes_k09_room).prog w K mg base (Cs K) 2 _ fd__law_plan "_law_plan" N__law_plan P__law_plan F__law_plan := ⟨ok__law_plan T W__law_plan A__law_next, (He.glo_ok X G (c.fact 7 (f := .glo "_law_plan") rfl)), W__law_plan.kp, (W__law_plan.bindsN fun _ _ _ _ _ _ us hl => match us, hl with | [_], _ => rfl)⟩
  have A_most_kept : FnAt (PySem.Challenge.rw_skyframes_k09_room).prog w K mg base (Cs K) 3 _ fd_most_kept "most_kept" N_most_kept P_most_kept F_most_kept := ⟨ok_most_kept T W_most_kept A_need_plan A_kept_by, (He.glo_ok X G (c.fact 8 (f := .glo "most_kept") rfl)), W_most_kept.kp, (W_most_kept.bindsN fun _ _ _ _ _ _ us hl => match us, hl with | [_, _], _ => rfl)⟩
  have A_short_at : FnAt (PySem.Challenge.rw_skyframes_k09_room).prog w K mg base (Cs K) 3 _ fd_short_at "short_at" N_short_at P_short_at F_short_at := ⟨ok_short_at T W_short_at A_need_plan A_need_room A_kept_by, (He.glo_ok X G (c.fact 9 (f := .glo "short_at") rfl)), W_short_at.kp, (W_short_at.bindsN fun _ _ _ _ _ _ us hl => match us, hl with | [_, _, _], _ => rfl)⟩
  have A__law_alike : FnAt (PySem.Challenge.rw_skyframes_k09_room).prog w K mg base (Cs K) 13 _ fd__law_alike "_law_alike" N__law_alike P__law_alike (F__law_alike 12) := ⟨ok__law_alike T W__law_alike (He.glo_ok X G (c.fact 10 (f := .glo "_law_alike") rfl)) (W__law_alike.bindsN fun _ _ _ _ _ _ us hl => match us, hl with | [_, _], _ => rfl) , (He.glo_ok X G (c.fact 10 (f := .glo "_law_alike") rfl)), W__law_alike.kp, (W__law_alike.bindsN fun _ _ _ _ _ _ us hl => match us, hl with | [_, _], _ => rfl)⟩
  exact ok_law T W_law A__law_mix A__law_plan A__law_kept A__law_alike A_most_kept A__law_next A_short_at
end K09
open PySem PySem.W PySem.Calls PyProof.Rows
theorem PySem.Challenge.cw_skyframes_k09_room_holds : PySem.Challenge.rw_skyframes_k09_room.Holds := by
  w_on; o_law
  refine HandSHeadRun.head_any (r := OpenLaw.row PySem.Challenge.rw_skyframes_k09_room) (q := view (OpenLaw.row PySem.Challenge.rw_skyframes_k09_room).prog [21]) (H := K09.hk) (ob := K09.ob) (M := 3000) (loose := K09.loose) (d := HandSHeadRun.topDef (OpenLaw.row PySem.Challenge.rw_skyframes_k09_room).prog 21) (kwd := []) K09.ob_eq
    (by kernel_rfl) (fun s => by kernel_rfl) K09.run (by kernel_rfl) (by kernel_rfl) (by kernel_rfl) (by rfl) (by first | assumption | decide +kernel) (by decide +kernel) ⟨rfl, rfl, rfl, rfl, rfl, by decide +kernel⟩ ?hw ?hc
  case hw => w_witness2
  case hc =>
    refine LamX.walk_ofTsE (l := PySem.Challenge.rw_skyframes_k09_room) (n := 63) (k := 14) (x := "_law_script") (CX := fun w => L2.CX (PySem.Challenge.rw_skyframes_k09_room).prog w) rfl (by decide) (by kernel_rfl) ⟨rfl, by decide, by decide⟩ ?F (fun _ _ _ _ _ z => Dy.cx_no z)
    intro w mg fa h Y G hmg0
    obtain ⟨K, KX, c⟩ := Y
    have hmg : mg ("law" : PySem.Str) = some (.ref fa) := by
      have e : (HandSHeadRun.topDef (OpenLaw.row PySem.Challenge.rw_skyframes_k09_room).prog 21).name = ("law" : PySem.Str) := by kernel_rfl
      rw [← e]
      exact hmg0
    exact ⟨K, KX, K09.facts K09.law_yes KX G hmg c⟩

