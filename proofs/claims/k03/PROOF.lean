import PyProof.Rows.All
import Wide.All
import OpenK.AllK
import Wide.FinOn
import HandS.ForMost
import HandS.Exc
import HandS.WordsExc
import HandS.Deep
import HandS.TupAny
import HandS.TupMul
import HandS.IsInst
import HandS.RaiseMore
import HandS.More
import HandS.CallSlots
import HandS.Defaults
import HandS.ExcOwn
import HandS.Head0
import HandS.Head1
import HandS.Head2
import HandS.HeadEnd
import HandS.HeadWalk
import HandS.HeadHook1
import HandS.HeadHook2
import HandS.Style
import HandS.SortInts
import HandS.Conv
import KE.KTupSum
import KE.DataMinMax
import PyProof.DictUpdate
import PySem.Challenge.RW_skyframes_k03_whole_told_and_gaps
import KE.KStateDown
import Lean
set_option Elab.async false
set_option linter.all false
set_option maxRecDepth 100000
set_option maxHeartbeats 4000000
/-! The layer of data: values as trees, slots that own them. -/
namespace Dy
open PySem L2

/-- a question that no one computes (a guard with great numbers) -/
noncomputable def dcd (p : Prop) : Bool := @decide p (Classical.propDecidable p)
theorem dcd_eq {p : Prop} : dcd p = true ↔ p := by unfold dcd; rw [@decide_eq_true_iff p (Classical.propDecidable p)]
/-! ### sets of addresses -/
abbrev AP := Addr → Prop
def Sep (A B : AP) : Prop := ∀ a, A a → B a → False
def Sub (A B : AP) : Prop := ∀ a, A a → B a
def Cup (A B : AP) : AP := fun a => A a ∨ B a
def Mt : AP := fun _ => False
def One (x : Addr) : AP := fun a => a = x
def But (A : AP) (x : Addr) : AP := fun b => A b ∧ b ≠ x
def Al (H : Hp) (A : AP) : Prop := ∀ a, A a → H a ≠ none
def Fr (H : Hp) (A : AP) : Prop := ∀ a, A a → H a = none
theorem Sub.refl (A : AP) : Sub A A := fun _ h => h
theorem Sub.trans {A B C : AP} (h : Sub A B) (g : Sub B C) : Sub A C := fun a x => g a (h a x)
theorem Sep.symm {A B : AP} (h : Sep A B) : Sep B A := fun a x y => h a y x
theorem Sep.mono {A B A' B' : AP} (h : Sep A B) (x : Sub A' A) (y : Sub B' B) : Sep A' B' := fun a p q => h a (x a p) (y a q)
theorem sep_mt {A : AP} : Sep Mt A := fun _ h => h.elim
theorem mt_sep {A : AP} : Sep A Mt := fun _ _ h => h.elim
theorem sub_mt {A : AP} : Sub Mt A := fun _ h => h.elim
theorem al_mt {H : Hp} : Al H Mt := fun _ h => h.elim
theorem fr_mt {H : Hp} : Fr H Mt := fun _ h => h.elim
theorem cup_l {A B : AP} : Sub A (Cup A B) := fun _ h => .inl h
theorem cup_r {A B : AP} : Sub B (Cup A B) := fun _ h => .inr h
theorem cup_sub {A B C : AP} (h : Sub A C) (g : Sub B C) : Sub (Cup A B) C := fun a x => x.elim (h a) (g a)
theorem Sep.cup {A B C : AP} (h : Sep A B) (g : Sep A C) : Sep A (Cup B C) := fun a x y => y.elim (h a x) (g a x)
theorem Sep.cupl {A B C : AP} (h : Sep A C) (g : Sep B C) : Sep (Cup A B) C := fun a x y => x.elim (fun z => h a z y) fun z => g a z y
theorem Al.cup {H : Hp} {A B : AP} (h : Al H A) (g : Al H B) : Al H (Cup A B) := fun a x => x.elim (h a) (g a)
theorem Al.mono {H : Hp} {A B : AP} (h : Al H B) (s : Sub A B) : Al H A := fun a x => h a (s a x)
theorem But.sub {A : AP} {x : Addr} : Sub (But A x) A := fun _ h => h.1
theorem But.mono {A B : AP} {x : Addr} (h : Sub A B) : Sub (But A x) (But B x) := fun a p => ⟨h a p.1, p.2⟩
theorem fr_sep {H : Hp} {A B : AP} (h : Fr H B) (g : Al H A) : Sep A B := fun a x y => g a x (h a y)

/-! ### what stays of a heap -/
structure Pers (H H' : Hp) : Prop where
  t : ∀ a xs, H a = some (.tup xs) → H' a = some (.tup xs)
  z : ∀ a o u, H a = some (.frz o u) → H' a = some (.frz o u)
structure Keep (A : AP) (H H' : Hp) : Prop where
  p : Pers H H'
  k : ∀ a o, A a → H a = some o → H' a = some o
theorem Pers.refl (H : Hp) : Pers H H := ⟨fun _ _ h => h, fun _ _ _ h => h⟩
theorem Pers.trans {H H1 H2 : Hp} (x : Pers H H1) (y : Pers H1 H2) : Pers H H2 := ⟨fun a xs h => y.t a xs (x.t a xs h), fun a o u h => y.z a o u (x.z a o u h)⟩
theorem Pers.of {H H' : Hp} (s : Same H H') : Pers H H' := ⟨fun a xs h => s a _ h, fun a o u h => s a _ h⟩
theorem Keep.refl (A : AP) (H : Hp) : Keep A H H := ⟨Pers.refl H, fun _ _ _ h => h⟩
theorem Keep.trans {A : AP} {H H1 H2 : Hp} (x : Keep A H H1) (y : Keep A H1 H2) : Keep A H H2 := ⟨x.p.trans y.p, fun a o h e => y.k a o h (x.k a o h e)⟩
theorem Keep.mono {A B : AP} {H H' : Hp} (x : Keep B H H') (s : Sub A B) : Keep A H H' := ⟨x.p, fun a o h e => x.k a o (s a h) e⟩
theorem Keep.of {A : AP} {H H' : Hp} (s : Same H H') : Keep A H H' := ⟨Pers.of s, fun a o _ e => s a o e⟩
theorem Al.same {H H' : Hp} {A : AP} (h : Al H A) (s : Same H H') : Al H' A := fun a x e => by
  cases q : H a with
  | none => exact h a x q
  | some o => rw [s a o q] at e; cases e
theorem Al.keep {H H' : Hp} {A : AP} (h : Al H A) (s : Keep A H H') : Al H' A := fun a x e => by
  cases q : H a with
  | none => exact h a x q
  | some o => rw [s.k a o x q] at e; cases e
theorem same_upd {H : Hp} {p : Addr} {o : HO} (h : H p = none) : Same H (upd H p o) := fun b u e => by
  rw [upd_ne (ne_of_none e h)]; exact e
/-- a tracked thing that is no tuple and not frozen is written -/
theorem pers_upd {H : Hp} {p : Addr} {o u : HO} (h : H p = some u) (ht : ∀ xs, u ≠ .tup xs) (hz : ∀ q w, u ≠ .frz q w) : Pers H (upd H p o) :=
  ⟨fun a xs e => by rw [upd_ne (ne_of e h (fun z => ht xs z.symm))]; exact e, fun a q w e => by rw [upd_ne (ne_of e h (fun z => hz q w z.symm))]; exact e⟩
theorem keep_upd {A : AP} {H : Hp} {p : Addr} {o u : HO} (h : H p = some u) (ht : ∀ xs, u ≠ .tup xs) (hz : ∀ q w, u ≠ .frz q w) (n : ¬ A p) : Keep A H (upd H p o) :=
  ⟨pers_upd h ht hz, fun a q x e => by
    have z : a ≠ p := fun z => n (by rw [← z]; exact x)
    rw [upd_ne z]; exact e⟩
theorem Pers.sqt {K : PySem.W.Frag} {H H' : Hp} {a : Addr} {xs : List V} (e : Pers H H') (h : SqT K H a xs) : SqT K H' a xs := by
  rcases h with (h | ⟨o, h⟩) | h
  · exact .inl (.inl (e.t _ _ h))
  · exact .inl (.inr ⟨o, e.z _ _ _ h⟩)
  · exact .inr h

/-! ### data -/
inductive D where
  | non | bl (b : Bool) | int (i : Int) | str (s : Str) | op (v : V)
  | tup (ds : List D) | lst (ds : List D) | fls (ds : List D)
  | dk (ks : List Key) (ds : List D) | dt (ks : List (List Key)) (ds : List D)
  | ob (c : Nat) (ns : List Str) (ds : List D)
mutual
def imm : D → Bool
  | .non => true
  | .bl _ => true
  | .int _ => true
  | .str _ => true
  | .op _ => true
  | .tup ds => immL ds
  | .lst _ => false
  | .fls _ => true
  | .dk _ _ => false
  | .dt _ _ => false
  | .ob _ _ _ => false
def immL : List D → Bool
  | [] => true
  | d :: ds => imm d && immL ds
end

/-- a list that nobody changes: frozen, or of the written part -/
def Frz (K : PySem.W.Frag) (H : Hp) (a : Addr) (vs : List V) : Prop := (∃ o, H a = some (.frz o (.lst vs))) ∨
  ∃ (o : Obj) (its : Array Value) (n : Nat), K.lookup a = some o ∧ o.cls = .type "list" ∧ o.dict = none ∧ o.data = .seq its n ∧ its.size ≤ sizeLine ∧ Vals vs its.toList
theorem Frz.sql {K : PySem.W.Frag} {H : Hp} {a : Addr} {vs : List V} (h : Frz K H a vs) : SqL K H a vs := h.elim (fun ⟨o, e⟩ => .inl (.inr ⟨o, e⟩)) .inr
theorem Frz.pers {K : PySem.W.Frag} {H H' : Hp} {a : Addr} {vs : List V} (h : Frz K H a vs) (p : Pers H H') : Frz K H' a vs := h.elim (fun ⟨o, e⟩ => .inl ⟨o, p.z _ _ _ e⟩) .inr
mutual
inductive Own (K : PySem.W.Frag) (C : Nat → Addr) (H : Hp) : D → V → AP → Prop
  | non {A : AP} : Own K C H .non .non A
  | bl {A : AP} (b : Bool) : Own K C H (.bl b) (.bl b) A
  | int {A : AP} (i : Int) : Own K C H (.int i) (.int i) A
  | str {A : AP} (s : Str) : Own K C H (.str s) (.str s) A
  | op {A : AP} (v : V) : Own K C H (.op v) v A
  | tup {A : AP} {a : Addr} {vs : List V} {ds : List D} : H a = some (.tup vs) → OwnL K C H ds vs A → Own K C H (.tup ds) (.ref a) A
  | lst {A : AP} {a : Addr} {vs : List V} {ds : List D} : A a → H a = some (.lst vs) → OwnL K C H ds vs (But A a) → Own K C H (.lst ds) (.ref a) A
  | fls {A : AP} {a : Addr} {vs : List V} {ds : List D} : Frz K H a vs → OwnL K C H ds vs Mt → Own K C H (.fls ds) (.ref a) A
  | dk {A : AP} {a : Addr} {ks : List Key} {vs : List V} {ds : List D} : A a → ks.length = ds.length → H a = some (.dK (ks.zip vs)) → OwnL K C H ds vs (But A a) → Own K C H (.dk ks ds) (.ref a) A
  | dt {A : AP} {a : Addr} {ks : List (List Key)} {vs : List V} {ds : List D} : A a → ks.length = ds.length → H a = some (.dT (ks.zip vs)) → OwnL K C H ds vs (But A a) → Own K C H (.dt ks ds) (.ref a) A
  | ob {A : AP} {a dx : Addr} {c : Nat} {ns : List Str} {vs : List V} {ds : List D} : A a → ns.length = ds.length → H a = some (.ins (C c) dx (ns.zip vs)) → OwnL K C H ds vs (But A a) → Own K C H (.ob c ns ds) (.ref a) A
inductive OwnL (K : PySem.W.Frag) (C : Nat → Addr) (H : Hp) : List D → List V → AP → Prop
  | nil {A : AP} : OwnL K C H [] [] A
  | cons {A A1 A2 : AP} {d : D} {v : V} {ds : List D} {vs : List V} : Sep A1 A2 → Sub A1 A → Sub A2 A → Own K C H d v A1 → OwnL K C H ds vs A2 → OwnL K C H (d :: ds) (v :: vs) A
end

section
variable {K : PySem.W.Frag} {C : Nat → Addr} {H H' : Hp}
theorem OwnL.mono {A B : AP} {ds : List D} {vs : List V} (h : OwnL K C H ds vs A) (s : Sub A B) : OwnL K C H ds vs B := by
  cases h with
  | nil => exact .nil
  | cons a b c x y => exact .cons a (b.trans s) (c.trans s) x y
theorem Own.mono {A B : AP} {d : D} {v : V} (h : Own K C H d v A) (s : Sub A B) : Own K C H d v B := by
  cases h with
  | non => exact .non
  | bl b => exact .bl b
  | int j => exact .int j
  | str x => exact .str x
  | op _ => exact .op _
  | tup a b => exact .tup a (b.mono s)
  | lst a b c => exact .lst (s _ a) b (c.mono (But.mono s))
  | fls a b => exact .fls a b
  | dk a l b c => exact .dk (s _ a) l b (c.mono (But.mono s))
  | dt a l b c => exact .dt (s _ a) l b (c.mono (But.mono s))
  | ob a l b c => exact .ob (s _ a) l b (c.mono (But.mono s))
mutual
theorem Own.keep {A : AP} {d : D} {v : V} (h : Own K C H d v A) (s : Keep A H H') : Own K C H' d v A := by
  cases h with
  | non => exact .non
  | bl b => exact .bl b
  | int j => exact .int j
  | str x => exact .str x
  | op _ => exact .op _
  | tup a b => exact .tup (s.p.t _ _ a) (b.keep s)
  | lst a b c => exact .lst a (s.k _ _ a b) (c.keep (s.mono But.sub))
  | fls a b => exact .fls (a.pers s.p) (b.keep (s.mono sub_mt))
  | dk a l b c => exact .dk a l (s.k _ _ a b) (c.keep (s.mono But.sub))
  | dt a l b c => exact .dt a l (s.k _ _ a b) (c.keep (s.mono But.sub))
  | ob a l b c => exact .ob a l (s.k _ _ a b) (c.keep (s.mono But.sub))
theorem OwnL.keep {A : AP} {ds : List D} {vs : List V} (h : OwnL K C H ds vs A) (s : Keep A H H') : OwnL K C H' ds vs A := by
  cases h with
  | nil => exact .nil
  | cons a b c x y => exact .cons a b c (x.keep (s.mono b)) (y.keep (s.mono c))
end
theorem Own.same {A : AP} {d : D} {v : V} (h : Own K C H d v A) (s : Same H H') : Own K C H' d v A := h.keep (Keep.of s)
theorem OwnL.same {A : AP} {ds : List D} {vs : List V} (h : OwnL K C H ds vs A) (s : Same H H') : OwnL K C H' ds vs A := h.keep (Keep.of s)
mutual
theorem Own.imm {A B : AP} {d : D} {v : V} (h : Own K C H d v A) (i : imm d = true) : Own K C H d v B := by
  cases h with
  | non => exact .non
  | bl b => exact .bl b
  | int j => exact .int j
  | str x => exact .str x
  | op _ => exact .op _
  | tup a b => exact .tup a (b.imm (by rw [Dy.imm] at i; exact i))
  | lst a b c => rw [Dy.imm] at i; cases i
  | fls a b => exact .fls a b
  | dk a l b c => rw [Dy.imm] at i; cases i
  | dt a l b c => rw [Dy.imm] at i; cases i
  | ob a l b c => rw [Dy.imm] at i; cases i
theorem OwnL.imm {A B : AP} {ds : List D} {vs : List V} (h : OwnL K C H ds vs A) (i : immL ds = true) : OwnL K C H ds vs B := by
  cases h with
  | nil => exact .nil
  | cons a b c x y =>
    rw [immL, Bool.and_eq_true] at i
    exact .cons (A1 := Mt) (A2 := Mt) mt_sep sub_mt sub_mt (x.imm i.1) (y.imm i.2)
end
theorem OwnL.length {A : AP} {ds : List D} {vs : List V} (h : OwnL K C H ds vs A) : ds.length = vs.length := by
  induction ds generalizing vs A with
  | nil => cases h; rfl
  | cons d r ih => cases h with | cons a b c x y => rw [List.length_cons, List.length_cons, ih y]
/-- an immutable one stays whatever happens -/
theorem Own.pers {A B : AP} {d : D} {v : V} (h : Own K C H d v A) (i : Dy.imm d = true) (p : Pers H H') : Own K C H' d v B :=
  (Own.keep (A := Mt) (h.imm i) ⟨p, fun _ _ x => x.elim⟩).mono sub_mt
theorem OwnL.pers {A B : AP} {ds : List D} {vs : List V} (h : OwnL K C H ds vs A) (i : immL ds = true) (p : Pers H H') : OwnL K C H' ds vs B :=
  (OwnL.keep (A := Mt) (h.imm i) ⟨p, fun _ _ x => x.elim⟩).mono sub_mt

/-! ### lists of immutable ones -/
abbrev IL (K : PySem.W.Frag) (C : Nat → Addr) (H : Hp) (ds : List D) (vs : List V) : Prop := OwnL K C H ds vs Mt
theorem IL.cons {d : D} {v : V} {ds : List D} {vs : List V} (h : Own K C H d v Mt) (t : IL K C H ds vs) : IL K C H (d :: ds) (v :: vs) := OwnL.cons (A1 := Mt) (A2 := Mt) mt_sep sub_mt sub_mt h t
theorem IL.inv {d : D} {ds : List D} {vs : List V} (h : IL K C H (d :: ds) vs) : ∃ v r, vs = v :: r ∧ Own K C H d v Mt ∧ IL K C H ds r := by
  cases h with | cons a b c x y => exact ⟨_, _, rfl, x.mono b, y.mono c⟩
theorem IL.append : ∀ {ds es : List D} {vs ws : List V}, IL K C H ds vs → IL K C H es ws → IL K C H (ds ++ es) (vs ++ ws)
  | [], es, vs, ws, h, g => by cases h; exact g
  | d :: ds, es, vs, ws, h, g => by
    obtain ⟨v, r, rfl, x, y⟩ := h.inv
    exact IL.cons x (IL.append y g)
theorem IL.get : ∀ {ds : List D} {vs : List V} {i : Nat} {d : D}, IL K C H ds vs → ds[i]? = some d → ∃ v, vs[i]? = some v ∧ Own K C H d v Mt
  | [], _, _, _, _, e => by simp at e
  | x :: ds, vs, 0, d, h, e => by
    obtain ⟨v, r, rfl, x, y⟩ := h.inv
    simp at e; subst e
    exact ⟨v, rfl, x⟩
  | x :: ds, vs, i + 1, d, h, e => by
    obtain ⟨v, r, rfl, x, y⟩ := h.inv
    obtain ⟨u, h1, h2⟩ := IL.get (i := i) y (by simpa using e)
    exact ⟨u, by simpa using h1, h2⟩
theorem IL.take : ∀ {ds : List D} {vs : List V} (n : Nat), IL K C H ds vs → IL K C H (ds.take n) (vs.take n)
  | _, _, 0, _ => by simp; exact OwnL.nil
  | [], _, _ + 1, h => by cases h; exact .nil
  | d :: ds, _, n + 1, h => by
    obtain ⟨v, r, rfl, x, y⟩ := h.inv
    exact IL.cons x (IL.take n y)
theorem IL.drop : ∀ {ds : List D} {vs : List V} (n : Nat), IL K C H ds vs → IL K C H (ds.drop n) (vs.drop n)
  | _, _, 0, h => h
  | [], _, _ + 1, h => by cases h; exact .nil
  | d :: ds, _, n + 1, h => by
    obtain ⟨v, r, rfl, x, y⟩ := h.inv
    exact IL.drop n y
theorem IL.set {d : D} {v : V} (hd : Own K C H d v Mt) : ∀ {ds : List D} {vs : List V} (i : Nat), IL K C H ds vs → IL K C H (ds.set i d) (vs.set i v)
  | [], _, _, h => by cases h; exact .nil
  | x :: ds, _, 0, h => by
    obtain ⟨v, r, rfl, x, y⟩ := h.inv
    exact IL.cons hd y
  | x :: ds, _, n + 1, h => by
    obtain ⟨v, r, rfl, x, y⟩ := h.inv
    exact IL.cons x (IL.set hd n y)
theorem IL.eraseIdx : ∀ {ds : List D} {vs : List V} (i : Nat), IL K C H ds vs → IL K C H (ds.eraseIdx i) (vs.eraseIdx i)
  | [], _, _, h => by cases h; exact .nil
  | x :: ds, _, 0, h => by
    obtain ⟨v, r, rfl, x, y⟩ := h.inv
    exact y
  | x :: ds, _, n + 1, h => by
    obtain ⟨v, r, rfl, x, y⟩ := h.inv
    exact IL.cons x (IL.eraseIdx n y)
theorem IL.reverse : ∀ {ds : List D} {vs : List V}, IL K C H ds vs → IL K C H ds.reverse vs.reverse
  | [], _, h => by cases h; exact .nil
  | x :: ds, _, h => by
    obtain ⟨v, r, rfl, x, y⟩ := h.inv
    rw [List.reverse_cons, List.reverse_cons]
    exact IL.append (IL.reverse y) (IL.cons x .nil)
theorem IL.replicate {d : D} {v : V} (hd : Own K C H d v Mt) : ∀ n : Nat, IL K C H (List.replicate n d) (List.replicate n v)
  | 0 => .nil
  | n + 1 => IL.cons hd (IL.replicate hd n)
theorem immL_append : ∀ {ds es : List D}, immL (ds ++ es) = (immL ds && immL es)
  | [], es => by simp [immL]
  | d :: ds, es => by simp [immL, immL_append (ds := ds), Bool.and_assoc]
theorem immL_iff : ∀ {ds : List D}, immL ds = true ↔ ∀ d ∈ ds, imm d = true
  | [] => by simp [immL]
  | d :: ds => by simp [immL, immL_iff (ds := ds)]
end

/-! ### slots -/
inductive Sl where
  | no | own (d : D) | bor (d : D) | inn (d : D)
abbrev SS := List Sl
def SlOk (K : PySem.W.Frag) (C : Nat → Addr) (H : Hp) (L A : AP) : Sl → Option V → Prop
  | .no, _ => True
  | .own d, o => ∃ v, o = some v ∧ Own K C H d v A
  | .inn d, o => ∃ v, o = some v ∧ Own K C H d v A
  | .bor d, o => ∃ v, o = some v ∧ Own K C H d v L
/-- Φ: what must stay; Λ: what the lent slots may read; π: slots that bear an address of the caller's -/
structure RelA (K : PySem.W.Frag) (C : Nat → Addr) (Φ : AP) (Λ : Nat → AP) (π : Nat → Option V) (ss : SS) (σ : L2.St) (H : Hp) (As : Nat → AP) : Prop where
  al : Al H Φ
  sub : ∀ i, Sub (Λ i) Φ
  len : σ.length = ss.length
  pin : ∀ i v, π i = some v → σ[i]? = some (some v) ∧ ∃ d, ss[i]? = some (.inn d)
  aa : ∀ i, Al H (As i)
  af : ∀ i, Sep (As i) Φ
  ap : ∀ i j, i ≠ j → Sep (As i) (As j)
  ok : ∀ i s o, ss[i]? = some s → σ[i]? = some o → SlOk K C H (Λ i) (As i) s o
def Rel (K : PySem.W.Frag) (C : Nat → Addr) (Φ : AP) (Λ : Nat → AP) (π : Nat → Option V) (ss : SS) (σ : L2.St) (H : Hp) : Prop := ∃ As, RelA K C Φ Λ π ss σ H As
def Sl.val : Sl → Option D
  | .no => none
  | .own d => some d
  | .inn d => some d
  | .bor d => some d
def Sl.isInn : Sl → Bool
  | .inn _ => true
  | _ => false
/-- what may be read now -/
def Rb (K : PySem.W.Frag) (C : Nat → Addr) (H : Hp) (d : D) (v : V) : Prop := ∃ A, Al H A ∧ Own K C H d v A

section
variable {K : PySem.W.Frag} {C : Nat → Addr} {H H' : Hp} {Φ Φ' : AP} {Λ : Nat → AP} {π : Nat → Option V} {ss : SS} {σ : L2.St} {As : Nat → AP}
theorem SlOk.keep {L A : AP} {s : Sl} {o : Option V} (h : SlOk K C H L A s o) (k1 : Keep A H H') (k2 : Keep L H H') : SlOk K C H' L A s o := by
  cases s with
  | no => trivial
  | own d => obtain ⟨v, e, x⟩ := h; exact ⟨v, e, x.keep k1⟩
  | inn d => obtain ⟨v, e, x⟩ := h; exact ⟨v, e, x.keep k1⟩
  | bor d => obtain ⟨v, e, x⟩ := h; exact ⟨v, e, x.keep k2⟩
theorem RelA.same (r : RelA K C Φ Λ π ss σ H As) (s : Same H H') : RelA K C Φ Λ π ss σ H' As :=
  ⟨r.al.same s, r.sub, r.len, r.pin, fun i => (r.aa i).same s, r.af, r.ap, fun i a o e1 e2 => (r.ok i a o e1 e2).keep (Keep.of s) (Keep.of s)⟩
theorem Rel.same (r : Rel K C Φ Λ π ss σ H) (s : Same H H') : Rel K C Φ Λ π ss σ H' := let ⟨As, a⟩ := r; ⟨As, a.same s⟩
theorem Rel.shrink (r : Rel K C Φ' Λ π ss σ H) (s : Sub Φ Φ') (p : ∀ i, Sub (Λ i) Φ) : Rel K C Φ Λ π ss σ H := by
  obtain ⟨As, a⟩ := r
  exact ⟨As, a.al.mono s, p, a.len, a.pin, a.aa, fun i => (a.af i).mono (Sub.refl _) s, a.ap, a.ok⟩
theorem Rel.grow {B : AP} (r : Rel K C Φ Λ π ss σ H) (s : Same H H') (f : Fr H B) (al : Al H' B) : Rel K C (Cup Φ B) Λ π ss σ H' := by
  obtain ⟨As, a⟩ := r
  have a' := a.same s
  exact ⟨As, a'.al.cup al, fun i => (a'.sub i).trans cup_l, a'.len, a'.pin, a'.aa, fun i => (a'.af i).cup (fr_sep f (a.aa i)), a'.ap, a'.ok⟩
theorem Rel.psi (r : Rel K C Φ Λ π ss σ H) : ∀ i, Sub (Λ i) Φ := let ⟨_, a⟩ := r; a.sub
theorem Rel.al (r : Rel K C Φ Λ π ss σ H) : Al H Φ := let ⟨_, a⟩ := r; a.al
theorem Rel.len (r : Rel K C Φ Λ π ss σ H) : σ.length = ss.length := let ⟨_, a⟩ := r; a.len
theorem Rel.eqv (r : Rel K C Φ Λ π ss σ H) (h : Sub Φ Φ') (g : Sub Φ' Φ) : Rel K C Φ' Λ π ss σ H := by
  obtain ⟨As, a⟩ := r
  exact ⟨As, a.al.mono g, fun i => (a.sub i).trans h, a.len, a.pin, a.aa, fun i => (a.af i).mono (Sub.refl _) g, a.ap, a.ok⟩
/-- protecting nothing more -/
theorem Rel.mt (r : Rel K C Φ Λ π ss σ H) : Rel K C (Cup Φ Mt) Λ π ss σ H := r.eqv cup_l (cup_sub (Sub.refl _) sub_mt)
theorem Rb.same {d : D} {v : V} (r : Rb K C H d v) (s : Same H H') : Rb K C H' d v := let ⟨A, a, b⟩ := r; ⟨A, a.same s, b.same s⟩
theorem Rb.imm {d : D} {v : V} {B : AP} (r : Rb K C H d v) (i : imm d = true) : Own K C H d v B := let ⟨_, _, b⟩ := r; b.imm i
theorem rb_imm {d : D} {v : V} {A : AP} (h : Own K C H d v A) (i : imm d = true) : Rb K C H d v := ⟨Mt, al_mt, h.imm i⟩
theorem getσ {i : Nat} {s : Sl} (hl : σ.length = ss.length) (e : ss[i]? = some s) : ∃ o, σ[i]? = some o := by
  have hi : i < σ.length := by rw [hl]; exact (List.getElem?_eq_some_iff.mp e).1
  exact ⟨σ[i], List.getElem?_eq_getElem hi⟩
/-- a slot read -/
theorem Rel.get {i : Nat} {s : Sl} {d : D} (r : Rel K C Φ Λ π ss σ H) (e : ss[i]? = some s) (hd : s.val = some d) : ∃ v, σ[i]? = some (some v) ∧ Rb K C H d v := by
  obtain ⟨As, a⟩ := r
  obtain ⟨o, eo⟩ := getσ a.len e
  have q := a.ok i s _ e eo
  cases s with
  | no => cases hd
  | own x => cases hd; obtain ⟨v, z, w⟩ := q; exact ⟨v, by rw [eo, z], _, a.aa i, w⟩
  | inn x => cases hd; obtain ⟨v, z, w⟩ := q; exact ⟨v, by rw [eo, z], _, a.aa i, w⟩
  | bor x => cases hd; obtain ⟨v, z, w⟩ := q; exact ⟨v, by rw [eo, z], _, a.al.mono (a.sub i), w⟩
/-- a slot changed: s', o', with a set of its own -/
theorem RelA.upd {i : Nat} {s s' : Sl} {o' : Option V} {B : AP} (a : RelA K C Φ Λ π ss σ H As) (e : ss[i]? = some s) (n : (∃ x, s = .inn x) → (∃ y, s' = .inn y) ∧ σ[i]? = some o') (al : Al H B) (sep : Sep B Φ) (sep2 : ∀ j, j ≠ i → Sep B (As j))
    (ok : SlOk K C H (Λ i) B s' o') : RelA K C Φ Λ π (ss.set i s') (σ.set i o') H (fun j => if j = i then B else As j) := by
  have hi : i < ss.length := (List.getElem?_eq_some_iff.mp e).1
  refine ⟨a.al, a.sub, by rw [List.length_set, List.length_set]; exact a.len, fun j u hj => ?_, fun j => ?_, fun j => ?_, fun j k h => ?_, fun j t u h1 h2 => ?_⟩
  · obtain ⟨h1, x, h2⟩ := a.pin j u hj
    by_cases nj : i = j
    · subst nj
      rw [e] at h2
      obtain ⟨⟨y, ey⟩, z⟩ := n ⟨x, Option.some.inj h2⟩
      rw [h1] at z
      have z' : o' = some u := (Option.some.inj z).symm
      exact ⟨by rw [List.getElem?_set_self (by rw [a.len]; exact hi), z'], y, by rw [List.getElem?_set_self hi, ey]⟩
    · exact ⟨by rw [List.getElem?_set_ne nj]; exact h1, x, by rw [List.getElem?_set_ne nj]; exact h2⟩
  · show Al H (if j = i then B else As j)
    split
    · exact al
    · exact a.aa j
  · show Sep (if j = i then B else As j) Φ
    split
    · exact sep
    · exact a.af j
  · show Sep (if j = i then B else As j) (if k = i then B else As k)
    by_cases hj : j = i
    · have hk : k ≠ i := fun z => h (hj.trans z.symm)
      rw [if_pos hj, if_neg hk]
      exact sep2 k hk
    · rw [if_neg hj]
      by_cases hk : k = i
      · rw [if_pos hk]; exact (sep2 j hj).symm
      · rw [if_neg hk]; exact a.ap j k h
  · by_cases hj : i = j
    · subst hj
      rw [List.getElem?_set_self hi] at h1
      rw [List.getElem?_set_self (by rw [a.len]; exact hi)] at h2
      cases h1; cases h2
      show SlOk K C H (Λ i) (if i = i then B else As i) _ _
      rw [if_pos rfl]
      exact ok
    · rw [List.getElem?_set_ne hj] at h1 h2
      show SlOk K C H (Λ j) (if j = i then B else As j) _ _
      rw [if_neg (fun z => hj z.symm)]
      exact a.ok j t u h1 h2
/-- a slot stored: the value moves in -/
theorem Rel.put {i : Nat} {s : Sl} {d : D} {v : V} {B : AP} (r : Rel K C (Cup Φ B) Λ π ss σ H) (e : ss[i]? = some s) (n : s.isInn = false) (sep : Sep B Φ) (p : ∀ i, Sub (Λ i) Φ) (o : Own K C H d v B) : Rel K C Φ Λ π (ss.set i (.own d)) (σ.set i (some v)) H := by
  obtain ⟨As, a⟩ := r
  have b : RelA K C Φ Λ π ss σ H As := ⟨a.al.mono cup_l, p, a.len, a.pin, a.aa, fun j => (a.af j).mono (Sub.refl _) cup_l, a.ap, a.ok⟩
  exact ⟨_, b.upd (s' := .own d) (o' := some v) e (fun ⟨x, z⟩ => by rw [z] at n; cases n) (a.al.mono cup_r) sep (fun j _ => ((a.af j).mono (Sub.refl _) cup_r).symm) ⟨v, rfl, o⟩⟩
/-- a slot forgotten -/
theorem Rel.drop {i : Nat} {s : Sl} {o : Option V} (r : Rel K C Φ Λ π ss σ H) (e : ss[i]? = some s) (n : s.isInn = false) : Rel K C Φ Λ π (ss.set i .no) (σ.set i o) H := by
  obtain ⟨As, a⟩ := r
  exact ⟨_, a.upd (s' := .no) (o' := o) (B := Mt) e (fun ⟨x, z⟩ => by rw [z] at n; cases n) al_mt sep_mt (fun _ _ => sep_mt) trivial⟩
end
end Dy

/-! Results over slots; what a reading does to data: expressions, tests, arguments. -/
namespace Dy
open PySem L2
/-- an exception of one's own: which class, its one field -/
structure Xn where
  c : Nat
  fld : Option (Str × Int)
inductive R (α : Type) where
  | ok (a : α) (s : SS) | exc (x : Xn) (s : SS) | stuck
inductive RS where
  | nx (s : SS) | ret (d : D) (s : SS) | brk (s : SS) | ct (s : SS) | exc (x : Xn) (s : SS) | stuck
def R.bind {α β : Type} (r : R α) (f : α → SS → R β) : R β := match r with
  | .ok a s => f a s
  | .exc x s => .exc x s
  | .stuck => .stuck
def R.of {α : Type} (o : Option α) (s : SS) : R α := match o with
  | some a => .ok a s
  | none => .stuck
def R.thn {α : Type} (r : R α) (f : α → SS → RS) : RS := match r with
  | .ok a s => f a s
  | .exc x s => .exc x s
  | .stuck => .stuck
def RS.seq (r : RS) (f : SS → RS) : RS := match r with
  | .nx s => f s
  | o => o
def IsX (C : Nat → Addr) (H : Hp) (x : Xn) (cls : Value) (da : Option Addr) : Prop := cls = .ref (C x.c) ∧ ∀ f i, x.fld = some (f, i) → ∃ d, da = some d ∧ H d = some (.xd [(f, .int i)])

section
variable (K : PySem.W.Frag) (C : Nat → Addr) (W : WX)
def PostX (Φ : AP) (Λ : Nat → AP) (π : Nat → Option V) (σ : L2.St) (H : Hp) (x : Xn) (s : SS) : Prop := ∀ H' cls da, Keep Φ H H' → Rel K C Φ Λ π s σ H' → IsX C H' x cls da → W cls da σ H'
def PostE (Φ : AP) (Λ : Nat → AP) (π : Nat → Option V) (σ : L2.St) (H : Hp) (Q : VK) : R D → Prop
  | .ok d s => ∀ v H' B, Keep Φ H H' → Rel K C (Cup Φ B) Λ π s σ H' → Sep B Φ → Own K C H' d v B → Q v H'
  | .exc x s => PostX K C W Φ Λ π σ H x s
  | .stuck => False
def PostA (Φ : AP) (Λ : Nat → AP) (π : Nat → Option V) (σ : L2.St) (H : Hp) (Q : List V → Hp → Prop) : R (List D) → Prop
  | .ok ds s => ∀ vs H' B, Keep Φ H H' → Rel K C (Cup Φ B) Λ π s σ H' → Sep B Φ → OwnL K C H' ds vs B → Q vs H'
  | .exc x s => PostX K C W Φ Λ π σ H x s
  | .stuck => False
def PostT (Φ : AP) (Λ : Nat → AP) (π : Nat → Option V) (σ : L2.St) (H : Hp) (Q : Bool → Hp → Prop) : R Bool → Prop
  | .ok b s => ∀ H', Keep Φ H H' → Rel K C Φ Λ π s σ H' → Q b H'
  | .exc x s => PostX K C W Φ Λ π σ H x s
  | .stuck => False
def PostS (Φ : AP) (Λ : Nat → AP) (π : Nat → Option V) (H : Hp) (E : Ends) : RS → Prop
  | .nx s => ∀ σ' H', Keep Φ H H' → Rel K C Φ Λ π s σ' H' → E.nx σ' H'
  | .ret d s => ∀ v σ' H' B, Keep Φ H H' → Rel K C (Cup Φ B) Λ π s σ' H' → Sep B Φ → Own K C H' d v B → E.rt v H'
  | .brk s => ∀ σ' H', Keep Φ H H' → Rel K C Φ Λ π s σ' H' → E.bk σ' H'
  | .ct s => ∀ σ' H', Keep Φ H H' → Rel K C Φ Λ π s σ' H' → E.ct σ' H'
  | .exc x s => ∀ σ' H' cls da, Keep Φ H H' → Rel K C Φ Λ π s σ' H' → IsX C H' x cls da → W cls da σ' H'
  | .stuck => False
def SimE (t : TE) (F : SS → R D) : Prop := ∀ Φ Λ π ss σ H (Q : VK), Rel K C Φ Λ π ss σ H → PostE K C W Φ Λ π σ H Q (F ss) → t σ H Q
def SimA (t : TA) (F : SS → R (List D)) : Prop := ∀ Φ Λ π ss σ H (Q : List V → Hp → Prop), Rel K C Φ Λ π ss σ H → PostA K C W Φ Λ π σ H Q (F ss) → t σ H Q
def SimT (t : TT) (F : SS → R Bool) : Prop := ∀ Φ Λ π ss σ H (Q : Bool → Hp → Prop), Rel K C Φ Λ π ss σ H → PostT K C W Φ Λ π σ H Q (F ss) → t σ H Q
def SimS (t : TS) (F : SS → RS) : Prop := ∀ Φ Λ π ss σ H (E : Ends), Rel K C Φ Λ π ss σ H → PostS K C W Φ Λ π H E (F ss) → t E σ H
/-- pure ones: nothing changes but what is new; read now | new -/
def SimP (t : TE) (F : SS → Option D) : Prop := ∀ Φ Λ π ss σ H (Q : VK) d, Rel K C Φ Λ π ss σ H → F ss = some d → (∀ v H', Same H H' → Rb K C H' d v → Q v H') → t σ H Q
def SimF (t : TE) (F : SS → Option D) : Prop := ∀ Φ Λ π ss σ H (Q : VK) d, Rel K C Φ Λ π ss σ H → F ss = some d → (∀ v H' B, Same H H' → Fr H B → Al H' B → Own K C H' d v B → Q v H') → t σ H Q
def SimPT (t : TT) (F : SS → Option Bool) : Prop := ∀ Φ Λ π ss σ H (Q : Bool → Hp → Prop) b, Rel K C Φ Λ π ss σ H → F ss = some b → (∀ H', Same H H' → Q b H') → t σ H Q
inductive RbL (H : Hp) : List D → List V → Prop
  | nil : RbL H [] []
  | cons {d : D} {v : V} {ds : List D} {vs : List V} : Rb K C H d v → RbL H ds vs → RbL H (d :: ds) (v :: vs)
def SimPs (t : TA) (F : SS → Option (List D)) : Prop := ∀ Φ Λ π ss σ H (Q : List V → Hp → Prop) ds, Rel K C Φ Λ π ss σ H → F ss = some ds → (∀ vs H', Same H H' → RbL K C H' ds vs → Q vs H') → t σ H Q
end

section
variable {K : PySem.W.Frag} {C : Nat → Addr} {W : WX} {Φ Φ' : AP} {Λ : Nat → AP} {π : Nat → Option V} {ss : SS} {σ : L2.St} {H H' : Hp}
theorem RbL.same {ds : List D} {vs : List V} (r : RbL K C H ds vs) (s : Same H H') : RbL K C H' ds vs := by
  induction r with
  | nil => exact .nil
  | cons a _ ih => exact .cons (a.same s) ih
theorem OwnL.rb {ds : List D} : ∀ {vs : List V} {A : AP}, Al H A → OwnL K C H ds vs A → RbL K C H ds vs := by
  induction ds with
  | nil => intro vs A _ h; cases h; exact .nil
  | cons d r ih =>
    intro vs A al h
    cases h with | cons a b c x y => exact .cons ⟨_, al.mono b, x⟩ (ih (al.mono c) y)
theorem RbL.il {ds : List D} {vs : List V} (r : RbL K C H ds vs) (i : immL ds = true) : IL K C H ds vs := by
  induction r with
  | nil => exact .nil
  | cons a _ ih =>
    rw [immL, Bool.and_eq_true] at i
    exact IL.cons (a.imm i.1) (ih i.2)
/-- the way of an exception stays the way behind more that was kept -/
theorem PostX.more {B : AP} {x : Xn} {s : SS} {H1 : Hp} (p : PostX K C W Φ Λ π σ H x s) (k : Keep Φ H H1) (q : ∀ i, Sub (Λ i) Φ) : PostX K C W (Cup Φ B) Λ π σ H1 x s :=
  fun H' cls da k2 r ix => p H' cls da (k.trans (k2.mono cup_l)) (r.shrink cup_l q) ix
theorem PostX.seq {x : Xn} {s : SS} {H1 : Hp} (p : PostX K C W Φ Λ π σ H x s) (k : Keep Φ H H1) : PostX K C W Φ Λ π σ H1 x s :=
  fun H' cls da k2 r ix => p H' cls da (k.trans k2) r ix

/-! ### from pure to any -/
def eI (F : SS → Option D) : SS → R D := fun s => match F s with
  | some d => if imm d then .ok d s else .stuck
  | none => .stuck
def eN (F : SS → Option D) : SS → R D := fun s => R.of (F s) s
def tP (F : SS → Option Bool) : SS → R Bool := fun s => R.of (F s) s
theorem SimF.p {t : TE} {F : SS → Option D} (h : SimF K C t F) : SimP K C t F := fun Φ Λ π ss σ H Q d r e k => h Φ Λ π ss σ H Q d r e fun v H' B s f al o => k v H' s ⟨B, al, o⟩
theorem SimP.e {t : TE} {F : SS → Option D} (h : SimP K C t F) : SimE K C W t (eI F) := fun Φ Λ π ss σ H Q r p => by
  unfold eI at p
  cases e : F ss with
  | none => rw [e] at p; exact p.elim
  | some d =>
    rw [e] at p
    by_cases i : imm d = true
    · simp only [i, if_true] at p
      exact h Φ Λ π ss σ H Q d r e fun v H' s rb => p v H' Mt (Keep.of s) (r.same s).mt sep_mt (rb.imm i)
    · simp only [i] at p; exact p.elim
theorem SimF.e {t : TE} {F : SS → Option D} (h : SimF K C t F) : SimE K C W t (eN F) := fun Φ Λ π ss σ H Q r p => by
  unfold eN at p
  cases e : F ss with
  | none => rw [e] at p; exact p.elim
  | some d =>
    rw [e] at p
    exact h Φ Λ π ss σ H Q d r e fun v H' B s f al o => p v H' B (Keep.of s) (r.grow s f al) ((fr_sep f r.al).symm) o
theorem SimPT.e {t : TT} {F : SS → Option Bool} (h : SimPT K C t F) : SimT K C W t (tP F) := fun Φ Λ π ss σ H Q r p => by
  unfold tP at p
  cases e : F ss with
  | none => rw [e] at p; exact p.elim
  | some d =>
    rw [e] at p
    exact h Φ Λ π ss σ H Q d r e fun H' s => p H' (Keep.of s) (r.same s)
/-- a pure one that gives an immutable one is new too -/
def pI (F : SS → Option D) : SS → Option D := fun s => (F s).bind fun d => if imm d then some d else none
theorem SimP.f {t : TE} {F : SS → Option D} (h : SimP K C t F) : SimF K C t (pI F) := fun Φ Λ π ss σ H Q d r e k => by
  unfold pI at e
  cases q : F ss with
  | none => rw [q] at e; cases e
  | some x =>
    rw [q] at e
    by_cases i : imm x = true
    · simp only [Option.bind, i, if_true] at e
      cases e
      exact h Φ Λ π ss σ H Q d r q fun v H' s rb => k v H' Mt s fr_mt al_mt (rb.imm i)
    · simp only [Option.bind, i] at e; cases e

/-! ### names, constants -/
def fV (i : Nat) : SS → Option D := fun s => (s[i]?).bind Sl.val
def fC (d : D) : SS → Option D := fun _ => some d
theorem sp_var (i : Nat) : SimP K C (tVar i) (fV i) := fun Φ Λ π ss σ H Q d r e k => by
  unfold fV at e
  cases q : ss[i]? with
  | none => rw [q] at e; cases e
  | some s =>
    rw [q] at e
    obtain ⟨v, h1, h2⟩ := r.get q e
    exact ⟨v, h1, k v H (Same.refl H) h2⟩
def cD : V → D
  | .non => .non
  | .bl b => .bl b
  | .int i => .int i
  | .str s => .str s
  | v => .op v
theorem own_c (v : V) {A : AP} : Own K C H (cD v) v A := by cases v <;> first | exact .non | exact .bl _ | exact .int _ | exact .str _ | exact .op _
theorem sf_c (v : V) : SimF K C (tC v) (fC (cD v)) := fun Φ Λ π ss σ H Q d r e k => by
  cases e
  exact k v H Mt (Same.refl H) fr_mt al_mt (own_c v)

/-! ### operators -/
def OpS (K : PySem.W.Frag) (C : Nat → Addr) (r : R2) (f : D → D → Option D) : Prop :=
  ∀ H x y dx dy z (Q : VK), Rb K C H dx x → Rb K C H dy y → f dx dy = some z → (∀ v H' B, Same H H' → Fr H B → Al H' B → Own K C H' z v B → Q v H') → r x y H Q
def p2 (f : D → D → Option D) (F G : SS → Option D) : SS → Option D := fun s => (F s).bind fun a => (G s).bind fun b => f a b
def e2 (f : D → D → Option D) (F G : SS → R D) : SS → R D := fun s => (F s).bind fun a s1 => (G s1).bind fun b s2 => R.of (f a b) s2
theorem sf_op {r : R2} {f : D → D → Option D} {ta tb : TE} {F G : SS → Option D} (ho : OpS K C r f) (ha : SimP K C ta F) (hb : SimP K C tb G) : SimF K C (tOp r ta tb) (p2 f F G) := fun Φ Λ π ss σ H Q d rel e k => by
  unfold p2 at e
  cases ea : F ss with
  | none => rw [ea] at e; cases e
  | some x =>
    cases eb : G ss with
    | none => rw [ea, eb] at e; cases e
    | some y =>
      rw [ea, eb] at e
      refine ha Φ Λ π ss σ H _ x rel ea fun v H1 s1 r1 => ?_
      refine hb Φ Λ π ss σ H1 _ y (rel.same s1) eb fun u H2 s2 r2 => ?_
      exact ho H2 v u x y d Q (r1.same s2) r2 e fun w H3 B s3 f al o => k w H3 B ((s1.trans s2).trans s3) (fun a z => (s1.trans s2).free (f a z)) al o
/-- behind two values -/
theorem e2_core {x y : D} {v u : V} {s1 s2 : SS} {H1 H2 : Hp} {B1 B2 : AP} (k1 : Keep Φ H H1) (r1 : Rel K C (Cup Φ B1) Λ π s1 σ H1) (sp1 : Sep B1 Φ) (o1 : Own K C H1 x v B1) (k2 : Keep (Cup Φ B1) H1 H2) (r2 : Rel K C (Cup (Cup Φ B1) B2) Λ π s2 σ H2) (sp2 : Sep B2 (Cup Φ B1)) (o2 : Own K C H2 y u B2)
    (psi : ∀ i, Sub (Λ i) Φ) : Rb K C H2 x v ∧ Rb K C H2 y u ∧ Keep Φ H H2 ∧ Rel K C Φ Λ π s2 σ H2 :=
  ⟨⟨B1, (r1.al.keep k2).mono cup_r, o1.keep (k2.mono cup_r)⟩, ⟨B2, r2.al.mono cup_r, o2⟩, k1.trans (k2.mono cup_l), r2.shrink (cup_l.trans cup_l) psi⟩
theorem se_op {r : R2} {f : D → D → Option D} {ta tb : TE} {F G : SS → R D} (ho : OpS K C r f) (ha : SimE K C W ta F) (hb : SimE K C W tb G) : SimE K C W (tOp r ta tb) (e2 f F G) := fun Φ Λ π ss σ H Q rel p => by
  unfold e2 at p
  refine ha Φ Λ π ss σ H _ rel ?_
  cases ea : F ss with
  | stuck => rw [ea] at p; exact p
  | exc x s => rw [ea] at p; exact p
  | ok x s1 =>
    rw [ea] at p
    intro v H1 B1 k1 r1 sp1 o1
    refine hb (Cup Φ B1) Λ π s1 σ H1 _ r1 ?_
    have p' : PostE K C W Φ Λ π σ H Q ((G s1).bind fun b s2 => R.of (f x b) s2) := p
    cases eb : G s1 with
    | stuck => rw [eb] at p'; exact p'
    | exc x s => rw [eb] at p'; exact PostX.more p' k1 rel.psi
    | ok y s2 =>
      rw [eb] at p'
      intro u H2 B2 k2 r2 sp2 o2
      obtain ⟨q1, q2, q3, q4⟩ := e2_core k1 r1 sp1 o1 k2 r2 sp2 o2 rel.psi
      have p'' : PostE K C W Φ Λ π σ H Q (R.of (f x y) s2) := p'
      cases ez : f x y with
      | none => rw [ez] at p''; exact p''.elim
      | some z =>
        rw [ez] at p''
        exact ho H2 v u x y z Q q1 q2 ez fun w H3 B s3 fr al o => p'' w H3 B (q3.trans (Keep.of s3)) (q4.grow s3 fr al) ((fr_sep fr q4.al).symm) o
/-- either of two rules -/
def orF (f g : D → D → Option D) : D → D → Option D := fun a b => (f a b).orElse fun _ => g a b
theorem ops_or {r q : R2} {f g : D → D → Option D} (h : OpS K C r f) (h2 : OpS K C q g) : OpS K C (fun x y H Q => r x y H Q ∨ q x y H Q) (orF f g) := fun H x y dx dy z Q a b e k => by
  unfold orF at e
  cases q1 : f dx dy with
  | some w => rw [q1] at e; cases e; exact .inl (h H x y dx dy _ Q a b q1 k)
  | none => rw [q1] at e; exact .inr (h2 H x y dx dy z Q a b e k)

/-! ### unary, calls by values -/
def UnS (K : PySem.W.Frag) (C : Nat → Addr) (r : V → Hp → VK → Prop) (f : D → Option D) : Prop :=
  ∀ H x dx z (Q : VK), Rb K C H dx x → f dx = some z → (∀ v H' B, Same H H' → Fr H B → Al H' B → Own K C H' z v B → Q v H') → r x H Q
def CallS (K : PySem.W.Frag) (C : Nat → Addr) (r : List V → Hp → VK → Prop) (f : List D → Option D) : Prop :=
  ∀ H vs ds z (Q : VK), RbL K C H ds vs → f ds = some z → (∀ v H' B, Same H H' → Fr H B → Al H' B → Own K C H' z v B → Q v H') → r vs H Q
def p1 {α β : Type} (f : α → Option β) (F : SS → Option α) : SS → Option β := fun s => (F s).bind f
def e1 {α β : Type} (f : α → Option β) (F : SS → R α) : SS → R β := fun s => (F s).bind fun a s1 => R.of (f a) s1
theorem sf_un {r : V → Hp → VK → Prop} {f : D → Option D} {ta : TE} {F : SS → Option D} (ho : UnS K C r f) (ha : SimP K C ta F) : SimF K C (tUn r ta) (p1 f F) := fun Φ Λ π ss σ H Q d rel e k => by
  unfold p1 at e
  cases ea : F ss with
  | none => rw [ea] at e; cases e
  | some x =>
    rw [ea] at e
    refine ha Φ Λ π ss σ H _ x rel ea fun v H1 s1 r1 => ?_
    exact ho H1 v x d Q r1 e fun w H3 B s3 f al o => k w H3 B (s1.trans s3) (fun a z => s1.free (f a z)) al o
theorem sf_call {r : List V → Hp → VK → Prop} {f : List D → Option D} {ta : TA} {F : SS → Option (List D)} (ho : CallS K C r f) (ha : SimPs K C ta F) : SimF K C (tCB r ta) (p1 f F) := fun Φ Λ π ss σ H Q d rel e k => by
  unfold p1 at e
  cases ea : F ss with
  | none => rw [ea] at e; cases e
  | some x =>
    rw [ea] at e
    refine ha Φ Λ π ss σ H _ x rel ea fun v H1 s1 r1 => ?_
    exact ho H1 v x d Q r1 e fun w H3 B s3 f al o => k w H3 B (s1.trans s3) (fun a z => s1.free (f a z)) al o
theorem se_un {r : V → Hp → VK → Prop} {f : D → Option D} {ta : TE} {F : SS → R D} (ho : UnS K C r f) (ha : SimE K C W ta F) : SimE K C W (tUn r ta) (e1 f F) := fun Φ Λ π ss σ H Q rel p => by
  unfold e1 at p
  refine ha Φ Λ π ss σ H _ rel ?_
  cases ea : F ss with
  | stuck => rw [ea] at p; exact p
  | exc x s => rw [ea] at p; exact p
  | ok x s1 =>
    rw [ea] at p
    intro v H1 B1 k1 r1 sp1 o1
    have p' : PostE K C W Φ Λ π σ H Q (R.of (f x) s1) := p
    cases ez : f x with
    | none => rw [ez] at p'; exact p'.elim
    | some z =>
      rw [ez] at p'
      have q4 := r1.shrink cup_l rel.psi
      exact ho H1 v x z Q ⟨B1, r1.al.mono cup_r, o1⟩ ez fun w H3 B s3 fr al o => p' w H3 B (k1.trans (Keep.of s3)) (q4.grow s3 fr al) ((fr_sep fr q4.al).symm) o
theorem se_call {r : List V → Hp → VK → Prop} {f : List D → Option D} {ta : TA} {F : SS → R (List D)} (ho : CallS K C r f) (ha : SimA K C W ta F) : SimE K C W (tCB r ta) (e1 f F) := fun Φ Λ π ss σ H Q rel p => by
  unfold e1 at p
  refine ha Φ Λ π ss σ H _ rel ?_
  cases ea : F ss with
  | stuck => rw [ea] at p; exact p
  | exc x s => rw [ea] at p; exact p
  | ok x s1 =>
    rw [ea] at p
    intro v H1 B1 k1 r1 sp1 o1
    have p' : PostE K C W Φ Λ π σ H Q (R.of (f x) s1) := p
    cases ez : f x with
    | none => rw [ez] at p'; exact p'.elim
    | some z =>
      rw [ez] at p'
      have q4 := r1.shrink cup_l rel.psi
      exact ho H1 v x z Q (o1.rb (r1.al.mono cup_r)) ez fun w H3 B s3 fr al o => p' w H3 B (k1.trans (Keep.of s3)) (q4.grow s3 fr al) ((fr_sep fr q4.al).symm) o
def orL (f g : List D → Option D) : List D → Option D := fun a => (f a).orElse fun _ => g a
theorem calls_or {r q : List V → Hp → VK → Prop} {f g : List D → Option D} (h : CallS K C r f) (h2 : CallS K C q g) : CallS K C (fun x H Q => r x H Q ∨ q x H Q) (orL f g) := fun H x dx z Q a e k => by
  unfold orL at e
  cases q1 : f dx with
  | some w => rw [q1] at e; cases e; exact .inl (h H x dx _ Q a q1 k)
  | none => rw [q1] at e; exact .inr (h2 H x dx z Q a e k)

/-! ### arguments -/
def psN : SS → Option (List D) := fun _ => some []
def psC (F : SS → Option D) (G : SS → Option (List D)) : SS → Option (List D) := fun s => (F s).bind fun a => (G s).bind fun r => some (a :: r)
def eaN : SS → R (List D) := fun s => .ok [] s
def eaC (F : SS → R D) (G : SS → R (List D)) : SS → R (List D) := fun s => (F s).bind fun a s1 => (G s1).bind fun r s2 => .ok (a :: r) s2
theorem sps_nil : SimPs K C tNil psN := fun Φ Λ π ss σ H Q ds r e k => by cases e; exact k [] H (Same.refl H) .nil
theorem sps_cons {ta : TE} {tr : TA} {F : SS → Option D} {G : SS → Option (List D)} (ha : SimP K C ta F) (hr : SimPs K C tr G) : SimPs K C (tCons ta tr) (psC F G) := fun Φ Λ π ss σ H Q ds rel e k => by
  unfold psC at e
  cases ea : F ss with
  | none => rw [ea] at e; cases e
  | some x =>
    cases eb : G ss with
    | none => rw [ea, eb] at e; cases e
    | some y =>
      rw [ea, eb] at e; cases e
      refine ha Φ Λ π ss σ H _ x rel ea fun v H1 s1 r1 => ?_
      exact hr Φ Λ π ss σ H1 _ y (rel.same s1) eb fun u H2 s2 r2 => k _ _ (s1.trans s2) (.cons (r1.same s2) r2)
theorem sea_nil : SimA K C W tNil eaN := fun Φ Λ π ss σ H Q r p => p [] H Mt (Keep.refl _ _) r.mt sep_mt .nil
theorem sea_cons {ta : TE} {tr : TA} {F : SS → R D} {G : SS → R (List D)} (ha : SimE K C W ta F) (hr : SimA K C W tr G) : SimA K C W (tCons ta tr) (eaC F G) := fun Φ Λ π ss σ H Q rel p => by
  unfold eaC at p
  refine ha Φ Λ π ss σ H _ rel ?_
  cases ea : F ss with
  | stuck => rw [ea] at p; exact p
  | exc x s => rw [ea] at p; exact p
  | ok x s1 =>
    rw [ea] at p
    intro v H1 B1 k1 r1 sp1 o1
    refine hr (Cup Φ B1) Λ π s1 σ H1 _ r1 ?_
    have p' : PostA K C W Φ Λ π σ H Q ((G s1).bind fun b s2 => .ok (x :: b) s2) := p
    cases eb : G s1 with
    | stuck => rw [eb] at p'; exact p'
    | exc x s => rw [eb] at p'; exact PostX.more p' k1 rel.psi
    | ok y s2 =>
      rw [eb] at p'
      intro us H2 B2 k2 r2 sp2 o2
      refine p' (v :: us) H2 (Cup B1 B2) (k1.trans (k2.mono cup_l)) (r2.eqv ?_ ?_) (sp1.cupl (sp2.mono (Sub.refl _) cup_l)) ?_
      · exact cup_sub (cup_sub cup_l (cup_l.trans cup_r)) (cup_r.trans cup_r)
      · exact cup_sub (cup_l.trans cup_l) (cup_sub (cup_r.trans cup_l) cup_r)
      · exact .cons (A1 := B1) (A2 := B2) (sp2.mono (Sub.refl _) cup_r).symm cup_l cup_r (o1.keep (k2.mono cup_r)) o2

/-! ### displays -/
theorem sl100 {n : Nat} (h : n ≤ 1000000) : n ≤ sizeLine := Nat.le_trans h (by decide)
def fTup (ds : List D) : Option D := if immL ds = true ∧ ds.length ≤ 1000000 then some (.tup ds) else none
def fLst (ds : List D) : Option D := if immL ds = true ∧ ds.length ≤ 1000000 then some (.lst ds) else none
theorem one_fr {p : Addr} (h : H p = none) : Fr H (One p) := fun a e => by
  have e' : a = p := e
  rw [e']; exact h
theorem one_al {p : Addr} {o : HO} : Al (upd H p o) (One p) := fun a e => by
  have e' : a = p := e
  rw [e', upd_same]; exact fun z => by cases z
theorem new_lst {ds : List D} {vs : List V} {p : Addr} (i : IL K C H ds vs) (h : H p = none) : Own K C (upd H p (.lst vs)) (.lst ds) (.ref p) (One p) :=
  .lst rfl upd_same ((i.same (same_upd h)).mono sub_mt)
theorem new_tup {ds : List D} {vs : List V} {p : Addr} {A : AP} (i : OwnL K C H ds vs A) (h : H p = none) : Own K C (upd H p (.tup vs)) (.tup ds) (.ref p) A :=
  .tup upd_same (i.same (same_upd h))
theorem sf_tup {ta : TA} {F : SS → Option (List D)} (ha : SimPs K C ta F) : SimF K C (tTup ta) (p1 fTup F) := fun Φ Λ π ss σ H Q d rel e k => by
  unfold p1 at e
  cases ea : F ss with
  | none => rw [ea] at e; cases e
  | some ds =>
    rw [ea] at e
    have e' : fTup ds = some d := e
    unfold fTup at e'
    split at e'
    · rename_i c
      cases e'
      refine ha Φ Λ π ss σ H _ ds rel ea fun vs H1 s1 r1 => ?_
      have il := r1.il c.1
      refine ⟨by rw [← il.length]; exact sl100 c.2, fun p hp => ?_⟩
      exact k _ _ Mt (s1.trans (same_upd hp)) fr_mt al_mt (new_tup il hp)
    · cases e'
theorem sf_lst {ta : TA} {F : SS → Option (List D)} (ha : SimPs K C ta F) : SimF K C (tLst ta) (p1 fLst F) := fun Φ Λ π ss σ H Q d rel e k => by
  unfold p1 at e
  cases ea : F ss with
  | none => rw [ea] at e; cases e
  | some ds =>
    rw [ea] at e
    have e' : fLst ds = some d := e
    unfold fLst at e'
    split at e'
    · rename_i c
      cases e'
      refine ha Φ Λ π ss σ H _ ds rel ea fun vs H1 s1 r1 => ?_
      have il := r1.il c.1
      refine ⟨by rw [← il.length]; exact sl100 c.2, fun p hp => ?_⟩
      exact k _ _ (One p) (s1.trans (same_upd hp)) (one_fr (s1.free hp)) one_al (new_lst il hp)
    · cases e'
/-- the items may own -/
def gTupD (ds : List D) : Option D := if ds.length ≤ 1000000 then some (.tup ds) else none
def gLstD (ds : List D) : Option D := if ds.length ≤ 1000000 then some (.lst ds) else none
theorem se_tup {ta : TA} {F : SS → R (List D)} (ha : SimA K C W ta F) : SimE K C W (tTup ta) (e1 gTupD F) := fun Φ Λ π ss σ H Q rel p => by
  unfold e1 at p
  refine ha Φ Λ π ss σ H _ rel ?_
  cases ea : F ss with
  | stuck => rw [ea] at p; exact p
  | exc x s => rw [ea] at p; exact p
  | ok ds s1 =>
    rw [ea] at p
    intro vs H1 B1 k1 r1 sp1 o1
    have p' : PostE K C W Φ Λ π σ H Q (R.of (gTupD ds) s1) := p
    unfold gTupD at p'
    split at p'
    · rename_i c
      refine ⟨by rw [← o1.length]; exact sl100 c, fun p hp => ?_⟩
      have s3 : Same H1 (upd H1 p (.tup vs)) := same_upd hp
      exact p' _ _ B1 (k1.trans (Keep.of s3)) (r1.same s3) sp1 (new_tup o1 hp)
    · exact p'.elim
theorem se_lst {ta : TA} {F : SS → R (List D)} (ha : SimA K C W ta F) : SimE K C W (tLst ta) (e1 gLstD F) := fun Φ Λ π ss σ H Q rel p => by
  unfold e1 at p
  refine ha Φ Λ π ss σ H _ rel ?_
  cases ea : F ss with
  | stuck => rw [ea] at p; exact p
  | exc x s => rw [ea] at p; exact p
  | ok ds s1 =>
    rw [ea] at p
    intro vs H1 B1 k1 r1 sp1 o1
    have p' : PostE K C W Φ Λ π σ H Q (R.of (gLstD ds) s1) := p
    unfold gLstD at p'
    split at p'
    · rename_i c
      refine ⟨by rw [← o1.length]; exact sl100 c, fun p hp => ?_⟩
      have s3 : Same H1 (upd H1 p (.lst vs)) := same_upd hp
      have npB : Sep B1 (One p) := fun a x y => by
        have y' : a = p := y
        subst y'
        exact r1.al a (.inr x) hp
      refine p' _ _ (Cup B1 (One p)) (k1.trans (Keep.of s3)) ((r1.grow s3 (one_fr hp) one_al).eqv ?_ ?_) (sp1.cupl (fr_sep (one_fr hp) (r1.al.mono cup_l)).symm) ?_
      · exact cup_sub (cup_sub cup_l (cup_l.trans cup_r)) (cup_r.trans cup_r)
      · exact cup_sub (cup_l.trans cup_l) (cup_sub (cup_r.trans cup_l) cup_r)
      · refine .lst (.inr rfl) upd_same ((o1.same s3).mono fun a x => ⟨.inl x, fun z => npB a x z⟩)
    · exact p'.elim

/-! ### tests -/
def asB : D → Option Bool
  | .bl b => some b
  | _ => none
theorem own_bl {d : D} {v : V} {A : AP} {b : Bool} (h : Own K C H d v A) (e : asB d = some b) : v = .bl b := by
  cases d <;> simp [asB] at e
  subst e
  cases h; rfl
theorem spt_b {t : TE} {F : SS → Option D} (h : SimP K C t F) : SimPT K C (tB t) (p1 asB F) := fun Φ Λ π ss σ H Q b r e k => by
  unfold p1 at e
  cases q : F ss with
  | none => rw [q] at e; cases e
  | some d =>
    rw [q] at e
    exact h Φ Λ π ss σ H _ d r q fun v H' s ⟨A, al, o⟩ => ⟨b, own_bl o e, k H' s⟩
theorem spt_test {t : TE} {F : SS → Option D} (h : SimP K C t F) : SimPT K C (tTest t) (p1 asB F) := fun Φ Λ π ss σ H Q b r e k => by
  unfold p1 at e
  cases q : F ss with
  | none => rw [q] at e; cases e
  | some d =>
    rw [q] at e
    exact h Φ Λ π ss σ H _ d r q fun v H' s ⟨A, al, o⟩ => ⟨b, own_bl o e, k H' s⟩
theorem st_b {t : TE} {F : SS → R D} (h : SimE K C W t F) : SimT K C W (tB t) (e1 asB F) := fun Φ Λ π ss σ H Q r p => by
  unfold e1 at p
  refine h Φ Λ π ss σ H _ r ?_
  cases q : F ss with
  | stuck => rw [q] at p; exact p
  | exc x s => rw [q] at p; exact p
  | ok d s1 =>
    rw [q] at p
    intro v H1 B1 k1 r1 sp1 o1
    have p' : PostT K C W Φ Λ π σ H Q (R.of (asB d) s1) := p
    cases eb : asB d with
    | none => rw [eb] at p'; exact p'.elim
    | some b =>
      rw [eb] at p'
      exact ⟨b, own_bl o1 eb, p' H1 k1 (r1.shrink cup_l r.psi)⟩
theorem st_test {t : TE} {F : SS → R D} (h : SimE K C W t F) : SimT K C W (tTest t) (e1 asB F) := st_b (t := t) h
def pNot (F : SS → Option Bool) : SS → Option Bool := fun s => (F s).map fun b => !b
def pAnd (F G : SS → Option Bool) : SS → Option Bool := fun s => (F s).bind fun b => if b = true then G s else some false
def pOr (F G : SS → Option Bool) : SS → Option Bool := fun s => (F s).bind fun b => if b = true then some true else G s
def rNot (F : SS → R Bool) : SS → R Bool := fun s => (F s).bind fun b s1 => .ok (!b) s1
def rAnd' (F G : SS → R Bool) : SS → R Bool := fun s => (F s).bind fun b s1 => if b = true then G s1 else .ok false s1
def rOr' (F G : SS → R Bool) : SS → R Bool := fun s => (F s).bind fun b s1 => if b = true then .ok true s1 else G s1
theorem spt_not {t : TT} {F : SS → Option Bool} (h : SimPT K C t F) : SimPT K C (tNot t) (pNot F) := fun Φ Λ π ss σ H Q b r e k => by
  unfold pNot at e
  cases q : F ss with
  | none => rw [q] at e; cases e
  | some c =>
    rw [q] at e; cases e
    exact h Φ Λ π ss σ H _ c r q fun H' s => k H' s
theorem spt_and {t u : TT} {F G : SS → Option Bool} (h : SimPT K C t F) (g : SimPT K C u G) : SimPT K C (tAnd t u) (pAnd F G) := fun Φ Λ π ss σ H Q b r e k => by
  unfold pAnd at e
  cases q : F ss with
  | none => rw [q] at e; cases e
  | some c =>
    rw [q] at e
    refine h Φ Λ π ss σ H _ c r q fun H' s => ?_
    have e' : (if c = true then G ss else some false) = some b := e
    split
    · rename_i z; rw [if_pos z] at e'; exact g Φ Λ π ss σ H' _ b (r.same s) e' fun H2 s2 => k H2 (s.trans s2)
    · rename_i z; rw [if_neg z] at e'; cases e'; exact k H' s
theorem spt_or {t u : TT} {F G : SS → Option Bool} (h : SimPT K C t F) (g : SimPT K C u G) : SimPT K C (tOr t u) (pOr F G) := fun Φ Λ π ss σ H Q b r e k => by
  unfold pOr at e
  cases q : F ss with
  | none => rw [q] at e; cases e
  | some c =>
    rw [q] at e
    refine h Φ Λ π ss σ H _ c r q fun H' s => ?_
    have e' : (if c = true then some true else G ss) = some b := e
    split
    · rename_i z; rw [if_pos z] at e'; cases e'; exact k H' s
    · rename_i z; rw [if_neg z] at e'; exact g Φ Λ π ss σ H' _ b (r.same s) e' fun H2 s2 => k H2 (s.trans s2)
theorem st_not {t : TT} {F : SS → R Bool} (h : SimT K C W t F) : SimT K C W (tNot t) (rNot F) := fun Φ Λ π ss σ H Q r p => by
  unfold rNot at p
  refine h Φ Λ π ss σ H _ r ?_
  cases q : F ss with
  | stuck => rw [q] at p; exact p
  | exc x s => rw [q] at p; exact p
  | ok d s1 => rw [q] at p; exact fun H1 k1 r1 => p H1 k1 r1
theorem st_and {t u : TT} {F G : SS → R Bool} (h : SimT K C W t F) (g : SimT K C W u G) : SimT K C W (tAnd t u) (rAnd' F G) := fun Φ Λ π ss σ H Q r p => by
  unfold rAnd' at p
  refine h Φ Λ π ss σ H _ r ?_
  cases q : F ss with
  | stuck => rw [q] at p; exact p
  | exc x s => rw [q] at p; exact p
  | ok d s1 =>
    rw [q] at p
    intro H1 k1 r1
    have p' : PostT K C W Φ Λ π σ H Q (if d = true then G s1 else .ok false s1) := p
    split
    · rename_i z; rw [if_pos z] at p'
      refine g Φ Λ π s1 σ H1 _ r1 ?_
      cases q2 : G s1 with
      | stuck => rw [q2] at p'; exact p'
      | exc x s => rw [q2] at p'; exact PostX.seq p' k1
      | ok c s2 => rw [q2] at p'; exact fun H2 k2 r2 => p' H2 (k1.trans k2) r2
    · rename_i z; rw [if_neg z] at p'; exact p' H1 k1 r1
theorem st_or {t u : TT} {F G : SS → R Bool} (h : SimT K C W t F) (g : SimT K C W u G) : SimT K C W (tOr t u) (rOr' F G) := fun Φ Λ π ss σ H Q r p => by
  unfold rOr' at p
  refine h Φ Λ π ss σ H _ r ?_
  cases q : F ss with
  | stuck => rw [q] at p; exact p
  | exc x s => rw [q] at p; exact p
  | ok d s1 =>
    rw [q] at p
    intro H1 k1 r1
    have p' : PostT K C W Φ Λ π σ H Q (if d = true then .ok true s1 else G s1) := p
    split
    · rename_i z; rw [if_pos z] at p'; exact p' H1 k1 r1
    · rename_i z; rw [if_neg z] at p'
      refine g Φ Λ π s1 σ H1 _ r1 ?_
      cases q2 : G s1 with
      | stuck => rw [q2] at p'; exact p'
      | exc x s => rw [q2] at p'; exact PostX.seq p' k1
      | ok c s2 => rw [q2] at p'; exact fun H2 k2 r2 => p' H2 (k1.trans k2) r2
/-! ### and, or, not as values; a if t else b -/
def pBl (F : SS → Option Bool) : SS → Option D := fun s => (F s).map D.bl
def eBl (F : SS → R Bool) : SS → R D := fun s => (F s).bind fun b s1 => .ok (.bl b) s1
theorem sf_andV {ta tb : TE} {F G : SS → Option D} (h : SimP K C ta F) (g : SimP K C tb G) : SimF K C (tAndV ta tb) (pBl (pAnd (p1 asB F) (p1 asB G))) := fun Φ Λ π ss σ H Q d r e k => by
  unfold pBl pAnd p1 at e
  cases q : F ss with
  | none => rw [q] at e; cases e
  | some x =>
    rw [q] at e
    refine h Φ Λ π ss σ H _ x r q fun v H1 s1 ⟨A, al, o⟩ => ?_
    cases eb : asB x with
    | none => simp [eb] at e
    | some b =>
      refine ⟨b, own_bl o eb, ?_⟩
      simp only [eb, Option.bind] at e
      split
      · rename_i z; rw [if_pos z] at e
        cases q2 : G ss with
        | none => rw [q2] at e; cases e
        | some y =>
          rw [q2] at e
          refine g Φ Λ π ss σ H1 _ y (r.same s1) q2 fun u H2 s2 ⟨A2, al2, o2⟩ => ?_
          cases eb2 : asB y with
          | none => simp [eb2] at e
          | some c =>
            simp only [eb2, Option.map_some] at e
            cases e
            rw [own_bl o2 eb2]
            exact k _ H2 Mt (s1.trans s2) fr_mt al_mt (.bl c)
      · rename_i z; rw [if_neg z] at e
        cases e
        exact k _ H1 Mt s1 fr_mt al_mt (.bl false)
theorem sf_orV {ta tb : TE} {F G : SS → Option D} (h : SimP K C ta F) (g : SimP K C tb G) : SimF K C (tOrV ta tb) (pBl (pOr (p1 asB F) (p1 asB G))) := fun Φ Λ π ss σ H Q d r e k => by
  unfold pBl pOr p1 at e
  cases q : F ss with
  | none => rw [q] at e; cases e
  | some x =>
    rw [q] at e
    refine h Φ Λ π ss σ H _ x r q fun v H1 s1 ⟨A, al, o⟩ => ?_
    cases eb : asB x with
    | none => simp [eb] at e
    | some b =>
      refine ⟨b, own_bl o eb, ?_⟩
      simp only [eb, Option.bind] at e
      split
      · rename_i z; rw [if_pos z] at e
        cases e
        exact k _ H1 Mt s1 fr_mt al_mt (.bl true)
      · rename_i z; rw [if_neg z] at e
        cases q2 : G ss with
        | none => rw [q2] at e; cases e
        | some y =>
          rw [q2] at e
          refine g Φ Λ π ss σ H1 _ y (r.same s1) q2 fun u H2 s2 ⟨A2, al2, o2⟩ => ?_
          cases eb2 : asB y with
          | none => simp [eb2] at e
          | some c =>
            simp only [eb2, Option.map_some] at e
            cases e
            rw [own_bl o2 eb2]
            exact k _ H2 Mt (s1.trans s2) fr_mt al_mt (.bl c)
theorem sf_notV {ta : TE} {F : SS → Option D} (h : SimP K C ta F) : SimF K C (tNotV ta) (pBl (pNot (p1 asB F))) := fun Φ Λ π ss σ H Q d r e k => by
  unfold pBl pNot p1 at e
  cases q : F ss with
  | none => rw [q] at e; cases e
  | some x =>
    rw [q] at e
    refine h Φ Λ π ss σ H _ x r q fun v H1 s1 ⟨A, al, o⟩ => ?_
    cases eb : asB x with
    | none => simp [eb] at e
    | some b =>
      refine ⟨b, own_bl o eb, ?_⟩
      simp only [eb, Option.bind, Option.map_some] at e
      cases e
      exact k _ H1 Mt s1 fr_mt al_mt (.bl _)
theorem se_andV {ta tb : TE} {F G : SS → R D} (h : SimE K C W ta F) (g : SimE K C W tb G) : SimE K C W (tAndV ta tb) (eBl (rAnd' (e1 asB F) (e1 asB G))) := fun Φ Λ π ss σ H Q r p => by
  unfold eBl rAnd' e1 at p
  refine h Φ Λ π ss σ H _ r ?_
  cases q : F ss with
  | stuck => rw [q] at p; exact p
  | exc x s => rw [q] at p; exact p
  | ok d s1 =>
    rw [q] at p
    intro v H1 B1 k1 r1 sp1 o1
    cases eb : asB d with
    | none => simp [eb, R.bind, R.of] at p; exact p.elim
    | some b =>
      refine ⟨b, own_bl o1 eb, ?_⟩
      simp only [eb, R.bind, R.of] at p
      have r1' := r1.shrink cup_l r.psi
      split
      · rename_i z
        rw [if_pos z] at p
        refine g Φ Λ π s1 σ H1 _ r1' ?_
        cases q2 : G s1 with
        | stuck => rw [q2] at p; exact p
        | exc x s => rw [q2] at p; exact PostX.seq p k1
        | ok y s2 =>
          rw [q2] at p
          intro u H2 B2 k2 r2 sp2 o2
          cases eb2 : asB y with
          | none => simp only [eb2] at p; exact p.elim
          | some c =>
            simp only [eb2] at p
            rw [own_bl o2 eb2]
            exact p _ H2 Mt (k1.trans k2) (r2.shrink cup_l r.psi).mt sep_mt (.bl c)
      · rename_i z
        rw [if_neg z] at p
        exact p _ H1 Mt k1 r1'.mt sep_mt (.bl false)
def pIf (T : SS → Option Bool) (F G : SS → Option D) : SS → Option D := fun s => (T s).bind fun b => if b = true then F s else G s
def eIf (T : SS → R Bool) (F G : SS → R D) : SS → R D := fun s => (T s).bind fun b s1 => if b = true then F s1 else G s1
theorem sp_if {t : TT} {ta tb : TE} {T : SS → Option Bool} {F G : SS → Option D} (ht : SimPT K C t T) (h : SimP K C ta F) (g : SimP K C tb G) : SimP K C (tIf t ta tb) (pIf T F G) := fun Φ Λ π ss σ H Q d r e k => by
  unfold pIf at e
  cases q : T ss with
  | none => rw [q] at e; cases e
  | some b =>
    rw [q] at e
    refine ht Φ Λ π ss σ H _ b r q fun H1 s1 => ?_
    have e' : (if b = true then F ss else G ss) = some d := e
    split
    · rename_i z; rw [if_pos z] at e'
      exact h Φ Λ π ss σ H1 _ d (r.same s1) e' fun v H2 s2 rb => k v H2 (s1.trans s2) rb
    · rename_i z; rw [if_neg z] at e'
      exact g Φ Λ π ss σ H1 _ d (r.same s1) e' fun v H2 s2 rb => k v H2 (s1.trans s2) rb
theorem sf_if {t : TT} {ta tb : TE} {T : SS → Option Bool} {F G : SS → Option D} (ht : SimPT K C t T) (h : SimF K C ta F) (g : SimF K C tb G) : SimF K C (tIf t ta tb) (pIf T F G) := fun Φ Λ π ss σ H Q d r e k => by
  unfold pIf at e
  cases q : T ss with
  | none => rw [q] at e; cases e
  | some b =>
    rw [q] at e
    refine ht Φ Λ π ss σ H _ b r q fun H1 s1 => ?_
    have e' : (if b = true then F ss else G ss) = some d := e
    split
    · rename_i z; rw [if_pos z] at e'
      exact h Φ Λ π ss σ H1 _ d (r.same s1) e' fun v H2 B s2 f al rb => k v H2 B (s1.trans s2) (fun a x => s1.free (f a x)) al rb
    · rename_i z; rw [if_neg z] at e'
      exact g Φ Λ π ss σ H1 _ d (r.same s1) e' fun v H2 B s2 f al rb => k v H2 B (s1.trans s2) (fun a x => s1.free (f a x)) al rb
theorem PostE.more {Q : VK} {r : R D} {H1 : Hp} (p : PostE K C W Φ Λ π σ H Q r) (k : Keep Φ H H1) : PostE K C W Φ Λ π σ H1 Q r := by
  cases r with
  | stuck => exact p
  | exc x s => exact PostX.seq p k
  | ok d s => exact fun v H' B k2 => p v H' B (k.trans k2)
theorem se_if {t : TT} {ta tb : TE} {T : SS → R Bool} {F G : SS → R D} (ht : SimT K C W t T) (h : SimE K C W ta F) (g : SimE K C W tb G) : SimE K C W (tIf t ta tb) (eIf T F G) := fun Φ Λ π ss σ H Q r p => by
  unfold eIf at p
  refine ht Φ Λ π ss σ H _ r ?_
  cases q : T ss with
  | stuck => rw [q] at p; exact p
  | exc x s => rw [q] at p; exact p
  | ok b s1 =>
    rw [q] at p
    intro H1 k1 r1
    have p' : PostE K C W Φ Λ π σ H Q (if b = true then F s1 else G s1) := p
    split
    · rename_i z; rw [if_pos z] at p'; exact h Φ Λ π s1 σ H1 _ r1 (p'.more k1)
    · rename_i z; rw [if_neg z] at p'; exact g Φ Λ π s1 σ H1 _ r1 (p'.more k1)
end
end Dy

/-! Statements, loops, comprehensions over data. -/
namespace Dy
open PySem L2
def RS.map (u : SS → SS) : RS → RS
  | .nx s => .nx (u s)
  | .ret d s => .ret d (u s)
  | .brk s => .brk (u s)
  | .ct s => .ct (u s)
  | .exc x s => .exc x (u s)
  | .stuck => .stuck
def R.noexc {α : Type} : R α → R α
  | .exc _ _ => .stuck
  | o => o
section
variable {K : PySem.W.Frag} {C : Nat → Addr} {W : WX} {Φ Φ' : AP} {Λ : Nat → AP} {π : Nat → Option V} {ss : SS} {σ : L2.St} {H H' : Hp}
theorem PostS.more {E : Ends} {r : RS} {H1 : Hp} (p : PostS K C W Φ Λ π H E r) (k : Keep Φ H H1) : PostS K C W Φ Λ π H1 E r := by
  cases r with
  | stuck => exact p
  | nx s => exact fun σ' H' k2 => p σ' H' (k.trans k2)
  | ret d s => exact fun v σ' H' B k2 => p v σ' H' B (k.trans k2)
  | brk s => exact fun σ' H' k2 => p σ' H' (k.trans k2)
  | ct s => exact fun σ' H' k2 => p σ' H' (k.trans k2)
  | exc x s => exact fun σ' H' cls da k2 => p σ' H' cls da (k.trans k2)
/-! ### simple statements -/
def sNil : SS → RS := fun s => .nx s
def sSeq (F G : SS → RS) : SS → RS := fun s => (F s).seq G
def sIf (T : SS → R Bool) (F G : SS → RS) : SS → RS := fun s => (T s).thn fun b s1 => if b = true then F s1 else G s1
def sDrop (F : SS → R D) : SS → RS := fun s => (F s).thn fun _ s1 => .nx s1
def sRet (F : SS → R D) : SS → RS := fun s => (F s).thn fun d s1 => .ret d s1
def sRetN : SS → RS := fun s => .ret .non s
def sStuck : SS → RS := fun _ => .stuck
def sBrk : SS → RS := fun s => .brk s
def sCt : SS → RS := fun s => .ct s
theorem ss_nil : SimS K C W tNext sNil := fun Φ Λ π ss σ H E r p => p σ H (Keep.refl _ _) r
theorem ss_never : SimS K C W tNever sStuck := fun Φ Λ π ss σ H E r p => p
theorem ss_break : SimS K C W tBreak sBrk := fun Φ Λ π ss σ H E r p => p σ H (Keep.refl _ _) r
theorem ss_cont : SimS K C W tCont sCt := fun Φ Λ π ss σ H E r p => p σ H (Keep.refl _ _) r
theorem ss_retN : SimS K C W tRetN sRetN := fun Φ Λ π ss σ H E r p => p .non σ H Mt (Keep.refl _ _) r.mt sep_mt .non
theorem ss_seq {t u : TS} {F G : SS → RS} (h : SimS K C W t F) (g : SimS K C W u G) : SimS K C W (tSeq t u) (sSeq F G) := fun Φ Λ π ss σ H E r p => by
  unfold sSeq at p
  refine h Φ Λ π ss σ H _ r ?_
  cases q : F ss with
  | nx s =>
    rw [q] at p
    have p' : PostS K C W Φ Λ π H E (G s) := p
    exact fun σ' H' k r' => g Φ Λ π s σ' H' E r' (p'.more k)
  | stuck => rw [q] at p; exact p
  | ret d s => rw [q] at p; exact p
  | brk s => rw [q] at p; exact p
  | ct s => rw [q] at p; exact p
  | exc x s => rw [q] at p; exact p
theorem ss_if {c : TT} {t u : TS} {T : SS → R Bool} {F G : SS → RS} (hc : SimT K C W c T) (h : SimS K C W t F) (g : SimS K C W u G) : SimS K C W (tIfS c t u) (sIf T F G) := fun Φ Λ π ss σ H E r p => by
  unfold sIf at p
  refine hc Φ Λ π ss σ H _ r ?_
  cases q : T ss with
  | stuck => rw [q] at p; exact p
  | exc x s => rw [q] at p; exact fun H' cls da => p σ H' cls da
  | ok b s1 =>
    rw [q] at p
    intro H1 k1 r1
    have p' : PostS K C W Φ Λ π H E (if b = true then F s1 else G s1) := p
    split
    · rename_i z; rw [if_pos z] at p'; exact h Φ Λ π s1 σ H1 E r1 (p'.more k1)
    · rename_i z; rw [if_neg z] at p'; exact g Φ Λ π s1 σ H1 E r1 (p'.more k1)
theorem ss_expr {te : TE} {F : SS → R D} (h : SimE K C W te F) : SimS K C W (tDrop te) (sDrop F) := fun Φ Λ π ss σ H E r p => by
  unfold sDrop at p
  refine h Φ Λ π ss σ H _ r ?_
  cases q : F ss with
  | stuck => rw [q] at p; exact p
  | exc x s => rw [q] at p; exact fun H' cls da => p σ H' cls da
  | ok d s1 =>
    rw [q] at p
    exact fun v H1 B1 k1 r1 _ _ => p σ H1 k1 (r1.shrink cup_l r.psi)
theorem ss_ret {te : TE} {F : SS → R D} (h : SimE K C W te F) : SimS K C W (tRet te) (sRet F) := fun Φ Λ π ss σ H E r p => by
  unfold sRet at p
  refine h Φ Λ π ss σ H _ r ?_
  cases q : F ss with
  | stuck => rw [q] at p; exact p
  | exc x s => rw [q] at p; exact fun H' cls da => p σ H' cls da
  | ok d s1 =>
    rw [q] at p
    exact fun v H1 B1 k1 r1 => p v σ H1 B1 k1 r1
/-! ### targets -/
def setSl (i : Nat) (d : D) (s : SS) : Option SS := match s[i]? with
  | some x => if x.isInn then none else some (s.set i (.own d))
  | none => none
def nxO : Option SS → RS
  | some s => .nx s
  | none => .stuck
def sSet (i : Nat) (F : SS → R D) : SS → RS := fun s => (F s).thn fun d s1 => nxO (setSl i d s1)
theorem setSl_ok {i : Nat} {d : D} {s s' : SS} (h : setSl i d s = some s') : ∃ x, s[i]? = some x ∧ x.isInn = false ∧ s' = s.set i (.own d) := by
  unfold setSl at h
  cases e : s[i]? with
  | none => rw [e] at h; cases h
  | some x =>
    rw [e] at h
    cases b : x.isInn with
    | true => simp [b] at h
    | false => simp [b] at h; exact ⟨x, rfl, b, h.symm⟩
theorem ss_set {i : Nat} {te : TE} {F : SS → R D} (h : SimE K C W te F) : SimS K C W (tAsg te (gName i)) (sSet i F) := fun Φ Λ π ss σ H E r p => by
  unfold sSet at p
  refine h Φ Λ π ss σ H _ r ?_
  cases q : F ss with
  | stuck => rw [q] at p; exact p
  | exc x s => rw [q] at p; exact fun H' cls da => p σ H' cls da
  | ok d s1 =>
    rw [q] at p
    intro v H1 B1 k1 r1 sp1 o1
    have p' : PostS K C W Φ Λ π H E (nxO (setSl i d s1)) := p
    cases e : setSl i d s1 with
    | none => rw [e] at p'; exact p'.elim
    | some s2 =>
      rw [e] at p'
      obtain ⟨x, h1, h2, rfl⟩ := setSl_ok e
      exact p' _ H1 k1 (r1.put h1 h2 sp1 r.psi o1)
/-- a, b, .. = a tuple whose items move -/
def setAll : List Nat → List D → SS → Option SS
  | [], [], s => some s
  | i :: is, d :: ds, s => (setSl i d s).bind (setAll is ds)
  | _, _, _ => none
def gNames : List Nat → TGs
  | [] => gNil
  | i :: is => gCons (gName i) (gNames is)
theorem put_all : ∀ {is : List Nat} {ds : List D} {vs : List V} {B : AP} {s s' : SS} {σ : L2.St} {Q : L2.St → Hp → Prop}, (∀ i, Sub (Λ i) Φ) → Rel K C (Cup Φ B) Λ π s σ H → Sep B Φ → OwnL K C H ds vs B → setAll is ds s = some s' →
    (∀ σ', Rel K C Φ Λ π s' σ' H → Q σ' H) → gNames is vs σ H Q
  | [], [], vs, B, s, s', σ, Q, psi, r, sp, o, e, k => by
    cases o; cases e
    exact ⟨rfl, k σ (r.shrink cup_l psi)⟩
  | i :: is, d :: ds, vs, B, s, s', σ, Q, psi, r, sp, o, e, k => by
    cases o with
    | cons a b c x y =>
      rename_i A1 A2 v vr
      unfold setAll at e
      cases e1 : setSl i d s with
      | none => rw [e1] at e; cases e
      | some s1 =>
        rw [e1] at e
        obtain ⟨w, h1, h2, rfl⟩ := setSl_ok e1
        refine ⟨v, vr, rfl, ?_⟩
        have r2 : Rel K C (Cup (Cup Φ A2) A1) Λ π s σ H := r.shrink (cup_sub (cup_sub cup_l (c.trans cup_r)) (b.trans cup_r)) fun i => (psi i).trans (cup_l.trans cup_l)
        have r3 := r2.put h1 h2 ((sp.mono b (Sub.refl _)).cup a) (fun i => (psi i).trans cup_l) x
        exact put_all psi r3 (sp.mono c (Sub.refl _)) y e k
  | [], _ :: _, _, _, _, _, _, _, _, _, _, _, e, _ => by cases e
  | _ :: _, [], _, _, _, _, _, _, _, _, _, _, e, _ => by cases e
def asTup : D → Option (List D)
  | .tup ds => some ds
  | _ => none
def sUnp (is : List Nat) (F : SS → R D) : SS → RS := fun s => (F s).thn fun d s1 => nxO ((asTup d).bind fun ds => setAll is ds s1)
theorem setAll_len : ∀ {is : List Nat} {ds : List D} {s s' : SS}, setAll is ds s = some s' → is.length = ds.length
  | [], [], _, _, _ => rfl
  | i :: is, d :: ds, s, s', e => by
    unfold setAll at e
    cases e1 : setSl i d s with
    | none => rw [e1] at e; cases e
    | some s1 => rw [e1] at e; rw [List.length_cons, List.length_cons, setAll_len e]
  | [], _ :: _, _, _, e => by cases e
  | _ :: _, [], _, _, e => by cases e
theorem ss_unp {is : List Nat} {n : Nat} {te : TE} {F : SS → R D} (h : SimE K C W te F) (hn : is.length = n := by rfl) : SimS K C W (tAsg te (gTup K n (gNames is))) (sUnp is F) := fun Φ Λ π ss σ H E r p => by
  unfold sUnp at p
  refine h Φ Λ π ss σ H _ r ?_
  cases q : F ss with
  | stuck => rw [q] at p; exact p
  | exc x s => rw [q] at p; exact fun H' cls da => p σ H' cls da
  | ok d s1 =>
    rw [q] at p
    intro v H1 B1 k1 r1 sp1 o1
    have p' : PostS K C W Φ Λ π H E (nxO ((asTup d).bind fun ds => setAll is ds s1)) := p
    cases d <;> try (exact p'.elim)
    rename_i ds
    have p'' : PostS K C W Φ Λ π H E (nxO (setAll is ds s1)) := p'
    cases e : setAll is ds s1 with
    | none => rw [e] at p''; exact p''.elim
    | some s2 =>
      rw [e] at p''
      cases o1 with
      | tup a b =>
        rename_i a0 vs
        exact ⟨a0, vs, rfl, SqT.of a, by rw [← b.length, ← setAll_len e]; exact hn, put_all r.psi r1 sp1 b e fun σ' r' => p'' σ' H1 k1 r'⟩
/-- a, b = e1, e2 -/
def sPar (i j : Nat) (F : SS → R (List D)) : SS → RS := fun s => (F s).thn fun ds s1 => match ds with
  | [d, e] => nxO ((setSl i d s1).bind (setSl j e))
  | _ => .stuck
theorem ss_par {i j : Nat} {ta : TA} {F : SS → R (List D)} (h : SimA K C W ta F) : SimS K C W (tPar i j ta) (sPar i j F) := fun Φ Λ π ss σ H E r p => by
  unfold sPar at p
  refine h Φ Λ π ss σ H _ r ?_
  cases q : F ss with
  | stuck => rw [q] at p; exact p
  | exc x s => rw [q] at p; exact fun H' cls da => p σ H' cls da
  | ok ds s1 =>
    rw [q] at p
    intro vs H1 B1 k1 r1 sp1 o1
    cases o1 with
    | nil => exact p.elim
    | cons a b c x y =>
      cases y with
      | nil => exact p.elim
      | cons a2 b2 c2 x2 y2 =>
        cases y2 with
        | cons _ _ _ _ _ => exact p.elim
        | nil =>
          rename_i A1 A2 d v A3 A4 e w
          have p' : PostS K C W Φ Λ π H E (nxO ((setSl i d s1).bind (setSl j e))) := p
          cases e1 : setSl i d s1 with
          | none => rw [e1] at p'; exact p'.elim
          | some s2 =>
            rw [e1] at p'
            have p'' : PostS K C W Φ Λ π H E (nxO (setSl j e s2)) := p'
            cases e2 : setSl j e s2 with
            | none => rw [e2] at p''; exact p''.elim
            | some s3 =>
              rw [e2] at p''
              obtain ⟨z, h1, h2, rfl⟩ := setSl_ok e1
              obtain ⟨z', h1', h2', rfl⟩ := setSl_ok e2
              refine ⟨v, w, rfl, p'' _ H1 k1 ?_⟩
              have r2 : Rel K C (Cup (Cup Φ A3) A1) Λ π s1 σ H1 := r1.shrink (cup_sub (cup_sub cup_l ((b2.trans c).trans cup_r)) (b.trans cup_r)) fun i => (r.psi i).trans (cup_l.trans cup_l)
              have r3 := r2.put h1 h2 ((sp1.mono b (Sub.refl _)).cup (a.mono (Sub.refl _) b2)) (fun i => (r.psi i).trans cup_l) x
              exact r3.put h1' h2' (sp1.mono (b2.trans c) (Sub.refl _)) r.psi x2
/-! ### slots cleared, lent -/
def clr1 (i : Nat) (s : SS) : SS := match s[i]? with
  | some (.inn _) => s
  | _ => s.set i .no
def clr (ts : List Nat) (s : SS) : SS := ts.foldl (fun s i => clr1 i s) s
theorem Rel.clr1 {Λ' : Nat → AP} {i : Nat} (r : Rel K C Φ Λ π ss σ H) (h : ∀ j, j ≠ i → Λ' j = Λ j) (g : ∀ j, Sub (Λ' j) Φ) : Rel K C Φ Λ' π (clr1 i ss) σ H := by
  obtain ⟨As, a⟩ := r
  have other : ∀ j s o, j ≠ i → ss[j]? = some s → σ[j]? = some o → SlOk K C H (Λ' j) (As j) s o := fun j s o n e1 e2 => by rw [h j n]; exact a.ok j s o e1 e2
  unfold Dy.clr1
  split
  · rename_i d e
    refine ⟨As, a.al, g, a.len, a.pin, a.aa, a.af, a.ap, fun j s o e1 e2 => ?_⟩
    by_cases n : j = i
    · subst n
      rw [e] at e1; cases e1
      exact a.ok j _ o e e2
    · exact other j s o n e1 e2
  · rename_i n0
    refine ⟨As, a.al, g, by rw [List.length_set]; exact a.len, fun j v hj => ?_, a.aa, a.af, a.ap, fun j s o e1 e2 => ?_⟩
    · obtain ⟨h1, x, h2⟩ := a.pin j v hj
      have nj : i ≠ j := fun z => by subst z; exact n0 x h2
      exact ⟨h1, x, by rw [List.getElem?_set_ne nj]; exact h2⟩
    · by_cases n : i = j
      · subst n
        by_cases hi : i < ss.length
        · rw [List.getElem?_set_self hi] at e1; cases e1; trivial
        · rw [List.getElem?_eq_none (by rw [List.length_set]; omega)] at e1; cases e1
      · rw [List.getElem?_set_ne n] at e1
        exact other j s o (fun z => n z.symm) e1 e2
theorem Rel.clr : ∀ {ts : List Nat} {Λ Λ' : Nat → AP} {ss : SS}, Rel K C Φ Λ π ss σ H → (∀ j, j ∉ ts → Λ' j = Λ j) → (∀ j, Sub (Λ' j) Φ) → Rel K C Φ Λ' π (clr ts ss) σ H
  | [], Λ, Λ', ss, r, h, g => by
    have e : Λ' = Λ := funext fun j => h j (by simp)
    subst e
    exact r
  | i :: ts, Λ, Λ', ss, r, h, g => by
    show Rel K C Φ Λ' π (Dy.clr ts (Dy.clr1 i ss)) σ H
    refine Rel.clr (Λ := fun j => if j = i then Λ' i else Λ j) (r.clr1 (fun j n => if_neg n) fun j => ?_) (fun j n => ?_) g
    · split
      · exact g i
      · exact r.psi j
    · show Λ' j = if j = i then Λ' i else Λ j
      split
      · rename_i z; rw [z]
      · rename_i z; exact h j (by simp only [List.mem_cons, not_or]; exact ⟨z, n⟩)
/-- a slot's list is lent while a loop walks it -/
def unlk (j : Nat) (s : SS) : SS := match s[j]? with
  | some (.bor d) => s.set j (.own d)
  | _ => s
/-- what a walk hands back: from within to the outside -/
def Back (K : PySem.W.Frag) (C : Nat → Addr) (Φ B : AP) (Λ Λ' : Nat → AP) (π : Nat → Option V) (u : SS → SS) : Prop :=
  ∀ B' s σ H, Sep B' B → Rel K C (Cup (Cup Φ B) B') Λ' π s σ H → Rel K C (Cup Φ B') Λ π (u s) σ H
theorem back_id {B : AP} (psi : ∀ i, Sub (Λ i) Φ) : Back K C Φ B Λ Λ π id := fun B' s σ H _ r => r.shrink (cup_sub (cup_l.trans cup_l) cup_r) fun i => (psi i).trans cup_l
theorem back_unlk {B : AP} {j : Nat} (psi : ∀ i, Sub (Λ i) Φ) (sp : Sep B Φ) : Back K C Φ B Λ (fun i => if i = j then B else Λ i) π (unlk j) := fun B' s σ H sp' r => by
  obtain ⟨As, a⟩ := r
  have s1 : Sub (Cup Φ B') (Cup (Cup Φ B) B') := cup_sub (cup_l.trans cup_l) cup_r
  have base : ∀ i, Sub (Λ i) (Cup Φ B') := fun i => (psi i).trans cup_l
  unfold unlk
  split
  · rename_i d e
    refine ⟨fun i => if i = j then B else As i, a.al.mono s1, base, by rw [List.length_set]; exact a.len, fun i v hi => ?_, fun i => ?_, fun i => ?_, fun i k h => ?_, fun i s' o e1 e2 => ?_⟩
    · obtain ⟨h1, x, h2⟩ := a.pin i v hi
      have nj : j ≠ i := fun z => by subst z; rw [e] at h2; cases h2
      exact ⟨h1, x, by rw [List.getElem?_set_ne nj]; exact h2⟩
    · show Al H (if i = j then B else As i)
      split
      · exact a.al.mono (cup_r.trans cup_l)
      · exact a.aa i
    · show Sep (if i = j then B else As i) (Cup Φ B')
      split
      · exact sp.cup sp'.symm
      · exact (a.af i).mono (Sub.refl _) s1
    · show Sep (if i = j then B else As i) (if k = j then B else As k)
      by_cases hi : i = j
      · rw [if_pos hi, if_neg (fun z => h (hi.trans z.symm))]
        exact ((a.af k).mono (Sub.refl _) (cup_r.trans cup_l)).symm
      · rw [if_neg hi]
        by_cases hk : k = j
        · rw [if_pos hk]; exact (a.af i).mono (Sub.refl _) (cup_r.trans cup_l)
        · rw [if_neg hk]; exact a.ap i k h
    · by_cases n : j = i
      · subst n
        have hi : j < s.length := (List.getElem?_eq_some_iff.mp e).1
        rw [List.getElem?_set_self hi] at e1; cases e1
        obtain ⟨v, e3, w⟩ := a.ok j _ o e e2
        show SlOk K C H (Λ j) (if j = j then B else As j) (.own d) o
        rw [if_pos rfl]
        rw [if_pos rfl] at w
        exact ⟨v, e3, w⟩
      · rw [List.getElem?_set_ne n] at e1
        show SlOk K C H (Λ i) (if i = j then B else As i) s' o
        rw [if_neg (fun z => n z.symm)]
        have w := a.ok i s' o e1 e2
        rw [if_neg (fun z => n z.symm)] at w
        exact w
  · rename_i n0
    refine ⟨As, a.al.mono s1, base, a.len, a.pin, a.aa, fun i => (a.af i).mono (Sub.refl _) s1, a.ap, fun i s' o e1 e2 => ?_⟩
    have w := a.ok i s' o e1 e2
    by_cases n : i = j
    · subst n
      cases s' with
      | bor d => exact (n0 d e1).elim
      | no => trivial
      | own d => exact w
      | inn d => exact w
    · rw [if_neg n] at w; exact w
theorem Back.clr {B : AP} {Λ' : Nat → AP} {u : SS → SS} {ts : List Nat} (b : Back K C Φ B Λ Λ' π u) (psi : ∀ i, Sub (Λ' i) (Cup Φ B)) : Back K C Φ B Λ (fun i => if i ∈ ts then B else Λ' i) π (fun s => u (Dy.clr ts s)) := fun B' s σ H sp r =>
  b B' _ σ H sp (r.clr (fun j n => (if_neg n).symm) fun j => (psi j).trans cup_l)
theorem PostS.back {B : AP} {Λ' : Nat → AP} {u : SS → SS} {E : Ends} {r : RS} {H1 : Hp} (b : Back K C Φ B Λ Λ' π u) (k : Keep Φ H H1) (p : PostS K C W Φ Λ π H E (r.map u)) (mt : ∀ s σ H, Rel K C (Cup Φ Mt) Λ π s σ H → Rel K C Φ Λ π s σ H) : PostS K C W (Cup Φ B) Λ' π H1 E r := by
  cases r with
  | stuck => exact p
  | nx s => exact fun σ' H' k2 r' => p σ' H' (k.trans (k2.mono cup_l)) (mt _ _ _ (b Mt s σ' H' sep_mt r'.mt))
  | ret d s => exact fun v σ' H' B' k2 r' sp o => p v σ' H' B' (k.trans (k2.mono cup_l)) (b B' s σ' H' (sp.mono (Sub.refl _) cup_r) r') (sp.mono (Sub.refl _) cup_l) o
  | brk s => exact fun σ' H' k2 r' => p σ' H' (k.trans (k2.mono cup_l)) (mt _ _ _ (b Mt s σ' H' sep_mt r'.mt))
  | ct s => exact fun σ' H' k2 r' => p σ' H' (k.trans (k2.mono cup_l)) (mt _ _ _ (b Mt s σ' H' sep_mt r'.mt))
  | exc x s => exact fun σ' H' cls da k2 r' => p σ' H' cls da (k.trans (k2.mono cup_l)) (mt _ _ _ (b Mt s σ' H' sep_mt r'.mt))
theorem unmt (psi : ∀ i, Sub (Λ i) Φ) : ∀ s σ H, Rel K C (Cup Φ Mt) Λ π s σ H → Rel K C Φ Λ π s σ H := fun s σ H r => r.shrink cup_l psi

/-! ### what is walked -/
def ItOk (K : PySem.W.Frag) (C : Nat → Addr) (J : It) (ds : List D) (B : AP) (H0 : Hp) : Prop :=
  ∀ H, Keep B H0 H → ∀ i : Nat, (∀ d, ds[i]? = some d → J.go i H ∧ ∀ x H', J.yld i H x H' → Same H H' ∧ Own K C H' d x B) ∧ (ds.length ≤ i → J.stop i H)
def PostI (K : PySem.W.Frag) (C : Nat → Addr) (W : WX) (Φ : AP) (Λ : Nat → AP) (π : Nat → Option V) (σ : L2.St) (H : Hp) (u : SS → SS) (Z : It → Hp → Prop) : R (List D) → Prop
  | .ok ds s => ∀ J H' B Λ', Keep Φ H H' → Rel K C (Cup Φ B) Λ' π s σ H' → Back K C Φ B Λ Λ' π u → ItOk K C J ds B H' → Z J H'
  | .exc x s => PostX K C W Φ Λ π σ H x s
  | .stuck => False
def SimI (K : PySem.W.Frag) (C : Nat → Addr) (W : WX) (wi : TI) (u : SS → SS) (F : SS → R (List D)) : Prop := ∀ Φ Λ π ss σ H (Z : It → Hp → Prop), Rel K C Φ Λ π ss σ H → PostI K C W Φ Λ π σ H u Z (F ss) → wi σ H Z
def SimIP (K : PySem.W.Frag) (C : Nat → Addr) (wi : TI) (F : SS → Option (List D)) : Prop := ∀ Φ Λ π ss σ H (Z : It → Hp → Prop) ds, Rel K C Φ Λ π ss σ H → F ss = some ds →
  (∀ J H' B, Same H H' → Al H' B → ItOk K C J ds B H' → Z J H') → wi σ H Z
theorem OwnL.get : ∀ {ds : List D} {vs : List V} {A : AP} {i : Nat} {d : D}, OwnL K C H ds vs A → ds[i]? = some d → ∃ v, vs[i]? = some v ∧ Own K C H d v A
  | [], _, _, _, _, _, e => by simp at e
  | x :: ds, vs, A, 0, d, h, e => by
    cases h with
    | cons a b c x y => simp at e; subst e; exact ⟨_, rfl, x.mono b⟩
  | x :: ds, vs, A, i + 1, d, h, e => by
    cases h with
    | cons a b c x y =>
      obtain ⟨u, h1, h2⟩ := OwnL.get (i := i) y (by simpa using e)
      exact ⟨u, by simpa using h1, h2.mono c⟩
/-- a list or a tuple -/
def iSeq (K : PySem.W.Frag) (tl : TE) : TI := fun σ H R => tl σ H fun x H1 => ∃ a, x = .ref a ∧ (((∃ xs, SqL K H1 a xs) ∧ R (Itl K a) H1) ∨ ((∃ xs, SqT K H1 a xs) ∧ R (Itt K a) H1))
theorem pi_seq {X : Cx} {tg l : Expr} {tl : TE} (hl : PE X l tl) : PI X tg l (iSeq X.K tl) := by
  refine ⟨fun pins s σ H R I h => ?_⟩
  refine thn (hl.run pins s σ H _ I h) fun v s1 ⟨x, H1, I1, r1, q1⟩ => ?_
  obtain ⟨a, e, q⟩ := q1
  subst e
  cases r1
  rcases q with ⟨⟨xs, hq⟩, q⟩ | ⟨⟨xs, hq⟩, q⟩
  · obtain ⟨its, rv, p, hz⟩ := I1.list hq
    refine wpAny_pyIter_list p.isList ?_
    refine ⟨s1.heap.objs.size, [s1.heap.objs.size], _, _, H1, rfl, I1.kept (t' := s1.toks) fun b o e => Heap.get?_push_of_some _ e, turn_list a _, ⟨_, Heap.get?_push_size _ rfl, rfl, rfl⟩, fun b hb => ?_, q⟩
    have e : b = s1.heap.objs.size := by simpa using hb
    subst e
    exact I1.fpOk (Nat.le_refl _) (I1.hok.fresh (Nat.le_refl _))
  · obtain ⟨its, rv, p, hz⟩ := I1.tuple hq
    refine wpAny_pyIter_tuple (show s1.heap.IsTuple a its.toArray from p) ?_
    refine ⟨s1.heap.objs.size, [s1.heap.objs.size], _, _, H1, rfl, I1.kept (t' := s1.toks) fun b o e => Heap.get?_push_of_some _ e, turn_tuple a _, ⟨_, Heap.get?_push_size _ rfl, rfl, rfl⟩, fun b hb => ?_, q⟩
    have e : b = s1.heap.objs.size := by simpa using hb
    subst e
    exact I1.fpOk (Nat.le_refl _) (I1.hok.fresh (Nat.le_refl _))
def asSeq : D → Option (List D)
  | .lst ds => some ds
  | .tup ds => some ds
  | .fls ds => some ds
  | _ => none
theorem itl_ok {a : Addr} {ds : List D} {B : AP} (h : ∀ H1, Keep B H H1 → ∃ vs, SqL K H1 a vs ∧ OwnL K C H1 ds vs B) : ItOk K C (Itl K a) ds B H := fun H1 k i => by
  obtain ⟨vs, hq, ol⟩ := h H1 k
  refine ⟨fun d e => ?_, fun hl => ⟨vs, hq, by rw [← ol.length]; exact hl⟩⟩
  obtain ⟨v, e1, o⟩ := ol.get e
  refine ⟨⟨vs, v, hq, e1⟩, fun x H' ⟨eh, hy⟩ => ?_⟩
  subst eh
  have ex := hy vs hq
  rw [e1] at ex; cases ex
  exact ⟨Same.refl _, o⟩
theorem itt_ok {a : Addr} {ds : List D} {B : AP} (h : ∀ H1, Keep B H H1 → ∃ vs, SqT K H1 a vs ∧ OwnL K C H1 ds vs B) : ItOk K C (Itt K a) ds B H := fun H1 k i => by
  obtain ⟨vs, hq, ol⟩ := h H1 k
  refine ⟨fun d e => ?_, fun hl => ⟨vs, hq, by rw [← ol.length]; exact hl⟩⟩
  obtain ⟨v, e1, o⟩ := ol.get e
  refine ⟨⟨vs, v, hq, e1⟩, fun x H' ⟨eh, hy⟩ => ?_⟩
  subst eh
  have ex := hy vs hq
  rw [e1] at ex; cases ex
  exact ⟨Same.refl _, o⟩
end
end Dy

/-! Operators and built-ins by data. -/
namespace Dy
open PySem L2
section
variable {K : PySem.W.Frag} {C : Nat → Addr} {H H' : Hp}
/-! ### ints -/
def fII (h : Int → Int → D) (a b : D) : Option D := match a, b with
  | .int i, .int j => some (h i j)
  | _, _ => none
def fIC (c : Int → Int → Bool) (h : Int → Int → D) (a b : D) : Option D := match a, b with
  | .int i, .int j => if c i j then some (h i j) else none
  | _, _ => none
theorem fII_inv {h : Int → Int → D} {a b z : D} (e : fII h a b = some z) : ∃ i j, a = .int i ∧ b = .int j ∧ z = h i j := by
  cases a <;> cases b <;> simp [fII] at e
  exact ⟨_, _, rfl, rfl, e.symm⟩
theorem fIC_inv {c : Int → Int → Bool} {h : Int → Int → D} {a b z : D} (e : fIC c h a b = some z) : ∃ i j, a = .int i ∧ b = .int j ∧ c i j = true ∧ z = h i j := by
  cases a <;> cases b <;> simp [fIC] at e
  exact ⟨_, _, rfl, rfl, e.1, e.2.symm⟩
theorem rb_int' {i : Int} {v : V} (h : Rb K C H (.int i) v) : v = .int i := by obtain ⟨A, _, o⟩ := h; cases o; rfl
theorem rb_str {i : Str} {v : V} (h : Rb K C H (.str i) v) : v = .str i := by obtain ⟨A, _, o⟩ := h; cases o; rfl
theorem ops_I0 {g : Int → Int → V} {f : Int → Int → D} (hg : ∀ i j, cD (g i j) = f i j) : OpS K C (rI0 g) (fII f) := fun H x y dx dy z Q a b e k => by
  obtain ⟨i, j, rfl, rfl, rfl⟩ := fII_inv e
  refine ⟨i, j, rb_int' a, rb_int' b, k _ H Mt (Same.refl H) fr_mt al_mt ?_⟩
  rw [← hg]; exact own_c _
theorem ops_I {P : Int → Int → Prop} {c : Int → Int → Bool} {g : Int → Int → V} {f : Int → Int → D} (hc : ∀ i j, c i j = true → P i j) (hg : ∀ i j, cD (g i j) = f i j) : OpS K C (rI P g) (fIC c f) := fun H x y dx dy z Q a b e k => by
  obtain ⟨i, j, rfl, rfl, q, rfl⟩ := fIC_inv e
  refine ⟨i, j, rb_int' a, rb_int' b, hc i j q, k _ H Mt (Same.refl H) fr_mt al_mt ?_⟩
  rw [← hg]; exact own_c _
abbrev fAddI : D → D → Option D := fII fun i j => .int (i + j)
abbrev fSubI : D → D → Option D := fII fun i j => .int (i - j)
abbrev fLt : D → D → Option D := fII fun i j => .bl (decide (i < j))
abbrev fLe : D → D → Option D := fII fun i j => .bl (decide (i ≤ j))
abbrev fGt : D → D → Option D := fII fun i j => .bl (decide (j < i))
abbrev fGe : D → D → Option D := fII fun i j => .bl (decide (j ≤ i))
noncomputable def cMul (i j : Int) : Bool := (dcd (-(2 ^ 64) < i) && dcd (i < 2 ^ 64)) || (dcd (-(2 ^ 64) < j) && dcd (j < 2 ^ 64))
def cDiv (i j : Int) : Bool := decide (j ≠ 0) && decide (j.natAbs < 1073741824)
def cMod (i j : Int) : Bool := decide (j ≠ 0)
noncomputable def cPow (i j : Int) : Bool := dcd (0 ≤ j) && (dcd (j ≤ 1000000) && dcd (i.natAbs < 2 ^ 64))
noncomputable abbrev fMulI : D → D → Option D := fIC cMul fun i j => .int (i * j)
abbrev fDiv : D → D → Option D := fIC cDiv fun i j => .int (i.fdiv j)
abbrev fMod : D → D → Option D := fIC cMod fun i j => .int (i.fmod j)
noncomputable abbrev fPow : D → D → Option D := fIC cPow fun i j => .int (i ^ j.toNat)
theorem os_addI : OpS K C (rI0 fun i j => .int (i + j)) fAddI := ops_I0 fun _ _ => rfl
theorem os_sub : OpS K C (rI0 fun i j => .int (i - j)) fSubI := ops_I0 fun _ _ => rfl
theorem os_lt : OpS K C (rI0 fun i j => .bl (decide (i < j))) fLt := ops_I0 fun _ _ => rfl
theorem os_le : OpS K C (rI0 fun i j => .bl (decide (i ≤ j))) fLe := ops_I0 fun _ _ => rfl
theorem os_gt : OpS K C (rI0 fun i j => .bl (decide (j < i))) fGt := ops_I0 fun _ _ => rfl
theorem os_ge : OpS K C (rI0 fun i j => .bl (decide (j ≤ i))) fGe := ops_I0 fun _ _ => rfl
theorem os_mulI : OpS K C (rI CMul fun i j => .int (i * j)) fMulI := ops_I (fun i j h => by
  simp only [cMul, Bool.or_eq_true, Bool.and_eq_true, dcd_eq] at h; exact h) fun _ _ => rfl
theorem os_div : OpS K C (rI CDivN fun i j => .int (i.fdiv j)) fDiv := ops_I (fun i j h => by
  simp only [cDiv, Bool.and_eq_true, decide_eq_true_eq] at h; exact h) fun _ _ => rfl
theorem os_mod : OpS K C (rI (fun _ j => j ≠ 0) fun i j => .int (i.fmod j)) fMod := ops_I (fun i j h => of_decide_eq_true h) fun _ _ => rfl
theorem os_pow : OpS K C (rI CPow fun i j => .int (i ^ j.toNat)) fPow := ops_I (fun i j h => by
  simp only [cPow, Bool.and_eq_true, dcd_eq] at h; exact h) fun _ _ => rfl
/-! ### texts, lists, tuples joined, repeated -/
def fAddS (a b : D) : Option D := match a, b with
  | .str x, .str y => if x.length + y.length ≤ 1000000 then some (.str (x ++ y)) else none
  | _, _ => none
theorem os_addS : OpS K C (fun x y H Q => ∃ i j, x = .str i ∧ y = .str j ∧ i.length + j.length ≤ sizeLine ∧ Q (.str (i ++ j)) H) fAddS := fun H x y dx dy z Q a b e k => by
  cases dx <;> cases dy <;> simp [fAddS] at e
  obtain ⟨l, rfl⟩ := e
  exact ⟨_, _, rb_str a, rb_str b, sl100 l, k _ H Mt (Same.refl H) fr_mt al_mt (.str _)⟩
def fAddL (a b : D) : Option D := match a, b with
  | .lst x, .lst y => if (immL x && immL y) = true ∧ x.length + y.length ≤ 1000000 then some (.lst (x ++ y)) else none
  | _, _ => none
theorem own_lst {ds : List D} {v : V} {A : AP} (o : Own K C H (.lst ds) v A) : ∃ a vs, v = .ref a ∧ H a = some (.lst vs) ∧ OwnL K C H ds vs A := by
  cases o with | lst h e y => exact ⟨_, _, rfl, e, y.mono But.sub⟩
theorem own_tup {ds : List D} {v : V} {A : AP} (o : Own K C H (.tup ds) v A) : ∃ a vs, v = .ref a ∧ H a = some (.tup vs) ∧ OwnL K C H ds vs A := by
  cases o with | tup e y => exact ⟨_, _, rfl, e, y⟩
theorem os_addL : OpS K C rCat fAddL := fun H x y dx dy z Q a b e k => by
  cases dx <;> cases dy <;> simp [fAddL] at e
  rename_i xs ys
  obtain ⟨⟨⟨i1, i2⟩, l⟩, rfl⟩ := e
  obtain ⟨A, _, o⟩ := a
  obtain ⟨B, _, o2⟩ := b
  obtain ⟨p, vs, rfl, e1, y1⟩ := own_lst o
  obtain ⟨q, ws, rfl, e2, y2⟩ := own_lst o2
  have il := IL.append (y1.imm i1) (y2.imm i2)
  exact ⟨p, q, vs, ws, rfl, rfl, e1, e2, by rw [← y1.length, ← y2.length]; exact sl100 l, fun r hr => k _ _ (One r) (same_upd hr) (one_fr hr) one_al (new_lst il hr)⟩
def fAddT (a b : D) : Option D := match a, b with
  | .tup x, .tup y => if (immL x && immL y) = true ∧ x.length + y.length ≤ 1000000 then some (.tup (x ++ y)) else none
  | _, _ => none
theorem os_addT : OpS K C (rCatA K) fAddT := fun H x y dx dy z Q a b e k => by
  cases dx <;> cases dy <;> simp [fAddT] at e
  rename_i xs ys
  obtain ⟨⟨⟨i1, i2⟩, l⟩, rfl⟩ := e
  obtain ⟨A, _, o⟩ := a
  obtain ⟨B, _, o2⟩ := b
  obtain ⟨p, vs, rfl, e1, y1⟩ := own_tup o
  obtain ⟨q, ws, rfl, e2, y2⟩ := own_tup o2
  have il := IL.append (y1.imm i1) (y2.imm i2)
  refine ⟨p, q, vs, ws, rfl, rfl, SqT.of e1, SqT.of e2, by rw [← y1.length, ← y2.length]; exact sl100 l, fun h => ?_, fun _ h => ?_, fun _ _ r hr => k _ _ Mt (same_upd hr) fr_mt al_mt (new_tup il hr)⟩
  · subst h
    cases y1
    exact k _ H Mt (Same.refl H) fr_mt al_mt (.tup e2 (y2.imm i2))
  · subst h
    cases y2
    rw [List.append_nil] at k
    exact k _ H Mt (Same.refl H) fr_mt al_mt (.tup e1 (y1.imm i1))
noncomputable def fRepL (a b : D) : Option D := match a, b with
  | .lst x, .int k => if immL x = true ∧ dcd (k < 2 ^ 62 ∧ -(2 ^ 62) < k) = true ∧ x.length * k.toNat ≤ 1000000 then some (.lst (List.replicate k.toNat x).flatten) else none
  | _, _ => none
theorem IL.flat {ds : List D} {vs : List V} (h : IL K C H ds vs) : ∀ n : Nat, IL K C H (List.replicate n ds).flatten (List.replicate n vs).flatten
  | 0 => .nil
  | n + 1 => by
    rw [List.replicate_succ, List.replicate_succ, List.flatten_cons, List.flatten_cons]
    exact IL.append h (IL.flat h n)
theorem os_repL : OpS K C rRep fRepL := fun H x y dx dy z Q a b e k => by
  cases dx <;> cases dy <;> simp [fRepL, dcd_eq] at e
  rename_i xs i
  obtain ⟨⟨i1, ⟨h1, h2⟩, l⟩, rfl⟩ := e
  obtain ⟨A, _, o⟩ := a
  obtain ⟨p, vs, rfl, e1, y1⟩ := own_lst o
  exact ⟨p, i, vs, rfl, rb_int' b, e1, by omega, by omega, by rw [← y1.length]; exact sl100 l, fun r hr => k _ _ (One r) (same_upd hr) (one_fr hr) one_al (new_lst (IL.flat (y1.imm i1) _) hr)⟩
def fRepT (a b : D) : Option D := match a, b with
  | .tup x, .int k => if immL x = true ∧ x ≠ [] ∧ (2 ≤ k ∧ k ≤ 1000) ∧ x.length ≤ 1000 then some (.tup (List.replicate k.toNat x).flatten) else none
  | _, _ => none
theorem os_repT : OpS K C (rRepT K) fRepT := fun H x y dx dy z Q a b e k => by
  cases dx <;> cases dy <;> simp [fRepT] at e
  rename_i xs i
  obtain ⟨⟨i1, hn, ⟨h1, h2⟩, l⟩, rfl⟩ := e
  obtain ⟨A, _, o⟩ := a
  obtain ⟨p, vs, rfl, e1, y1⟩ := own_tup o
  refine ⟨p, i, vs, rfl, rb_int' b, SqT.of e1, fun z => hn ?_, h1, h2, by rw [← y1.length]; exact l, fun r hr => k _ _ Mt (same_upd hr) fr_mt al_mt (new_tup (IL.flat (y1.imm i1) _) hr)⟩
  subst z
  have := y1.length
  exact List.eq_nil_of_length_eq_zero this
/-! ### == -/
mutual
def toPy : D → PyData
  | .non => .none
  | .bl b => .bool b
  | .int i => .int i
  | .str s => .str s
  | .tup ds => .tuple (toPyL ds)
  | .lst ds => .list (toPyL ds)
  | .fls ds => .list (toPyL ds)
  | .op _ => .none
  | .dk _ _ => .none
  | .dt _ _ => .none
  | .ob _ _ _ => .none
def toPyL : List D → List PyData
  | [] => []
  | d :: ds => toPy d :: toPyL ds
end
/-! how deep; 1000 for what is no data -/
mutual
def dep : D → Nat
  | .non => 0
  | .bl _ => 0
  | .int _ => 0
  | .str s => if PyData.strOk s = true then 0 else 1000
  | .tup ds => depL ds + 1
  | .lst ds => depL ds + 1
  | .fls ds => depL ds + 1
  | .op _ => 1000
  | .dk _ _ => 1000
  | .dt _ _ => 1000
  | .ob _ _ _ => 1000
def depL : List D → Nat
  | [] => 0
  | d :: ds => max (dep d) (depL ds)
end
mutual
def eqD : D → D → Bool
  | .non, .non => true
  | .bl a, .bl b => a == b
  | .bl a, .int j => (if a then 1 else 0) == j
  | .int i, .bl b => i == (if b then 1 else 0)
  | .int i, .int j => i == j
  | .str x, .str y => x == y
  | .lst xs, .lst ys => eqDs xs ys
  | .lst xs, .fls ys => eqDs xs ys
  | .fls xs, .lst ys => eqDs xs ys
  | .fls xs, .fls ys => eqDs xs ys
  | .tup xs, .tup ys => eqDs xs ys
  | _, _ => false
def eqDs : List D → List D → Bool
  | [], [] => true
  | x :: xs, y :: ys => eqD x y && eqDs xs ys
  | _, _ => false
end
mutual
theorem eqv_toPy : ∀ (d e : D), dep d < 1000 → dep e < 1000 → PyData.eqv (toPy d) (toPy e) = eqD d e := fun d e hd he => by
  cases d <;> cases e <;> first
    | (simp only [dep] at hd; omega)
    | (simp only [dep] at he; omega)
    | (simp only [toPy, PyData.eqv, eqD]; done)
    | (rename_i xs ys; simp only [toPy, PyData.eqv, eqD]; simp only [dep] at hd he; exact eqv_toPyL xs ys (by omega) (by omega))
theorem eqv_toPyL : ∀ (ds es : List D), depL ds < 1000 → depL es < 1000 → PyData.eqvAll (toPyL ds) (toPyL es) = eqDs ds es := fun ds es hd he => by
  cases ds <;> cases es <;> first
    | (simp only [toPyL, PyData.eqvAll, eqDs]; done)
    | (rename_i d ds e es; simp only [toPyL, PyData.eqvAll, eqDs]; simp only [depL] at hd he; rw [eqv_toPy d e (by omega) (by omega), eqv_toPyL ds es (by omega) (by omega)])
end
mutual
theorem lay_toPy : ∀ (d : D), dep d < 1000 → (toPy d).canLay0 = true := fun d hd => by
  cases d <;> first
    | (simp only [dep] at hd; omega)
    | (simp only [toPy, PyData.canLay0]; done)
    | (simp only [toPy, PyData.canLay0]; simp only [dep] at hd; exact lay_toPyL _ (by omega))
    | (simp only [toPy, PyData.canLay0]; simp only [dep] at hd; split at hd <;> first | assumption | omega)
theorem lay_toPyL : ∀ (ds : List D), depL ds < 1000 → PyData.canLayAll0 (toPyL ds) = true := fun ds hd => by
  cases ds with
  | nil => simp only [toPyL, PyData.canLayAll0]
  | cons d ds => simp only [toPyL, PyData.canLayAll0]; simp only [depL] at hd; rw [lay_toPy d (by omega), lay_toPyL ds (by omega)]; rfl
end
mutual
theorem dep_toPy : ∀ (d : D), dep d < 1000 → (toPy d).depth = dep d := fun d hd => by
  cases d <;> first
    | (simp only [dep] at hd; omega)
    | (simp only [toPy, PyData.depth, dep]; done)
    | (simp only [toPy, PyData.depth, dep]; simp only [dep] at hd; rw [dep_toPyL _ (by omega)])
    | (simp only [toPy, PyData.depth, dep]; simp only [dep] at hd; split at hd <;> simp_all)
theorem dep_toPyL : ∀ (ds : List D), depL ds < 1000 → PyData.depthAll (toPyL ds) = depL ds := fun ds hd => by
  cases ds with
  | nil => simp only [toPyL, PyData.depthAll, depL]
  | cons d ds => simp only [toPyL, PyData.depthAll, depL]; simp only [depL] at hd; rw [dep_toPy d (by omega), dep_toPyL ds (by omega)]
end
theorem shaped_toPy {d : D} (h : dep d ≤ 60) : SeqAt.shaped (toPy d) = true := by
  unfold SeqAt.shaped
  rw [lay_toPy d (by omega), dep_toPy d (by omega), Bool.true_and]
  exact decide_eq_true (by omega)
mutual
theorem dp_toPy : ∀ {d : D} {v : V} {A : AP}, Own K C H d v A → dep d < 1000 → Dp K H v (toPy d) := fun {d v A} o hd => by
  cases o with
  | non => rw [toPy]; exact .non
  | bl b => rw [toPy]; exact .bl b
  | int i => rw [toPy]; exact .int i
  | str s => rw [toPy]; exact .str s
  | op v => simp only [dep] at hd; omega
  | tup e y => simp only [dep] at hd; rw [toPy]; exact .tup (SqT.of e) (dp_toPyL y (by omega))
  | lst h e y => simp only [dep] at hd; rw [toPy]; exact .lst (SqL.of e) (dp_toPyL y (by omega))
  | fls e y => simp only [dep] at hd; rw [toPy]; exact .lst e.sql (dp_toPyL y (by omega))
  | dk _ _ _ _ => simp only [dep] at hd; omega
  | dt _ _ _ _ => simp only [dep] at hd; omega
  | ob _ _ _ _ => simp only [dep] at hd; omega
theorem dp_toPyL : ∀ {ds : List D} {vs : List V} {A : AP}, OwnL K C H ds vs A → depL ds < 1000 → DpAll K H vs (toPyL ds) := fun {ds vs A} o hd => by
  cases o with
  | nil => rw [toPyL]; exact .nil
  | cons _ _ _ x y => simp only [depL] at hd; rw [toPyL]; exact .cons (dp_toPy x (by omega)) (dp_toPyL y (by omega))
end
def fEq (a b : D) : Option D := if dep a ≤ 60 ∧ dep b ≤ 60 then some (.bl (eqD a b)) else none
def fNe (a b : D) : Option D := if dep a ≤ 60 ∧ dep b ≤ 60 then some (.bl (!eqD a b)) else none
theorem os_eq : OpS K C (rEqD K) fEq := fun H x y dx dy z Q ⟨A, _, o⟩ ⟨B, _, o2⟩ e k => by
  unfold fEq at e
  split at e
  · rename_i c
    cases e
    refine ⟨toPy dx, toPy dy, dp_toPy o (by omega), dp_toPy o2 (by omega), shaped_toPy c.1, shaped_toPy c.2, ?_⟩
    rw [eqv_toPy dx dy (by omega) (by omega)]
    exact k _ H Mt (Same.refl H) fr_mt al_mt (.bl _)
  · cases e
theorem os_ne : OpS K C (rNeD K) fNe := fun H x y dx dy z Q ⟨A, _, o⟩ ⟨B, _, o2⟩ e k => by
  unfold fNe at e
  split at e
  · rename_i c
    cases e
    refine ⟨toPy dx, toPy dy, dp_toPy o (by omega), dp_toPy o2 (by omega), shaped_toPy c.1, shaped_toPy c.2, ?_⟩
    rw [eqv_toPy dx dy (by omega) (by omega)]
    exact k _ H Mt (Same.refl H) fr_mt al_mt (.bl _)
  · cases e
def isNonD : D → Bool
  | .non => true
  | _ => false
def isOpD : D → Bool
  | .op _ => true
  | _ => false
def fIsN (a b : D) : Option D := if isNonD b = true ∧ isOpD a = false then some (.bl (isNonD a)) else none
def fNotN (a b : D) : Option D := if isNonD b = true ∧ isOpD a = false then some (.bl (!isNonD a)) else none
theorem non_dec {d : D} {v : V} {A : AP} (o : Own K C H d v A) (h : isOpD d = false) : decide (v = .non) = isNonD d := by
  cases o <;> first | (cases h; done) | rfl | (exact decide_eq_false (fun z => by cases z))
theorem rb_non {d : D} {v : V} (h : Rb K C H d v) (e : isNonD d = true) : v = .non := by
  obtain ⟨A, _, o⟩ := h
  cases d <;> cases e
  cases o; rfl
theorem os_isN : OpS K C (fun x y H Q => y = .non ∧ Q (.bl (decide (x = .non))) H) fIsN := fun H x y dx dy z Q ⟨A, _, o⟩ b e k => by
  unfold fIsN at e
  split at e
  · rename_i c
    cases e
    refine ⟨rb_non b c.1, ?_⟩
    rw [non_dec o c.2]
    exact k _ H Mt (Same.refl H) fr_mt al_mt (.bl _)
  · cases e
theorem os_notN : OpS K C (fun x y H Q => y = .non ∧ Q (.bl (!decide (x = .non))) H) fNotN := fun H x y dx dy z Q ⟨A, _, o⟩ b e k => by
  unfold fNotN at e
  split at e
  · rename_i c
    cases e
    refine ⟨rb_non b c.1, ?_⟩
    rw [non_dec o c.2]
    exact k _ H Mt (Same.refl H) fr_mt al_mt (.bl _)
  · cases e
/-! ### in -/
def asLst : D → Option (List D)
  | .lst ds => some ds
  | .fls ds => some ds
  | _ => none
def fInL (n : Bool) (a b : D) : Option D := (asLst b).bind fun ds => if dep a ≤ 60 ∧ dep b ≤ 60 then some (.bl (if n then !ds.any fun z => eqD z a else ds.any fun z => eqD z a)) else none
theorem toPyL_any {a : D} (ha : dep a ≤ 60) : ∀ ds : List D, depL ds < 1000 → (toPyL ds).any (fun z => PyData.eqv z (toPy a)) = ds.any fun z => eqD z a
  | [], _ => by rw [toPyL]; rfl
  | d :: ds, h => by
    simp only [depL] at h
    rw [toPyL, List.any_cons, List.any_cons, eqv_toPy d a (by omega) (by omega), toPyL_any ha ds (by omega)]
theorem inL_core {a b : D} {ds : List D} {x y : V} (ra : Rb K C H a x) (rb : Rb K C H b y) (e : asLst b = some ds) (h1 : dep a ≤ 60) (h2 : dep b ≤ 60) :
    Dp K H x (toPy a) ∧ Dp K H y (.list (toPyL ds)) ∧ SeqAt.shaped (toPy a) = true ∧ SeqAt.shaped (.list (toPyL ds)) = true ∧ depL ds < 1000 := by
  obtain ⟨A, _, o⟩ := ra
  obtain ⟨B, _, o2⟩ := rb
  have q := dp_toPy o2 (by omega)
  have s := shaped_toPy h2
  cases b <;> simp [asLst] at e
  · subst e
    simp only [toPy] at q s
    simp only [dep] at h2
    exact ⟨dp_toPy o (by omega), q, shaped_toPy h1, s, by omega⟩
  · subst e
    simp only [toPy] at q s
    simp only [dep] at h2
    exact ⟨dp_toPy o (by omega), q, shaped_toPy h1, s, by omega⟩
theorem os_inL : OpS K C (rInD K) (fInL false) := fun H x y dx dy z Q a b e k => by
  unfold fInL at e
  cases ed : asLst dy with
  | none => rw [ed] at e; cases e
  | some ds =>
    rw [ed] at e
    simp only [Option.bind] at e
    split at e
    · rename_i c
      cases e
      obtain ⟨q1, q2, q3, q4, q5⟩ := inL_core a b ed c.1 c.2
      refine ⟨toPy dx, toPyL ds, q1, q2, q3, q4, ?_⟩
      rw [toPyL_any c.1 ds q5]
      exact k _ H Mt (Same.refl H) fr_mt al_mt (.bl _)
    · cases e
theorem os_ninL : OpS K C (rNotInD K) (fInL true) := fun H x y dx dy z Q a b e k => by
  unfold fInL at e
  cases ed : asLst dy with
  | none => rw [ed] at e; cases e
  | some ds =>
    rw [ed] at e
    simp only [Option.bind] at e
    split at e
    · rename_i c
      cases e
      obtain ⟨q1, q2, q3, q4, q5⟩ := inL_core a b ed c.1 c.2
      refine ⟨toPy dx, toPyL ds, q1, q2, q3, q4, ?_⟩
      rw [toPyL_any c.1 ds q5]
      exact k _ H Mt (Same.refl H) fr_mt al_mt (.bl _)
    · cases e
def flatD : D → Bool
  | .non => true
  | .bl _ => true
  | .int _ => true
  | .str _ => true
  | _ => false
theorem flat_v {d : D} {v : V} {A : AP} (o : Own K C H d v A) (h : flatD d = true) : flatV v = true ∧ d = cD v := by
  cases o <;> first | (cases h; done) | exact ⟨rfl, rfl⟩
theorem eqV_D {a b : D} {x y : V} {A B : AP} (o : Own K C H a x A) (p : Own K C H b y B) (ha : flatD a = true) (hb : flatD b = true) : eqV x y = eqD a b := by
  obtain ⟨h1, rfl⟩ := flat_v o ha
  obtain ⟨h2, rfl⟩ := flat_v p hb
  cases x <;> cases y <;> first | (cases h1; done) | (cases h2; done) | (simp only [eqV, cD, eqD])
theorem flatL {a : D} {x : V} {A : AP} (o : Own K C H a x A) (ha : flatD a = true) : ∀ {ds : List D} {vs : List V} {B : AP}, OwnL K C H ds vs B → ds.all flatD = true → vs.all flatV = true ∧ inV x vs = ds.any fun z => eqD z a
  | [], _, _, h, _ => by cases h; exact ⟨rfl, rfl⟩
  | d :: ds, _, _, h, f => by
    cases h with
    | cons _ _ _ p q =>
      rw [List.all_cons, Bool.and_eq_true] at f
      obtain ⟨h1, h2⟩ := flatL o ha q f.2
      refine ⟨by rw [List.all_cons, (flat_v p f.1).1, h1]; rfl, ?_⟩
      unfold inV at h2 ⊢
      rw [List.any_cons, List.any_cons, eqV_D p o f.1 ha, h2]
def fInT (n : Bool) (a b : D) : Option D := match b with
  | .tup ds => if flatD a = true ∧ ds.all flatD = true then some (.bl (if n then !ds.any fun z => eqD z a else ds.any fun z => eqD z a)) else none
  | _ => none
theorem os_inT (n : Bool) : OpS K C (rIn K n) (fInT n) := fun H x y dx dy z Q ⟨A, _, o⟩ ⟨B, _, o2⟩ e k => by
  cases dy <;> simp [fInT] at e
  obtain ⟨⟨c1, c2⟩, rfl⟩ := e
  obtain ⟨p, vs, rfl, e1, y1⟩ := own_tup o2
  obtain ⟨h1, h2⟩ := flatL o c1 y1 (List.all_eq_true.mpr c2)
  refine ⟨p, vs, rfl, .inr (SqT.of e1), (flat_v o c1).1, h1, ?_⟩
  rw [h2]
  exact k _ H Mt (Same.refl H) fr_mt al_mt (.bl _)
def fInS (n : Bool) (a b : D) : Option D := match a, b with
  | .str x, .str z => match x.cps.toList with
    | [c] => some (.bl (if n then !decide (c ∈ z.cps.toList) else decide (c ∈ z.cps.toList)))
    | _ => none
  | _, _ => none
theorem fInS_inv {n : Bool} {a b z : D} (e : fInS n a b = some z) : ∃ (c : Nat) (y : Str), a = .str ⟨#[c]⟩ ∧ b = .str y ∧ z = .bl (if n then !decide (c ∈ y.cps.toList) else decide (c ∈ y.cps.toList)) := by
  cases a <;> cases b <;> simp [fInS] at e
  rename_i x y
  obtain ⟨⟨l⟩⟩ := x
  cases l with
  | nil => simp at e
  | cons c r =>
    cases r with
    | nil => exact ⟨c, y, rfl, rfl, by simpa using e.symm⟩
    | cons _ _ => simp at e
theorem os_inS : OpS K C (fun x y H Q => ∃ (c : Nat) (z : Str), x = .str ⟨#[c]⟩ ∧ y = .str z ∧ Q (.bl (decide (c ∈ z.cps.toList))) H) (fInS false) := fun H x y dx dy z Q a b e k => by
  obtain ⟨c, w, rfl, rfl, rfl⟩ := fInS_inv e
  exact ⟨c, w, rb_str a, rb_str b, k _ H Mt (Same.refl H) fr_mt al_mt (.bl _)⟩
theorem os_ninS : OpS K C (fun x y H Q => ∃ (c : Nat) (z : Str), x = .str ⟨#[c]⟩ ∧ y = .str z ∧ Q (.bl (!decide (c ∈ z.cps.toList))) H) (fInS true) := fun H x y dx dy z Q a b e k => by
  obtain ⟨c, w, rfl, rfl, rfl⟩ := fInS_inv e
  exact ⟨c, w, rb_str a, rb_str b, k _ H Mt (Same.refl H) fr_mt al_mt (.bl _)⟩
/-! ### dicts asked -/
def keyOf : D → Option Key
  | .int i => some (.inl i)
  | .str s => some (.inr s)
  | _ => none
def keysOf : List D → Option (List Key)
  | [] => some []
  | d :: ds => (keyOf d).bind fun k => (keysOf ds).map fun r => k :: r
def tkeyOf : D → Option (List Key)
  | .tup ds => keysOf ds
  | _ => none
def lookD {κ : Type} [DecidableEq κ] : List κ → List D → κ → Option D
  | k :: ks, d :: ds, j => if k = j then some d else lookD ks ds j
  | _, _, _ => none
/-- what a dict holds at a key: none where it is no dict, or no key -/
def dGet (d k : D) : Option (Option D) := match d with
  | .dk ks ds => (keyOf k).map (lookD ks ds)
  | .dt ks ds => (tkeyOf k).map (lookD ks ds)
  | _ => none
theorem key_v {d : D} {k : Key} {v : V} {A : AP} (o : Own K C H d v A) (e : keyOf d = some k) : v = kV k := by
  cases o <;> simp [keyOf] at e <;> subst e <;> rfl
theorem keys_v : ∀ {ds : List D} {ks : List Key} {vs : List V} {A : AP}, OwnL K C H ds vs A → keysOf ds = some ks → vs = ks.map kV
  | [], ks, _, _, h, e => by cases h; cases e; rfl
  | d :: ds, ks, _, _, h, e => by
    cases h with
    | cons _ _ _ x y =>
      unfold keysOf at e
      cases e1 : keyOf d with
      | none => rw [e1] at e; cases e
      | some k =>
        cases e2 : keysOf ds with
        | none => rw [e1, e2] at e; cases e
        | some r =>
          rw [e1, e2] at e; cases e
          rw [List.map_cons, key_v x e1, keys_v y e2]
theorem lookD_val {κ : Type} [DecidableEq κ] : ∀ {ks : List κ} {ds : List D} {vs : List V} {A : AP} (j : κ), ks.length = ds.length → OwnL K C H ds vs A → (∀ d, lookD ks ds j = some d → ∃ v, valV (ks.zip vs) j = some v ∧ Own K C H d v A) ∧ (lookD ks ds j = none → valV (ks.zip vs) j = none)
  | [], [], _, _, j, _, h => by cases h; exact ⟨fun d e => (by cases e), fun _ => rfl⟩
  | k :: ks, d :: ds, _, _, j, hl, h => by
    cases h with
    | cons a b c x y =>
      obtain ⟨q1, q2⟩ := lookD_val (ks := ks) (ds := ds) j (by simpa using hl) y
      unfold lookD
      rw [List.zip_cons_cons]
      by_cases e : k = j
      · rw [if_pos e, valV_pos e]
        exact ⟨fun d' z => (by cases z; exact ⟨_, rfl, x.mono b⟩), fun z => (by cases z)⟩
      · rw [if_neg e, valV_neg e]
        exact ⟨fun d' z => (by obtain ⟨v, z1, z2⟩ := q1 d' z; exact ⟨v, z1, z2.mono c⟩), q2⟩
  | [], _ :: _, _, _, _, hl, _ => by cases hl
  | _ :: _, [], _, _, _, hl, _ => by cases hl
end
end Dy

/-! Subscripts, slices, built-ins by data. -/
namespace Dy
open PySem L2
section
variable {K : PySem.W.Frag} {C : Nat → Addr} {W : WX} {Φ : AP} {Λ : Nat → AP} {π : Nat → Option V} {ss : SS} {σ : L2.St} {H H' : Hp}
/-! ### operators that hand out what is there -/
def OpP (K : PySem.W.Frag) (C : Nat → Addr) (r : R2) (f : D → D → Option D) : Prop :=
  ∀ H x y dx dy z A (Q : VK), Al H A → Own K C H dx x A → Rb K C H dy y → f dx dy = some z → (∀ v, Own K C H z v A → Q v H) → r x y H Q
theorem sp_op {r : R2} {f : D → D → Option D} {ta tb : TE} {F G : SS → Option D} (ho : OpP K C r f) (ha : SimP K C ta F) (hb : SimP K C tb G) : SimP K C (tOp r ta tb) (p2 f F G) := fun Φ Λ π ss σ H Q d rel e k => by
  unfold p2 at e
  cases ea : F ss with
  | none => rw [ea] at e; cases e
  | some x =>
    cases eb : G ss with
    | none => rw [ea, eb] at e; cases e
    | some y =>
      rw [ea, eb] at e
      refine ha Φ Λ π ss σ H _ x rel ea fun v H1 s1 r1 => ?_
      refine hb Φ Λ π ss σ H1 _ y (rel.same s1) eb fun u H2 s2 r2 => ?_
      obtain ⟨A, al, o⟩ := r1.same s2
      exact ho H2 v u x y d A Q al o r2 e fun w ow => k w H2 (s1.trans s2) ⟨A, al, ow⟩
/-- the base moves, and what is taken of it -/
theorem se_opP {r : R2} {f : D → D → Option D} {ta tb : TE} {F G : SS → R D} (ho : OpP K C r f) (ha : SimE K C W ta F) (hb : SimE K C W tb G) : SimE K C W (tOp r ta tb) (e2 f F G) := fun Φ Λ π ss σ H Q rel p => by
  unfold e2 at p
  refine ha Φ Λ π ss σ H _ rel ?_
  cases ea : F ss with
  | stuck => rw [ea] at p; exact p
  | exc x s => rw [ea] at p; exact p
  | ok x s1 =>
    rw [ea] at p
    intro v H1 B1 k1 r1 sp1 o1
    refine hb (Cup Φ B1) Λ π s1 σ H1 _ r1 ?_
    have p' : PostE K C W Φ Λ π σ H Q ((G s1).bind fun b s2 => R.of (f x b) s2) := p
    cases eb : G s1 with
    | stuck => rw [eb] at p'; exact p'
    | exc x s => rw [eb] at p'; exact PostX.more p' k1 rel.psi
    | ok y s2 =>
      rw [eb] at p'
      intro u H2 B2 k2 r2 sp2 o2
      obtain ⟨q1, q2, q3, q4⟩ := e2_core k1 r1 sp1 o1 k2 r2 sp2 o2 rel.psi
      have p'' : PostE K C W Φ Λ π σ H Q (R.of (f x y) s2) := p'
      cases ez : f x y with
      | none => rw [ez] at p''; exact p''.elim
      | some z =>
        rw [ez] at p''
        exact ho H2 v u x y z B1 Q ((r1.al.keep k2).mono cup_r) (o1.keep (k2.mono cup_r)) q2 ez fun w ow => p'' w H2 B1 q3 (r2.shrink cup_l fun i => (rel.psi i).trans cup_l) sp1 ow
theorem opp_or {r q : R2} {f g : D → D → Option D} (h : OpP K C r f) (h2 : OpP K C q g) : OpP K C (fun x y H Q => r x y H Q ∨ q x y H Q) (orF f g) := fun H x y dx dy z A Q al a b e k => by
  unfold orF at e
  cases q1 : f dx dy with
  | some w => rw [q1] at e; cases e; exact .inl (h H x y dx dy _ A Q al a b q1 k)
  | none => rw [q1] at e; exact .inr (h2 H x y dx dy z A Q al a b e k)
/-! ### x[i] -/
theorem atI_idx {α : Type} {xs : List α} {i : Int} {x : α} (h : atI xs i = some x) : ∃ j, ixN xs.length i = some j ∧ xs[j]? = some x := by
  unfold atI at h
  cases e : ixN xs.length i with
  | none => rw [e] at h; cases h
  | some j => rw [e] at h; exact ⟨j, rfl, h⟩
theorem atI_own {ds : List D} {vs : List V} {A : AP} {i : Int} {d : D} (o : OwnL K C H ds vs A) (e : atI ds i = some d) : ∃ v, atI vs i = some v ∧ Own K C H d v A := by
  obtain ⟨j, h1, h2⟩ := atI_idx e
  obtain ⟨v, e1, e2⟩ : ∃ v, vs[j]? = some v ∧ Own K C H d v A := by
    clear h1 e
    induction ds generalizing vs A j with
    | nil => simp at h2
    | cons x ds ih =>
      cases o with
      | cons a b c x1 y1 =>
        rename_i A1 A2 w ws
        cases j with
        | zero => simp at h2; subst h2; exact ⟨w, rfl, x1.mono b⟩
        | succ j =>
          obtain ⟨v, q1, q2⟩ := ih y1 j (by simpa using h2)
          exact ⟨v, by simpa using q1, q2.mono c⟩
  refine ⟨v, ?_, e2⟩
  unfold atI
  rw [← o.length, h1]
  exact e1
def fIxL (a b : D) : Option D := match a, b with
  | .lst ds, .int i => atI ds i
  | .fls ds, .int i => atI ds i
  | _, _ => none
def fIxT (a b : D) : Option D := match a, b with
  | .tup ds, .int i => atI ds i
  | _, _ => none
def fIxS (a b : D) : Option D := match a, b with
  | .str z, .int i => if z.length ≤ 1000000 then (atI z.cps.toList i).map fun c => .str ⟨#[c]⟩ else none
  | _, _ => none
theorem op_ixL : OpP K C (rIxL K) fIxL := fun H x y dx dy z A Q al o b e k => by
  cases dx <;> cases dy <;> simp [fIxL] at e
  · cases o with
    | lst h e1 y1 =>
      obtain ⟨v, q1, q2⟩ := atI_own y1 e
      exact ⟨_, _, _, v, rfl, rb_int' b, SqL.of e1, q1, k v (q2.mono But.sub)⟩
  · cases o with
    | fls e1 y1 =>
      obtain ⟨v, q1, q2⟩ := atI_own y1 e
      exact ⟨_, _, _, v, rfl, rb_int' b, e1.sql, q1, k v (q2.mono sub_mt)⟩
theorem op_ixT : OpP K C (rIxT K) fIxT := fun H x y dx dy z A Q al o b e k => by
  cases dx <;> cases dy <;> simp [fIxT] at e
  cases o with
  | tup e1 y1 =>
    obtain ⟨v, q1, q2⟩ := atI_own y1 e
    exact ⟨_, _, _, v, rfl, rb_int' b, SqT.of e1, q1, k v q2⟩
theorem op_ixS : OpP K C rIxS fIxS := fun H x y dx dy z A Q al o b e k => by
  cases dx <;> cases dy <;> simp [fIxS] at e
  obtain ⟨l, c, h1, h2⟩ := e
  subst h2
  cases o
  exact ⟨_, _, c, rfl, rb_int' b, sl100 l, h1, k _ (.str _)⟩
/-- d[k] -/
def rDG : R2 := fun x y H Q => ∃ a v, x = .ref a ∧ DGet H a y (some v) ∧ Q v H
theorem ix_dict {X : Cx} (hu : X.A.units + 1 < cLine) : IxR X rDG := by
  intro value slice pins s σ H x y v u Q I rx ry h hs
  obtain ⟨a, w, rfl, g, q⟩ := h
  obtain rfl : v = Value.ref a := rx
  exact PyProof.Rows.tail_any (dict_typeIs I g) PySem.F.slot_dict_getitem.lookup (d_getItem hu I g ry fun w' s3 I3 rw' => ⟨w, H, I3, rw', q⟩) hs
def fDG (a b : D) : Option D := match dGet a b with
  | some o => o
  | none => none
theorem tkey_v {d : D} {k : List Key} {v : V} {A : AP} (o : Own K C H d v A) (e : tkeyOf d = some k) : ∃ b, v = .ref b ∧ H b = some (.tup (k.map kV)) := by
  cases o <;> simp [tkeyOf] at e
  rename_i q y
  rw [keys_v y e] at q
  exact ⟨_, rfl, q⟩
/-- what a dict says, by data -/
theorem dget_of {dx dy : D} {x y : V} {A B : AP} {r : Option D} (o : Own K C H dx x A) (o2 : Own K C H dy y B) (e : dGet dx dy = some r) : ∃ a w, x = .ref a ∧ DGet H a y w ∧ (∀ d, r = some d → ∃ v, w = some v ∧ Own K C H d v A) ∧ (r = none → w = none) := by
  cases dx <;> simp [dGet] at e
  · obtain ⟨kk, hk1, hk2⟩ := e
    cases o with
    | dk h l e1 y1 =>
      obtain ⟨q1, q2⟩ := lookD_val kk l y1
      subst hk2
      rw [key_v o2 hk1]
      exact ⟨_, _, rfl, DGet.k e1, fun d hd => let ⟨v, z1, z2⟩ := q1 d hd; ⟨v, z1, z2.mono But.sub⟩, q2⟩
  · obtain ⟨kk, hk1, hk2⟩ := e
    cases o with
    | dt h l e1 y1 =>
      obtain ⟨q1, q2⟩ := lookD_val kk l y1
      subst hk2
      obtain ⟨b, rfl, hb⟩ := tkey_v o2 hk1
      exact ⟨_, _, rfl, DGet.t e1 hb, fun d hd => let ⟨v, z1, z2⟩ := q1 d hd; ⟨v, z1, z2.mono But.sub⟩, q2⟩
theorem op_dg : OpP K C rDG fDG := fun H x y dx dy z A Q al o b e k => by
  unfold fDG at e
  obtain ⟨B, _, o2⟩ := b
  cases eg : dGet dx dy with
  | none => rw [eg] at e; cases e
  | some r =>
    rw [eg] at e
    simp only at e
    obtain ⟨a, w, rfl, g, h1, h2⟩ := dget_of o o2 eg
    obtain ⟨v, rfl, ow⟩ := h1 z e
    exact ⟨a, v, rfl, g, k v ow⟩
/-- x[i] of anything -/
def rIxA (K : PySem.W.Frag) : R2 := fun x y H Q => (rIxL K x y H Q ∨ (rIxT K x y H Q ∨ rIxS x y H Q)) ∨ rDG x y H Q
def fIx : D → D → Option D := orF (orF fIxL (orF fIxT fIxS)) fDG
theorem ix_any {X : Cx} (hu : X.A.units + 1 < cLine) : IxR X (rIxA X.K) := (ix_list.or (ix_tup.or ix_str)).or (ix_dict hu)
theorem op_ix : OpP K C (rIxA K) fIx := opp_or (opp_or op_ixL (opp_or op_ixT op_ixS)) op_dg
/-! ### in a dict -/
def rDIn (n : Bool) : R2 := fun y x H Q => ∃ a o, x = .ref a ∧ DGet H a y o ∧ Q (.bl (if n then !o.isSome else o.isSome)) H
theorem op_din {X : Cx} (hu : X.A.units + 1 < cLine) : OpR X (compareOp .In) (rDIn false) := by
  intro pins s σ H y x v u Q I ry rx h
  obtain ⟨a, o, rfl, g, q⟩ := h
  obtain rfl : u = Value.ref a := rx
  exact d_in hu I g ry fun s3 I3 => ⟨.bl o.isSome, H, I3, rfl, q⟩
theorem op_dnin {X : Cx} (hu : X.A.units + 1 < cLine) : OpR X (compareOp .NotIn) (rDIn true) := by
  intro pins s σ H y x v u Q I ry rx h
  obtain ⟨a, o, rfl, g, q⟩ := h
  obtain rfl : u = Value.ref a := rx
  exact d_notIn hu I g ry fun s3 I3 => ⟨.bl (!o.isSome), H, I3, rfl, q⟩
def fInD (n : Bool) (a b : D) : Option D := (dGet b a).map fun o => .bl (if n then !o.isSome else o.isSome)
theorem os_inD (n : Bool) : OpS K C (rDIn n) (fInD n) := fun H y x dy dx z Q ⟨B, _, o2⟩ ⟨A, _, o⟩ e k => by
  unfold fInD at e
  cases eg : dGet dx dy with
  | none => rw [eg] at e; cases e
  | some r =>
    rw [eg] at e; cases e
    obtain ⟨a, w, rfl, g, h1, h2⟩ := dget_of o o2 eg
    refine ⟨a, w, rfl, g, ?_⟩
    have ew : w.isSome = r.isSome := by
      cases r with
      | none => rw [h2 rfl]; rfl
      | some d => obtain ⟨v, rfl, _⟩ := h1 d rfl; rfl
    rw [ew]
    exact k _ H Mt (Same.refl H) fr_mt al_mt (.bl _)
/-! x in anything -/
def rInA (K : PySem.W.Frag) : R2 := fun x y H Q => ((rInD K x y H Q ∨ rIn K false x y H Q) ∨ (∃ (c : Nat) (z : Str), x = .str ⟨#[c]⟩ ∧ y = .str z ∧ Q (.bl (decide (c ∈ z.cps.toList))) H)) ∨ rDIn false x y H Q
def rNInA (K : PySem.W.Frag) : R2 := fun x y H Q => ((rNotInD K x y H Q ∨ rIn K true x y H Q) ∨ (∃ (c : Nat) (z : Str), x = .str ⟨#[c]⟩ ∧ y = .str z ∧ Q (.bl (!decide (c ∈ z.cps.toList))) H)) ∨ rDIn true x y H Q
def fIn (n : Bool) : D → D → Option D := orF (orF (orF (fInL n) (fInT n)) (fInS n)) (fInD n)
theorem op_inA {X : Cx} (hu : X.A.units + 65 < cLine) : OpR X (compareOp .In) (rInA X.K) := (((op_inD hu).or op_in_seq).or op_in_sign).or (op_din (by omega))
theorem op_ninA {X : Cx} (hu : X.A.units + 65 < cLine) : OpR X (compareOp .NotIn) (rNInA X.K) := (((op_notInD hu).or op_notIn_seq).or op_notIn_sign).or (op_dnin (by omega))
theorem os_in : OpS K C (rInA K) (fIn false) := ops_or (ops_or (ops_or os_inL (os_inT false)) os_inS) (os_inD false)
theorem os_nin : OpS K C (rNInA K) (fIn true) := ops_or (ops_or (ops_or os_ninL (os_inT true)) os_ninS) (os_inD true)
/-! + and * of anything -/
def rAddA (K : PySem.W.Frag) : R2 := fun x y H Q => (((∃ i j, x = .int i ∧ y = .int j ∧ Q (.int (i + j)) H) ∨ (∃ i j, x = .str i ∧ y = .str j ∧ i.length + j.length ≤ sizeLine ∧ Q (.str (i ++ j)) H)) ∨ rCat x y H Q) ∨ rCatA K x y H Q
def fAdd : D → D → Option D := orF (orF (orF fAddI fAddS) fAddL) fAddT
theorem op_addA {X : Cx} : OpR X (binaryOp .Add) (rAddA X.K) := ((OpR.or op_add op_add_str).or op_cat).or op_catA
theorem os_add : OpS K C (rAddA K) fAdd := ops_or (ops_or (ops_or os_addI os_addS) os_addL) os_addT
def rMulA (K : PySem.W.Frag) : R2 := fun x y H Q => (rI CMul (fun i j => .int (i * j)) x y H Q ∨ rRep x y H Q) ∨ rRepT K x y H Q
noncomputable def fMul : D → D → Option D := orF (orF fMulI fRepL) fRepT
theorem op_mulA {X : Cx} : OpR X (binaryOp .Mult) (rMulA X.K) := (OpR.or op_mul op_rep).or op_repT
theorem os_mul : OpS K C (rMulA K) fMul := ops_or (ops_or os_mulI os_repL) os_repT
/-! ### slices -/
def cutD (xs : List D) (lo hi : Option Int) : List D := (xs.drop (HT.sIx xs.length 0 lo)).take (HT.sIx xs.length xs.length hi - HT.sIx xs.length 0 lo)
theorem IL.cut {ds : List D} {vs : List V} (h : IL K C H ds vs) (lo hi : Option Int) : IL K C H (cutD ds lo hi) (cutV vs lo hi) := by
  unfold cutD cutV
  rw [← h.length]
  exact IL.take _ (IL.drop _ h)
def SimO (K : PySem.W.Frag) (C : Nat → Addr) (t : TO) (F : SS → Option (Option Int)) : Prop := ∀ Φ Λ π ss σ H (Q : Option Int → Hp → Prop) o, Rel K C Φ Λ π ss σ H → F ss = some o → (∀ H', Same H H' → Q o H') → t σ H Q
def oN : SS → Option (Option Int) := fun _ => some none
def asInt : D → Option Int
  | .int i => some i
  | _ => none
def oS (F : SS → Option D) : SS → Option (Option Int) := fun s => ((F s).bind asInt).map some
theorem so_none : SimO K C tNoPart oN := fun Φ Λ π ss σ H Q o r e k => by cases e; exact k H (Same.refl H)
theorem asInt_ok {d : D} {i : Int} (e : asInt d = some i) : d = .int i := by cases d <;> simp [asInt] at e; rw [e]
theorem so_some {te : TE} {F : SS → Option D} (h : SimP K C te F) : SimO K C (tPart te) (oS F) := fun Φ Λ π ss σ H Q o r e k => by
  unfold oS at e
  cases q : F ss with
  | none => rw [q] at e; cases e
  | some d =>
    rw [q] at e
    simp only [Option.bind] at e
    cases q2 : asInt d with
    | none => rw [q2] at e; cases e
    | some i =>
      rw [q2] at e; cases e
      rw [asInt_ok q2] at q
      exact h Φ Λ π ss σ H _ _ r q fun v H' s rb => ⟨i, rb_int' rb, k H' s⟩
def SlS (K : PySem.W.Frag) (C : Nat → Addr) (r : V → Option Int → Option Int → Hp → VK → Prop) (f : D → Option Int → Option Int → Option D) : Prop :=
  ∀ H x dx lo hi z (Q : VK), Rb K C H dx x → f dx lo hi = some z → (∀ v H' B, Same H H' → Fr H B → Al H' B → Own K C H' z v B → Q v H') → r x lo hi H Q
def pSl (f : D → Option Int → Option Int → Option D) (F : SS → Option D) (G1 G2 : SS → Option (Option Int)) : SS → Option D := fun s => (F s).bind fun a => (G1 s).bind fun l => (G2 s).bind fun h => f a l h
theorem sf_sl {r : V → Option Int → Option Int → Hp → VK → Prop} {f : D → Option Int → Option Int → Option D} {te : TE} {tl th : TO} {F : SS → Option D} {G1 G2 : SS → Option (Option Int)} (hr : SlS K C r f) (he : SimP K C te F) (hl : SimO K C tl G1) (hh : SimO K C th G2) :
    SimF K C (tSl r te tl th) (pSl f F G1 G2) := fun Φ Λ π ss σ H Q d rel e k => by
  unfold pSl at e
  cases ea : F ss with
  | none => rw [ea] at e; cases e
  | some x =>
    cases eb : G1 ss with
    | none => rw [ea, eb] at e; cases e
    | some l =>
      cases ec : G2 ss with
      | none => rw [ea, eb, ec] at e; cases e
      | some u =>
        rw [ea, eb, ec] at e
        refine he Φ Λ π ss σ H _ x rel ea fun v H1 s1 r1 => ?_
        refine hl Φ Λ π ss σ H1 _ l (rel.same s1) eb fun H2 s2 => ?_
        refine hh Φ Λ π ss σ H2 _ u ((rel.same s1).same s2) ec fun H3 s3 => ?_
        exact hr H3 v x l u d Q ((r1.same s2).same s3) e fun w H4 B s4 f al o => k w H4 B (((s1.trans s2).trans s3).trans s4) (fun a z => ((s1.trans s2).trans s3).free (f a z)) al o
/-- the base may do things, the parts not -/
def eSl (f : D → Option Int → Option Int → Option D) (F : SS → R D) (G1 G2 : SS → Option (Option Int)) : SS → R D := fun s => (F s).bind fun a s1 => R.of ((G1 s1).bind fun l => (G2 s1).bind fun h => f a l h) s1
theorem se_sl {r : V → Option Int → Option Int → Hp → VK → Prop} {f : D → Option Int → Option Int → Option D} {te : TE} {tl th : TO} {F : SS → R D} {G1 G2 : SS → Option (Option Int)} (hr : SlS K C r f) (he : SimE K C W te F) (hl : SimO K C tl G1) (hh : SimO K C th G2) :
    SimE K C W (tSl r te tl th) (eSl f F G1 G2) := fun Φ Λ π ss σ H Q rel p => by
  unfold eSl at p
  refine he Φ Λ π ss σ H _ rel ?_
  cases ea : F ss with
  | stuck => rw [ea] at p; exact p
  | exc x s => rw [ea] at p; exact p
  | ok x s1 =>
    rw [ea] at p
    intro v H1 B1 k1 r1 sp1 o1
    simp only [R.bind] at p
    cases eb : G1 s1 with
    | none => rw [eb] at p; exact p.elim
    | some l =>
      cases ec : G2 s1 with
      | none => rw [eb, ec] at p; exact p.elim
      | some u =>
        rw [eb, ec] at p
        simp only [Option.bind] at p
        refine hl _ Λ π s1 σ H1 _ l r1 eb fun H2 s2 => ?_
        refine hh _ Λ π s1 σ H2 _ u (r1.same s2) ec fun H3 s3 => ?_
        cases ez : f x l u with
        | none => rw [ez] at p; exact p.elim
        | some z =>
          rw [ez] at p
          have s13 := s2.trans s3
          have q4 := (r1.same s13).shrink cup_l rel.psi
          exact hr H3 v x l u z Q ⟨B1, ((r1.same s13).al).mono cup_r, o1.same s13⟩ ez fun w H4 B s4 fr al o => p w H4 B (k1.trans (Keep.of (s13.trans s4))) (q4.grow s4 fr al) ((fr_sep fr q4.al).symm) o
def fSlL (a : D) (lo hi : Option Int) : Option D := match a with
  | .lst ds => if immL ds then some (.lst (cutD ds lo hi)) else none
  | .fls ds => if immL ds then some (.lst (cutD ds lo hi)) else none
  | _ => none
def fSlT (a : D) (lo hi : Option Int) : Option D := match a with
  | .tup ds => if immL ds then some (.tup (cutD ds lo hi)) else none
  | _ => none
def fSlS (a : D) (lo hi : Option Int) : Option D := match a with
  | .str z => if z.length ≤ 1000000 then some (.str (cutS z lo hi)) else none
  | _ => none
theorem ss_slL : SlS K C (rSlL K) fSlL := fun H x dx lo hi z Q ⟨A, _, o⟩ e k => by
  cases dx <;> simp [fSlL] at e
  · obtain ⟨i, rfl⟩ := e
    cases o with
    | lst h e1 y1 => exact ⟨_, _, rfl, SqL.of e1, fun p hp => k _ _ (One p) (same_upd hp) (one_fr hp) one_al (new_lst (IL.cut (y1.imm i) lo hi) hp)⟩
  · obtain ⟨i, rfl⟩ := e
    cases o with
    | fls e1 y1 => exact ⟨_, _, rfl, e1.sql, fun p hp => k _ _ (One p) (same_upd hp) (one_fr hp) one_al (new_lst (IL.cut (y1.imm i) lo hi) hp)⟩
theorem ss_slT : SlS K C (rSlA K) fSlT := fun H x dx lo hi z Q ⟨A, _, o⟩ e k => by
  cases dx <;> simp [fSlT] at e
  obtain ⟨i, rfl⟩ := e
  cases o with
  | tup e1 y1 =>
    rename_i vs p
    refine ⟨_, vs, rfl, SqT.of e1, fun h1 => ?_, fun h1 q hq => ?_⟩
    · have il := IL.cut (y1.imm i) lo hi
      have e2 : cutV vs lo hi = vs := by
        unfold cutV
        rw [h1.1, h1.2]
        simp
      rw [e2] at il
      exact k _ H Mt (Same.refl H) fr_mt al_mt (.tup e1 il)
    · exact k _ _ Mt (same_upd hq) fr_mt al_mt (new_tup (IL.cut (y1.imm i) lo hi) hq)
theorem ss_slS : SlS K C rSlS fSlS := fun H x dx lo hi z Q a e k => by
  cases dx <;> simp [fSlS] at e
  obtain ⟨l, rfl⟩ := e
  exact ⟨_, rb_str a, sl100 l, k _ H Mt (Same.refl H) fr_mt al_mt (.str _)⟩
def fSl (a : D) (lo hi : Option Int) : Option D := ((fSlL a lo hi).orElse fun _ => fSlT a lo hi).orElse fun _ => fSlS a lo hi
def rSl (K : PySem.W.Frag) : V → Option Int → Option Int → Hp → VK → Prop := fun x lo hi H Q => (rSlL K x lo hi H Q ∨ rSlA K x lo hi H Q) ∨ rSlS x lo hi H Q
theorem sl_any {X : Cx} : SlR X (rSl X.K) := (SlR.or sl_list sl_tupA).or sl_str
theorem ss_sl : SlS K C (rSl K) fSl := fun H x dx lo hi z Q a e k => by
  unfold fSl at e
  cases e1 : fSlL dx lo hi with
  | some w => rw [e1] at e; cases e; exact .inl (.inl (ss_slL H x dx lo hi _ Q a e1 k))
  | none =>
    cases e2 : fSlT dx lo hi with
    | some w => rw [e1, e2] at e; cases e; exact .inl (.inr (ss_slT H x dx lo hi _ Q a e2 k))
    | none => rw [e1, e2] at e; exact .inr (ss_slS H x dx lo hi z Q a e k)
end
end Dy

/-! Walks: sources, for, while, comprehensions. -/
namespace Dy
open PySem L2
section
variable {K : PySem.W.Frag} {C : Nat → Addr} {W : WX} {Φ Φ' : AP} {Λ : Nat → AP} {π : Nat → Option V} {ss : SS} {σ : L2.St} {H H' : Hp}
/-- from a value that holds still -/
theorem seq_it {d : D} {ds : List D} {v : V} {B : AP} {Z : It → Hp → Prop} (o : Own K C H d v B) (e : asSeq d = some ds) (z : ∀ J, ItOk K C J ds B H → Z J H) :
    ∃ a, v = .ref a ∧ (((∃ xs, SqL K H a xs) ∧ Z (Itl K a) H) ∨ ((∃ xs, SqT K H a xs) ∧ Z (Itt K a) H)) := by
  cases d <;> simp [asSeq] at e
  · subst e
    cases o with
    | tup q y =>
      rename_i a vs
      exact ⟨a, rfl, .inr ⟨⟨_, SqT.of q⟩, z _ (itt_ok fun H1 k => ⟨vs, SqT.of (k.p.t _ _ q), y.keep k⟩)⟩⟩
  · subst e
    cases o with
    | lst ha q y =>
      rename_i a vs
      exact ⟨a, rfl, .inl ⟨⟨_, SqL.of q⟩, z _ (itl_ok fun H1 k => ⟨vs, SqL.of (k.k _ _ ha q), (y.keep (k.mono But.sub)).mono But.sub⟩)⟩⟩
  · subst e
    cases o with
    | fls q y =>
      rename_i a vs
      exact ⟨a, rfl, .inl ⟨⟨_, q.sql⟩, z _ (itl_ok fun H1 k => ⟨vs, (q.pers k.p).sql, (y.keep (k.mono sub_mt)).mono sub_mt⟩)⟩⟩
def iP (F : SS → Option D) : SS → Option (List D) := fun s => (F s).bind asSeq
def iE (F : SS → R D) : SS → R (List D) := fun s => (F s).bind fun d s1 => R.of (asSeq d) s1
theorem sip_seq {te : TE} {F : SS → Option D} (h : SimP K C te F) : SimIP K C (iSeq K te) (iP F) := fun Φ Λ π ss σ H Z ds r e k => by
  unfold iP at e
  cases q : F ss with
  | none => rw [q] at e; cases e
  | some d =>
    rw [q] at e
    exact h Φ Λ π ss σ H _ d r q fun v H1 s1 ⟨A, al, o⟩ => seq_it o e fun J ok => k J H1 A s1 al ok
theorem si_seq {te : TE} {F : SS → R D} (h : SimE K C W te F) : SimI K C W (iSeq K te) id (iE F) := fun Φ Λ π ss σ H Z r p => by
  unfold iE at p
  refine h Φ Λ π ss σ H _ r ?_
  cases q : F ss with
  | stuck => rw [q] at p; exact p
  | exc x s => rw [q] at p; exact p
  | ok d s =>
    rw [q] at p
    intro v H1 B k1 r1 sp o
    simp only [R.bind] at p
    cases e : asSeq d with
    | none => rw [e] at p; exact p.elim
    | some ds =>
      rw [e] at p
      exact seq_it o e fun J ok => p J H1 B Λ k1 r1 (back_id r.psi) ok
/-- a slot's list, lent -/
def iLock (j : Nat) : SS → R (List D) := fun s => match s[j]? with
  | some (.own (.lst ds)) => .ok ds (s.set j (.bor (.lst ds)))
  | some (.own (.tup ds)) => if immL ds then .ok ds s else .stuck
  | some (.own (.fls ds)) => .ok ds s
  | _ => .stuck
theorem lock_imm {j : Nat} {d : D} {ds : List D} {Z : It → Hp → Prop} (r : Rel K C Φ Λ π ss σ H) (e : ss[j]? = some (.own d)) (e2 : asSeq d = some ds) (i : imm d = true) (p : PostI K C W Φ Λ π σ H (unlk j) Z (.ok ds ss)) : iSeq K (tVar j) σ H Z := by
  obtain ⟨v, h1, rb⟩ := r.get e rfl
  refine ⟨v, h1, seq_it (B := Mt) (rb.imm i) e2 fun J ok => p J H Mt (fun i => if i = j then Mt else Λ i) (Keep.refl _ _) ?_ (back_unlk r.psi sep_mt) ok⟩
  obtain ⟨As, a⟩ := r
  refine ⟨As, a.al.cup al_mt, fun i => ?_, a.len, a.pin, a.aa, fun i => (a.af i).cup mt_sep, a.ap, fun i s o e1 e3 => ?_⟩
  · show Sub (if i = j then Mt else Λ i) (Cup Φ Mt)
    split
    · exact sub_mt
    · exact (a.sub i).trans cup_l
  · show SlOk K C H (if i = j then Mt else Λ i) (As i) s o
    by_cases n : i = j
    · subst n; rw [e] at e1; cases e1
      exact a.ok i _ o e e3
    · rw [if_neg n]; exact a.ok i s o e1 e3
theorem si_lock (j : Nat) : SimI K C W (iSeq K (tVar j)) (unlk j) (iLock j) := fun Φ Λ π ss σ H Z r p => by
  unfold iLock at p
  cases e : ss[j]? with
  | none => rw [e] at p; exact p.elim
  | some s0 =>
    rw [e] at p
    cases s0 with
    | no => exact p.elim
    | inn d => exact p.elim
    | bor d => exact p.elim
    | own d =>
      cases d <;> try (exact p.elim)
      · rename_i ds
        by_cases i : immL ds = true
        · simp only [i, if_true] at p
          exact lock_imm r e rfl (by rw [imm]; exact i) p
        · simp only [i] at p; exact p.elim
      · rename_i ds
        have p : PostI K C W Φ Λ π σ H (unlk j) Z (.ok ds (ss.set j (.bor (.lst ds)))) := p
        obtain ⟨As, a⟩ := id r
        obtain ⟨o, eo⟩ := getσ a.len e
        obtain ⟨v, ev, w⟩ := a.ok j _ o e eo
        subst ev
        refine ⟨v, eo, seq_it w (ds := ds) rfl fun J ok => p J H (As j) (fun i => if i = j then As j else Λ i) (Keep.refl _ _) ?_ (back_unlk r.psi (a.af j)) ok⟩
        have hj : j < ss.length := (List.getElem?_eq_some_iff.mp e).1
        refine ⟨fun i => if i = j then Mt else As i, a.al.cup (a.aa j), fun i => ?_, by rw [List.length_set]; exact a.len, fun i u hi => ?_, fun i => ?_, fun i => ?_, fun i k h => ?_, fun i s o e1 e2 => ?_⟩
        · show Sub (if i = j then As j else Λ i) (Cup Φ (As j))
          split
          · exact cup_r
          · exact (a.sub i).trans cup_l
        · obtain ⟨h1, x, h2⟩ := a.pin i u hi
          have nj : j ≠ i := fun z => by subst z; rw [e] at h2; cases h2
          exact ⟨h1, x, by rw [List.getElem?_set_ne nj]; exact h2⟩
        · show Al H (if i = j then Mt else As i)
          split
          · exact al_mt
          · exact a.aa i
        · show Sep (if i = j then Mt else As i) (Cup Φ (As j))
          split
          · exact sep_mt
          · rename_i n; exact (a.af i).cup (a.ap i j n)
        · show Sep (if i = j then Mt else As i) (if k = j then Mt else As k)
          split
          · exact sep_mt
          · split
            · exact mt_sep
            · exact a.ap i k h
        · by_cases n : j = i
          · subst n
            rw [List.getElem?_set_self hj] at e1; cases e1
            rw [eo] at e2; cases e2
            show SlOk K C H (if j = j then As j else Λ j) _ (.bor (.lst ds)) _
            rw [if_pos rfl]
            exact ⟨v, rfl, w⟩
          · rw [List.getElem?_set_ne n] at e1
            show SlOk K C H (if i = j then As j else Λ i) (if i = j then Mt else As i) s o
            rw [if_neg (fun z => n z.symm), if_neg (fun z => n z.symm)]
            exact a.ok i s o e1 e2
      · exact lock_imm r e rfl rfl p
/-- a slot that is lent already (a parameter) -/
def iBor (j : Nat) : SS → R (List D) := fun s => match s[j]? with
  | some (.bor d) => R.of (asSeq d) s
  | _ => .stuck
theorem si_bor (j : Nat) : SimI K C W (iSeq K (tVar j)) id (iBor j) := fun Φ Λ π ss σ H Z r p => by
  unfold iBor at p
  cases e : ss[j]? with
  | none => rw [e] at p; exact p.elim
  | some s0 =>
    rw [e] at p
    cases s0 with
    | no => exact p.elim
    | inn d => exact p.elim
    | own d => exact p.elim
    | bor d =>
      obtain ⟨As, a⟩ := id r
      obtain ⟨o, eo⟩ := getσ a.len e
      obtain ⟨v, ev, w⟩ := a.ok j _ o e eo
      subst ev
      have p : PostI K C W Φ Λ π σ H id Z (R.of (asSeq d) ss) := p
      cases e2 : asSeq d with
      | none => rw [e2] at p; exact p.elim
      | some ds =>
        rw [e2] at p
        exact ⟨v, eo, seq_it w e2 fun J ok => p J H (Λ j) Λ (Keep.refl _ _) (r.eqv cup_l (cup_sub (Sub.refl _) (a.sub j))) (back_id r.psi) ok⟩
/-! ranges -/
def rngL (lo : Int) (n : Nat) : List D := (List.range n).map fun i : Nat => .int (lo + i)
theorem rng_ok {lo : Int} {n : Nat} {B : AP} : ItOk K C (Itr lo n) (rngL lo n) B H := fun H1 k i => by
  refine ⟨fun d e => ?_, fun hl => ?_⟩
  · have hi : i < n := by
      have := (List.getElem?_eq_some_iff.mp e).1
      simpa [rngL] using this
    have ed : d = .int (lo + (i : Nat)) := by
      simp only [rngL, List.getElem?_map, List.getElem?_range hi, Option.map_some] at e
      exact (Option.some.inj e).symm
    subst ed
    exact ⟨hi, fun x H' ⟨eh, ex⟩ => by subst eh; subst ex; exact ⟨Same.refl _, .int _⟩⟩
  · show n ≤ i
    simpa [rngL] using hl
noncomputable def iR1 (l : List D) : Option (List D) := match l with
  | [.int j] => if dcd (-(2 ^ 62) ≤ j ∧ j < 2 ^ 62) = true then some (rngL 0 j.toNat) else none
  | _ => none
noncomputable def iR2 (l : List D) : Option (List D) := match l with
  | [.int i, .int j] => if dcd (-(2 ^ 62) ≤ i ∧ i < 2 ^ 62 ∧ -(2 ^ 62) ≤ j ∧ j < 2 ^ 62) = true then some (rngL i (j - i).toNat) else none
  | _ => none
theorem rb_int {i : Int} {v : V} (h : Rb K C H (.int i) v) : v = .int i := by obtain ⟨A, _, o⟩ := h; cases o; rfl
theorem sip_r1 {ta : TA} {F : SS → Option (List D)} (h : SimPs K C ta F) : SimIP K C (iRng1 ta) (p1 iR1 F) := fun Φ Λ π ss σ H Z ds r e k => by
  unfold p1 at e
  cases q : F ss with
  | none => rw [q] at e; cases e
  | some l =>
    rw [q] at e
    refine h Φ Λ π ss σ H _ l r q fun vs H1 s1 rb => ?_
    have e' : iR1 l = some ds := e
    unfold iR1 at e'
    split at e'
    · rename_i j
      split at e'
      · rename_i c
        have c := dcd_eq.mp c
        cases e'
        cases rb with
        | cons x y =>
          cases y
          rw [rb_int x]
          exact ⟨j, rfl, c.1, c.2, k _ H1 Mt s1 al_mt rng_ok⟩
      · cases e'
    · cases e'
theorem sip_r2 {ta : TA} {F : SS → Option (List D)} (h : SimPs K C ta F) : SimIP K C (iRng2 ta) (p1 iR2 F) := fun Φ Λ π ss σ H Z ds r e k => by
  unfold p1 at e
  cases q : F ss with
  | none => rw [q] at e; cases e
  | some l =>
    rw [q] at e
    refine h Φ Λ π ss σ H _ l r q fun vs H1 s1 rb => ?_
    have e' : iR2 l = some ds := e
    unfold iR2 at e'
    split at e'
    · rename_i i j
      split at e'
      · rename_i c
        have c := dcd_eq.mp c
        cases e'
        cases rb with
        | cons x y =>
          cases y with
          | cons x2 y2 =>
            cases y2
            rw [rb_int x, rb_int x2]
            exact ⟨i, j, rfl, c, k _ H1 Mt s1 al_mt rng_ok⟩
      · cases e'
    · cases e'
theorem si_r1 {ta : TA} {F : SS → R (List D)} (h : SimA K C W ta F) : SimI K C W (iRng1 ta) id (e1 iR1 F) := fun Φ Λ π ss σ H Z r p => by
  unfold e1 at p
  refine h Φ Λ π ss σ H _ r ?_
  cases q : F ss with
  | stuck => rw [q] at p; exact p
  | exc x s => rw [q] at p; exact p
  | ok l s =>
    rw [q] at p
    intro vs H1 B k1 r1 sp o
    simp only [R.bind] at p
    cases e : iR1 l with
    | none => rw [e] at p; exact p.elim
    | some ds =>
      rw [e] at p
      have e' : iR1 l = some ds := e
      unfold iR1 at e'
      split at e'
      · rename_i j
        split at e'
        · rename_i c
          have c := dcd_eq.mp c
          cases e'
          cases o with
          | cons _ _ _ x y =>
            cases y; cases x
            exact ⟨j, rfl, c.1, c.2, p _ H1 Mt Λ k1 (r1.shrink cup_l r.psi).mt (back_id r.psi) rng_ok⟩
        · cases e'
      · cases e'
theorem si_r2 {ta : TA} {F : SS → R (List D)} (h : SimA K C W ta F) : SimI K C W (iRng2 ta) id (e1 iR2 F) := fun Φ Λ π ss σ H Z r p => by
  unfold e1 at p
  refine h Φ Λ π ss σ H _ r ?_
  cases q : F ss with
  | stuck => rw [q] at p; exact p
  | exc x s => rw [q] at p; exact p
  | ok l s =>
    rw [q] at p
    intro vs H1 B k1 r1 sp o
    simp only [R.bind] at p
    cases e : iR2 l with
    | none => rw [e] at p; exact p.elim
    | some ds =>
      rw [e] at p
      have e' : iR2 l = some ds := e
      unfold iR2 at e'
      split at e'
      · rename_i i j
        split at e'
        · rename_i c
          have c := dcd_eq.mp c
          cases e'
          cases o with
          | cons _ _ _ x y =>
            cases y with
            | cons _ _ _ x2 y2 =>
              cases y2; cases x; cases x2
              exact ⟨i, j, rfl, c, p _ H1 Mt Λ k1 (r1.shrink cup_l r.psi).mt (back_id r.psi) rng_ok⟩
        · cases e'
      · cases e'
end
end Dy

/-! for, while, comprehensions. -/
namespace Dy
open PySem L2
section
variable {K : PySem.W.Frag} {C : Nat → Addr} {W : WX} {Φ Φ' : AP} {Λ : Nat → AP} {π : Nat → Option V} {ss : SS} {σ : L2.St} {H H' : Hp}
/-! ### targets of a walk -/
def SimG (K : PySem.W.Frag) (C : Nat → Addr) (ts : List Nat) (g : TG) (st : D → SS → Option SS) : Prop :=
  ∀ Φ Λ π s σ H d v B s' (Q : L2.St → Hp → Prop), (∀ i ∈ ts, Λ i = B) → Sub B Φ → Rel K C Φ Λ π s σ H → Own K C H d v B → st d s = some s' → (∀ σ', wipe σ' ts = wipe σ ts → Rel K C Φ Λ π s' σ' H → Q σ' H) → g v σ H Q
def lendSl (i : Nat) (d : D) (s : SS) : Option SS := match s[i]? with
  | some x => if x.isInn then none else some (s.set i (if imm d then .own d else .bor d))
  | none => none
theorem wipe_get : ∀ (vs : List Nat) (σ : L2.St) (i : Nat), (wipe σ vs)[i]? = if i ∈ vs ∧ i < σ.length then some none else σ[i]?
  | [], σ, i => by simp [wipe]
  | v :: vs, σ, i => by
    unfold wipe
    by_cases h : v = i
    · subst h
      by_cases hl : v < σ.length
      · rw [List.getElem?_set_self (by rw [wipe_length]; exact hl)]; simp [hl]
      · rw [List.getElem?_eq_none (by simp [wipe_length]; omega)]
        simp [hl]
        try omega
    · rw [List.getElem?_set_ne h, wipe_get vs σ i]
      have : (i ∈ v :: vs) ↔ i ∈ vs := by simp only [List.mem_cons]; exact ⟨fun z => z.resolve_left (fun e => h e.symm), .inr⟩
      simp only [this]
theorem wipe_set {σ : L2.St} {i : Nat} {o : Option V} {vs : List Nat} (h : i ∈ vs) : wipe (σ.set i o) vs = wipe σ vs := by
  apply List.ext_getElem?
  intro j
  rw [wipe_get, wipe_get, List.length_set]
  by_cases e : i = j
  · subst e
    by_cases hl : i < σ.length
    · simp [h, hl]
    · rw [List.getElem?_eq_none (by simp; omega), List.getElem?_eq_none (by omega)]
  · rw [List.getElem?_set_ne e]
theorem wipe_wipe {σ : L2.St} {vs : List Nat} : wipe (wipe σ vs) vs = wipe σ vs := by
  apply List.ext_getElem?
  intro j
  rw [wipe_get, wipe_length, wipe_get]
  split <;> simp_all
theorem sg_name (i : Nat) : SimG K C [i] (gName i) (lendSl i) := fun Φ Λ π s σ H d v B s' Q hΛ sub r o e k => by
  unfold lendSl at e
  cases q : s[i]? with
  | none => rw [q] at e; cases e
  | some x =>
    rw [q] at e
    cases b : x.isInn with
    | true => simp [b] at e
    | false =>
      simp only [b, Bool.false_eq_true, if_false, Option.some.injEq] at e
      subst e
      refine k _ (wipe_set (by simp)) ?_
      by_cases im : imm d = true
      · rw [if_pos im]
        exact (r.mt).put q b sep_mt r.psi (o.imm im)
      · rw [if_neg im]
        obtain ⟨As, a⟩ := r
        refine ⟨_, a.upd (s' := .bor d) (o' := some v) (B := Mt) q (fun ⟨y, z⟩ => by rw [z] at b; cases b) al_mt sep_mt (fun _ _ => sep_mt) ⟨v, rfl, ?_⟩⟩
        rw [hΛ i (by simp)]; exact o
def lendAll (is : List Nat) (d : D) (s : SS) : Option SS := match d with
  | .tup ds => if immL ds then setAll is ds s else none
  | _ => none
theorem put_allw : ∀ {is : List Nat} {ds : List D} {vs : List V} {s s' : SS} {σ σ0 : L2.St} {ts : List Nat} {Q : L2.St → Hp → Prop}, (∀ i ∈ is, i ∈ ts) → Rel K C Φ Λ π s σ H → IL K C H ds vs → setAll is ds s = some s' → wipe σ ts = wipe σ0 ts →
    (∀ σ', wipe σ' ts = wipe σ0 ts → Rel K C Φ Λ π s' σ' H → Q σ' H) → gNames is vs σ H Q
  | [], [], vs, s, s', σ, σ0, ts, Q, hi, r, o, e, w, k => by
    cases o; cases e
    exact ⟨rfl, k σ w r⟩
  | i :: is, d :: ds, vs, s, s', σ, σ0, ts, Q, hi, r, o, e, w, k => by
    obtain ⟨v, vr, rfl, x, y⟩ := o.inv
    unfold setAll at e
    cases e1 : setSl i d s with
    | none => rw [e1] at e; cases e
    | some s1 =>
      rw [e1] at e
      obtain ⟨z, h1, h2, rfl⟩ := setSl_ok e1
      exact ⟨v, vr, rfl, put_allw (fun j hj => hi j (List.mem_cons_of_mem _ hj)) (r.mt.put h1 h2 sep_mt r.psi x) y e (by rw [wipe_set (hi i List.mem_cons_self)]; exact w) k⟩
  | [], _ :: _, _, _, _, _, _, _, _, _, _, _, e, _, _ => by cases e
  | _ :: _, [], _, _, _, _, _, _, _, _, _, _, e, _, _ => by cases e
theorem sg_tup (is : List Nat) {n : Nat} (hn : is.length = n := by rfl) : SimG K C is (gTup K n (gNames is)) (lendAll is) := fun Φ Λ π s σ H d v B s' Q hΛ sub r o e k => by
  cases d <;> simp [lendAll] at e
  rename_i ds
  obtain ⟨i, e⟩ := e
  cases o with
  | tup q y =>
    rename_i a vs
    exact ⟨a, vs, rfl, SqT.of q, by rw [← y.length, ← setAll_len e]; exact hn, put_allw (fun _ h => h) r (y.imm i) e rfl fun σ' w r' => k σ' w r'⟩

/-! ### for -/
def forL (st : D → SS → Option SS) (body : SS → RS) : List D → SS → RS
  | [], s => .nx s
  | d :: r, s => match st d s with
    | none => .stuck
    | some s1 => match body s1 with
      | .nx s2 => forL st body r s2
      | .ct s2 => forL st body r s2
      | .brk s2 => .nx s2
      | o => o
def sFor (ts : List Nat) (u : SS → SS) (it : SS → R (List D)) (st : D → SS → Option SS) (body : SS → RS) : SS → RS := fun s => (it s).thn fun ds s1 => RS.map (fun s => u (clr ts s)) (forL st body ds (clr ts s1))
theorem ss_for {wi : TI} {g : TG} {tb : TS} {ts : List Nat} {u : SS → SS} {it : SS → R (List D)} {st : D → SS → Option SS} {body : SS → RS} (hi : SimI K C W wi u it) (hg : SimG K C ts g st) (hb : SimS K C W tb body) : SimS K C W (tFor wi g tb) (sFor ts u it st body) := fun Φ Λ π ss σ H E r p => by
  unfold sFor at p
  refine hi Φ Λ π ss σ H _ r ?_
  cases q : it ss with
  | stuck => rw [q] at p; exact p
  | exc x s => rw [q] at p; exact fun H' cls da => p σ H' cls da
  | ok ds s1 =>
    rw [q] at p
    intro J H1 B Λ' k1 r1 bk ok
    have psi' := r1.psi
    have p' : PostS K C W Φ Λ π H E (RS.map (fun s => u (clr ts s)) (forL st body ds (clr ts s1))) := p
    have psiL : ∀ i, Sub ((fun i => if i ∈ ts then B else Λ' i) i) (Cup Φ B) := fun i => by
      show Sub (if i ∈ ts then B else Λ' i) (Cup Φ B)
      split
      · exact cup_r
      · exact psi' i
    have rL : Rel K C (Cup Φ B) (fun i => if i ∈ ts then B else Λ' i) π (clr ts s1) σ H1 := r1.clr (fun j n => if_neg n) psiL
    have pL : PostS K C W (Cup Φ B) (fun i => if i ∈ ts then B else Λ' i) π H1 E (forL st body ds (clr ts s1)) := p'.back (bk.clr psi') k1 (unmt r.psi)
    generalize hΛ : (fun i => if i ∈ ts then B else Λ' i) = ΛL at rL pL psiL
    have hts : ∀ i ∈ ts, ΛL i = B := fun i h => by rw [← hΛ]; exact if_pos h
    refine ⟨fun i m σ' H' => m = ds.length - i ∧ i ≤ ds.length ∧ Keep B H1 H' ∧ ∃ s, Rel K C (Cup Φ B) ΛL π s σ' H' ∧ PostS K C W (Cup Φ B) ΛL π H' E (forL st body (ds.drop i) s), ⟨ds.length, by simp, Nat.zero_le _, Keep.refl _ _, _, rL, by simpa using pL⟩, ?_⟩
    rintro i m σ' H' ⟨rfl, hil, kB, s, rs, ps⟩
    by_cases hlt : i < ds.length
    · right
      have ed : ds.drop i = ds[i] :: ds.drop (i + 1) := List.drop_eq_getElem_cons hlt
      rw [ed] at ps
      have eg : ds[i]? = some ds[i] := List.getElem?_eq_getElem hlt
      obtain ⟨go, yl⟩ := (ok H' kB i).1 _ eg
      refine ⟨go, fun σ2 H2 => Keep B H1 H2 ∧ ∃ s, Rel K C (Cup Φ B) ΛL π s σ2 H2 ∧ PostS K C W (Cup Φ B) ΛL π H2 E (forL st body (ds.drop (i + 1)) s), fun σ2 H2 h => ⟨ds.length - (i + 1), by omega, rfl, hlt, h⟩, fun x H2 y => ?_⟩
      obtain ⟨sm, ox⟩ := yl x H2 y
      have kB2 : Keep B H1 H2 := kB.trans (Keep.of sm)
      unfold forL at ps
      cases es : st ds[i] s with
      | none => rw [es] at ps; exact ps.elim
      | some s2 =>
        rw [es] at ps
        refine hg _ ΛL π s σ' H2 _ x B s2 _ hts cup_r (rs.same sm) ox es fun σ3 w3 r3 => ?_
        refine hb _ ΛL π s2 σ3 H2 _ r3 ?_
        simp only at ps
        have ps2 := ps.more (Keep.of sm)
        cases eb : body s2 with
        | stuck => rw [eb] at ps2; exact ps2
        | nx s4 => rw [eb] at ps2; exact fun σ4 H4 k4 r4 => ⟨kB2.trans (k4.mono cup_r), s4, r4, ps2.more k4⟩
        | ct s4 => rw [eb] at ps2; exact fun σ4 H4 k4 r4 => ⟨kB2.trans (k4.mono cup_r), s4, r4, ps2.more k4⟩
        | brk s4 => rw [eb] at ps2; exact ps2
        | ret d s4 => rw [eb] at ps2; exact ps2
        | exc x s4 => rw [eb] at ps2; exact ps2
    · left
      have ei : ds.length ≤ i := by omega
      rw [List.drop_eq_nil_of_le ei] at ps
      exact ⟨(ok H' kB i).2 ei, ps σ' H' (Keep.refl _ _) rs⟩

/-! ### while -/
def whL (c : SS → R Bool) (body : SS → RS) : Nat → SS → RS
  | 0, _ => .stuck
  | n + 1, s => (c s).thn fun b s1 => if b = true then match body s1 with
      | .nx s2 => whL c body n s2
      | .ct s2 => whL c body n s2
      | .brk s2 => .nx s2
      | o => o
    else .nx s1
def sWhile (n : Nat) (c : SS → R Bool) (body : SS → RS) : SS → RS := fun s => whL c body n s
theorem ss_while {c : TT} {tb : TS} {T : SS → R Bool} {body : SS → RS} (n : Nat) (hc : SimT K C W c T) (hb : SimS K C W tb body) : SimS K C W (tWhile c tb) (sWhile n T body) := fun Φ Λ π ss σ H E r p => by
  refine ⟨fun m σ' H' => ∃ s, Rel K C Φ Λ π s σ' H' ∧ PostS K C W Φ Λ π H' E (whL T body m s), ⟨n, ss, r, p⟩, ?_⟩
  rintro m σ' H' ⟨s, rs, ps⟩
  cases m with
  | zero => exact ps.elim
  | succ m =>
    unfold whL at ps
    refine hc Φ Λ π s σ' H' _ rs ?_
    cases q : T s with
    | stuck => rw [q] at ps; exact ps
    | exc x s1 => rw [q] at ps; exact fun H2 cls da => ps σ' H2 cls da
    | ok b s1 =>
      rw [q] at ps
      intro H1 k1 r1
      simp only [R.thn] at ps
      split
      · rename_i z
        rw [if_pos z] at ps
        refine ⟨fun σ2 H2 => ∃ s, Rel K C Φ Λ π s σ2 H2 ∧ PostS K C W Φ Λ π H2 E (whL T body m s), fun σ2 H2 h => ⟨m, by omega, h⟩, ?_⟩
        refine hb Φ Λ π s1 σ' H1 _ r1 ?_
        have ps2 := ps.more k1
        cases eb : body s1 with
        | stuck => rw [eb] at ps2; exact ps2
        | nx s4 => rw [eb] at ps2; exact fun σ4 H4 k4 r4 => ⟨s4, r4, ps2.more k4⟩
        | ct s4 => rw [eb] at ps2; exact fun σ4 H4 k4 r4 => ⟨s4, r4, ps2.more k4⟩
        | brk s4 => rw [eb] at ps2; exact ps2
        | ret d s4 => rw [eb] at ps2; exact ps2
        | exc x s4 => rw [eb] at ps2; exact ps2
      · rename_i z
        rw [if_neg z] at ps
        exact ps σ' H1 k1 r1

/-! ### comprehensions -/
abbrev W0 : WX := fun _ _ _ _ => False
def noAt (vs : List Nat) (s : SS) : Bool := vs.all fun i => match s[i]? with
  | some .no => true
  | none => true
  | _ => false
def clrC (vs : List Nat) (s : SS) : Option SS := if noAt vs (clr vs s) then some (clr vs s) else none
theorem clrC_ok {vs : List Nat} {s s' : SS} (h : clrC vs s = some s') : s' = clr vs s ∧ ∀ i ∈ vs, ∀ x, s'[i]? = some x → x = .no := by
  unfold clrC at h
  split at h
  · rename_i c
    cases h
    refine ⟨rfl, fun i hi x e => ?_⟩
    have q := List.all_eq_true.mp c i hi
    simp only [e] at q
    cases x <;> first | rfl | cases q
  · cases h
def cmpL (vs : List Nat) (st : D → SS → Option SS) (tt : SS → R Bool) (te : SS → R D) : List D → SS → List D → R (List D)
  | [], s, acc => .ok acc s
  | d :: r, s, acc => match st d s with
    | none => .stuck
    | some s1 => match tt s1 with
      | .ok b s2 => if b = true then match te s2 with
          | .ok y s3 => match clrC vs s3 with
            | some s4 => if acc.length < 1000000 then cmpL vs st tt te r s4 (acc ++ [y]) else .stuck
            | none => .stuck
          | _ => .stuck
        else match clrC vs s2 with
          | some s3 => cmpL vs st tt te r s3 acc
          | none => .stuck
      | _ => .stuck
def eCmp (vs : List Nat) (u : SS → SS) (it : SS → R (List D)) (st : D → SS → Option SS) (tt : SS → R Bool) (te : SS → R D) : SS → R D := fun s => match it s with
  | .ok ds s1 => match clrC vs s1 with
    | some s0 => match cmpL vs st tt te ds s0 [] with
      | .ok acc s2 => .ok (.lst acc) (u (clr vs s2))
      | _ => .stuck
    | none => .stuck
  | .exc x s1 => .exc x s1
  | .stuck => .stuck
theorem OwnL.snoc {B : AP} {y : D} {v : V} : ∀ {ds : List D} {vs : List V} {A : AP}, Sep A B → OwnL K C H ds vs A → Own K C H y v B → OwnL K C H (ds ++ [y]) (vs ++ [v]) (Cup A B)
  | [], vs, A, sp, h, o => by
    cases h
    exact .cons (A1 := B) (A2 := Mt) mt_sep cup_r sub_mt o .nil
  | d :: ds, vs, A, sp, h, o => by
    cases h with
    | cons a b c x z =>
      rename_i A1 A2 w ws
      exact .cons (A1 := A1) (A2 := Cup A2 B) (a.cup (sp.mono b (Sub.refl _))) (b.trans cup_l) (cup_sub (c.trans cup_l) cup_r) x (OwnL.snoc (sp.mono c (Sub.refl _)) z o)
theorem Rel.wipe {vs : List Nat} (r : Rel K C Φ Λ π ss σ H) (h : ∀ i ∈ vs, ∀ x, ss[i]? = some x → x = .no) : Rel K C Φ Λ π ss (L2.wipe σ vs) H := by
  obtain ⟨As, a⟩ := r
  refine ⟨As, a.al, a.sub, by rw [wipe_length]; exact a.len, fun i v hi => ?_, a.aa, a.af, a.ap, fun i s o e1 e2 => ?_⟩
  · obtain ⟨h1, x, h2⟩ := a.pin i v hi
    refine ⟨?_, x, h2⟩
    rw [wipe_get]
    rw [if_neg (fun z => by have := h i z.1 _ h2; cases this)]
    exact h1
  · by_cases hv : i ∈ vs
    · have := h i hv s e1
      subst this
      trivial
    · rw [wipe_get, if_neg (fun z => hv z.1)] at e2
      exact a.ok i s o e1 e2
theorem Rel.unwipe {vs : List Nat} {σ2 : L2.St} (r : Rel K C Φ Λ π ss σ2 H) (w : L2.wipe σ2 vs = L2.wipe σ vs) (h : ∀ i ∈ vs, ∀ x, ss[i]? = some x → x = .no) : Rel K C Φ Λ π ss σ H := by
  obtain ⟨As, a⟩ := r.wipe h
  have hl : σ.length = (L2.wipe σ2 vs).length := by rw [w, wipe_length]
  refine ⟨As, a.al, a.sub, hl.trans a.len, fun i v hi => ?_, a.aa, a.af, a.ap, fun i s o e1 e2 => ?_⟩
  · obtain ⟨h1, x, h2⟩ := a.pin i v hi
    refine ⟨?_, x, h2⟩
    rw [w, wipe_get, if_neg (fun z => by have := h i z.1 _ h2; cases this)] at h1
    exact h1
  · by_cases hv : i ∈ vs
    · have := h i hv s e1
      subst this
      trivial
    · refine a.ok i s o e1 ?_
      rw [w, wipe_get, if_neg (fun z => hv z.1)]
      exact e2
theorem se_cmp {wi : TI} {g : TG} {tt : TT} {te : TE} {vs : List Nat} {u : SS → SS} {it : SS → R (List D)} {st : D → SS → Option SS} {T : SS → R Bool} {F : SS → R D} (hi : SimI K C W wi u it) (hg : SimG K C vs g st) (ht : SimT K C W0 tt T) (he : SimE K C W0 te F) :
    SimE K C W (tLc wi g tt te vs) (eCmp vs u it st T F) := fun Φ Λ π ss σ H Q r p => by
  unfold eCmp at p
  refine hi Φ Λ π ss σ H _ r ?_
  cases q : it ss with
  | stuck => rw [q] at p; exact p
  | exc x s => rw [q] at p; exact p
  | ok ds s1 =>
    rw [q] at p
    intro J H1 B Λ' k1 r1 bk ok D0 hD
    simp only at p
    cases e0 : clrC vs s1 with
    | none => rw [e0] at p; exact p.elim
    | some s0 =>
      rw [e0] at p
      simp only at p
      obtain ⟨rfl, n0⟩ := clrC_ok e0
      have psi' := r1.psi
      have psiL : ∀ i, Sub ((fun i => if i ∈ vs then B else Λ' i) i) (Cup Φ B) := fun i => by
        show Sub (if i ∈ vs then B else Λ' i) (Cup Φ B)
        split
        · exact cup_r
        · exact psi' i
      have rL : Rel K C (Cup Φ B) (fun i => if i ∈ vs then B else Λ' i) π (clr vs s1) σ H1 := r1.clr (fun j n => if_neg n) psiL
      have bkL := bk.clr (ts := vs) psi'
      generalize hΛ : (fun i => if i ∈ vs then B else Λ' i) = ΛL at rL psiL bkL
      have hts : ∀ i ∈ vs, ΛL i = B := fun i h => by rw [← hΛ]; exact if_pos h
      have sD : Same H1 (upd H1 D0 (.lst [])) := same_upd hD
      -- what is left to do
      refine ⟨fun i m H' => m = ds.length - i ∧ i ≤ ds.length ∧ Keep (Cup Φ B) H1 H' ∧ ∃ s acc ws A, Rel K C (Cup (Cup Φ B) (Cup (One D0) A)) ΛL π s (wipe σ vs) H' ∧ Sep A (One D0) ∧ Sep (Cup (One D0) A) (Cup Φ B) ∧ H' D0 = some (.lst ws) ∧ OwnL K C H' acc ws A ∧
        (∀ i ∈ vs, ∀ x, s[i]? = some x → x = .no) ∧ ∃ acc2 s2, cmpL vs st T F (ds.drop i) s acc = .ok acc2 s2 ∧ PostE K C W Φ Λ π σ H Q (.ok (.lst acc2) (u (clr vs s2))), ⟨ds.length, by simp, Nat.zero_le _, Keep.of sD, clr vs s1, [], [], Mt, ?_, sep_mt, ?_, upd_same, .nil, n0, ?_⟩, ?_⟩
      · have r2 : Rel K C (Cup (Cup Φ B) (One D0)) ΛL π (clr vs s1) (wipe σ vs) (upd H1 D0 (.lst [])) := (rL.wipe n0).grow sD (one_fr hD) one_al
        exact r2.eqv (cup_sub cup_l (cup_l.trans cup_r)) (cup_sub cup_l ((cup_sub (Sub.refl _) sub_mt).trans cup_r))
      · exact Sep.cupl (fr_sep (one_fr hD) r1.al).symm sep_mt
      · cases ec : cmpL vs st T F ds (clr vs s1) [] with
        | stuck => rw [ec] at p; exact p.elim
        | exc x s => rw [ec] at p; exact p.elim
        | ok acc2 s2 => rw [ec] at p; exact ⟨acc2, s2, by simpa using ec, p⟩
      rintro i m H' ⟨rfl, hil, kB, s, acc, ws, A, rs, sA, sp, hw, ow, nn, acc2, s2, ec, pf⟩
      by_cases hlt : i < ds.length
      · right
        have ed : ds.drop i = ds[i] :: ds.drop (i + 1) := List.drop_eq_getElem_cons hlt
        rw [ed] at ec
        have eg : ds[i]? = some ds[i] := List.getElem?_eq_getElem hlt
        obtain ⟨go, yl⟩ := (ok H' (kB.mono cup_r) i).1 _ eg
        refine ⟨go, fun H2 => Keep (Cup Φ B) H1 H2 ∧ ∃ s acc ws A, Rel K C (Cup (Cup Φ B) (Cup (One D0) A)) ΛL π s (wipe σ vs) H2 ∧ Sep A (One D0) ∧ Sep (Cup (One D0) A) (Cup Φ B) ∧ H2 D0 = some (.lst ws) ∧ OwnL K C H2 acc ws A ∧
          (∀ i ∈ vs, ∀ x, s[i]? = some x → x = .no) ∧ ∃ acc2 s2, cmpL vs st T F (ds.drop (i + 1)) s acc = .ok acc2 s2 ∧ PostE K C W Φ Λ π σ H Q (.ok (.lst acc2) (u (clr vs s2))), fun H2 h => ⟨ds.length - (i + 1), by omega, rfl, hlt, h⟩, fun x H2 y => ?_⟩
        obtain ⟨sm, ox⟩ := yl x H2 y
        have kB2 : Keep (Cup Φ B) H1 H2 := kB.trans (Keep.of sm)
        unfold cmpL at ec
        cases es : st ds[i] s with
        | none => rw [es] at ec; cases ec
        | some s3 =>
          rw [es] at ec
          simp only at ec
          refine hg _ ΛL π s (wipe σ vs) H2 _ x B s3 _ hts (cup_r.trans cup_l) (rs.same sm) ox es fun σ3 w3 r3 => ?_
          refine ⟨by rw [w3, wipe_wipe], ?_⟩
          refine ht _ ΛL π s3 σ3 H2 _ r3 ?_
          cases et : T s3 with
          | stuck => rw [et] at ec; cases ec
          | exc x s => rw [et] at ec; cases ec
          | ok b s4 =>
            rw [et] at ec
            simp only at ec
            intro H3 k3 r4
            have hw3 : H3 D0 = some (.lst ws) := k3.k _ _ (.inr (.inl rfl)) (sm _ _ hw)
            have ow3 : OwnL K C H3 acc ws A := (ow.same sm).keep (k3.mono (cup_r.trans cup_r))
            have kB3 : Keep (Cup Φ B) H1 H3 := kB2.trans (k3.mono cup_l)
            split
            · rename_i z
              rw [if_pos z] at ec
              refine he _ ΛL π s4 σ3 H3 _ r4 ?_
              cases ee : F s4 with
              | stuck => rw [ee] at ec; cases ec
              | exc x s => rw [ee] at ec; cases ec
              | ok y s5 =>
                rw [ee] at ec
                simp only at ec
                intro v H4 B2 k4 r5 sp4 o4
                have hw4 : H4 D0 = some (.lst ws) := k4.k _ _ (.inr (.inl rfl)) hw3
                have ow4 : OwnL K C H4 acc ws A := ow3.keep (k4.mono (cup_r.trans cup_r))
                cases ecl : clrC vs s5 with
                | none => rw [ecl] at ec; cases ec
                | some s6 =>
                  rw [ecl] at ec
                  simp only at ec
                  obtain ⟨rfl, n6⟩ := clrC_ok ecl
                  split at ec
                  · rename_i hl
                    refine ⟨ws, hw4, Nat.lt_of_lt_of_le (by rw [← ow4.length]; exact hl) (by decide : 1000000 ≤ sizeLine), ?_⟩
                    have nA : ¬ A D0 := fun z => sA D0 z rfl
                    have nB2 : ¬ B2 D0 := fun z => sp4 D0 z (.inr (.inl rfl))
                    have nP : ¬ (Cup Φ B) D0 := fun z => sp D0 (.inl rfl) z
                    have kD : ∀ {X : AP}, ¬ X D0 → Keep X H4 (upd H4 D0 (.lst (ws ++ [v]))) := fun n => keep_upd hw4 (fun _ z => by cases z) (fun _ _ z => by cases z) n
                    have sAB : Sep A B2 := (sp4.mono (Sub.refl _) (cup_r.trans cup_r)).symm
                    refine ⟨(kB3.trans (k4.mono cup_l)).trans (kD nP), clr vs s5, acc ++ [y], ws ++ [v], Cup A B2, ?_, ?_, ?_, upd_same, ?_, n6, acc2, s2, ec, pf⟩
                    · -- the relation behind the append
                      have r6 : Rel K C (Cup (Cup (Cup Φ B) (Cup (One D0) A)) B2) ΛL π (clr vs s5) σ3 H4 := r5.clr (fun j _ => rfl) r5.psi
                      have r7 : Rel K C (Cup (Cup (Cup Φ B) (Cup (One D0) A)) B2) ΛL π (clr vs s5) (wipe σ vs) H4 := by
                        refine r6.unwipe (σ := wipe σ vs) (vs := vs) (by rw [w3]) n6
                      obtain ⟨As, a⟩ := r7
                      have nAs : ∀ i, ¬ As i D0 := fun i z => a.af i D0 z (.inl (.inr (.inl rfl)))
                      refine ⟨As, ?_, fun i => (psiL i).trans cup_l, a.len, a.pin, fun i => (a.aa i).keep (kD (nAs i)), fun i => (a.af i).mono (Sub.refl _) ?_, a.ap, fun i s o e1 e2 => ?_⟩
                      · intro b hb
                        by_cases hbD : b = D0
                        · rw [hbD, upd_same]; exact fun z => by cases z
                        · rw [upd_ne hbD]
                          refine a.al b ?_
                          rcases hb with hb | hb | hb | hb
                          · exact .inl (.inl hb)
                          · exact .inl (.inr (.inl hb))
                          · exact .inl (.inr (.inr hb))
                          · exact .inr hb
                      · exact cup_sub (cup_l.trans cup_l) (cup_sub (cup_l.trans (cup_r.trans cup_l)) (cup_sub (cup_r.trans (cup_r.trans cup_l)) cup_r))
                      · exact (a.ok i s o e1 e2).keep (kD (nAs i)) (kD (fun z => nP (psiL i D0 z)))
                    · exact Sep.cupl sA (fun b x y => sp4 b x (.inr (.inl y)))
                    · refine Sep.cupl (sp.mono cup_l (Sub.refl _)) (Sep.cupl (sp.mono cup_r (Sub.refl _)) (sp4.mono (Sub.refl _) cup_l))
                    · exact OwnL.snoc sAB (ow4.keep (kD nA)) (o4.keep (kD nB2))
                  · cases ec
            · rename_i z
              rw [if_neg z] at ec
              cases ecl : clrC vs s4 with
              | none => rw [ecl] at ec; cases ec
              | some s6 =>
                rw [ecl] at ec
                simp only at ec
                obtain ⟨rfl, n6⟩ := clrC_ok ecl
                refine ⟨kB3, clr vs s4, acc, ws, A, ?_, sA, sp, hw3, ow3, n6, acc2, s2, ec, pf⟩
                have r6 : Rel K C (Cup (Cup Φ B) (Cup (One D0) A)) ΛL π (clr vs s4) σ3 H3 := r4.clr (fun j _ => rfl) r4.psi
                exact r6.unwipe (σ := wipe σ vs) (vs := vs) (by rw [w3]) n6
      · left
        have ei : ds.length ≤ i := by omega
        rw [List.drop_eq_nil_of_le ei] at ec
        have e2 : cmpL vs st T F [] s acc = .ok acc s := rfl
        rw [e2] at ec
        cases ec
        refine ⟨(ok H' (kB.mono cup_r) i).2 ei, pf (.ref D0) H' (Cup (One D0) A) (k1.trans (kB.mono cup_l)) ?_ (sp.mono (Sub.refl _) cup_l) ?_⟩
        · refine bkL _ s σ H' (sp.mono (Sub.refl _) cup_r) ?_
          exact rs.unwipe (σ := σ) (vs := vs) wipe_wipe nn
        · exact .lst (.inl rfl) hw (ow.mono fun b hb => ⟨.inr hb, fun z => sA b hb z⟩)
end
end Dy

/-! pure comprehensions. -/
namespace Dy
open PySem L2
section
variable {K : PySem.W.Frag} {C : Nat → Addr} {W : WX} {Φ Φ' : AP} {Λ : Nat → AP} {π : Nat → Option V} {ss : SS} {σ : L2.St} {H H' : Hp}
def cmpP (st : D → SS → Option SS) (tt : SS → Option Bool) (te : SS → Option D) (s0 : SS) : List D → Option (List D)
  | [] => some []
  | d :: r => (st d s0).bind fun s1 => (tt s1).bind fun b => if b = true then (te s1).bind fun y => if imm y = true then (cmpP st tt te s0 r).map fun l => y :: l else none else cmpP st tt te s0 r
def pCmp (vs : List Nat) (it : SS → Option (List D)) (st : D → SS → Option SS) (tt : SS → Option Bool) (te : SS → Option D) : SS → Option D := fun s => (it s).bind fun ds => if immL ds = true ∧ ds.length ≤ 1000000 then (clrC vs s).bind fun s0 => (cmpP st tt te s0 ds).map D.lst else none
theorem cmpP_le {st : D → SS → Option SS} {tt : SS → Option Bool} {te : SS → Option D} {s0 : SS} : ∀ {ds l : List D}, cmpP st tt te s0 ds = some l → l.length ≤ ds.length
  | [], l, e => by cases e; exact Nat.le_refl _
  | d :: r, l, e => by
    unfold cmpP at e
    cases e1 : st d s0 with
    | none => rw [e1] at e; cases e
    | some s1 =>
      rw [e1] at e
      simp only [Option.bind] at e
      cases e2 : tt s1 with
      | none => rw [e2] at e; cases e
      | some b =>
        rw [e2] at e
        simp only at e
        split at e
        · cases e3 : te s1 with
          | none => rw [e3] at e; cases e
          | some y =>
            rw [e3] at e
            simp only at e
            split at e
            · cases e4 : cmpP st tt te s0 r with
              | none => rw [e4] at e; cases e
              | some l' => rw [e4] at e; cases e; exact Nat.succ_le_succ (cmpP_le e4)
            · cases e
        · exact Nat.le_succ_of_le (cmpP_le e)
theorem same_out {H0 H : Hp} {p : Addr} {o : HO} (s : Same H0 H) (h : H0 p = none) : Same H0 (upd H p o) := fun a u e => by
  rw [upd_ne (ne_of_none e h)]; exact s a u e
theorem sf_cmp {wi : TI} {g : TG} {tt : TT} {te : TE} {vs : List Nat} {it : SS → Option (List D)} {st : D → SS → Option SS} {T : SS → Option Bool} {F : SS → Option D} (hi : SimIP K C wi it) (hg : SimG K C vs g st) (ht : SimPT K C tt T) (he : SimP K C te F) :
    SimF K C (tLc wi g tt te vs) (pCmp vs it st T F) := fun Φ Λ π ss σ H Q d r e k => by
  unfold pCmp at e
  cases q : it ss with
  | none => rw [q] at e; cases e
  | some ds =>
    rw [q] at e
    simp only [Option.bind] at e
    split at e
    · rename_i c
      obtain ⟨ci, cl⟩ := c
      cases e0 : clrC vs ss with
      | none => rw [e0] at e; cases e
      | some s0 =>
        rw [e0] at e
        simp only at e
        cases ef : cmpP st T F s0 ds with
        | none => rw [ef] at e; cases e
        | some l =>
          rw [ef] at e
          cases e
          obtain ⟨rfl, n0⟩ := clrC_ok e0
          refine hi Φ Λ π ss σ H _ ds r q fun J H1 B s1 al ok D0 hD => ?_
          have r0 : Rel K C Φ (fun i => if i ∈ vs then Mt else Λ i) π (clr vs ss) (wipe σ vs) H1 := ((r.same s1).clr (fun j n => if_neg n) fun i => by
            show Sub (if i ∈ vs then Mt else Λ i) Φ
            split
            · exact sub_mt
            · exact r.psi i).wipe n0
          have nB : ∀ H', Same H1 H' → Keep B H1 H' := fun H' s => Keep.of s
          refine ⟨fun i m H' => m = ds.length - i ∧ i ≤ ds.length ∧ Same H1 H' ∧ ∃ acc ws rest, acc ++ rest = l ∧ H' D0 = some (.lst ws) ∧ IL K C H' acc ws ∧ cmpP st T F (clr vs ss) (ds.drop i) = some rest, ⟨ds.length, by simp, Nat.zero_le _, same_upd hD, [], [], l, rfl, upd_same, .nil, by simpa using ef⟩, ?_⟩
          rintro i m H' ⟨rfl, hil, sH, acc, ws, rest, el, hw, iw, ec⟩
          by_cases hlt : i < ds.length
          · right
            have ed : ds.drop i = ds[i] :: ds.drop (i + 1) := List.drop_eq_getElem_cons hlt
            rw [ed] at ec
            have eg : ds[i]? = some ds[i] := List.getElem?_eq_getElem hlt
            have ig : imm ds[i] = true := immL_iff.mp ci _ (List.getElem_mem hlt)
            obtain ⟨go, yl⟩ := (ok H' (nB H' sH) i).1 _ eg
            refine ⟨go, fun H2 => Same H1 H2 ∧ ∃ acc ws rest, acc ++ rest = l ∧ H2 D0 = some (.lst ws) ∧ IL K C H2 acc ws ∧ cmpP st T F (clr vs ss) (ds.drop (i + 1)) = some rest, fun H2 h => ⟨ds.length - (i + 1), by omega, rfl, hlt, h⟩, fun x H2 y => ?_⟩
            obtain ⟨sm, ox⟩ := yl x H2 y
            have sH2 := sH.trans sm
            unfold cmpP at ec
            cases es : st ds[i] (clr vs ss) with
            | none => rw [es] at ec; cases ec
            | some s3 =>
              rw [es] at ec
              simp only [Option.bind] at ec
              refine hg _ _ π (clr vs ss) (wipe σ vs) H2 _ x Mt s3 _ (fun i hi => if_pos hi) sub_mt (r0.same sH2) (ox.imm ig) es fun σ3 w3 r3 => ?_
              refine ⟨by rw [w3, wipe_wipe], ?_⟩
              cases et : T s3 with
              | none => rw [et] at ec; cases ec
              | some b =>
                rw [et] at ec
                simp only at ec
                refine ht _ _ π s3 σ3 H2 _ b r3 et fun H3 s3' => ?_
                split
                · rename_i z
                  rw [if_pos z] at ec
                  cases ee : F s3 with
                  | none => rw [ee] at ec; cases ec
                  | some y =>
                    rw [ee] at ec
                    simp only at ec
                    split at ec
                    · rename_i iy
                      cases er : cmpP st T F (clr vs ss) (ds.drop (i + 1)) with
                      | none => rw [er] at ec; cases ec
                      | some l' =>
                        rw [er] at ec; cases ec
                        refine he _ _ π s3 σ3 H3 _ y (r3.same s3') ee fun v H4 s4 rb => ?_
                        have s24 : Same H' H4 := (sm.trans s3').trans s4
                        have hw4 : H4 D0 = some (.lst ws) := s24 _ _ hw
                        have il4 : IL K C H4 acc ws := iw.same s24
                        have lw : ws.length < sizeLine := by
                          have h1 := il4.length
                          have h2 := cmpP_le ef
                          have h3 : acc.length < l.length := by rw [← el]; simp
                          have h4 : (1000000 : Nat) ≤ sizeLine := by decide
                          omega
                        have pw : Pers H4 (upd H4 D0 (.lst (ws ++ [v]))) := pers_upd hw4 (fun _ z => by cases z) (fun _ _ z => by cases z)
                        refine ⟨ws, hw4, lw, same_out (sH2.trans (s3'.trans s4)) hD, acc ++ [y], ws ++ [v], l', by rw [← el]; simp, upd_same, ?_, rfl⟩
                        exact IL.append (il4.keep ⟨pw, fun _ _ z => z.elim⟩) (IL.cons ((rb.imm (B := Mt) iy).pers iy pw) .nil)
                    · cases ec
                · rename_i z
                  rw [if_neg z] at ec
                  exact ⟨sH2.trans s3', acc, ws, rest, el, s3' _ _ (sm _ _ hw), (iw.same sm).same s3', ec⟩
          · left
            have ei : ds.length ≤ i := by omega
            rw [List.drop_eq_nil_of_le ei] at ec
            have e2 : cmpP st T F (clr vs ss) [] = some [] := rfl
            rw [e2] at ec
            cases ec
            rw [List.append_nil] at el
            subst el
            refine ⟨(ok H' (nB H' sH) i).2 ei, k (.ref D0) H' (One D0) (s1.trans sH) (one_fr (s1.free hD)) (fun a h z => ?_) (.lst rfl hw (iw.mono sub_mt))⟩
            have h' : a = D0 := h
            rw [h', hw] at z; cases z
    · cases e
end
end Dy

/-! Built-ins by data. -/
namespace Dy
open PySem L2
section
variable {K : PySem.W.Frag} {C : Nat → Addr} {W : WX} {H H' : Hp}
theorem rbl1 {d : D} {vs : List V} (h : RbL K C H [d] vs) : ∃ v, vs = [v] ∧ Rb K C H d v := by
  cases h with | cons a b => cases b; exact ⟨_, rfl, a⟩
theorem rbl2 {d e : D} {vs : List V} (h : RbL K C H [d, e] vs) : ∃ v w, vs = [v, w] ∧ Rb K C H d v ∧ Rb K C H e w := by
  cases h with | cons a b => cases b with | cons a2 b2 => cases b2; exact ⟨_, _, rfl, a, a2⟩
/-- f(a) of one | two -/
def on1 (f : D → Option D) : List D → Option D
  | [d] => f d
  | _ => none
def on2 (f : D → D → Option D) : List D → Option D
  | [d, e] => f d e
  | _ => none
theorem on1_inv {f : D → Option D} {l : List D} {z : D} (e : on1 f l = some z) : ∃ d, l = [d] ∧ f d = some z := by
  cases l with
  | nil => cases e
  | cons d r => cases r with
    | nil => exact ⟨d, rfl, e⟩
    | cons _ _ => cases e
theorem on2_inv {f : D → D → Option D} {l : List D} {z : D} (e : on2 f l = some z) : ∃ d d', l = [d, d'] ∧ f d d' = some z := by
  cases l with
  | nil => cases e
  | cons d r => cases r with
    | nil => cases e
    | cons d' r => cases r with
      | nil => exact ⟨d, d', rfl, e⟩
      | cons _ _ => cases e
/-! len -/
def fLen (d : D) : Option D := match d with
  | .str s => if s.length ≤ 1000000 then some (.int s.length) else none
  | .lst ds => some (.int ds.length)
  | .fls ds => some (.int ds.length)
  | .tup ds => some (.int ds.length)
  | _ => none
theorem cs_len : CallS K C (fun xs H Q => ∃ x n, xs = [x] ∧ LenV K x H n ∧ Q (.int n) H) (on1 fLen) := fun H vs ds z Q r e k => by
  obtain ⟨d, rfl, e1⟩ := on1_inv e
  clear e
  have e := e1
  clear e1
  obtain ⟨v, rfl, A, al, o⟩ := rbl1 r
  cases d <;> simp [fLen] at e
  · obtain ⟨l, rfl⟩ := e
    cases o
    exact ⟨_, _, rfl, ⟨sl100 l, rfl⟩, k _ H Mt (Same.refl H) fr_mt al_mt (.int _)⟩
  · subst e
    cases o with
    | tup q y =>
      rw [y.length] at k
      exact ⟨_, _, rfl, .inr ⟨_, SqT.of q, rfl⟩, k _ H Mt (Same.refl H) fr_mt al_mt (.int _)⟩
  · subst e
    cases o with
    | lst h q y =>
      rw [y.length] at k
      exact ⟨_, _, rfl, .inl ⟨_, SqL.of q, rfl⟩, k _ H Mt (Same.refl H) fr_mt al_mt (.int _)⟩
  · subst e
    cases o with
    | fls q y =>
      rw [y.length] at k
      exact ⟨_, _, rfl, .inl ⟨_, q.sql, rfl⟩, k _ H Mt (Same.refl H) fr_mt al_mt (.int _)⟩
/-! lists of ints -/
def intsOf : List D → Option (List Int)
  | [] => some []
  | .int i :: r => (intsOf r).map fun l => i :: l
  | _ => none
theorem intsOf_ok : ∀ {ds : List D} {ns : List Int}, intsOf ds = some ns → ds = ns.map D.int
  | [], ns, e => by cases e; rfl
  | d :: r, ns, e => by
    cases d <;> simp [intsOf] at e
    obtain ⟨l, h1, rfl⟩ := e
    rw [intsOf_ok h1]; rfl
theorem ints_v : ∀ {ns : List Int} {vs : List V} {A : AP}, OwnL K C H (ns.map D.int) vs A → vs = ns.map V.int
  | [], vs, A, h => by cases h; rfl
  | n :: r, vs, A, h => by
    cases h with | cons _ _ _ x y => cases x; rw [ints_v y]; rfl
theorem own_ints : ∀ (ns : List Int), IL K C H (ns.map D.int) (ns.map V.int)
  | [] => .nil
  | n :: r => IL.cons (.int n) (own_ints r)
theorem intsOf_map (ns : List Int) : intsOf (ns.map D.int) = some ns := by
  induction ns with
  | nil => rfl
  | cons n r ih => rw [List.map_cons, intsOf, ih]; rfl
theorem imm_ints (ns : List Int) : immL (ns.map D.int) = true := by
  induction ns with
  | nil => rfl
  | cons n r ih => rw [List.map_cons, immL, ih]; rfl
/-- the list's address and values -/
theorem lst_sq {d : D} {ds : List D} {v : V} (r : Rb K C H d v) (e : asLst d = some ds) : ∃ a vs, v = .ref a ∧ SqL K H a vs ∧ ∃ A, OwnL K C H ds vs A := by
  obtain ⟨A, _, o⟩ := r
  cases d <;> simp [asLst] at e
  · subst e; cases o with | lst h q y => exact ⟨_, _, rfl, SqL.of q, _, y⟩
  · subst e; cases o with | fls q y => exact ⟨_, _, rfl, q.sql, _, y⟩
def maxI : List Int → Int
  | [] => 0
  | [x] => x
  | x :: xs => max x (maxI xs)
def minI : List Int → Int
  | [] => 0
  | [x] => x
  | x :: xs => min x (minI xs)
theorem maxI_cons (x y : Int) (l : List Int) : maxI (x :: y :: l) = max x (maxI (y :: l)) := rfl
theorem minI_cons (x y : Int) (l : List Int) : minI (x :: y :: l) = min x (minI (y :: l)) := rfl
theorem maxI_spec : ∀ {l : List Int}, l ≠ [] → maxI l ∈ l ∧ ∀ y ∈ l, y ≤ maxI l
  | [], h => (h rfl).elim
  | [x], _ => ⟨by simp [maxI], fun y hy => by simp at hy; subst hy; simp [maxI]⟩
  | x :: y :: l, _ => by
    obtain ⟨h1, h2⟩ := maxI_spec (l := y :: l) (by simp)
    rw [maxI_cons]
    refine ⟨?_, fun z hz => ?_⟩
    · by_cases c : x ≤ maxI (y :: l)
      · rw [Int.max_eq_right c]; exact List.mem_cons_of_mem _ h1
      · rw [Int.max_eq_left (by omega)]; exact List.mem_cons_self
    · rcases List.mem_cons.mp hz with rfl | hz
      · omega
      · have := h2 z hz; omega
theorem minI_spec : ∀ {l : List Int}, l ≠ [] → minI l ∈ l ∧ ∀ y ∈ l, minI l ≤ y
  | [], h => (h rfl).elim
  | [x], _ => ⟨by simp [minI], fun y hy => by simp at hy; subst hy; simp [minI]⟩
  | x :: y :: l, _ => by
    obtain ⟨h1, h2⟩ := minI_spec (l := y :: l) (by simp)
    rw [minI_cons]
    refine ⟨?_, fun z hz => ?_⟩
    · by_cases c : x ≤ minI (y :: l)
      · rw [Int.min_eq_left c]; exact List.mem_cons_self
      · rw [Int.min_eq_right (by omega)]; exact List.mem_cons_of_mem _ h1
    · rcases List.mem_cons.mp hz with rfl | hz
      · omega
      · have := h2 z hz; omega
def withInts (f : List Int → Option D) (d : D) : Option D := (asLst d).bind fun ds => (intsOf ds).bind f
theorem withInts_ok {f : List Int → Option D} {d z : D} {v : V} (r : Rb K C H d v) (e : withInts f d = some z) : ∃ a ns, v = .ref a ∧ SqL K H a (ns.map V.int) ∧ f ns = some z := by
  unfold withInts at e
  cases q : asLst d with
  | none => rw [q] at e; cases e
  | some ds =>
    rw [q] at e
    simp only [Option.bind] at e
    cases q2 : intsOf ds with
    | none => rw [q2] at e; cases e
    | some ns =>
      rw [q2] at e
      obtain ⟨a, vs, rfl, h, A, o⟩ := lst_sq r q
      rw [intsOf_ok q2] at o
      rw [ints_v o] at h
      exact ⟨a, ns, rfl, h, e⟩
def fMax1 : D → Option D := withInts fun ns => if ns = [] then none else some (.int (maxI ns))
def fMin1 : D → Option D := withInts fun ns => if ns = [] then none else some (.int (minI ns))
def fSum1 : D → Option D := withInts fun ns => some (.int ns.sum)
theorem cs_max1 : CallS K C (rMax K) (on1 fMax1) := fun H vs ds z Q r e k => by
  obtain ⟨d, rfl, e1⟩ := on1_inv e
  clear e
  have e := e1
  clear e1
  obtain ⟨v, rfl, rb⟩ := rbl1 r
  obtain ⟨a, ns, rfl, h, e⟩ := withInts_ok rb e
  split at e
  · cases e
  · rename_i ne
    cases e
    refine ⟨a, ns, rfl, h, by cases ns; exact (ne rfl).elim; simp, fun m h1 h2 => ?_⟩
    obtain ⟨g1, g2⟩ := maxI_spec ne
    have : m = maxI ns := by have := h2 _ g1; have := g2 _ h1; omega
    subst this
    exact k _ H Mt (Same.refl H) fr_mt al_mt (.int _)
theorem cs_min1 : CallS K C (rMin K) (on1 fMin1) := fun H vs ds z Q r e k => by
  obtain ⟨d, rfl, e1⟩ := on1_inv e
  clear e
  have e := e1
  clear e1
  obtain ⟨v, rfl, rb⟩ := rbl1 r
  obtain ⟨a, ns, rfl, h, e⟩ := withInts_ok rb e
  split at e
  · cases e
  · rename_i ne
    cases e
    refine ⟨a, ns, rfl, h, by cases ns; exact (ne rfl).elim; simp, fun m h1 h2 => ?_⟩
    obtain ⟨g1, g2⟩ := minI_spec ne
    have : m = minI ns := by have := h2 _ g1; have := g2 _ h1; omega
    subst this
    exact k _ H Mt (Same.refl H) fr_mt al_mt (.int _)
theorem cs_sum1 : CallS K C (rSum K) (on1 fSum1) := fun H vs ds z Q r e k => by
  obtain ⟨d, rfl, e1⟩ := on1_inv e
  clear e
  have e := e1
  clear e1
  obtain ⟨v, rfl, rb⟩ := rbl1 r
  obtain ⟨a, ns, rfl, h, e⟩ := withInts_ok rb e
  cases e
  exact ⟨a, ns, rfl, h, k _ H Mt (Same.refl H) fr_mt al_mt (.int _)⟩
def fMax2 : D → D → Option D := fII fun i j => .int (max i j)
def fMin2 : D → D → Option D := fII fun i j => .int (min i j)
theorem cs_max2 : CallS K C (fun xs H Q => ∃ i j, xs = [.int i, .int j] ∧ Q (.int (if j > i then j else i)) H) (on2 fMax2) := fun H vs ds z Q r e k => by
  obtain ⟨d, d', rfl, e1⟩ := on2_inv e
  clear e
  have e := e1
  clear e1
  obtain ⟨v, w, rfl, r1, r2⟩ := rbl2 r
  obtain ⟨i, j, rfl, rfl, rfl⟩ := fII_inv e
  rw [rb_int' r1, rb_int' r2]
  refine ⟨i, j, rfl, ?_⟩
  have : (if j > i then j else i) = max i j := by split <;> omega
  rw [this]
  exact k _ H Mt (Same.refl H) fr_mt al_mt (.int _)
theorem cs_min2 : CallS K C (fun xs H Q => ∃ i j, xs = [.int i, .int j] ∧ Q (.int (if j < i then j else i)) H) (on2 fMin2) := fun H vs ds z Q r e k => by
  obtain ⟨d, d', rfl, e1⟩ := on2_inv e
  clear e
  have e := e1
  clear e1
  obtain ⟨v, w, rfl, r1, r2⟩ := rbl2 r
  obtain ⟨i, j, rfl, rfl, rfl⟩ := fII_inv e
  rw [rb_int' r1, rb_int' r2]
  refine ⟨i, j, rfl, ?_⟩
  have : (if j < i then j else i) = min i j := by split <;> omega
  rw [this]
  exact k _ H Mt (Same.refl H) fr_mt al_mt (.int _)
def fMax : List D → Option D := orL (on2 fMax2) (on1 fMax1)
def fMin : List D → Option D := orL (on2 fMin2) (on1 fMin1)
abbrev rMaxA (K : PySem.W.Frag) : List V → Hp → VK → Prop := fun xs H Q => (∃ i j, xs = [.int i, .int j] ∧ Q (.int (if j > i then j else i)) H) ∨ rMax K xs H Q
abbrev rMinA (K : PySem.W.Frag) : List V → Hp → VK → Prop := fun xs H Q => (∃ i j, xs = [.int i, .int j] ∧ Q (.int (if j < i then j else i)) H) ∨ rMin K xs H Q
theorem call_maxA {X : Cx} (hc : X.calm = true) : CallR X (.builtin "max") (rMaxA X.K) := CallR.or (call_max2 hc) (cr_max hc)
theorem call_minA {X : Cx} (hc : X.calm = true) : CallR X (.builtin "min") (rMinA X.K) := CallR.or (call_min2 hc) (cr_min hc)
theorem cs_max : CallS K C (rMaxA K) fMax := calls_or cs_max2 cs_max1
theorem cs_min : CallS K C (rMinA K) fMin := calls_or cs_min2 cs_min1
/-! int(x), str(x), list(x), tuple(x) -/
def fInt (d : D) : Option D := match d with
  | .int i => some (.int i)
  | .bl b => some (.int (if b then 1 else 0))
  | .str s => if s.length ≤ 640 then (PySem.intText? s).map D.int else none
  | _ => none
abbrev rIntA : List V → Hp → VK → Prop := fun xs H Q => ((∃ i, xs = [.int i] ∧ Q (.int i) H) ∨ ∃ k, xs = [.bl k] ∧ Q (.int (if k then 1 else 0)) H) ∨ ∃ a n, xs = [.str a] ∧ PySem.intText? a = some n ∧ a.length ≤ 640 ∧ Q (.int n) H
theorem call_intA {X : Cx} : CallR X (.type "int") rIntA := CallR.or call_int1 call_int_str
theorem cs_int : CallS K C rIntA (on1 fInt) := fun H vs ds z Q r e k => by
  obtain ⟨d, rfl, e1⟩ := on1_inv e
  clear e
  have e := e1
  clear e1
  obtain ⟨v, rfl, A, al, o⟩ := rbl1 r
  cases d <;> simp [fInt] at e
  · subst e; cases o; exact .inl (.inr ⟨_, rfl, k _ H Mt (Same.refl H) fr_mt al_mt (.int _)⟩)
  · subst e; cases o; exact .inl (.inl ⟨_, rfl, k _ H Mt (Same.refl H) fr_mt al_mt (.int _)⟩)
  · obtain ⟨l, n, h, rfl⟩ := e
    cases o
    exact .inr ⟨_, n, rfl, h, l, k _ H Mt (Same.refl H) fr_mt al_mt (.int _)⟩
def fStr (d : D) : Option D := match d with
  | .int i => if i.natAbs.log2 < 1920 then some (.str (toString i)) else none
  | .str s => some (.str s)
  | _ => none
abbrev rStrA : List V → Hp → VK → Prop := fun xs H Q => (∃ i, xs = [.int i] ∧ i.natAbs.log2 < 1920 ∧ Q (.str (toString i)) H) ∨ ∃ a, xs = [.str a] ∧ Q (.str a) H
theorem call_strA {X : Cx} : CallR X (.type "str") rStrA := CallR.or call_str_int SkE.call_str_str
theorem cs_str : CallS K C rStrA (on1 fStr) := fun H vs ds z Q r e k => by
  obtain ⟨d, rfl, e1⟩ := on1_inv e
  clear e
  have e := e1
  clear e1
  obtain ⟨v, rfl, A, al, o⟩ := rbl1 r
  cases d <;> simp [fStr] at e
  · obtain ⟨l, rfl⟩ := e; cases o; exact .inl ⟨_, rfl, l, k _ H Mt (Same.refl H) fr_mt al_mt (.str _)⟩
  · subst e; cases o; exact .inr ⟨_, rfl, k _ H Mt (Same.refl H) fr_mt al_mt (.str _)⟩
def kD : Key → D
  | .inl i => .int i
  | .inr s => .str s
theorem own_kD (k : Key) {A : AP} : Own K C H (kD k) (kV k) A := by cases k <;> first | exact .int _ | exact .str _
theorem own_kDs : ∀ (ks : List Key), IL K C H (ks.map kD) (ks.map kV)
  | [] => .nil
  | k :: ks => IL.cons (own_kD k) (own_kDs ks)
theorem zip_fst {κ : Type} : ∀ {ks : List κ} {vs : List V}, ks.length = vs.length → (ks.zip vs).map (fun kv => kv.1) = ks
  | [], _, _ => by simp
  | k :: ks, v :: vs, h => by rw [List.zip_cons_cons, List.map_cons, zip_fst (by simpa using h)]
  | k :: ks, [], h => by cases h
def fList (d : D) : Option D := match d with
  | .lst ds => if immL ds then some (.lst ds) else none
  | .fls ds => if immL ds then some (.lst ds) else none
  | .tup ds => if immL ds then some (.lst ds) else none
  | .dk ks ds => some (.lst (ks.map kD))
  | _ => none
abbrev rListA (K : PySem.W.Frag) : List V → Hp → VK → Prop := fun xs H Q => (∃ p ys, xs = [.ref p] ∧ (SqL K H p ys ∨ SqT K H p ys) ∧ ∀ l, H l = none → Q (.ref l) (upd H l (.lst ys))) ∨
  ∃ (a : Addr) (kvs : List (Key × V)), xs = [.ref a] ∧ Rd H a (.dK kvs) ∧ ∀ p, H p = none → Q (.ref p) (upd H p (.lst (kvs.map fun kv => kV kv.1)))
theorem call_listA {X : Cx} (hc : X.calm = true) : CallR X (.type "list") (rListA X.K) := CallR.or call_list_of (call_listD hc)
theorem cs_list : CallS K C (rListA K) (on1 fList) := fun H vs ds z Q r e k => by
  obtain ⟨d, rfl, e1⟩ := on1_inv e
  clear e
  have e := e1
  clear e1
  obtain ⟨v, rfl, A, al, o⟩ := rbl1 r
  cases d <;> simp [fList] at e
  · obtain ⟨i, rfl⟩ := e
    cases o with
    | tup q y => exact .inl ⟨_, _, rfl, .inr (SqT.of q), fun p hp => k _ _ (One p) (same_upd hp) (one_fr hp) one_al (new_lst (y.imm i) hp)⟩
  · obtain ⟨i, rfl⟩ := e
    cases o with
    | lst h q y => exact .inl ⟨_, _, rfl, .inl (SqL.of q), fun p hp => k _ _ (One p) (same_upd hp) (one_fr hp) one_al (new_lst (y.imm i) hp)⟩
  · obtain ⟨i, rfl⟩ := e
    cases o with
    | fls q y => exact .inl ⟨_, _, rfl, .inl q.sql, fun p hp => k _ _ (One p) (same_upd hp) (one_fr hp) one_al (new_lst (y.imm i) hp)⟩
  · subst e
    cases o with
    | dk h l q y =>
      rename_i ks ds a vs'
      refine .inr ⟨_, _, rfl, .inl q, fun p hp => k _ _ (One p) (same_upd hp) (one_fr hp) one_al ?_⟩
      have e1 : ∀ zs : List V, ks.length = zs.length → ((ks.zip zs).map fun kv => kV kv.1) = ks.map kV := fun zs hz => by
        have h2 := zip_fst (ks := ks) (vs := zs) hz
        have h3 : ((ks.zip zs).map fun kv => kV kv.1) = ((ks.zip zs).map fun kv => kv.1).map kV := by rw [List.map_map]; rfl
        rw [h3, h2]
      rw [e1 _ (l.trans y.length)]
      exact new_lst (own_kDs ks) hp
def fTuple (d : D) : Option D := match d with
  | .lst ds => if immL ds then some (.tup ds) else none
  | .fls ds => if immL ds then some (.tup ds) else none
  | .tup ds => if immL ds then some (.tup ds) else none
  | _ => none
theorem cs_tuple : CallS K C (fun xs H Q => ∃ p ys, xs = [.ref p] ∧ ((SqL K H p ys ∧ ∀ l, H l = none → Q (.ref l) (upd H l (.tup ys))) ∨ (SqT K H p ys ∧ Q (.ref p) H))) (on1 fTuple) := fun H vs ds z Q r e k => by
  obtain ⟨d, rfl, e1⟩ := on1_inv e
  clear e
  have e := e1
  clear e1
  obtain ⟨v, rfl, A, al, o⟩ := rbl1 r
  cases d <;> simp [fTuple] at e
  · obtain ⟨i, rfl⟩ := e
    cases o with
    | tup q y => exact ⟨_, _, rfl, .inr ⟨SqT.of q, k _ H Mt (Same.refl H) fr_mt al_mt (.tup q (y.imm i))⟩⟩
  · obtain ⟨i, rfl⟩ := e
    cases o with
    | lst h q y => exact ⟨_, _, rfl, .inl ⟨SqL.of q, fun p hp => k _ _ Mt (same_upd hp) fr_mt al_mt (new_tup (y.imm i) hp)⟩⟩
  · obtain ⟨i, rfl⟩ := e
    cases o with
    | fls q y => exact ⟨_, _, rfl, .inl ⟨q.sql, fun p hp => k _ _ Mt (same_upd hp) fr_mt al_mt (new_tup (y.imm i) hp)⟩⟩
/-! isinstance -/
def tyN : D → Option String
  | .non => some "NoneType"
  | .bl _ => some "bool"
  | .int _ => some "int"
  | .str _ => some "str"
  | .tup _ => some "tuple"
  | .lst _ => some "list"
  | .fls _ => some "list"
  | .dk _ _ => some "dict"
  | .dt _ _ => some "dict"
  | _ => none
theorem ty_x {d : D} {v : V} {T : String} (r : Rb K C H d v) (e : tyN d = some T) : TyX K H v (.type T) := by
  obtain ⟨A, _, o⟩ := r
  cases d <;> simp [tyN] at e <;> subst e
  · cases o; exact .base .non
  · cases o; exact .base (.bl _)
  · cases o; exact .base (.int _)
  · cases o; exact .base (.str _)
  · cases o with | tup q y => exact .base (.tup q)
  · cases o with | lst h q y => exact .base (.lst q)
  · cases o with | fls q y =>
    rcases q with ⟨_, q⟩ | ⟨_, _, _, q1, q2, _⟩
    · exact .base (.frz q)
    · exact .kList q1 q2
  · cases o with | dk h l q y => exact .base (.dK q)
  · cases o with | dt h l q y => exact .base (.dT q)
def tyB (T S : String) : Option Bool := if S = "int" then some (T == "int" || T == "bool") else if S = "bool" ∨ S = "str" ∨ S = "tuple" ∨ S = "list" then some (T == S) else none
def tyOk : List String := ["NoneType", "bool", "int", "str", "tuple", "list", "dict"]
theorem tyN_mem {d : D} {T : String} (e : tyN d = some T) : T ∈ tyOk := by cases d <;> simp [tyN] at e <;> subst e <;> decide
theorem kitB_tyB : ∀ T ∈ tyOk, ∀ S ∈ ["int", "bool", "str", "tuple", "list"], kitB T S = tyB T S := by decide +kernel
theorem tyB_mem {T S : String} {b : Bool} (e : tyB T S = some b) : S ∈ ["int", "bool", "str", "tuple", "list"] := by
  unfold tyB at e
  split at e
  · rename_i h; subst h; simp
  · split at e
    · rename_i h; rcases h with h | h | h | h <;> subst h <;> simp
    · cases e
def fIsi (a b : D) : Option D := match b with
  | .op (.ty S) => (tyN a).bind fun T => (tyB T S).map D.bl
  | .tup [.op (.ty S), .op (.ty S')] => (tyN a).bind fun T => (tyB T S).bind fun b => (tyB T S').map fun c => .bl (b || c)
  | _ => none
abbrev rIsiA (K : PySem.W.Frag) : List V → Hp → VK → Prop := fun xs H Q => rIsi K xs H Q ∨ rIsiT K xs H Q
theorem call_isiA {X : Cx} : CallR X (.builtin "isinstance") (rIsiA X.K) := CallR.or call_isi call_isiT
theorem own_op {u v : V} {A : AP} (h : Own K C H (.op u) v A) : v = u := by cases h; rfl
theorem cs_isi : CallS K C (rIsiA K) (on2 fIsi) := fun H vs ds z Q r e k => by
  obtain ⟨d, d', rfl, e1⟩ := on2_inv e
  clear e
  have e := e1
  clear e1
  obtain ⟨v, w, rfl, r1, B, _, o2⟩ := rbl2 r
  unfold fIsi at e
  split at e
  · rename_i S
    rw [own_op o2]
    cases eT : tyN d with
    | none => rw [eT] at e; cases e
    | some T =>
      rw [eT] at e
      simp only [Option.bind] at e
      cases eb : tyB T S with
      | none => rw [eb] at e; cases e
      | some b =>
        rw [eb] at e; cases e
        refine .inl ⟨v, .ty S, .type T, .type S, b, rfl, .ty S, ty_x r1 eT, kit_ty ?_, k _ H Mt (Same.refl H) fr_mt al_mt (.bl _)⟩
        rw [kitB_tyB T (tyN_mem eT) S (tyB_mem eb), eb]
  · rename_i S S'
    cases eT : tyN d with
    | none => rw [eT] at e; cases e
    | some T =>
      rw [eT] at e
      simp only [Option.bind] at e
      cases eb : tyB T S with
      | none => rw [eb] at e; cases e
      | some b =>
        rw [eb] at e
        simp only at e
        cases ec : tyB T S' with
        | none => rw [ec] at e; cases e
        | some c =>
          rw [ec] at e; cases e
          cases o2 with
          | tup q y =>
            cases y with
            | cons _ _ _ x1 y1 =>
              cases y1 with
              | cons _ _ _ x2 y2 =>
                cases y2
                rw [own_op x1, own_op x2] at q
                have k1 : PySem.W.kitOne K (.type T) (.type S) = some b := kit_ty (by rw [kitB_tyB T (tyN_mem eT) S (tyB_mem eb), eb])
                have k2 : PySem.W.kitOne K (.type T) (.type S') = some c := kit_ty (by rw [kitB_tyB T (tyN_mem eT) S' (tyB_mem ec), ec])
                refine .inr ⟨v, _, [.ty S, .ty S'], .type T, [.type S, .type S'], b || c, rfl, q, .cons (.ty S) (.cons (.ty S') .nil), ty_x r1 eT, ?_, k _ H Mt (Same.refl H) fr_mt al_mt (.bl _)⟩
                refine kitAny_cons k1 (fun hb => ?_) (fun hb => by rw [hb]; rfl)
                subst hb
                refine kitAny_cons k2 (fun hc => ?_) (fun hc => by rw [hc]; rfl)
                subst hc
                rfl
  · cases e
end
end Dy

/-! Places within what a slot owns: read, changed. -/
namespace Dy
open PySem L2
inductive Stp where
  | fld (f : Str) | idx (k : Nat) | key (k : Key)
def setL {κ : Type} [DecidableEq κ] : List κ → List D → κ → D → List D
  | k :: ks, d :: ds, j, x => if k = j then x :: ds else d :: setL ks ds j x
  | _, ds, _, _ => ds
def get1 (d : D) (s : Stp) : Option D := match d, s with
  | .lst ds, .idx k => ds[k]?
  | .tup ds, .idx k => ds[k]?
  | .ob c ns ds, .fld f => if c < 5 then lookD ns ds f else none
  | .dk ks ds, .key k => lookD ks ds k
  | _, _ => none
def set1 (d : D) (s : Stp) (x : D) : D := match d, s with
  | .lst ds, .idx k => .lst (ds.set k x)
  | .tup ds, .idx k => .tup (ds.set k x)
  | .ob c ns ds, .fld f => .ob c ns (setL ns ds f x)
  | .dk ks ds, .key k => .dk ks (setL ks ds k x)
  | _, _ => d
def getP : D → List Stp → Option D
  | d, [] => some d
  | d, s :: p => (get1 d s).bind fun e => getP e p
def setP : D → List Stp → D → D
  | _, [], x => x
  | d, s :: p, x => match get1 d s with
    | some e => set1 d s (setP e p x)
    | none => d
def VStp (H : Hp) (v : V) : Stp → V → Prop
  | .idx k, u => ∃ a vs, v = .ref a ∧ (H a = some (.lst vs) ∨ H a = some (.tup vs)) ∧ vs[k]? = some u
  | .fld f, u => ∃ a c dx fs, v = .ref a ∧ H a = some (.ins c dx fs) ∧ fs.lookup f = some u
  | .key k, u => ∃ a kvs, v = .ref a ∧ H a = some (.dK kvs) ∧ valV kvs k = some u
def VAt (H : Hp) : V → List Stp → V → Prop
  | v, [], w => w = v
  | v, s :: p, w => ∃ u, VStp H v s u ∧ VAt H u p w
section
variable {K : PySem.W.Frag} {C : Nat → Addr} {W : WX} {Φ : AP} {Λ : Nat → AP} {π : Nat → Option V} {ss : SS} {σ : L2.St} {H H' : Hp}
theorem setL_len {κ : Type} [DecidableEq κ] : ∀ {ks : List κ} {ds : List D} {j : κ} {x : D}, (setL ks ds j x).length = ds.length
  | [], _, _, _ => rfl
  | _ :: _, [], _, _ => rfl
  | k :: ks, d :: ds, j, x => by
    unfold setL
    split
    · rfl
    · rw [List.length_cons, List.length_cons, setL_len]
/-- a child and the rest -/
def Lens (K : PySem.W.Frag) (C : Nat → Addr) (H : Hp) (e : D) (w : V) (A : AP) (set : D → List D) (vs : List V) : Prop :=
  ∃ B S, Own K C H e w B ∧ Sub B A ∧ Sub S A ∧ Sep B S ∧ ∀ H' e' B', Keep S H H' → Own K C H' e' w B' → Sep B' S → OwnL K C H' (set e') vs (Cup S B')
theorem lens_idx : ∀ {ds : List D} {vs : List V} {A : AP} {k : Nat} {e : D}, OwnL K C H ds vs A → ds[k]? = some e → ∃ w, vs[k]? = some w ∧ Lens K C H e w A (fun x => ds.set k x) vs
  | [], _, _, _, _, _, h => by simp at h
  | d :: ds, _, A, 0, e, o, h => by
    cases o with
    | cons a b c x y =>
      rename_i A1 A2 v vs
      simp at h; subst h
      exact ⟨v, rfl, A1, A2, x, b, c, a, fun H' e' B' k o' s => .cons (A1 := B') (A2 := A2) s cup_r cup_l o' (y.keep k)⟩
  | d :: ds, _, A, k + 1, e, o, h => by
    cases o with
    | cons a b c x y =>
      rename_i A1 A2 v vs
      obtain ⟨w, e1, B, S, o1, s1, s2, s3, f⟩ := lens_idx (k := k) y (by simpa using h)
      refine ⟨w, by simpa using e1, B, Cup A1 S, o1, s1.trans c, cup_sub b (s2.trans c), Sep.cup (a.mono (Sub.refl _) s1).symm s3, fun H' e' B' k o' s => ?_⟩
      exact .cons (A1 := A1) (A2 := Cup S B') (Sep.cup (a.mono (Sub.refl _) s2) (s.mono (Sub.refl _) cup_l).symm) (cup_l.trans cup_l) (cup_sub (cup_r.trans cup_l) cup_r) (x.keep (k.mono cup_l)) (f H' e' B' (k.mono cup_r) o' (s.mono (Sub.refl _) cup_r))
theorem lens_key {κ : Type} [DecidableEq κ] : ∀ {ks : List κ} {ds : List D} {vs : List V} {A : AP} {j : κ} {e : D}, OwnL K C H ds vs A → ks.length = ds.length → lookD ks ds j = some e → ∃ w, valV (ks.zip vs) j = some w ∧ Lens K C H e w A (fun x => setL ks ds j x) vs
  | [], _, _, _, _, _, _, _, h => by simp [lookD] at h
  | _ :: _, [], _, _, _, _, _, hl, _ => by cases hl
  | k :: ks, d :: ds, _, A, j, e, o, hl, h => by
    cases o with
    | cons a b c x y =>
      rename_i A1 A2 v vs
      unfold lookD at h
      by_cases q : k = j
      · rw [if_pos q] at h
        cases h
        refine ⟨v, by rw [List.zip_cons_cons, valV_pos q], A1, A2, x, b, c, a, fun H' e' B' k' o' s => ?_⟩
        have es : setL (k :: ks) (d :: ds) j e' = e' :: ds := by unfold setL; rw [if_pos q]
        show OwnL K C H' (setL (k :: ks) (d :: ds) j e') _ _
        rw [es]
        exact .cons (A1 := B') (A2 := A2) s cup_r cup_l o' (y.keep k')
      · rw [if_neg q] at h
        obtain ⟨w, e1, B, S, o1, s1, s2, s3, f⟩ := lens_key (ks := ks) (j := j) y (by simpa using hl) h
        refine ⟨w, by rw [List.zip_cons_cons, valV_neg q]; exact e1, B, Cup A1 S, o1, s1.trans c, cup_sub b (s2.trans c), Sep.cup (a.mono (Sub.refl _) s1).symm s3, fun H' e' B' k' o' s => ?_⟩
        have es : setL (k :: ks) (d :: ds) j e' = d :: setL ks ds j e' := by rw [setL]; rw [if_neg q]
        show OwnL K C H' (setL (k :: ks) (d :: ds) j e') _ _
        rw [es]
        exact .cons (A1 := A1) (A2 := Cup S B') (Sep.cup (a.mono (Sub.refl _) s2) (s.mono (Sub.refl _) cup_l).symm) (cup_l.trans cup_l) (cup_sub (cup_r.trans cup_l) cup_r) (x.keep (k'.mono cup_l)) (f H' e' B' (k'.mono cup_r) o' (s.mono (Sub.refl _) cup_r))
theorem valV_lookup : ∀ (fs : List (Str × V)) (f : Str), valV fs f = fs.lookup f
  | [], f => rfl
  | (g, x) :: r, f => by
    by_cases h : g = f
    · rw [valV_pos (p := (g, x)) h]
      have hb : (f == g) = true := beq_iff_eq.mpr h.symm
      simp only [List.lookup, hb]
    · rw [valV_neg (p := (g, x)) h, valV_lookup r f]
      have hb : (f == g) = false := beq_eq_false_iff_ne.mpr fun e => h e.symm
      simp only [List.lookup, hb]
/-- THE LENS: one step -/
theorem lens1 {d e : D} {v : V} {A : AP} {s : Stp} (o : Own K C H d v A) (h : get1 d s = some e) : ∃ w B S, VStp H v s w ∧ Own K C H e w B ∧ Sub B A ∧ Sub S A ∧ Sep B S ∧
    ∀ H' e' B', Keep S H H' → Own K C H' e' w B' → Sep B' S → Own K C H' (set1 d s e') v (Cup S B') := by
  cases d <;> cases s <;> simp [get1] at h
  · cases o with
    | tup q y =>
      obtain ⟨w, e1, B, S, o1, s1, s2, s3, f⟩ := lens_idx y h
      exact ⟨w, B, S, ⟨_, _, rfl, .inr q, e1⟩, o1, s1, s2, s3, fun H' e' B' k o' s => .tup (k.p.t _ _ q) (f H' e' B' k o' s)⟩
  · cases o with
    | lst ha q y =>
      rename_i a vs
      obtain ⟨w, e1, B, S, o1, s1, s2, s3, f⟩ := lens_idx y h
      refine ⟨w, B, Cup S (One a), ⟨_, _, rfl, .inl q, e1⟩, o1, s1.trans But.sub, cup_sub (s2.trans But.sub) (fun b z => by rw [show b = a from z]; exact ha), s3.cup (fun b x y => (s1 b x).2 y), fun H' e' B' k o' s => ?_⟩
      refine .lst (.inl (.inr rfl)) (k.k _ _ (.inr rfl) q) ((f H' e' B' (k.mono cup_l) o' (s.mono (Sub.refl _) cup_l)).mono fun b z => ?_)
      rcases z with z | z
      · exact ⟨.inl (.inl z), (s2 b z).2⟩
      · exact ⟨.inr z, fun hb => s b z (.inr hb)⟩
  · cases o with
    | dk ha l q y =>
      rename_i a vs
      obtain ⟨w, e1, B, S, o1, s1, s2, s3, f⟩ := lens_key y l h
      refine ⟨w, B, Cup S (One a), ⟨_, _, rfl, q, e1⟩, o1, s1.trans But.sub, cup_sub (s2.trans But.sub) (fun b z => by rw [show b = a from z]; exact ha), s3.cup (fun b x y => (s1 b x).2 y), fun H' e' B' k o' s => ?_⟩
      refine .dk (.inl (.inr rfl)) (by rw [setL_len]; exact l) (k.k _ _ (.inr rfl) q) ((f H' e' B' (k.mono cup_l) o' (s.mono (Sub.refl _) cup_l)).mono fun b z => ?_)
      rcases z with z | z
      · exact ⟨.inl (.inl z), (s2 b z).2⟩
      · exact ⟨.inr z, fun hb => s b z (.inr hb)⟩
  · cases o with
    | ob ha l q y =>
      rename_i a dx vs
      obtain ⟨w, e1, B, S, o1, s1, s2, s3, f⟩ := lens_key y l h.2
      rw [valV_lookup] at e1
      refine ⟨w, B, Cup S (One a), ⟨_, _, _, _, rfl, q, e1⟩, o1, s1.trans But.sub, cup_sub (s2.trans But.sub) (fun b z => by rw [show b = a from z]; exact ha), s3.cup (fun b x y => (s1 b x).2 y), fun H' e' B' k o' s => ?_⟩
      refine .ob (.inl (.inr rfl)) (by rw [setL_len]; exact l) (k.k _ _ (.inr rfl) q) ((f H' e' B' (k.mono cup_l) o' (s.mono (Sub.refl _) cup_l)).mono fun b z => ?_)
      rcases z with z | z
      · exact ⟨.inl (.inl z), (s2 b z).2⟩
      · exact ⟨.inr z, fun hb => s b z (.inr hb)⟩
/-- THE LENS -/
theorem lens : ∀ {p : List Stp} {d e : D} {v : V} {A : AP}, Own K C H d v A → getP d p = some e → ∃ w B S, VAt H v p w ∧ Own K C H e w B ∧ Sub B A ∧ Sub S A ∧ Sep B S ∧
    ∀ H' e' B', Keep S H H' → Own K C H' e' w B' → Sep B' S → Own K C H' (setP d p e') v (Cup S B')
  | [], d, e, v, A, o, h => by
    cases h
    exact ⟨v, A, Mt, rfl, o, Sub.refl _, sub_mt, mt_sep, fun H' e' B' _ o' _ => o'.mono cup_r⟩
  | s :: p, d, e, v, A, o, h => by
    unfold getP at h
    cases q : get1 d s with
    | none => rw [q] at h; cases h
    | some x =>
      rw [q] at h
      obtain ⟨u, B1, S1, v1, o1, b1, c1, d1, f1⟩ := lens1 o q
      obtain ⟨w, B, S, v2, o2, b2, c2, d2, f2⟩ := lens o1 h
      refine ⟨w, B, Cup S1 S, ⟨u, v1, v2⟩, o2, b2.trans b1, cup_sub c1 (c2.trans b1), Sep.cup (d1.mono b2 (Sub.refl _)) d2, fun H' e' B' k o' sp => ?_⟩
      have x1 := f2 H' e' B' (k.mono cup_r) o' (sp.mono (Sub.refl _) cup_r)
      have x2 := f1 H' _ (Cup S B') (k.mono cup_l) x1 (Sep.cupl (d1.mono c2 (Sub.refl _)).symm.symm (sp.mono (Sub.refl _) cup_l))
      unfold setP
      rw [q]
      exact x2.mono (cup_sub (cup_l.trans cup_l) (cup_sub (cup_r.trans cup_l) cup_r))
theorem VStp.same {v u : V} {s : Stp} (h : VStp H v s u) (sm : Same H H') : VStp H' v s u := by
  cases s with
  | idx k => obtain ⟨a, vs, e, h1, h2⟩ := h; exact ⟨a, vs, e, h1.imp (sm _ _) (sm _ _), h2⟩
  | fld f => obtain ⟨a, c, dx, fs, e, h1, h2⟩ := h; exact ⟨a, c, dx, fs, e, sm _ _ h1, h2⟩
  | key k => obtain ⟨a, kvs, e, h1, h2⟩ := h; exact ⟨a, kvs, e, sm _ _ h1, h2⟩
theorem VAt.same : ∀ {p : List Stp} {v w : V}, VAt H v p w → Same H H' → VAt H' v p w
  | [], _, _, h, _ => h
  | s :: p, _, _, ⟨u, h1, h2⟩, sm => ⟨u, h1.same sm, VAt.same h2 sm⟩
theorem VStp.det {v u u' : V} {s : Stp} (h : VStp H v s u) (h' : VStp H v s u') : u = u' := by
  cases s with
  | idx k =>
    obtain ⟨a, vs, e, h1, h2⟩ := h
    obtain ⟨a', vs', e', h1', h2'⟩ := h'
    rw [e] at e'; cases e'
    rcases h1 with h1 | h1 <;> rcases h1' with h1' | h1' <;> rw [h1] at h1' <;> cases h1' <;> (rw [h2] at h2'; exact Option.some.inj h2')
  | fld f =>
    obtain ⟨a, c, dx, fs, e, h1, h2⟩ := h
    obtain ⟨a', c', dx', fs', e', h1', h2'⟩ := h'
    rw [e] at e'; cases e'
    rw [h1] at h1'; cases h1'
    rw [h2] at h2'; exact Option.some.inj h2'
  | key k =>
    obtain ⟨a, kvs, e, h1, h2⟩ := h
    obtain ⟨a', kvs', e', h1', h2'⟩ := h'
    rw [e] at e'; cases e'
    rw [h1] at h1'; cases h1'
    rw [h2] at h2'; exact Option.some.inj h2'
theorem VAt.det : ∀ {p : List Stp} {v w w' : V}, VAt H v p w → VAt H v p w' → w = w'
  | [], _, _, _, h, h' => by rw [show _ = _ from h, show _ = _ from h']
  | s :: p, v, w, w', ⟨u, h1, h2⟩, ⟨u', h1', h2'⟩ => by
    cases h1.det h1'
    exact VAt.det h2 h2'
theorem VAt.snoc : ∀ {p : List Stp} {v u w : V} {s : Stp}, VAt H v p u → VStp H u s w → VAt H v (p ++ [s]) w
  | [], _, _, _, _, h, g => by rw [show _ = _ from h] at g; exact ⟨_, g, rfl⟩
  | t :: p, _, _, _, _, ⟨x, h1, h2⟩, g => ⟨x, h1, VAt.snoc h2 g⟩
theorem getP_snoc : ∀ {p : List Stp} {d : D} {s : Stp}, getP d (p ++ [s]) = (getP d p).bind fun e => get1 e s
  | [], d, s => by
    show (get1 d s).bind (fun e => getP e []) = get1 d s
    cases get1 d s <;> rfl
  | t :: p, d, s => by
    show (get1 d t).bind (fun e => getP e (p ++ [s])) = ((get1 d t).bind fun e => getP e p).bind fun e => get1 e s
    cases get1 d t with
    | none => rfl
    | some x => exact getP_snoc
/-! ### a place's evaluation -/
def valAt (i : Nat) (s : SS) : Option D := (s[i]?).bind Sl.val
/-- te walks to the place PF of slot i -/
def SimLP (K : PySem.W.Frag) (C : Nat → Addr) (te : TE) (i : Nat) (PF : SS → Option (List Stp)) : Prop :=
  ∀ Φ Λ π ss σ H (Q : VK) d p e, Rel K C Φ Λ π ss σ H → valAt i ss = some d → PF ss = some p → getP d p = some e → (∀ v w H', σ[i]? = some (some v) → Same H H' → VAt H' v p w → Q w H') → te σ H Q
def pRoot : SS → Option (List Stp) := fun _ => some []
theorem lp_var (i : Nat) : SimLP K C (tVar i) i pRoot := fun Φ Λ π ss σ H Q d p e r h1 h2 h3 k => by
  cases h2
  unfold valAt at h1
  cases q : ss[i]? with
  | none => rw [q] at h1; cases h1
  | some s =>
    rw [q] at h1
    obtain ⟨v, e1, _⟩ := r.get q h1
    exact ⟨v, e1, k v v H e1 (Same.refl H) rfl⟩
/-- the slot's value, by its own set -/
theorem Rel.val {i : Nat} {d : D} (r : Rel K C Φ Λ π ss σ H) (h : valAt i ss = some d) : ∃ v A, σ[i]? = some (some v) ∧ Al H A ∧ Own K C H d v A := by
  unfold valAt at h
  cases q : ss[i]? with
  | none => rw [q] at h; cases h
  | some s =>
    rw [q] at h
    obtain ⟨v, e1, A, al, o⟩ := r.get q h
    exact ⟨v, A, e1, al, o⟩
def pFld (PF : SS → Option (List Stp)) (f : Str) : SS → Option (List Stp) := fun s => (PF s).map fun p => p ++ [.fld f]
theorem lp_fld {te : TE} {i : Nat} {PF : SS → Option (List Stp)} {f : Str} (h : SimLP K C te i PF) (hc : ∀ c, c < 5 → Cls K (C c)) (hn : ∀ c, c < 5 → NoAttr K (C c) f) : SimLP K C (tFld K te f) i (pFld PF f) := fun Φ Λ π ss σ H Q d p e r h1 h2 h3 k => by
  unfold pFld at h2
  cases q : PF ss with
  | none => rw [q] at h2; cases h2
  | some p0 =>
    rw [q] at h2; cases h2
    rw [getP_snoc] at h3
    cases q2 : getP d p0 with
    | none => rw [q2] at h3; cases h3
    | some e0 =>
      rw [q2] at h3
      refine h Φ Λ π ss σ H _ d p0 e0 r h1 q q2 fun v w H' e1 sm va => ?_
      obtain ⟨v', A, e2, al, o⟩ := (r.same sm).val h1
      rw [e1] at e2; cases e2
      obtain ⟨w', B, S, va', o', _⟩ := lens o q2
      cases va.det va'
      have h3' : get1 e0 (.fld f) = some e := h3
      cases e0 <;> simp [get1] at h3'
      cases o' with
      | ob ha l q y =>
        obtain ⟨u, e4, _⟩ := lens_key y l h3'.2
        rw [valV_lookup] at e4
        exact ⟨_, _, _, _, u, rfl, q, hc _ h3'.1, hn _ h3'.1, e4, k v u H' e1 sm (va.snoc ⟨_, _, _, _, rfl, q, e4⟩)⟩
/-- the step that an index makes -/
def stpOf (e j : D) : Option Stp := match e, j with
  | .lst ds, .int i => (ixN ds.length i).map Stp.idx
  | .tup ds, .int i => (ixN ds.length i).map Stp.idx
  | .dk _ _, j => (keyOf j).map Stp.key
  | _, _ => none
def pIdx (i : Nat) (PF : SS → Option (List Stp)) (J : SS → Option D) : SS → Option (List Stp) := fun s => (PF s).bind fun p => (valAt i s).bind fun d => (getP d p).bind fun e => (J s).bind fun j => (stpOf e j).map fun t => p ++ [t]
theorem lp_idx {te tj : TE} {i : Nat} {PF : SS → Option (List Stp)} {J : SS → Option D} (h : SimLP K C te i PF) (hj : SimP K C tj J) : SimLP K C (tOp (rIxA K) te tj) i (pIdx i PF J) := fun Φ Λ π ss σ H Q d p e r h1 h2 h3 k => by
  unfold pIdx at h2
  cases q : PF ss with
  | none => rw [q] at h2; cases h2
  | some p0 =>
    rw [q, h1] at h2
    simp only [Option.bind] at h2
    cases q2 : getP d p0 with
    | none => rw [q2] at h2; cases h2
    | some e0 =>
      rw [q2] at h2
      simp only at h2
      cases q3 : J ss with
      | none => rw [q3] at h2; cases h2
      | some j =>
        rw [q3] at h2
        simp only at h2
        cases q4 : stpOf e0 j with
        | none => rw [q4] at h2; cases h2
        | some t =>
          rw [q4] at h2; cases h2
          rw [getP_snoc, q2] at h3
          refine h Φ Λ π ss σ H _ d p0 e0 r h1 q q2 fun v w H1 e1 sm va => ?_
          refine hj Φ Λ π ss σ H1 _ j (r.same sm) q3 fun y H2 s2 rb => ?_
          have s12 := sm.trans s2
          obtain ⟨v', A, e2, al, o⟩ := (r.same s12).val h1
          rw [e1] at e2; cases e2
          obtain ⟨w', B, S, va', o', _⟩ := lens o q2
          have va2 := va.same s2
          cases va2.det va'
          have h3' : get1 e0 t = some e := h3
          cases e0 with
          | lst ds =>
            cases j <;> simp [stpOf] at q4
            obtain ⟨n, hn, rfl⟩ := q4
            rw [rb_int' rb]
            cases o' with
            | lst ha q y =>
              obtain ⟨u, e4, _⟩ := lens_idx y (show ds[n]? = some e from h3')
              exact .inl (.inl ⟨_, _, _, u, rfl, rfl, SqL.of q, by unfold atI; rw [← y.length, hn]; exact e4, k v u H2 e1 s12 (va2.snoc ⟨_, _, rfl, .inl q, e4⟩)⟩)
          | tup ds =>
            cases j <;> simp [stpOf] at q4
            obtain ⟨n, hn, rfl⟩ := q4
            rw [rb_int' rb]
            cases o' with
            | tup q y =>
              obtain ⟨u, e4, _⟩ := lens_idx y (show ds[n]? = some e from h3')
              exact .inl (.inr (.inl ⟨_, _, _, u, rfl, rfl, SqT.of q, by unfold atI; rw [← y.length, hn]; exact e4, k v u H2 e1 s12 (va2.snoc ⟨_, _, rfl, .inr q, e4⟩)⟩))
          | dk ks ds =>
            simp [stpOf] at q4
            obtain ⟨n, hn, rfl⟩ := q4
            obtain ⟨A2, _, o2⟩ := rb
            rw [key_v o2 hn]
            cases o' with
            | dk ha l q y =>
              obtain ⟨u, e4, _⟩ := lens_key y l (show lookD ks ds n = some e from h3')
              have g := DGet.k (k := n) q
              rw [e4] at g
              exact .inr ⟨_, u, rfl, g, k v u H2 e1 s12 (va2.snoc ⟨_, _, rfl, q, e4⟩)⟩
          | _ => simp [stpOf] at q4
/-- a place read -/
def fP (i : Nat) (PF : SS → Option (List Stp)) : SS → Option D := fun s => (PF s).bind fun p => (valAt i s).bind fun d => getP d p
theorem sp_lp {te : TE} {i : Nat} {PF : SS → Option (List Stp)} (h : SimLP K C te i PF) : SimP K C te (fP i PF) := fun Φ Λ π ss σ H Q e r q k => by
  unfold fP at q
  cases q1 : PF ss with
  | none => rw [q1] at q; cases q
  | some p =>
    rw [q1] at q
    simp only [Option.bind] at q
    cases q2 : valAt i ss with
    | none => rw [q2] at q; cases q
    | some d =>
      rw [q2] at q
      refine h Φ Λ π ss σ H _ d p e r q2 q1 q fun v w H' e1 sm va => ?_
      obtain ⟨v', A, e2, al, o⟩ := (r.same sm).val q2
      rw [e1] at e2; cases e2
      obtain ⟨w', B, S, va', o', b, _⟩ := lens o q
      cases va.det va'
      exact k w H' sm ⟨B, al.mono b, o'⟩
/-! ### what stands at a place changed -/
def setV (i : Nat) (d : D) (s : SS) : Option SS := match s[i]? with
  | some (.own _) => some (s.set i (.own d))
  | some (.inn _) => some (s.set i (.inn d))
  | _ => none
def modP {α : Type} (i : Nat) (p : List Stp) (f : D → Option (α × D)) (s : SS) : Option (α × SS) := (valAt i s).bind fun d => (getP d p).bind fun e => (f e).bind fun (r, e') => (setV i (setP d p e') s).map fun s' => (r, s')
theorem modP_inv {α : Type} {i : Nat} {p : List Stp} {f : D → Option (α × D)} {s s' : SS} {r : α} (h : modP i p f s = some (r, s')) : ∃ d e e', valAt i s = some d ∧ getP d p = some e ∧ f e = some (r, e') ∧ setV i (setP d p e') s = some s' := by
  unfold modP at h
  cases q1 : valAt i s with
  | none => rw [q1] at h; cases h
  | some d =>
    rw [q1] at h
    simp only [Option.bind] at h
    cases q2 : getP d p with
    | none => rw [q2] at h; cases h
    | some e =>
      rw [q2] at h
      simp only at h
      cases q3 : f e with
      | none => rw [q3] at h; cases h
      | some x =>
        obtain ⟨r', e'⟩ := x
        rw [q3] at h
        simp only at h
        cases q4 : setV i (setP d p e') s with
        | none => rw [q4] at h; cases h
        | some s2 => rw [q4] at h; cases h; exact ⟨d, e, e', rfl, q2, q3, q4⟩
theorem setV_inv {i : Nat} {d : D} {s s' : SS} (h : setV i d s = some s') : (∃ d0, s[i]? = some (.own d0) ∧ s' = s.set i (.own d)) ∨ (∃ d0, s[i]? = some (.inn d0) ∧ s' = s.set i (.inn d)) := by
  unfold setV at h
  split at h
  · rename_i d0 e; cases h; exact .inl ⟨d0, e, rfl⟩
  · rename_i d0 e; cases h; exact .inr ⟨d0, e, rfl⟩
  · cases h
/-- the place's value with what may be done with it: B0 is protected beside -/
theorem Rel.place {i : Nat} {p : List Stp} {d e : D} {B0 : AP} {s0 : Sl} (r : Rel K C (Cup Φ B0) Λ π ss σ H) (hs : ss[i]? = some s0) (hv : valAt i ss = some d) (hm : ∃ x, s0 = .own x ∨ s0 = .inn x) (h : getP d p = some e) (psi : ∀ i, Sub (Λ i) Φ) (sb : Sep B0 Φ) :
    ∃ v w B, σ[i]? = some (some v) ∧ VAt H v p w ∧ Own K C H e w B ∧ Al H B ∧ Sep B (Cup Φ B0) ∧
      ∀ H' e' B' s', (∀ R : AP, Sep B R → Al H R → Keep R H H') → Al H' B' → Sub B' (Cup B B0) → (∀ a, H a ≠ none → H' a ≠ none) → Own K C H' e' w B' → setV i (setP d p e') ss = some s' → Rel K C Φ Λ π s' σ H' := by
  obtain ⟨As, a⟩ := r
  obtain ⟨o, eo⟩ := getσ a.len hs
  have q := a.ok i s0 o hs eo
  have hd : s0.val = some d := by unfold valAt at hv; rw [hs] at hv; exact hv
  obtain ⟨v, ev, w0⟩ : ∃ v, o = some v ∧ Own K C H d v (As i) := by
    obtain ⟨x, rfl | rfl⟩ := hm
    · cases hd; exact q
    · cases hd; exact q
  subst ev
  obtain ⟨w, B, S, va, o1, b1, c1, d1, f1⟩ := lens w0 h
  refine ⟨v, w, B, eo, va, o1, (a.aa i).mono b1, (a.af i).mono b1 (Sub.refl _), fun H' e' B' s' kp al' sb' grow o' es => ?_⟩
  have sep1 : ∀ R : AP, Sep (As i) R → Al H R → Keep R H H' := fun R s1 s2 => kp R (s1.mono b1 (Sub.refl _)) s2
  have kΦ : Keep Φ H H' := sep1 Φ ((a.af i).mono (Sub.refl _) cup_l) (a.al.mono cup_l)
  have kS : Keep S H H' := kp S d1 ((a.aa i).mono c1)
  have sBS : Sep B' S := fun x y z => by
    rcases sb' x y with y | y
    · exact d1 x y z
    · exact a.af i x (c1 x z) (.inr y)
  have o2 := f1 H' e' B' kS o' sBS
  have alN : Al H' (Cup S B') := (((a.aa i).mono c1).keep kS).cup al'
  have sepN : Sep (Cup S B') Φ := Sep.cupl ((a.af i).mono c1 cup_l) (fun x y z => by
    rcases sb' x y with y | y
    · exact (a.af i) x (b1 x y) (.inl z)
    · exact sb x y z)
  have base : RelA K C Φ Λ π ss σ H' As → False ∨ True := fun _ => .inr trivial
  have fin : ∀ s1 : Sl, (s1 = .own (setP d p e') ∧ (∃ x, s0 = .own x)) ∨ (s1 = .inn (setP d p e') ∧ (∃ x, s0 = .inn x)) → Rel K C Φ Λ π (ss.set i s1) σ H' := fun s1 hs1 => by
    have hi : i < ss.length := (List.getElem?_eq_some_iff.mp hs).1
    refine ⟨fun j => if j = i then Cup S B' else As j, (a.al.mono cup_l).keep kΦ, psi, by rw [List.length_set]; exact a.len, fun j u hj => ?_, fun j => ?_, fun j => ?_, fun j k hjk => ?_, fun j t u h1 h2 => ?_⟩
    · obtain ⟨h1, x, h2⟩ := a.pin j u hj
      by_cases nj : i = j
      · subst nj
        rw [hs] at h2
        cases h2
        rcases hs1 with ⟨_, y, z⟩ | ⟨rfl, _⟩
        · cases z
        · exact ⟨h1, _, by rw [List.getElem?_set_self hi]⟩
      · exact ⟨h1, x, by rw [List.getElem?_set_ne nj]; exact h2⟩
    · show Al H' (if j = i then Cup S B' else As j)
      split
      · exact alN
      · rename_i n; exact (a.aa j).keep (sep1 _ (a.ap i j fun z => n z.symm) (a.aa j))
    · show Sep (if j = i then Cup S B' else As j) Φ
      split
      · exact sepN
      · exact (a.af j).mono (Sub.refl _) cup_l
    · have sNj : ∀ j, j ≠ i → Sep (Cup S B') (As j) := fun j n => Sep.cupl ((a.ap i j fun z => n z.symm).mono c1 (Sub.refl _)) (fun x y z => by
        rcases sb' x y with y | y
        · exact (a.ap i j fun z => n z.symm) x (b1 x y) z
        · exact a.af j x z (.inr y))
      show Sep (if j = i then Cup S B' else As j) (if k = i then Cup S B' else As k)
      by_cases hj : j = i
      · rw [if_pos hj, if_neg (fun z => hjk (hj.trans z.symm))]
        exact sNj k fun z => hjk (hj.trans z.symm)
      · rw [if_neg hj]
        by_cases hk : k = i
        · rw [if_pos hk]; exact (sNj j hj).symm
        · rw [if_neg hk]; exact a.ap j k hjk
    · by_cases nj : i = j
      · subst nj
        rw [List.getElem?_set_self hi] at h1
        cases h1
        rw [eo] at h2; cases h2
        show SlOk K C H' (Λ i) (if i = i then Cup S B' else As i) s1 _
        rw [if_pos rfl]
        rcases hs1 with ⟨rfl, _⟩ | ⟨rfl, _⟩ <;> exact ⟨v, rfl, o2⟩
      · rw [List.getElem?_set_ne nj] at h1
        show SlOk K C H' (Λ j) (if j = i then Cup S B' else As j) t u
        rw [if_neg (fun z => nj z.symm)]
        exact (a.ok j t u h1 h2).keep (sep1 _ (a.ap i j nj) (a.aa j)) (kΦ.mono (psi j))
  rcases setV_inv es with ⟨d0, e0, rfl⟩ | ⟨d0, e0, rfl⟩
  · rw [hs] at e0; cases e0; exact fin _ (.inl ⟨rfl, _, rfl⟩)
  · rw [hs] at e0; cases e0; exact fin _ (.inr ⟨rfl, _, rfl⟩)
end
end Dy

/-! Changes in place: methods of lists, items, fields. -/
namespace Dy
open PySem L2
section
variable {K : PySem.W.Frag} {C : Nat → Addr} {W : WX} {Φ : AP} {Λ : Nat → AP} {π : Nat → Option V} {ss : SS} {σ : L2.St} {H H' : Hp}
/-- what is asked behind a change of what stands at w -/
def Chg (K : PySem.W.Frag) (C : Nat → Addr) (H : Hp) (w : V) (A B : AP) (r' e' : D) (Q : VK) : Prop :=
  ∀ v H' A', (∀ R : AP, Sep A R → Al H R → Keep R H H') → Al H' A' → Sub A' (Cup A B) → (∀ a, H a ≠ none → H' a ≠ none) → Own K C H' e' w A' → Own K C H' r' v Mt → Q v H'
def MutS (K : PySem.W.Frag) (C : Nat → Addr) (r : V → List V → Hp → VK → Prop) (f : D → List D → Option (D × D)) : Prop :=
  ∀ H w ws e ds A B r' e' (Q : VK), Al H A → Own K C H e w A → OwnL K C H ds ws B → Sep A B → Al H B → f e ds = some (r', e') → Chg K C H w A B r' e' Q → r w ws H Q
def tyOkD (T : String) : D → Bool
  | .lst _ => T == "list"
  | .fls _ => T == "list"
  | .dk _ _ => T == "dict"
  | .dt _ _ => T == "dict"
  | .str _ => T == "str"
  | _ => false
theorem tyV_of {T : String} {d : D} {v : V} {A : AP} (o : Own K C H d v A) (h : tyOkD T d = true) : tyV K T v H := by
  cases o with
  | lst h1 q y => simp [tyOkD] at h; subst h; exact .inl ⟨rfl, _, SqL.of q⟩
  | fls q y => simp [tyOkD] at h; subst h; exact .inl ⟨rfl, _, q.sql⟩
  | str => simp [tyOkD] at h; exact h
  | dk h1 => rename_i q y; simp [tyOkD] at h; subst h; exact .inr (.inr (.inl ⟨rfl, .inl ⟨_, q⟩⟩))
  | dt h1 => rename_i q y; simp [tyOkD] at h; subst h; exact .inr (.inr (.inl ⟨rfl, .inr ⟨_, q⟩⟩))
  | _ => simp [tyOkD] at h
def ofM : Option (D × SS) → R D
  | some (r, s) => .ok r s
  | none => .stuck
def eMut (i : Nat) (PF : SS → Option (List Stp)) (T : String) (f : D → List D → Option (D × D)) (Fa : SS → R (List D)) : SS → R D := fun s => match fP i PF s with
  | some e0 => if tyOkD T e0 = true then (Fa s).bind fun ds s1 => match PF s1 with
      | some p => ofM (modP i p (fun e => f e ds) s1)
      | none => .stuck
    else .stuck
  | none => .stuck
theorem setV_slot {i : Nat} {d : D} {s s' : SS} (h : setV i d s = some s') : ∃ s0, s[i]? = some s0 ∧ ∃ x, s0 = .own x ∨ s0 = .inn x := by
  rcases setV_inv h with ⟨d0, e, _⟩ | ⟨d0, e, _⟩
  · exact ⟨_, e, d0, .inl rfl⟩
  · exact ⟨_, e, d0, .inr rfl⟩
/-- a method of what a slot holds: its arguments may do things -/
theorem se_mut {i : Nat} {T : String} {r : V → List V → Hp → VK → Prop} {f : D → List D → Option (D × D)} {ta : TA} {Fa : SS → R (List D)} (hm : MutS K C r f) (ha : SimA K C W ta Fa) : SimE K C W (tBM K T r (tVar i) ta) (eMut i pRoot T f Fa) := fun Φ Λ π ss σ H Q rel p => by
  unfold eMut at p
  cases q0 : fP i pRoot ss with
  | none => rw [q0] at p; exact p.elim
  | some e0 =>
    rw [q0] at p
    simp only at p
    split at p
    · rename_i ty
      have hv0 : valAt i ss = some e0 := by
        unfold fP pRoot at q0
        simp only [Option.bind] at q0
        cases h : valAt i ss with
        | none => rw [h] at q0; cases q0
        | some d => rw [h] at q0; exact q0
      obtain ⟨v0, A0, e1, al0, o0⟩ := rel.val hv0
      refine ⟨v0, e1, tyV_of o0 ty, ?_⟩
      refine ha Φ Λ π ss σ H _ rel ?_
      cases ea : Fa ss with
      | stuck => rw [ea] at p; exact p
      | exc x s => rw [ea] at p; exact p
      | ok ds s1 =>
        rw [ea] at p
        intro ws H1 B1 k1 r1 sp1 o1
        have p' : PostE K C W Φ Λ π σ H Q (ofM (modP i [] (fun e => f e ds) s1)) := p
        cases em : modP i [] (fun e => f e ds) s1 with
        | none => rw [em] at p'; exact p'.elim
        | some x =>
          obtain ⟨r', s2⟩ := x
          rw [em] at p'
          obtain ⟨d, e, e', h1, h2, h3, h4⟩ := modP_inv em
          obtain ⟨s0, hs0, hm0⟩ := setV_slot h4
          obtain ⟨v, w, B, ev, va, ob, alB, sepB, fin⟩ := r1.place hs0 h1 hm0 h2 rel.psi sp1
          rw [e1] at ev; cases ev
          cases (show w = v0 from va)
          refine hm H1 v0 ws e ds B B1 r' e' Q alB ob o1 (sepB.mono (Sub.refl _) cup_r) (r1.al.mono cup_r) h3 fun u H' A' kp al' sb' grow o' ores => ?_
          have rr := fin H' e' A' s2 kp al' sb' grow o' h4
          exact p' u H' Mt (k1.trans (kp Φ (sepB.mono (Sub.refl _) cup_l) (r1.al.mono cup_l))) rr.mt sep_mt ores
    · exact p.elim
/-- new or immutable arguments, without doing anything -/
def SimFA (K : PySem.W.Frag) (C : Nat → Addr) (t : TA) (F : SS → Option (List D)) : Prop := ∀ Φ Λ π ss σ H (Q : List V → Hp → Prop) ds, Rel K C Φ Λ π ss σ H → F ss = some ds → (∀ vs H' B, Same H H' → Fr H B → Al H' B → OwnL K C H' ds vs B → Q vs H') → t σ H Q
theorem sfa_nil : SimFA K C tNil psN := fun Φ Λ π ss σ H Q ds r e k => by cases e; exact k [] H Mt (Same.refl H) fr_mt al_mt .nil
theorem sfa_cons {ta : TE} {tr : TA} {F : SS → Option D} {G : SS → Option (List D)} (ha : SimF K C ta F) (hr : SimFA K C tr G) : SimFA K C (tCons ta tr) (psC F G) := fun Φ Λ π ss σ H Q ds rel e k => by
  unfold psC at e
  cases ea : F ss with
  | none => rw [ea] at e; cases e
  | some x =>
    cases eb : G ss with
    | none => rw [ea, eb] at e; cases e
    | some y =>
      rw [ea, eb] at e; cases e
      refine ha Φ Λ π ss σ H _ x rel ea fun v H1 B1 s1 f1 al1 o1 => ?_
      refine hr Φ Λ π ss σ H1 _ y (rel.same s1) eb fun u H2 B2 s2 f2 al2 o2 => ?_
      exact k _ _ (Cup B1 B2) (s1.trans s2) (fun a z => z.elim (f1 a) fun z => s1.free (f2 a z)) ((al1.same s2).cup al2) (.cons (A1 := B1) (A2 := B2) (fr_sep f2 al1) cup_l cup_r (o1.same s2) o2)
def ofP (F : SS → Option (List D)) : SS → R (List D) := fun s => R.of (F s) s
/-- a method of what stands at a place -/
theorem se_mutP {i : Nat} {PF : SS → Option (List Stp)} {T : String} {r : V → List V → Hp → VK → Prop} {f : D → List D → Option (D × D)} {te : TE} {ta : TA} {Fa : SS → Option (List D)} (hm : MutS K C r f) (ho : SimLP K C te i PF) (ha : SimFA K C ta Fa) :
    SimE K C W (tBM K T r te ta) (eMut i PF T f (ofP Fa)) := fun Φ Λ π ss σ H Q rel p => by
  unfold eMut at p
  cases q0 : fP i PF ss with
  | none => rw [q0] at p; exact p.elim
  | some e0 =>
    rw [q0] at p
    simp only at p
    split at p
    · rename_i ty
      unfold fP at q0
      cases q1 : PF ss with
      | none => rw [q1] at q0; cases q0
      | some pp =>
        rw [q1] at q0
        simp only [Option.bind] at q0
        cases q2 : valAt i ss with
        | none => rw [q2] at q0; cases q0
        | some d0 =>
          rw [q2] at q0
          simp only at q0
          unfold ofP at p
          cases ea : Fa ss with
          | none => rw [ea] at p; exact p.elim
          | some ds =>
            rw [ea] at p
            simp only [R.of, R.bind, q1] at p
            refine ho Φ Λ π ss σ H _ d0 pp e0 rel q2 q1 q0 fun v0 w0 H0 e1 sm0 va0 => ?_
            obtain ⟨v', A0, e2, al0, o0⟩ := (rel.same sm0).val q2
            rw [e1] at e2; cases e2
            obtain ⟨w', B', S', va', o', _⟩ := lens o0 q0
            cases va0.det va'
            refine ⟨tyV_of o' ty, ?_⟩
            refine ha Φ Λ π ss σ H0 _ ds (rel.same sm0) ea fun ws H1 B1 sm1 fr1 al1 o1 => ?_
            have sm := sm0.trans sm1
            have r1 : Rel K C (Cup Φ B1) Λ π ss σ H1 := (rel.same sm0).grow sm1 fr1 al1
            cases em : modP i pp (fun e => f e ds) ss with
            | none => rw [em] at p; exact p.elim
            | some x =>
              obtain ⟨r', s2⟩ := x
              rw [em] at p
              obtain ⟨d, e, e', h1, h2, h3, h4⟩ := modP_inv em
              obtain ⟨s0, hs0, hm0⟩ := setV_slot h4
              obtain ⟨v, w, B, ev, va, ob, alB, sepB, fin⟩ := r1.place hs0 h1 hm0 h2 rel.psi ((fr_sep fr1 (rel.same sm0).al).symm)
              rw [e1] at ev; cases ev
              cases (va0.same sm1).det va
              refine hm H1 w0 ws e ds B B1 r' e' Q alB ob o1 (sepB.mono (Sub.refl _) cup_r) al1 h3 fun u H' A' kp al' sb' grow o' ores => ?_
              have rr := fin H' e' A' s2 kp al' sb' grow o' h4
              exact p u H' Mt ((Keep.of sm).trans (kp Φ (sepB.mono (Sub.refl _) cup_l) (r1.al.mono cup_l))) rr.mt sep_mt ores
    · exact p.elim
/-- without arguments -/
theorem se_mut0 {i : Nat} {PF : SS → Option (List Stp)} {T : String} {r : V → List V → Hp → VK → Prop} {f : D → List D → Option (D × D)} {te : TE} (hm : MutS K C r f) (ho : SimLP K C te i PF) :
    SimE K C W (tBM0 K T r te) (eMut i PF T f (ofP psN)) := se_mutP (ta := tNil) hm ho sfa_nil
/-! ### lists -/
theorem upd_keep {A R : AP} {p : Addr} {u o : HO} (h : H p = some u) (ht : ∀ xs, u ≠ .tup xs) (hz : ∀ q w, u ≠ .frz q w) (ha : A p) (s : Sep A R) : Keep R H (upd H p o) := keep_upd h ht hz fun z => s p ha z
theorem upd_grow {p : Addr} {o : HO} : ∀ a, H a ≠ none → upd H p o a ≠ none := fun a h => by
  by_cases e : a = p
  · rw [e, upd_same]; exact fun z => by cases z
  · rw [upd_ne e]; exact h
theorem upd_al {A : AP} {p : Addr} {o : HO} (h : Al H A) : Al (upd H p o) A := fun a x => upd_grow a (h a x)
def fAppend (e : D) (l : List D) : Option (D × D) := match e, l with
  | .lst ds, [d] => if ds.length < 1000000 then some (.non, .lst (ds ++ [d])) else none
  | _, _ => none
theorem sl_lt {n : Nat} (h : n < 1000000) : n < sizeLine := Nat.lt_of_lt_of_le h (by decide)
theorem ms_append : MutS K C rAppend fAppend := fun H w ws e ds A B r' e' Q al o ol sp alB h k => by
  cases e <;> simp [fAppend] at h
  cases ol with
  | nil => simp at h
  | cons a b c x y =>
    cases y with
    | cons _ _ _ _ _ => simp at h
    | nil =>
      rename_i xs A1 A2 d v
      simp at h
      obtain ⟨hl, rfl, rfl⟩ := h
      cases o with
      | lst ha q z =>
        rename_i p vs
        have nB : ¬ A1 p := fun zz => sp p ha (b p zz)
        refine ⟨p, vs, v, rfl, rfl, q, by rw [← z.length]; exact sl_lt hl, k .non _ (Cup A B) (fun R s _ => upd_keep q (fun _ z => by cases z) (fun _ _ z => by cases z) ha s) ((upd_al al).cup (upd_al alB)) (Sub.refl _) upd_grow ?_ .non⟩
        have kp : ∀ R : AP, ¬ R p → Keep R H (upd H p (.lst (vs ++ [v]))) := fun R n => keep_upd q (fun _ z => by cases z) (fun _ _ z => by cases z) n
        refine .lst (.inl ha) upd_same ((OwnL.snoc (A := But A p) (B := A1) (fun t t1 t2 => sp t t1.1 (b t t2)) (z.keep (kp _ fun t => t.2 rfl)) (x.keep (kp _ nB))).mono fun t tt => ?_)
        rcases tt with tt | tt
        · exact ⟨.inl tt.1, tt.2⟩
        · exact ⟨.inr (b t tt), fun e => nB (by rw [← e]; exact tt)⟩
def fExtend (e : D) (l : List D) : Option (D × D) := match e, l with
  | .lst ds, [.lst es] => if immL es = true ∧ ds.length + es.length ≤ 1000000 then some (.non, .lst (ds ++ es)) else none
  | _, _ => none
theorem OwnL.appI : ∀ {ds es : List D} {vs ws : List V} {A : AP}, OwnL K C H ds vs A → IL K C H es ws → OwnL K C H (ds ++ es) (vs ++ ws) A
  | [], es, vs, ws, A, h, g => by cases h; exact g.mono sub_mt
  | d :: ds, es, vs, ws, A, h, g => by
    cases h with | cons a b c x y => exact .cons a b c x (OwnL.appI y g)
theorem ms_extend : MutS K C rExtend fExtend := fun H w ws e ds A B r' e' Q al o ol sp alB h k => by
  cases e <;> simp [fExtend] at h
  cases ol with
  | nil => simp at h
  | cons a b c x y =>
    cases y with
    | cons _ _ _ _ _ => simp at h
    | nil =>
      rename_i xs A1 A2 d v
      cases d <;> simp at h
      obtain ⟨⟨ie, hl⟩, rfl, rfl⟩ := h
      cases o with
      | lst ha q z =>
        cases x with
        | lst ha2 q2 z2 =>
          rename_i p vs p2 vs2
          have kp : ∀ R : AP, ¬ R p → Keep R H (upd H p (.lst (vs ++ vs2))) := fun R n => keep_upd q (fun _ z => by cases z) (fun _ _ z => by cases z) n
          refine ⟨p, p2, vs, vs2, rfl, rfl, q, q2, by rw [← z.length, ← z2.length]; exact sl100 hl, k .non _ A (fun R s _ => upd_keep q (fun _ z => by cases z) (fun _ _ z => by cases z) ha s) (upd_al al) cup_l upd_grow ?_ .non⟩
          exact .lst ha upd_same (OwnL.appI (z.keep (kp _ fun t => t.2 rfl)) ((z2.imm (B := Mt) ie).keep (kp _ fun t => t)))
def fPop (e : D) (l : List D) : Option (D × D) := match e, l with
  | .lst ds, [] => if immL ds = true then (ds[ds.length - 1]?).map fun d => (d, .lst ds.dropLast) else none
  | _, _ => none
theorem IL.dropLast : ∀ {ds : List D} {vs : List V}, IL K C H ds vs → IL K C H ds.dropLast vs.dropLast := fun {ds vs} h => by
  rw [List.dropLast_eq_take, List.dropLast_eq_take, ← h.length]
  exact IL.take _ h
theorem ms_pop : MutS K C rPop fPop := fun H w ws e ds A B r' e' Q al o ol sp alB h k => by
  cases e <;> simp [fPop] at h
  cases ol with
  | cons _ _ _ _ _ => simp at h
  | nil =>
    rename_i xs
    simp at h
    obtain ⟨hi, d, hd, rfl, rfl⟩ := h
    cases o with
    | lst ha q z =>
      rename_i p vs
      have il := z.imm (B := Mt) hi
      obtain ⟨v, hv, ov⟩ := IL.get il hd
      have kp : ∀ R : AP, ¬ R p → Keep R H (upd H p (.lst vs.dropLast)) := fun R n => keep_upd q (fun _ z => by cases z) (fun _ _ z => by cases z) n
      refine ⟨p, vs, v, rfl, rfl, q, by rw [← z.length]; exact hv, k v _ A (fun R s _ => upd_keep q (fun _ z => by cases z) (fun _ _ z => by cases z) ha s) (upd_al al) cup_l upd_grow ?_ (ov.keep (kp _ fun t => t))⟩
      exact .lst ha upd_same (((IL.dropLast il).keep (kp _ fun t => t)).mono sub_mt)
def fPopAt (e : D) (l : List D) : Option (D × D) := match e, l with
  | .lst ds, [.int i] => if immL ds = true ∧ 0 ≤ i ∧ i < ds.length ∧ ds.length ≤ 1000000 then (ds[i.toNat]?).map fun d => (d, .lst (ds.eraseIdx i.toNat)) else none
  | _, _ => none
theorem ms_popAt : MutS K C rPopAt fPopAt := fun H w ws e ds A B r' e' Q al o ol sp alB h k => by
  cases e <;> simp [fPopAt] at h
  cases ol with
  | nil => simp at h
  | cons a b c x y =>
    cases y with
    | cons _ _ _ _ _ => simp at h
    | nil =>
      rename_i xs A1 A2 d v
      cases d <;> simp at h
      rename_i i
      obtain ⟨⟨hi, h0, h1, h2⟩, d, hd, rfl, rfl⟩ := h
      cases x
      cases o with
      | lst ha q z =>
        rename_i p vs
        have il := z.imm (B := Mt) hi
        obtain ⟨v, hv, ov⟩ := IL.get il hd
        have kp : ∀ R : AP, ¬ R p → Keep R H (upd H p (.lst (vs.eraseIdx i.toNat))) := fun R n => keep_upd q (fun _ z => by cases z) (fun _ _ z => by cases z) n
        refine ⟨p, vs, i, i.toNat, v, rfl, rfl, q, by omega, by omega, ?_, hv, k v _ A (fun R s _ => upd_keep q (fun _ z => by cases z) (fun _ _ z => by cases z) ha s) (upd_al al) cup_l upd_grow ?_ (ov.keep (kp _ fun t => t))⟩
        · exact PySem.seqIndex_of h0 (by rw [← z.length]; exact h1)
        · exact .lst ha upd_same (((IL.eraseIdx _ il).keep (kp _ fun t => t)).mono sub_mt)
def fPopA (e : D) (l : List D) : Option (D × D) := fPopAt e l
def fReverse (e : D) (l : List D) : Option (D × D) := match e, l with
  | .lst ds, [] => if immL ds = true then some (.non, .lst ds.reverse) else none
  | _, _ => none
theorem ms_reverse : MutS K C rReverse fReverse := fun H w ws e ds A B r' e' Q al o ol sp alB h k => by
  cases e <;> simp [fReverse] at h
  cases ol with
  | cons _ _ _ _ _ => simp at h
  | nil =>
    simp at h
    obtain ⟨hi, rfl, rfl⟩ := h
    cases o with
    | lst ha q z =>
      rename_i p vs
      have il := z.imm (B := Mt) hi
      have kp : ∀ R : AP, ¬ R p → Keep R H (upd H p (.lst vs.reverse)) := fun R n => keep_upd q (fun _ z => by cases z) (fun _ _ z => by cases z) n
      exact ⟨p, vs, rfl, rfl, q, k .non _ A (fun R s _ => upd_keep q (fun _ z => by cases z) (fun _ _ z => by cases z) ha s) (upd_al al) cup_l upd_grow (.lst ha upd_same (((IL.reverse il).keep (kp _ fun t => t)).mono sub_mt)) .non⟩
def fClear (e : D) (l : List D) : Option (D × D) := match e, l with
  | .lst ds, [] => some (.non, .lst [])
  | _, _ => none
theorem ms_clear : MutS K C rClear fClear := fun H w ws e ds A B r' e' Q al o ol sp alB h k => by
  cases e <;> simp [fClear] at h
  cases ol with
  | cons _ _ _ _ _ => simp at h
  | nil =>
    simp at h
    obtain ⟨rfl, rfl⟩ := h
    cases o with
    | lst ha q z =>
      rename_i p vs
      exact ⟨p, vs, rfl, rfl, q, k .non _ A (fun R s _ => upd_keep q (fun _ z => by cases z) (fun _ _ z => by cases z) ha s) (upd_al al) cup_l upd_grow (.lst ha upd_same .nil) .non⟩
/-! ### o[i] = e, o.f = e -/
def SetS (K : PySem.W.Frag) (C : Nat → Addr) (t : TSet) (f : D → D → D → Option D) : Prop :=
  ∀ H w j v e dj d A B e' (Q : Hp → Prop), Al H A → Own K C H e w A → Rb K C H dj j → Own K C H d v B → Sep A B → Al H B → f e dj d = some e' → Chg K C H w A B .non e' (fun _ H' => Q H') → t w j v H Q
def updP (i : Nat) (p : List Stp) (f : D → Option D) (s : SS) : Option SS := (modP i p (fun e => (f e).map fun x => ((), x)) s).map (·.2)
theorem updP_inv {i : Nat} {p : List Stp} {f : D → Option D} {s s' : SS} (h : updP i p f s = some s') : ∃ d e e', valAt i s = some d ∧ getP d p = some e ∧ f e = some e' ∧ setV i (setP d p e') s = some s' := by
  unfold updP at h
  cases q : modP i p (fun e => (f e).map fun x => ((), x)) s with
  | none => rw [q] at h; cases h
  | some x =>
    obtain ⟨u, s2⟩ := x
    rw [q] at h; cases h
    obtain ⟨d, e, e', h1, h2, h3, h4⟩ := modP_inv q
    cases h5 : f e with
    | none => rw [h5] at h3; cases h3
    | some y => rw [h5] at h3; cases h3; exact ⟨d, e, _, h1, h2, h5, h4⟩
def sItem (i : Nat) (PF : SS → Option (List Stp)) (J : SS → Option D) (f : D → D → D → Option D) (Fe : SS → R D) : SS → RS := fun s => (Fe s).thn fun d s1 => nxO ((PF s1).bind fun p => (J s1).bind fun j => updP i p (fun e => f e j d) s1)
theorem ss_item {i : Nat} {PF : SS → Option (List Stp)} {J : SS → Option D} {Fe : SS → R D} {te to ti : TE} {t : TSet} {f : D → D → D → Option D} (ht : SetS K C t f) (he : SimE K C W te Fe) (ho : SimLP K C to i PF) (hj : SimP K C ti J) :
    SimS K C W (tAsg te (gSub to ti t)) (sItem i PF J f Fe) := fun Φ Λ π ss σ H E rel p => by
  unfold sItem at p
  refine he Φ Λ π ss σ H _ rel ?_
  cases q : Fe ss with
  | stuck => rw [q] at p; exact p
  | exc x s => rw [q] at p; exact fun H' cls da => p σ H' cls da
  | ok d s1 =>
    rw [q] at p
    intro v H1 B1 k1 r1 sp1 o1
    simp only [R.thn] at p
    cases q1 : PF s1 with
    | none => rw [q1] at p; exact p.elim
    | some pp =>
      rw [q1] at p
      simp only [Option.bind] at p
      cases q2 : J s1 with
      | none => rw [q2] at p; exact p.elim
      | some j =>
        rw [q2] at p
        simp only at p
        cases q3 : updP i pp (fun e => f e j d) s1 with
        | none => rw [q3] at p; exact p.elim
        | some s2 =>
          rw [q3] at p
          obtain ⟨d0, e, e', h1, h2, h3, h4⟩ := updP_inv q3
          refine ho _ Λ π s1 σ H1 _ d0 pp e r1 h1 q1 h2 fun v0 w0 H2 e1 sm va => ?_
          refine hj _ Λ π s1 σ H2 _ j (r1.same sm) q2 fun jv H3 sm3 rb => ?_
          have sm13 := sm.trans sm3
          have r3 := r1.same sm13
          obtain ⟨s0, hs0, hm0⟩ := setV_slot h4
          obtain ⟨v', w, B, ev, va', ob, alB, sepB, fin⟩ := r3.place hs0 h1 hm0 h2 rel.psi sp1
          rw [e1] at ev; cases ev
          cases (va.same sm3).det va'
          refine ht H3 w0 jv v e j d B B1 e' _ alB ob rb (o1.same sm13) (sepB.mono (Sub.refl _) cup_r) (r3.al.mono cup_r) h3 fun u H' A' kp al' sb' grow o' _ => ?_
          exact p σ H' ((k1.trans (Keep.of sm13)).trans (kp Φ (sepB.mono (Sub.refl _) cup_l) (r3.al.mono cup_l))) (fin H' e' A' s2 kp al' sb' grow o' h4)
theorem OwnL.setI {d : D} {v : V} {B : AP} (o : Own K C H d v B) : ∀ {ds : List D} {vs : List V} {A : AP} (i : Nat), OwnL K C H ds vs A → Sep A B → OwnL K C H (ds.set i d) (vs.set i v) (Cup A B)
  | [], _, A, _, h, _ => by cases h; exact .nil
  | x :: ds, _, A, 0, h, s => by
    cases h with | cons a b c x y => exact .cons (A1 := B) (s.mono c (Sub.refl _)).symm cup_r (c.trans cup_l) o y
  | x :: ds, _, A, i + 1, h, s => by
    cases h with
    | cons a b c x y =>
      rename_i A1 A2 w ws
      exact .cons (A1 := A1) (A2 := Cup A2 B) (a.cup (s.mono b (Sub.refl _))) (b.trans cup_l) (cup_sub (c.trans cup_l) cup_r) x (OwnL.setI o i y (s.mono c (Sub.refl _)))
def fSetI (e j d : D) : Option D := match e, j with
  | .lst ds, .int i => (ixN ds.length i).map fun n => .lst (ds.set n d)
  | _, _ => none
theorem sts_list : SetS K C rSetL fSetI := fun H w j v e dj d A B e' Q al o rb ov sp alB h k => by
  cases e <;> cases dj <;> simp [fSetI] at h
  obtain ⟨n, hn, rfl⟩ := h
  rw [rb_int' rb]
  cases o with
  | lst ha q z =>
    rename_i i p vs
    have nB : ¬ B p := fun zz => sp p ha zz
    have kp : ∀ R : AP, ¬ R p → Keep R H (upd H p (.lst (vs.set n v))) := fun R n => keep_upd q (fun _ z => by cases z) (fun _ _ z => by cases z) n
    refine ⟨p, vs, _, n, rfl, rfl, q, by rw [← z.length]; exact hn, k .non _ (Cup A B) (fun R s _ => upd_keep q (fun _ z => by cases z) (fun _ _ z => by cases z) ha s) ((upd_al al).cup (upd_al alB)) (Sub.refl _) upd_grow ?_ .non⟩
    refine .lst (.inl ha) upd_same ((OwnL.setI (ov.keep (kp _ nB)) n (z.keep (kp _ fun t => t.2 rfl)) (fun t t1 t2 => sp t t1.1 t2)).mono fun t tt => ?_)
    rcases tt with tt | tt
    · exact ⟨.inl tt.1, tt.2⟩
    · exact ⟨.inr tt, fun e => nB (by rw [← e]; exact tt)⟩
/-! fields -/
def putN : List Str → List D → Str → D → List Str × List D
  | [], _, f, d => ([f], [d])
  | g :: ns, x :: ds, f, d => if g = f then (g :: ns, d :: ds) else (g :: (putN ns ds f d).1, x :: (putN ns ds f d).2)
  | g :: ns, [], f, d => (g :: ns, [])
def fPutF (f : Str) (e d : D) : Option D := match e with
  | .ob c ns ds => if ns.length < 900 ∧ c < 5 then some (.ob c (putN ns ds f d).1 (putN ns ds f d).2) else none
  | _ => none
theorem putN_own {d : D} {v : V} {B : AP} {f : Str} (o : Own K C H d v B) : ∀ {ns : List Str} {ds : List D} {vs : List V} {A : AP}, ns.length = ds.length → OwnL K C H ds vs A → Sep A B →
    ∃ ws, (putN ns ds f d).1.length = (putN ns ds f d).2.length ∧ putF f v (ns.zip vs) = (putN ns ds f d).1.zip ws ∧ OwnL K C H (putN ns ds f d).2 ws (Cup A B)
  | [], [], _, A, _, h, s => by
    cases h
    exact ⟨[v], rfl, rfl, .cons (A1 := B) (A2 := Mt) mt_sep cup_r sub_mt o .nil⟩
  | g :: ns, x :: ds, _, A, hl, h, s => by
    cases h with
    | cons a b c xx y =>
      rename_i A1 A2 w ws
      obtain ⟨us, h1, h2, h3⟩ := putN_own o (ns := ns) (by simpa using hl) y (s.mono c (Sub.refl _))
      unfold putN
      by_cases e : g = f
      · rw [if_pos e]
        refine ⟨v :: ws, by simpa using hl, ?_, .cons (A1 := B) (s.mono c (Sub.refl _)).symm cup_r (c.trans cup_l) o y⟩
        rw [List.zip_cons_cons, List.zip_cons_cons]
        show (if g = f then (g, v) :: ns.zip ws else (g, w) :: putF f v (ns.zip ws)) = (g, v) :: ns.zip ws
        rw [if_pos e]
      · rw [if_neg e]
        refine ⟨w :: us, by simp only [List.length_cons, h1], ?_, .cons (A1 := A1) (A2 := Cup A2 B) (a.cup (s.mono b (Sub.refl _))) (b.trans cup_l) (cup_sub (c.trans cup_l) cup_r) xx h3⟩
        rw [List.zip_cons_cons, List.zip_cons_cons]
        show (if g = f then (g, v) :: ns.zip ws else (g, w) :: putF f v (ns.zip ws)) = _
        rw [if_neg e, h2]
  | [], _ :: _, _, _, hl, _, _ => by cases hl
  | _ :: _, [], _, _, hl, _, _ => by cases hl
def sFldD (i : Nat) (PF : SS → Option (List Stp)) (f : Str) (Fe : SS → R D) : SS → RS := fun s => (Fe s).thn fun d s1 => nxO ((PF s1).bind fun p => updP i p (fun e => fPutF f e d) s1)
theorem ss_fld {i : Nat} {PF : SS → Option (List Stp)} {f : Str} {Fe : SS → R D} {te to : TE} (he : SimE K C W te Fe) (ho : SimLP K C to i PF) (hc : ∀ c, c < 5 → Cls K (C c)) (hn : ∀ c, c < 5 → NoAttr K (C c) f) : SimS K C W (sFld K to te f) (sFldD i PF f Fe) := fun Φ Λ π ss σ H E rel p => by
  unfold sFldD at p
  refine he Φ Λ π ss σ H _ rel ?_
  cases q : Fe ss with
  | stuck => rw [q] at p; exact p
  | exc x s => rw [q] at p; exact fun H' cls da => p σ H' cls da
  | ok d s1 =>
    rw [q] at p
    intro v H1 B1 k1 r1 sp1 o1
    simp only [R.thn] at p
    cases q1 : PF s1 with
    | none => rw [q1] at p; exact p.elim
    | some pp =>
      rw [q1] at p
      simp only [Option.bind] at p
      cases q3 : updP i pp (fun e => fPutF f e d) s1 with
      | none => rw [q3] at p; exact p.elim
      | some s2 =>
        rw [q3] at p
        obtain ⟨d0, e, e', h1, h2, h3, h4⟩ := updP_inv q3
        refine ho _ Λ π s1 σ H1 _ d0 pp e r1 h1 q1 h2 fun v0 w0 H2 e1 sm va => ?_
        have r3 := r1.same sm
        obtain ⟨s0, hs0, hm0⟩ := setV_slot h4
        obtain ⟨v', w, B, ev, va', ob, alB, sepB, fin⟩ := r3.place hs0 h1 hm0 h2 rel.psi sp1
        rw [e1] at ev; cases ev
        cases va.det va'
        cases e <;> simp [fPutF] at h3
        obtain ⟨⟨hl, hc5⟩, rfl⟩ := h3
        cases ob with
        | ob ha l q z =>
          rename_i c ns ds a dx vs
          have sAB : Sep B B1 := sepB.mono (Sub.refl _) cup_r
          have nB : ¬ B1 a := fun zz => sAB a ha zz
          obtain ⟨ws, g1, g2, g3⟩ := putN_own (f := f) (o1.same sm) l z (fun t t1 t2 => sAB t t1.1 t2)
          refine ⟨a, _, dx, _, rfl, q, hc c hc5, hn c hc5, ?_, ?_⟩
          · rw [List.length_zip]; omega
          have kp : ∀ R : AP, ¬ R a → Keep R H2 (upd H2 a (.ins (C c) dx (putF f v (ns.zip vs)))) := fun R n => keep_upd q (fun _ z => by cases z) (fun _ _ z => by cases z) n
          have o' : Own K C (upd H2 a (.ins (C c) dx (putF f v (ns.zip vs)))) (.ob c (putN ns ds f d).1 (putN ns ds f d).2) (.ref a) (Cup B B1) := by
            refine .ob (vs := ws) (.inl ha) g1 (by rw [← g2]; exact upd_same) ((g3.keep (kp _ fun t => ?_)).mono fun t tt => ?_)
            · rcases t with t | t
              · exact t.2 rfl
              · exact nB t
            · rcases tt with tt | tt
              · exact ⟨.inl tt.1, tt.2⟩
              · exact ⟨.inr tt, fun e => nB (by rw [← e]; exact tt)⟩
          exact p σ _ ((k1.trans (Keep.of sm)).trans (kp Φ fun zz => sepB a ha (.inl zz))) (fin _ _ (Cup B B1) s2 (fun R s _ => upd_keep q (fun _ z => by cases z) (fun _ _ z => by cases z) ha s) ((upd_al alB).cup (upd_al (r3.al.mono cup_r))) (Sub.refl _) upd_grow o' h4)
end
end Dy

/-! Calls of own defs: arguments lent, or changed in place. -/
namespace Dy
open PySem L2
inductive Ar where
  | inn (i : Nat) (p : List Stp) | len (i : Nat) (p : List Stp) | val (d : D)
def valO (i : Nat) (s : SS) : Option D := match s[i]? with
  | some (.own d) => some d
  | some (.inn d) => some d
  | _ => none
def mkc : List Ar → SS → Option SS
  | [], _ => some []
  | .inn i p :: as, s => (valO i s).bind fun d => (getP d p).bind fun e => (mkc as s).map fun r => .inn e :: r
  | .len i p :: as, s => (valAt i s).bind fun d => (getP d p).bind fun e => (mkc as s).map fun r => .bor e :: r
  | .val d :: as, s => (mkc as s).map fun r => .bor d :: r
def arN : List Ar → List Nat
  | [] => []
  | .inn i _ :: as => i :: arN as
  | _ :: as => arN as
def arL : List Ar → List Nat
  | [] => []
  | .len i _ :: as => i :: arL as
  | _ :: as => arL as
def okAr : List Ar → Bool
  | [] => true
  | .inn i _ :: as => !(arN as).contains i && okAr as
  | _ :: as => okAr as
def okLe (as : List Ar) : Bool := (arL as).all fun i => !(arN as).contains i
def bk : List Ar → SS → SS → Option SS
  | [], _, s => some s
  | .inn i p :: as, .inn e :: cs, s => (valO i s).bind fun d => (setV i (setP d p e) s).bind (bk as cs)
  | .len _ _ :: as, _ :: cs, s => bk as cs s
  | .val _ :: as, _ :: cs, s => bk as cs s
  | _, _, _ => none
section
variable (K : PySem.W.Frag) (C : Nat → Addr)
inductive ArL (H : Hp) (σ : L2.St) : List Ar → List V → AP → Prop
  | nil {B : AP} : ArL H σ [] [] B
  | inn {i : Nat} {p : List Stp} {v v0 : V} {as : List Ar} {vs : List V} {B : AP} : σ[i]? = some (some v0) → VAt H v0 p v → ArL H σ as vs B → ArL H σ (.inn i p :: as) (v :: vs) B
  | len {i : Nat} {p : List Stp} {v v0 : V} {as : List Ar} {vs : List V} {B : AP} : σ[i]? = some (some v0) → VAt H v0 p v → ArL H σ as vs B → ArL H σ (.len i p :: as) (v :: vs) B
  | val {d : D} {v : V} {as : List Ar} {vs : List V} {B : AP} : Own K C H d v B → ArL H σ as vs B → ArL H σ (.val d :: as) (v :: vs) B
end
section
variable {K : PySem.W.Frag} {C : Nat → Addr} {W : WX} {Φ : AP} {Λ : Nat → AP} {π : Nat → Option V} {ss : SS} {σ : L2.St} {H H' : Hp}
def ArOne (K : PySem.W.Frag) (C : Nat → Addr) (H : Hp) (σ : L2.St) (B : AP) (v : V) : Ar → Prop
  | .inn i p => ∃ v0, σ[i]? = some (some v0) ∧ VAt H v0 p v
  | .len i p => ∃ v0, σ[i]? = some (some v0) ∧ VAt H v0 p v
  | .val d => Own K C H d v B
theorem ArL.get : ∀ {as : List Ar} {vs : List V} {B : AP} {j : Nat} {x : Ar}, ArL K C H σ as vs B → as[j]? = some x → ∃ v, vs[j]? = some v ∧ ArOne K C H σ B v x
  | [], _, _, _, _, _, e => by simp at e
  | a :: as, vs, B, 0, x, h, e => by
    simp at e; subst e
    cases h with
    | inn h1 h2 h3 => exact ⟨_, rfl, _, h1, h2⟩
    | len h1 h2 h3 => exact ⟨_, rfl, _, h1, h2⟩
    | val h1 h3 => exact ⟨_, rfl, h1⟩
  | a :: as, vs, B, j + 1, x, h, e => by
    have e' : as[j]? = some x := by simpa using e
    cases h with
    | inn h1 h2 h3 => obtain ⟨v, g1, g2⟩ := h3.get e'; exact ⟨v, by simpa using g1, g2⟩
    | len h1 h2 h3 => obtain ⟨v, g1, g2⟩ := h3.get e'; exact ⟨v, by simpa using g1, g2⟩
    | val h1 h3 => obtain ⟨v, g1, g2⟩ := h3.get e'; exact ⟨v, by simpa using g1, g2⟩
theorem ArL.length : ∀ {as : List Ar} {vs : List V} {B : AP}, ArL K C H σ as vs B → as.length = vs.length
  | [], _, _, h => by cases h; rfl
  | a :: as, vs, B, h => by
    cases h with
    | inn h1 h2 h3 => simp [h3.length]
    | len h1 h2 h3 => simp [h3.length]
    | val h1 h3 => simp [h3.length]
theorem mkc_len : ∀ {as : List Ar} {s cs : SS}, mkc as s = some cs → cs.length = as.length
  | [], s, cs, h => by cases h; rfl
  | .inn i p :: as, s, cs, h => by
    unfold mkc at h
    simp only [Option.bind_eq_some_iff, Option.map_eq_some_iff] at h
    obtain ⟨d, _, e, _, r, h, rfl⟩ := h
    simp [mkc_len h]
  | .len i p :: as, s, cs, h => by
    unfold mkc at h
    simp only [Option.bind_eq_some_iff, Option.map_eq_some_iff] at h
    obtain ⟨d, _, e, _, r, h, rfl⟩ := h
    simp [mkc_len h]
  | .val d :: as, s, cs, h => by
    unfold mkc at h
    simp only [Option.map_eq_some_iff] at h
    obtain ⟨r, h, rfl⟩ := h
    simp [mkc_len h]
def MkOne (s : SS) (c : Sl) : Ar → Prop
  | .inn i p => ∃ d e, valO i s = some d ∧ getP d p = some e ∧ c = .inn e
  | .len i p => ∃ d e, valAt i s = some d ∧ getP d p = some e ∧ c = .bor e
  | .val d => c = .bor d
theorem mkc_get : ∀ {as : List Ar} {s cs : SS} {j : Nat} {x : Ar}, mkc as s = some cs → as[j]? = some x → ∃ c, cs[j]? = some c ∧ MkOne s c x
  | [], _, _, _, _, _, e => by simp at e
  | .inn i p :: as, s, cs, j, x, h, g => by
    unfold mkc at h
    simp only [Option.bind_eq_some_iff, Option.map_eq_some_iff] at h
    obtain ⟨d, h1, e, h2, r, h, rfl⟩ := h
    cases j with
    | zero => simp at g; subst g; exact ⟨_, rfl, d, e, h1, h2, rfl⟩
    | succ j => obtain ⟨c, g1, g2⟩ := mkc_get h (show as[j]? = some x by simpa using g); exact ⟨c, by simpa using g1, g2⟩
  | .len i p :: as, s, cs, j, x, h, g => by
    unfold mkc at h
    simp only [Option.bind_eq_some_iff, Option.map_eq_some_iff] at h
    obtain ⟨d, h1, e, h2, r, h, rfl⟩ := h
    cases j with
    | zero => simp at g; subst g; exact ⟨_, rfl, d, e, h1, h2, rfl⟩
    | succ j => obtain ⟨c, g1, g2⟩ := mkc_get h (show as[j]? = some x by simpa using g); exact ⟨c, by simpa using g1, g2⟩
  | .val d :: as, s, cs, j, x, h, g => by
    unfold mkc at h
    simp only [Option.map_eq_some_iff] at h
    obtain ⟨r, h, rfl⟩ := h
    cases j with
    | zero => simp at g; subst g; exact ⟨_, rfl, rfl⟩
    | succ j => obtain ⟨c, g1, g2⟩ := mkc_get h (show as[j]? = some x by simpa using g); exact ⟨c, by simpa using g1, g2⟩
theorem arN_mem : ∀ {as : List Ar} {j i : Nat} {p : List Stp}, as[j]? = some (.inn i p) → i ∈ arN as
  | [], _, _, _, e => by simp at e
  | a :: as, 0, i, p, e => by simp at e; subst e; simp [arN]
  | a :: as, j + 1, i, p, e => by
    have := arN_mem (show as[j]? = some (.inn i p) by simpa using e)
    cases a <;> simp [arN, this]
theorem arL_mem : ∀ {as : List Ar} {j i : Nat} {p : List Stp}, as[j]? = some (.len i p) → i ∈ arL as
  | [], _, _, _, e => by simp at e
  | a :: as, 0, i, p, e => by simp at e; subst e; simp [arL]
  | a :: as, j + 1, i, p, e => by
    have := arL_mem (show as[j]? = some (.len i p) by simpa using e)
    cases a <;> simp [arL, this]
theorem mem_arN : ∀ {as : List Ar} {i : Nat}, i ∈ arN as → ∃ (j : Nat) (p : List Stp), as[j]? = some (.inn i p)
  | [], _, h => by simp [arN] at h
  | .inn k p :: as, i, h => by
    simp [arN] at h
    rcases h with rfl | h
    · exact ⟨0, p, rfl⟩
    · obtain ⟨j, q, e⟩ := mem_arN h; exact ⟨j + 1, q, by simpa using e⟩
  | .len k p :: as, i, h => by
    simp [arN] at h
    obtain ⟨j, q, e⟩ := mem_arN h; exact ⟨j + 1, q, by simpa using e⟩
  | .val d :: as, i, h => by
    simp [arN] at h
    obtain ⟨j, q, e⟩ := mem_arN h; exact ⟨j + 1, q, by simpa using e⟩
theorem okAr_ne : ∀ {as : List Ar} {j k i i' : Nat} {p q : List Stp}, okAr as = true → as[j]? = some (.inn i p) → as[k]? = some (.inn i' q) → j ≠ k → i ≠ i'
  | [], _, _, _, _, _, _, _, e, _, _ => by simp at e
  | a :: as, 0, 0, _, _, _, _, _, _, _, n => (n rfl).elim
  | a :: as, 0, k + 1, i, i', p, q, h, e1, e2, n => by
    simp at e1; subst e1
    simp [okAr] at h
    have := arN_mem (show as[k]? = some (.inn i' q) by simpa using e2)
    exact fun z => h.1 (by rw [z]; exact this)
  | a :: as, j + 1, 0, i, i', p, q, h, e1, e2, n => by
    simp at e2; subst e2
    simp [okAr] at h
    have := arN_mem (show as[j]? = some (.inn i p) by simpa using e1)
    exact fun z => h.1 (by rw [← z]; exact this)
  | a :: as, j + 1, k + 1, i, i', p, q, h, e1, e2, n => by
    have h' : okAr as = true := by cases a <;> simp [okAr] at h <;> first | exact h.2 | exact h
    exact okAr_ne h' (by simpa using e1) (by simpa using e2) (fun z => n (by rw [z]))
theorem okLe_ne {as : List Ar} {j k i i' : Nat} {p q : List Stp} (h : okLe as = true) (e1 : as[j]? = some (.len i p)) (e2 : as[k]? = some (.inn i' q)) : i ≠ i' := fun z => by
  unfold okLe at h
  rw [List.all_eq_true] at h
  have h1 := h i (arL_mem e1)
  have h2 := arN_mem e2
  rw [← z] at h2
  simp at h1
  exact h1 h2
theorem valO_inv {i : Nat} {s : SS} {d : D} (h : valO i s = some d) : s[i]? = some (.own d) ∨ s[i]? = some (.inn d) := by
  unfold valO at h
  split at h
  · cases h; rename_i e; exact .inl e
  · cases h; rename_i e; exact .inr e
  · cases h
/-- as RelA, but for the slots Z -/
structure RelW (K : PySem.W.Frag) (C : Nat → Addr) (Φ : AP) (Λ : Nat → AP) (π : Nat → Option V) (Z : List Nat) (ss : SS) (σ : L2.St) (H : Hp) (As : Nat → AP) : Prop where
  al : Al H Φ
  sub : ∀ i, Sub (Λ i) Φ
  len : σ.length = ss.length
  pin : ∀ i v, π i = some v → σ[i]? = some (some v) ∧ ∃ d, ss[i]? = some (.inn d)
  aa : ∀ i, Al H (As i)
  af : ∀ i, Sep (As i) Φ
  ap : ∀ i j, i ≠ j → Sep (As i) (As j)
  ok : ∀ i s o, i ∉ Z → ss[i]? = some s → σ[i]? = some o → SlOk K C H (Λ i) (As i) s o
theorem RelW.set {Z : List Nat} {i : Nat} {As : Nat → AP} {v0 : V} {d' : D} {T : AP} {s' : SS} (w : RelW K C Φ Λ π (i :: Z) ss σ H As) (hs : setV i d' ss = some s') (e : σ[i]? = some (some v0)) (o : Own K C H d' v0 T) (al : Al H T) (sf : Sep T Φ) (sp : ∀ k, k ≠ i → Sep T (As k)) :
    RelW K C Φ Λ π Z s' σ H (fun k => if k = i then T else As k) := by
  have key : ∀ s0 s1 : Sl, ss[i]? = some s0 → SlOk K C H (Λ i) T s1 (some v0) → ((∃ x, s0 = .inn x) → ∃ y, s1 = .inn y) → RelW K C Φ Λ π Z (ss.set i s1) σ H (fun k => if k = i then T else As k) := fun s0 s1 h0 h1 hn => by
    have hi : i < ss.length := (List.getElem?_eq_some_iff.mp h0).1
    refine ⟨w.al, w.sub, by rw [List.length_set]; exact w.len, fun j u hj => ?_, fun j => ?_, fun j => ?_, fun j k hjk => ?_, fun j t u hz h2 h3 => ?_⟩
    · obtain ⟨h1, x, h2⟩ := w.pin j u hj
      by_cases nj : i = j
      · subst nj
        rw [h0] at h2
        obtain ⟨y, ey⟩ := hn ⟨x, Option.some.inj h2⟩
        exact ⟨h1, y, by rw [List.getElem?_set_self hi, ey]⟩
      · exact ⟨h1, x, by rw [List.getElem?_set_ne nj]; exact h2⟩
    · show Al H (if j = i then T else As j)
      split
      · exact al
      · exact w.aa j
    · show Sep (if j = i then T else As j) Φ
      split
      · exact sf
      · exact w.af j
    · show Sep (if j = i then T else As j) (if k = i then T else As k)
      by_cases hj : j = i
      · rw [if_pos hj, if_neg (fun z => hjk (hj.trans z.symm))]
        exact sp k fun z => hjk (hj.trans z.symm)
      · rw [if_neg hj]
        by_cases hk : k = i
        · rw [if_pos hk]; exact (sp j hj).symm
        · rw [if_neg hk]; exact w.ap j k hjk
    · by_cases nj : i = j
      · subst nj
        rw [List.getElem?_set_self hi] at h2
        cases h2
        rw [e] at h3; cases h3
        show SlOk K C H (Λ i) (if i = i then T else As i) s1 _
        rw [if_pos rfl]
        exact h1
      · rw [List.getElem?_set_ne nj] at h2
        show SlOk K C H (Λ j) (if j = i then T else As j) t u
        rw [if_neg (fun z => nj z.symm)]
        exact w.ok j t u (by simp only [List.mem_cons, not_or]; exact ⟨fun z => nj z.symm, hz⟩) h2 h3
  rcases setV_inv hs with ⟨d0, e0, rfl⟩ | ⟨d0, e0, rfl⟩
  · exact key _ _ e0 ⟨v0, rfl, o⟩ fun ⟨x, z⟩ => by cases z
  · exact key _ _ e0 ⟨v0, rfl, o⟩ fun _ => ⟨_, rfl⟩
theorem valO_set {i k : Nat} {d : D} {s s' : SS} (h : setV i d s = some s') (n : k ≠ i) : valO k s' = valO k s := by
  have q : s'[k]? = s[k]? := by
    rcases setV_inv h with ⟨d0, e0, rfl⟩ | ⟨d0, e0, rfl⟩
    · rw [List.getElem?_set_ne fun z => n z.symm]
    · rw [List.getElem?_set_ne fun z => n z.symm]
  unfold valO
  rw [q]
theorem bk_rel : ∀ {as : List Ar} {cs s s2 : SS} {As T : Nat → AP}, RelW K C Φ Λ π (arN as) s σ H As → bk as cs s = some s2 → okAr as = true →
    (∀ j i p, as[j]? = some (.inn i p) → ∃ d v0, valO i s = some d ∧ σ[i]? = some (some v0) ∧ (∀ e', cs[j]? = some (.inn e') → Own K C H (setP d p e') v0 (T j)) ∧ Al H (T j) ∧ Sep (T j) Φ ∧ (∀ k, k ≠ i → Sep (T j) (As k))) →
    (∀ j j' i i' p p', as[j]? = some (.inn i p) → as[j']? = some (.inn i' p') → j ≠ j' → Sep (T j) (T j')) → Rel K C Φ Λ π s2 σ H
  | [], cs, s, s2, As, T, w, hb, _, _, _ => by
    cases hb
    exact ⟨As, w.al, w.sub, w.len, w.pin, w.aa, w.af, w.ap, fun i s o => w.ok i s o (by simp [arN])⟩
  | .inn i p :: as, [], s, s2, As, T, w, hb, _, _, _ => by unfold bk at hb; cases hb
  | .inn i p :: as, c :: cs, s, s2, As, T, w, hb, ho, hj, hT => by
    cases c with
    | no => unfold bk at hb; cases hb
    | own d => unfold bk at hb; cases hb
    | bor d => unfold bk at hb; cases hb
    | inn e =>
    simp only [bk, Option.bind_eq_some_iff] at hb
    obtain ⟨d, h1, s1, h2, h3⟩ := hb
    simp [okAr] at ho
    obtain ⟨d', v0, g1, g2, g3, g4, g5, g6⟩ := hj 0 i p rfl
    rw [h1] at g1; cases g1
    have w1 := w.set (Z := arN as) h2 g2 (g3 e rfl) g4 g5 g6
    refine bk_rel (as := as) (cs := cs) (s := s1) (As := fun k => if k = i then T 0 else As k) (T := fun j => T (j + 1)) w1 h3 ho.2 (fun j i' p' q => ?_) fun j j' i1 i2 p1 p2 q1 q2 n => hT (j + 1) (j' + 1) i1 i2 p1 p2 (by simpa using q1) (by simpa using q2) (by omega)
    obtain ⟨d2, v2, k1, k2, k3, k4, k5, k6⟩ := hj (j + 1) i' p' (by simpa using q)
    have ni : i' ≠ i := fun z => ho.1 (by rw [← z]; exact arN_mem q)
    refine ⟨d2, v2, by rw [valO_set h2 ni]; exact k1, k2, fun e' he => k3 e' (by simpa using he), k4, k5, fun k nk => ?_⟩
    show Sep (T (j + 1)) (if k = i then T 0 else As k)
    split
    · exact hT (j + 1) 0 i' i p' p (by simpa using q) rfl (by omega)
    · exact k6 k nk
  | .len i p :: as, [], s, s2, As, T, w, hb, _, _, _ => by simp [bk] at hb
  | .len i p :: as, c :: cs, s, s2, As, T, w, hb, ho, hj, hT => by
    simp [bk] at hb
    exact bk_rel (as := as) (cs := cs) (s := s) (As := As) (T := fun j => T (j + 1)) w hb (by simpa [okAr] using ho) (fun j i' p' q => by simpa using hj (j + 1) i' p' (by simpa using q)) fun j j' i1 i2 p1 p2 q1 q2 n => hT (j + 1) (j' + 1) i1 i2 p1 p2 (by simpa using q1) (by simpa using q2) (by omega)
  | .val d :: as, [], s, s2, As, T, w, hb, _, _, _ => by simp [bk] at hb
  | .val d :: as, c :: cs, s, s2, As, T, w, hb, ho, hj, hT => by
    simp [bk] at hb
    exact bk_rel (as := as) (cs := cs) (s := s) (As := As) (T := fun j => T (j + 1)) w hb (by simpa [okAr] using ho) (fun j i' p' q => by simpa using hj (j + 1) i' p' (by simpa using q)) fun j j' i1 i2 p1 p2 q1 q2 n => hT (j + 1) (j' + 1) i1 i2 p1 p2 (by simpa using q1) (by simpa using q2) (by omega)
def isInn : Ar → Bool
  | .inn _ _ => true
  | _ => false
/-- THE CALL: what the callee starts from, and what comes of it behind -/
theorem call_rel {B : AP} {as : List Ar} {vs : List V} {cs : SS} {N : List Str} {m : Nat} (rel : Rel K C (Cup Φ B) Λ π ss σ H) (spB : Sep B Φ) (psi : ∀ i, Sub (Λ i) Φ) (ar : ArL K C H σ as vs B) (hm : mkc as ss = some cs) (ho : okAr as = true) (hl : okLe as = true) (hN : N.length - vs.length = m) :
    ∃ (Φc : AP) (Λc : Nat → AP) (πc : Nat → Option V), Rel K C Φc Λc πc (cs ++ List.replicate m .no) (L2.start N vs) H ∧ (arN as = [] → ∀ x, H x ≠ none → Φc x) ∧
      ∀ H' B' s' σ' s2, Keep Φc H H' → Rel K C (Cup Φc B') Λc πc s' σ' H' → Sep B' Φc → bk as s' ss = some s2 → Keep Φ H H' ∧ Rel K C (Cup Φ B') Λ π s2 σ H' ∧ Sep B' Φ := by
  obtain ⟨As, a⟩ := rel
  have hlv := ar.length
  have hlc := mkc_len hm
  -- the lenses
  have hex : ∀ j : Nat, ∃ z : AP × AP, (∀ i p, as[j]? = some (.inn i p) → ∃ d e v0 w, valO i ss = some d ∧ getP d p = some e ∧ σ[i]? = some (some v0) ∧ vs[j]? = some w ∧ Own K C H e w z.1 ∧ Sub z.1 (As i) ∧ Sub z.2 (As i) ∧ Sep z.1 z.2 ∧
      ∀ H' e' B', Keep z.2 H H' → Own K C H' e' w B' → Sep B' z.2 → Own K C H' (setP d p e') v0 (Cup z.2 B')) ∧ ((∀ i p, as[j]? ≠ some (Ar.inn i p)) → z = (Mt, Mt)) := fun j => by
    by_cases hi : ∃ i p, as[j]? = some (.inn i p)
    · obtain ⟨i, p, e0⟩ := hi
      obtain ⟨w, hw, v0, hv0, va⟩ := ar.get e0
      obtain ⟨c, hc, d, e, h1, h2, rfl⟩ := mkc_get hm e0
      have ow : Own K C H d v0 (As i) := by
        rcases valO_inv h1 with q | q
        · obtain ⟨x, ex, ow⟩ := a.ok i _ _ q hv0; cases ex; exact ow
        · obtain ⟨x, ex, ow⟩ := a.ok i _ _ q hv0; cases ex; exact ow
      obtain ⟨w', B1, S1, va', o1, b1, c1, d1, f1⟩ := lens ow h2
      cases va.det va'
      refine ⟨(B1, S1), fun i' p' q => ?_, fun n => (n i p e0).elim⟩
      rw [e0] at q; cases q
      exact ⟨d, e, v0, w, h1, h2, hv0, hw, o1, b1, c1, d1, f1⟩
    · exact ⟨(Mt, Mt), fun i p q => (hi ⟨i, p, q⟩).elim, fun _ => rfl⟩
  obtain ⟨g, hg⟩ := Classical.axiomOfChoice hex
  have notI : ∀ {j : Nat}, (∀ i p, as[j]? ≠ some (Ar.inn i p)) → g j = (Mt, Mt) := fun n => (hg _).2 n
  have gB : ∀ j, (∃ i p, as[j]? = some (.inn i p) ∧ Sub (g j).1 (As i)) ∨ (g j).1 = Mt := fun j => by
    by_cases hi : ∃ i p, as[j]? = some (.inn i p)
    · obtain ⟨i, p, e0⟩ := hi
      obtain ⟨_, _, _, _, _, _, _, _, _, b, _⟩ := (hg j).1 i p e0
      exact .inl ⟨i, p, e0, b⟩
    · exact .inr (by rw [notI fun i p q => hi ⟨i, p, q⟩])
  obtain ⟨Φc, hΦc⟩ : ∃ Φc : AP, Φc = fun x => H x ≠ none ∧ ∀ j, ¬ (g j).1 x := ⟨_, rfl⟩
  have inC : ∀ R : AP, Al H R → (∀ j i p, as[j]? = some (.inn i p) → Sep (g j).1 R) → Sub R Φc := fun R al sp => by
    rw [hΦc]
    intro x hx
    refine ⟨al x hx, fun j hj => ?_⟩
    rcases gB j with ⟨i, p, e0, _⟩ | e
    · exact sp j i p e0 x hj hx
    · rw [e] at hj; exact hj
  have sΦB : Sub (Cup Φ B) Φc := inC _ a.al fun j i p e0 => by
    obtain ⟨_, _, _, _, _, _, _, _, _, b, _⟩ := (hg j).1 i p e0
    exact (a.af i).mono b (Sub.refl _)
  have sΦ : Sub Φ Φc := cup_l.trans sΦB
  have sAs : ∀ k, (∀ j p, as[j]? ≠ some (Ar.inn k p)) → Sub (As k) Φc := fun k n => inC _ (a.aa k) fun j i p e0 => by
    obtain ⟨_, _, _, _, _, _, _, _, _, b, _⟩ := (hg j).1 i p e0
    have ni : i ≠ k := fun z => by subst z; exact n j p e0
    exact (a.ap i k ni).mono b (Sub.refl _)
  refine ⟨Φc, fun _ => Φc, fun j => match as[j]? with | some (Ar.inn _ _) => vs[j]? | _ => none, ⟨fun j => (g j).1, ?_⟩, fun hn => ?_, ?_⟩
  · refine ⟨fun x hx => by rw [hΦc] at hx; exact hx.1, fun _ => Sub.refl _, ?_, fun j v hj => ?_, fun j => ?_, fun j => ?_, fun j k n => ?_, fun j s o h1 h2 => ?_⟩
    · unfold L2.start
      rw [List.length_append, List.length_append, List.length_map, List.length_replicate, List.length_replicate, hN, hlc, hlv]
    · have : ∃ i p, as[j]? = some (.inn i p) := by
        cases q : as[j]? with
        | none => rw [q] at hj; cases hj
        | some x =>
          rw [q] at hj
          cases x with
          | inn i p => exact ⟨i, p, rfl⟩
          | len i p => cases hj
          | val d => cases hj
      obtain ⟨i, p, e0⟩ := this
      rw [e0] at hj
      replace hj : vs[j]? = some v := hj
      obtain ⟨c, hc, d, e, _, _, rfl⟩ := mkc_get hm e0
      have hjv : j < vs.length := (List.getElem?_eq_some_iff.mp hj).1
      refine ⟨?_, e, ?_⟩
      · unfold L2.start
        rw [List.getElem?_append_left (by rw [List.length_map]; exact hjv), List.getElem?_map, hj]; rfl
      · rw [List.getElem?_append_left (by rw [hlc, hlv]; exact hjv)]; exact hc
    · rcases gB j with ⟨i, p, e0, b⟩ | e
      · exact (a.aa i).mono b
      · show Al H (g j).1
        rw [e]; exact al_mt
    · intro x hx hc
      rw [hΦc] at hc
      exact hc.2 j hx
    · rcases gB j with ⟨i, p, e0, b⟩ | e
      · rcases gB k with ⟨i', p', e0', b'⟩ | e'
        · exact (a.ap i i' (okAr_ne ho e0 e0' n)).mono b b'
        · show Sep (g j).1 (g k).1
          rw [e']; exact mt_sep
      · show Sep (g j).1 (g k).1
        rw [e]; exact sep_mt
    · by_cases hj : j < as.length
      · rw [List.getElem?_append_left (by rw [hlc]; exact hj)] at h1
        unfold L2.start at h2
        rw [List.getElem?_append_left (by rw [List.length_map, ← hlv]; exact hj), List.getElem?_map] at h2
        obtain ⟨c, hc, mo⟩ := mkc_get hm (List.getElem?_eq_getElem hj)
        obtain ⟨v, hv, ao⟩ := ar.get (List.getElem?_eq_getElem hj)
        rw [hc] at h1; cases h1
        rw [hv] at h2; cases h2
        have ej : as[j]? = some as[j] := List.getElem?_eq_getElem hj
        generalize as[j] = x at mo ao ej
        cases x with
        | inn i p =>
          obtain ⟨d, e, h1, h2, rfl⟩ := mo
          obtain ⟨d', e', v0, w, q1, q2, q3, q4, q5, _⟩ := (hg j).1 i p ej
          rw [h1] at q1; cases q1
          rw [h2] at q2; cases q2
          rw [hv] at q4; cases q4
          exact ⟨v, rfl, q5⟩
        | len i p =>
          obtain ⟨d, e, h1, h2, rfl⟩ := mo
          obtain ⟨v0, hv0, va⟩ := ao
          unfold valAt at h1
          cases qs : ss[i]? with
          | none => rw [qs] at h1; cases h1
          | some s1 =>
            rw [qs] at h1
            have nin : ∀ j p, as[j]? ≠ some (Ar.inn i p) := fun k q z => okLe_ne hl ej z rfl
            have q := a.ok i _ _ qs hv0
            have ow : Own K C H d v0 Φc := by
              cases s1 with
              | no => cases h1
              | own x => cases h1; obtain ⟨_, z, w⟩ := q; cases z; exact w.mono (sAs i nin)
              | inn x => cases h1; obtain ⟨_, z, w⟩ := q; cases z; exact w.mono (sAs i nin)
              | bor x => cases h1; obtain ⟨_, z, w⟩ := q; cases z; exact w.mono ((psi i).trans sΦ)
            obtain ⟨w', B1, S1, va', o1, b1, _⟩ := lens ow h2
            cases va.det va'
            exact ⟨v, rfl, o1.mono b1⟩
        | val d =>
          obtain rfl := mo
          exact ⟨v, rfl, ao.mono (cup_r.trans sΦB)⟩
      · rw [List.getElem?_append_right (by rw [hlc]; omega)] at h1
        rw [List.getElem?_replicate] at h1
        split at h1
        · cases h1; trivial
        · cases h1
  · rw [hΦc]
    refine fun x hx => ⟨hx, fun j hj => ?_⟩
    rw [notI fun i p q => by have := arN_mem q; rw [hn] at this; cases this] at hj
    exact hj
  · intro H' B' s' σ' s2 kp rel' spB' hb
    obtain ⟨As', a'⟩ := rel'
    refine ⟨kp.mono sΦ, ?_, spB'.mono (Sub.refl _) sΦ⟩
    have inn' : ∀ {j i : Nat} {p : List Stp}, as[j]? = some (.inn i p) → ∃ w, vs[j]? = some w ∧ ∀ e', s'[j]? = some (.inn e') → Own K C H' e' w (As' j) := fun {j i p} e0 => by
      obtain ⟨w, hw, _⟩ := ar.get e0
      refine ⟨w, hw, fun e' he => ?_⟩
      obtain ⟨h1, _⟩ := a'.pin j w (by simp only [e0]; exact hw)
      obtain ⟨x, z, ow⟩ := a'.ok j _ _ he h1
      cases z
      exact ow
    have sepA : ∀ j, Sep (As' j) Φc := fun j => (a'.af j).mono (Sub.refl _) cup_l
    have alΦ : Al H' Φc := a'.al.mono cup_l
    have keyS : ∀ {j i : Nat} {p : List Stp}, as[j]? = some (.inn i p) → Sub (g j).2 (As i) ∧ Sub (g j).2 Φc := fun {j i p} e0 => by
      obtain ⟨_, _, _, _, _, _, _, _, _, b, c, dd, _⟩ := (hg j).1 i p e0
      refine ⟨c, inC _ ((a.aa i).mono c) fun j' i' p' e0' => ?_⟩
      by_cases n : j' = j
      · subst n
        rw [e0] at e0'; cases e0'
        exact dd
      · obtain ⟨_, _, _, _, _, _, _, _, _, b', _⟩ := (hg j').1 i' p' e0'
        exact (a.ap i' i (okAr_ne ho e0' e0 n)).mono b' c
    refine bk_rel (As := fun k => fun x => As k x ∧ k ∉ arN as) (T := fun j => Cup (g j).2 (As' j)) (as := as) (cs := s') (s := ss) ⟨?_, ?_, a.len, a.pin, ?_, ?_, ?_, ?_⟩ hb ho ?_ ?_
    · exact (alΦ.mono sΦ).cup (a'.al.mono cup_r)
    · exact fun i => (psi i).trans cup_l
    · intro k x hx
      refine (alΦ.mono (sAs k fun j p e0 => hx.2 (arN_mem e0))) x hx.1
    · intro k x hx hc
      rcases hc with hc | hc
      · exact a.af k x hx.1 (.inl hc)
      · exact spB' x hc (sAs k (fun j p e0 => hx.2 (arN_mem e0)) x hx.1)
    · exact fun i j n x hx hy => a.ap i j n x hx.1 hy.1
    · intro k s o nk h1 h2
      have nin : ∀ j p, as[j]? ≠ some (Ar.inn k p) := fun j p z => nk (arN_mem z)
      have q := (a.ok k s o h1 h2).keep (kp.mono (sAs k nin)) ((kp.mono sΦ).mono (psi k))
      have e : (fun x => As k x ∧ k ∉ arN as) = As k := funext fun x => propext ⟨fun z => z.1, fun z => ⟨z, nk⟩⟩
      show SlOk K C H' (Λ k) (fun x => As k x ∧ k ∉ arN as) s o
      rw [e]; exact q
    · intro j i p e0
      obtain ⟨d, e, v0, w, q1, q2, q3, q4, q5, q6, q7, q8, q9⟩ := (hg j).1 i p e0
      obtain ⟨s1, s2⟩ := keyS e0
      obtain ⟨w', hw', ow⟩ := inn' e0
      rw [q4] at hw'; cases hw'
      refine ⟨d, v0, q1, q3, fun e' he => q9 H' e' (As' j) (kp.mono s2) (ow e' he) ((sepA j).mono (Sub.refl _) s2), ?_, ?_, fun k nk => ?_⟩
      · exact (alΦ.mono s2).cup (a'.aa j)
      · refine Sep.cupl (Sep.cup ?_ ?_) (Sep.cup ?_ ?_)
        · exact (a.af i).mono s1 cup_l
        · exact (spB'.mono (Sub.refl _) s2).symm
        · exact (sepA j).mono (Sub.refl _) sΦ
        · exact (a'.af j).mono (Sub.refl _) cup_r
      · intro x hx hy
        rcases hx with hx | hx
        · exact a.ap i k (fun z => nk z.symm) x (s1 x hx) hy.1
        · exact sepA j x hx (sAs k (fun j p e0 => hy.2 (arN_mem e0)) x hy.1)
    · intro j j' i i' p p' e0 e0' n
      obtain ⟨s1, s2⟩ := keyS e0
      obtain ⟨s1', s2'⟩ := keyS e0'
      refine Sep.cupl (Sep.cup ?_ ?_) (Sep.cup ?_ ?_)
      · exact (a.ap i i' (okAr_ne ho e0 e0' n)).mono s1 s1'
      · exact ((sepA j').mono (Sub.refl _) s2).symm
      · exact (sepA j).mono (Sub.refl _) s2'
      · exact a'.ap j j' n
end
end Dy

/-! The words of a call: f(..), o.m(..), C(..), and the def's own rule. -/
namespace Dy
open PySem L2
section
variable (K : PySem.W.Frag) (C : Nat → Addr) (W : WX)
def PostR (Φ : AP) (Λ : Nat → AP) (π : Nat → Option V) (σ : L2.St) (H : Hp) (Q : List V → Hp → Prop) : R (List Ar) → Prop
  | .ok as s => ∀ vs H' B, Keep Φ H H' → Rel K C (Cup Φ B) Λ π s σ H' → Sep B Φ → ArL K C H' σ as vs B → Q vs H'
  | .exc x s => PostX K C W Φ Λ π σ H x s
  | .stuck => False
def SimR (t : TA) (G : SS → R (List Ar)) : Prop := ∀ Φ Λ π ss σ H (Q : List V → Hp → Prop), Rel K C Φ Λ π ss σ H → PostR K C W Φ Λ π σ H Q (G ss) → t σ H Q
def SimRP (t : TA) (G : SS → Option (List Ar)) : Prop := ∀ Φ Λ π ss σ H (Q : List V → Hp → Prop) as, Rel K C Φ Λ π ss σ H → G ss = some as →
  (∀ vs H' B, Same H H' → Fr H B → Al H' B → ArL K C H' σ as vs B → Q vs H') → t σ H Q
end
def rP (G : SS → Option (List Ar)) : SS → R (List Ar) := fun s => R.of (G s) s
section
variable {K : PySem.W.Frag} {C : Nat → Addr} {W : WX} {Φ : AP} {Λ : Nat → AP} {π : Nat → Option V} {ss : SS} {σ : L2.St} {H H' : Hp}
theorem ArL.mono {A B : AP} {as : List Ar} {vs : List V} (h : ArL K C H σ as vs A) (s : Sub A B) : ArL K C H σ as vs B := by
  induction h with
  | nil => exact .nil
  | inn a b _ ih => exact .inn a b (ih s)
  | len a b _ ih => exact .len a b (ih s)
  | val a _ ih => exact .val (a.mono s) (ih s)
theorem ArL.same {A : AP} {as : List Ar} {vs : List V} (h : ArL K C H σ as vs A) (s : Same H H') : ArL K C H' σ as vs A := by
  induction h with
  | nil => exact .nil
  | inn a b _ ih => exact .inn a (b.same s) ih
  | len a b _ ih => exact .len a (b.same s) ih
  | val a _ ih => exact .val (a.same s) ih
theorem SimRP.r {t : TA} {G : SS → Option (List Ar)} (h : SimRP K C t G) : SimR K C W t (rP G) := fun Φ Λ π ss σ H Q r p => by
  unfold rP at p
  cases e : G ss with
  | none => rw [e] at p; exact p.elim
  | some as =>
    rw [e] at p
    exact h Φ Λ π ss σ H Q as r e fun vs H' B s f al o => p vs H' B (Keep.of s) (r.grow s f al) ((fr_sep f r.al).symm) o
def qN : SS → Option (List Ar) := fun _ => some []
def qV (F : SS → Option D) (G : SS → Option (List Ar)) : SS → Option (List Ar) := fun s => (F s).bind fun d => (G s).map fun r => .val d :: r
def qI (i : Nat) (PF : SS → Option (List Stp)) (G : SS → Option (List Ar)) : SS → Option (List Ar) := fun s => (PF s).bind fun p => (fP i PF s).bind fun _ => (G s).map fun r => .inn i p :: r
def qL (i : Nat) (PF : SS → Option (List Stp)) (G : SS → Option (List Ar)) : SS → Option (List Ar) := fun s => (PF s).bind fun p => (fP i PF s).bind fun _ => (G s).map fun r => .len i p :: r
theorem srp_nil : SimRP K C tNil qN := fun Φ Λ π ss σ H Q as r e k => by cases e; exact k [] H Mt (Same.refl H) fr_mt al_mt .nil
theorem srp_val {te : TE} {tr : TA} {F : SS → Option D} {G : SS → Option (List Ar)} (ha : SimF K C te F) (hr : SimRP K C tr G) : SimRP K C (tCons te tr) (qV F G) := fun Φ Λ π ss σ H Q as rel e k => by
  unfold qV at e
  cases ea : F ss with
  | none => rw [ea] at e; cases e
  | some x =>
    cases eb : G ss with
    | none => rw [ea, eb] at e; cases e
    | some y =>
      rw [ea, eb] at e; cases e
      refine ha Φ Λ π ss σ H _ x rel ea fun v H1 B1 s1 f1 al1 o1 => ?_
      refine hr Φ Λ π ss σ H1 _ y (rel.same s1) eb fun u H2 B2 s2 f2 al2 o2 => ?_
      exact k _ _ (Cup B1 B2) (s1.trans s2) (fun a z => z.elim (f1 a) fun z => s1.free (f2 a z)) ((al1.same s2).cup al2) (.val ((o1.same s2).mono cup_l) (o2.mono cup_r))
theorem fP_inv {i : Nat} {PF : SS → Option (List Stp)} {p : List Stp} {e : D} (h1 : PF ss = some p) (h : fP i PF ss = some e) : ∃ d, valAt i ss = some d ∧ getP d p = some e := by
  unfold fP at h
  rw [h1] at h
  simp only [Option.bind_eq_some_iff] at h
  obtain ⟨_, hp, d, h2, h3⟩ := h
  cases hp
  exact ⟨d, h2, h3⟩
theorem srp_inn {i : Nat} {PF : SS → Option (List Stp)} {te : TE} {tr : TA} {G : SS → Option (List Ar)} (ha : SimLP K C te i PF) (hr : SimRP K C tr G) : SimRP K C (tCons te tr) (qI i PF G) := fun Φ Λ π ss σ H Q as rel e k => by
  unfold qI at e
  cases ea : PF ss with
  | none => rw [ea] at e; cases e
  | some p =>
    cases ec : fP i PF ss with
    | none => rw [ea, ec] at e; cases e
    | some y0 =>
    cases eb : G ss with
    | none => rw [ea, eb, ec] at e; cases e
    | some y =>
      rw [ea, eb, ec] at e; cases e
      obtain ⟨d, h1, h2⟩ := fP_inv ea ec
      refine ha Φ Λ π ss σ H _ d p y0 rel h1 ea h2 fun v w H1 e1 s1 va => ?_
      refine hr Φ Λ π ss σ H1 _ y (rel.same s1) eb fun u H2 B2 s2 f2 al2 o2 => ?_
      exact k _ _ B2 (s1.trans s2) (fun a z => s1.free (f2 a z)) al2 (.inn e1 (va.same s2) o2)
theorem srp_len {i : Nat} {PF : SS → Option (List Stp)} {te : TE} {tr : TA} {G : SS → Option (List Ar)} (ha : SimLP K C te i PF) (hr : SimRP K C tr G) : SimRP K C (tCons te tr) (qL i PF G) := fun Φ Λ π ss σ H Q as rel e k => by
  unfold qL at e
  cases ea : PF ss with
  | none => rw [ea] at e; cases e
  | some p =>
    cases ec : fP i PF ss with
    | none => rw [ea, ec] at e; cases e
    | some y0 =>
    cases eb : G ss with
    | none => rw [ea, eb, ec] at e; cases e
    | some y =>
      rw [ea, eb, ec] at e; cases e
      obtain ⟨d, h1, h2⟩ := fP_inv ea ec
      refine ha Φ Λ π ss σ H _ d p y0 rel h1 ea h2 fun v w H1 e1 s1 va => ?_
      refine hr Φ Λ π ss σ H1 _ y (rel.same s1) eb fun u H2 B2 s2 f2 al2 o2 => ?_
      exact k _ _ B2 (s1.trans s2) (fun a z => s1.free (f2 a z)) al2 (.len e1 (va.same s2) o2)
/-! with effects: what is handed in by place is a slot -/
def gV (F : SS → R D) (G : SS → R (List Ar)) : SS → R (List Ar) := fun s => (F s).bind fun d s1 => (G s1).bind fun r s2 => .ok (.val d :: r) s2
def gI (i : Nat) (G : SS → R (List Ar)) : SS → R (List Ar) := fun s => match valAt i s with
  | some _ => (G s).bind fun r s2 => .ok (.inn i [] :: r) s2
  | none => .stuck
def gL (i : Nat) (G : SS → R (List Ar)) : SS → R (List Ar) := fun s => match valAt i s with
  | some _ => (G s).bind fun r s2 => .ok (.len i [] :: r) s2
  | none => .stuck
theorem sr_val {te : TE} {tr : TA} {F : SS → R D} {G : SS → R (List Ar)} (ha : SimE K C W te F) (hr : SimR K C W tr G) : SimR K C W (tCons te tr) (gV F G) := fun Φ Λ π ss σ H Q rel p => by
  unfold gV at p
  refine ha Φ Λ π ss σ H _ rel ?_
  cases ea : F ss with
  | stuck => rw [ea] at p; exact p
  | exc x s => rw [ea] at p; exact p
  | ok x s1 =>
    rw [ea] at p
    intro v H1 B1 k1 r1 sp1 o1
    refine hr (Cup Φ B1) Λ π s1 σ H1 _ r1 ?_
    have p' : PostR K C W Φ Λ π σ H Q ((G s1).bind fun r s2 => .ok (.val x :: r) s2) := p
    cases eb : G s1 with
    | stuck => rw [eb] at p'; exact p'
    | exc x s => rw [eb] at p'; exact PostX.more p' k1 rel.psi
    | ok y s2 =>
      rw [eb] at p'
      intro u H2 B2 k2 r2 sp2 o2
      refine p' (v :: u) H2 (Cup B1 B2) (k1.trans (k2.mono cup_l)) (r2.eqv ?_ ?_) (Sep.cupl sp1 (sp2.mono (Sub.refl _) cup_l)) (.val ((o1.keep (k2.mono cup_r)).mono cup_l) (o2.mono cup_r))
      · exact cup_sub (cup_sub cup_l (cup_l.trans cup_r)) (cup_r.trans cup_r)
      · exact cup_sub (cup_l.trans cup_l) (cup_sub (cup_r.trans cup_l) cup_r)
theorem sr_slot {i : Nat} {tr : TA} {G : SS → R (List Ar)} {f : List Ar → List Ar} (hf : ∀ H v as vs B, σ[i]? = some (some v) → ArL K C H σ as vs B → ArL K C H σ (f as) (v :: vs) B) (hr : SimR K C W tr G) {Q : List V → Hp → Prop} (rel : Rel K C Φ Λ π ss σ H)
    (p : PostR K C W Φ Λ π σ H Q (match valAt i ss with | some _ => (G ss).bind fun r s2 => .ok (f r) s2 | none => .stuck)) : tCons (tVar i) tr σ H Q := by
  cases e : valAt i ss with
  | none => rw [e] at p; exact p.elim
  | some d =>
    rw [e] at p
    obtain ⟨v, A, e1, al, o⟩ := rel.val e
    refine ⟨v, e1, hr Φ Λ π ss σ H _ rel ?_⟩
    have p' : PostR K C W Φ Λ π σ H Q ((G ss).bind fun r s2 => .ok (f r) s2) := p
    cases eb : G ss with
    | stuck => rw [eb] at p'; exact p'
    | exc x s => rw [eb] at p'; exact p'
    | ok y s2 =>
      rw [eb] at p'
      exact fun u H2 B2 k2 r2 sp2 o2 => p' (v :: u) H2 B2 k2 r2 sp2 (hf _ _ _ _ _ e1 o2)
theorem sr_inn (i : Nat) {tr : TA} {G : SS → R (List Ar)} (hr : SimR K C W tr G) : SimR K C W (tCons (tVar i) tr) (gI i G) := fun Φ Λ π ss σ H Q rel p =>
  sr_slot (f := fun r => .inn i [] :: r) (fun H v as vs B e a => .inn e rfl a) hr rel p
theorem sr_len (i : Nat) {tr : TA} {G : SS → R (List Ar)} (hr : SimR K C W tr G) : SimR K C W (tCons (tVar i) tr) (gL i G) := fun Φ Λ π ss σ H Q rel p =>
  sr_slot (f := fun r => .len i [] :: r) (fun H v as vs B e a => .len e rfl a) hr rel p

/-! ### the promise -/
def dE (Q : VK) : Ends := { nx := fun _ H' => Q .non H', rt := Q }
def spD (K : PySem.W.Frag) (C : Nat → Addr) (N : List Str) (n : Nat) (Fn : SS → RS) : Sp := fun vs H Q E =>
  vs.length = n ∧ ∃ Φ Λ π ss, Rel K C Φ Λ π ss (L2.start N vs) H ∧ PostS K C (fun cls da _ H => E cls da H) Φ Λ π H (dE Q) (Fn ss)
/-- the def's own rule -/
theorem def_ok {P : Program} {w : World} {mg : Str → Option Value} {base : Heap} {x qual : Str} {st : Stmt} {f : Addr} {fd : FuncData} {N ps : List Str} {k : Nat} {Fn : SS → RS} (F : FunD K x qual (defArgs st) (defBody st) (defScope st) [] [] f fd) (S : FnScope N ps (defScope st))
    (hb : ∀ (cdv : Value) (A : Around) (outer : List Env) (s : Shared) (H : Hp) (E : XK) (W : WX), Room k (A.deeper (PyProof.Rows.envOfC qual (defScope st) s.heap.objs.size f cdv)) → Takes (cxOf (L2.CX P w) P w K mg base N qual (defScope st) f cdv A outer s H E) W →
      ∃ t, PSs (cxOf (L2.CX P w) P w K mg base N qual (defScope st) f cdv A outer s H E) (defBody st) t ∧ SimS K C W t Fn) : FnOk P w K mg base (L2.CX P w) (k + 1) f fd ps (spD K C N ps.length Fn) := by
  refine F.ok S (fun vs H Q E h => h.1) (fun cdv A outer s H vs Q E hr h => ?_)
  obtain ⟨t, h1, h2⟩ := hb cdv A outer s H E (fun cls d _ H => E cls d H) hr (takes_of rfl rfl rfl rfl)
  obtain ⟨_, Φ, Λ, π, ss, rel, post⟩ := h
  exact ⟨t, h1, h2 Φ Λ π ss _ H _ rel post⟩
/-- what a call makes of the slots -/
def fnR (n m : Nat) (Fn : SS → RS) (as : List Ar) (s : SS) : R D :=
  if (as.length == n && okAr as && okLe as) = true then
    match mkc as s with
    | none => .stuck
    | some cs => match Fn (cs ++ List.replicate m .no) with
      | .ret d s' => match bk as s' s with
        | some s2 => .ok d s2
        | none => .stuck
      | .nx s' => match bk as s' s with
        | some s2 => .ok .non s2
        | none => .stuck
      | .exc x s' => match bk as s' s with
        | some s2 => .exc x s2
        | none => .stuck
      | _ => .stuck
  else .stuck
theorem fn_core {n m : Nat} {N : List Str} {Fn : SS → RS} {as : List Ar} {s : SS} {vs : List V} {B : AP} {H1 : Hp} {Q : VK} (k1 : Keep Φ H H1) (r1 : Rel K C (Cup Φ B) Λ π s σ H1) (sp1 : Sep B Φ) (psi : ∀ i, Sub (Λ i) Φ) (ar : ArL K C H1 σ as vs B) (hN : N.length - n = m)
    (p : PostE K C W Φ Λ π σ H Q (fnR n m Fn as s)) : spD K C N n Fn vs H1 Q (WE W σ) := by
  unfold fnR at p
  split at p
  · rename_i hc
    simp only [Bool.and_eq_true, beq_iff_eq] at hc
    obtain ⟨⟨h1, h2⟩, h3⟩ := hc
    cases hm : mkc as s with
    | none => rw [hm] at p; exact p.elim
    | some cs =>
      rw [hm] at p
      simp only at p
      obtain ⟨Φc, Λc, πc, rel, _, back⟩ := call_rel (N := N) (m := m) r1 sp1 psi ar hm h2 h3 (by rw [← ar.length, h1]; exact hN)
      refine ⟨by rw [← ar.length]; exact h1, Φc, Λc, πc, _, rel, ?_⟩
      cases hF : Fn (cs ++ List.replicate m .no) with
      | stuck => rw [hF] at p; exact p.elim
      | brk s' => rw [hF] at p; exact p.elim
      | ct s' => rw [hF] at p; exact p.elim
      | ret d s' =>
        rw [hF] at p
        simp only at p
        cases hb : bk as s' s with
        | none => rw [hb] at p; exact p.elim
        | some s2 =>
          rw [hb] at p
          intro v σ' H' B' kp rel' sp' o'
          obtain ⟨q1, q2, q3⟩ := back H' B' s' σ' s2 kp rel' sp' hb
          exact p v H' B' (k1.trans q1) q2 q3 o'
      | nx s' =>
        rw [hF] at p
        simp only at p
        cases hb : bk as s' s with
        | none => rw [hb] at p; exact p.elim
        | some s2 =>
          rw [hb] at p
          intro σ' H' kp rel'
          obtain ⟨q1, q2, q3⟩ := back H' Mt s' σ' s2 kp rel'.mt sep_mt hb
          exact p .non H' Mt (k1.trans q1) q2 q3 .non
      | exc x s' =>
        rw [hF] at p
        simp only at p
        cases hb : bk as s' s with
        | none => rw [hb] at p; exact p.elim
        | some s2 =>
          rw [hb] at p
          intro σ' H' cls da kp rel' ix
          obtain ⟨q1, q2, q3⟩ := back H' Mt s' σ' s2 kp rel'.mt sep_mt hb
          exact p H' cls da (k1.trans q1) (q2.shrink cup_l psi) ix
  · exact p.elim
/-- f(..) -/
def eCall (n m : Nat) (Fn : SS → RS) (G : SS → R (List Ar)) : SS → R D := fun s => (G s).bind fun as s1 => fnR n m Fn as s1
theorem se_fn {n m : Nat} {N : List Str} {Fn : SS → RS} {ta : TA} {G : SS → R (List Ar)} (ha : SimR K C W ta G) (hN : N.length - n = m) : SimE K C W (tCallS (spD K C N n Fn) (WE W) ta) (eCall n m Fn G) := fun Φ Λ π ss σ H Q rel p => by
  unfold eCall at p
  refine ha Φ Λ π ss σ H _ rel ?_
  cases eb : G ss with
  | stuck => rw [eb] at p; exact p
  | exc x s => rw [eb] at p; exact p
  | ok as s1 =>
    rw [eb] at p
    intro vs H1 B1 k1 r1 sp1 ar
    exact fn_core k1 r1 sp1 rel.psi ar hN p
/-! o.m(..) -/
def tMethS (C : Addr) (m : Str) (sp : Sp) (E : L2.St → XK) (ta : TE) (t : TA) : TE := fun σ H Q => ta σ H fun x H1 => ∃ a dx fs, x = .ref a ∧ H1 a = some (.ins C dx fs) ∧ fs.lookup m = none ∧ t σ H1 fun vs H2 => sp (x :: vs) H2 Q (E σ)
def obOk (c : Nat) (m : Str) : D → Bool
  | .ob c' ns _ => c' == c && !ns.contains m
  | _ => false
theorem lookup_zip_none {m : Str} : ∀ {ns : List Str} {vs : List V}, ns.contains m = false → (ns.zip vs).lookup m = none
  | [], _, _ => rfl
  | n :: ns, [], _ => rfl
  | n :: ns, v :: vs, h => by
    simp only [List.contains_cons, Bool.or_eq_false_iff] at h
    rw [List.zip_cons_cons, List.lookup_cons, h.1]
    exact lookup_zip_none h.2
theorem obOk_ins {c : Nat} {m : Str} {e : D} {v : V} {A : AP} (h : obOk c m e = true) (o : Own K C H e v A) : ∃ a dx fs, v = .ref a ∧ H a = some (.ins (C c) dx fs) ∧ fs.lookup m = none := by
  cases o <;> simp only [obOk] at h <;> try (cases h)
  rename_i a dx c' ns vs ds l q ha y
  simp only [Bool.and_eq_true, beq_iff_eq, Bool.not_eq_true'] at h
  obtain ⟨rfl, hn⟩ := h
  exact ⟨a, dx, _, rfl, q, lookup_zip_none hn⟩
/-- of what a slot holds; f: how it is handed in -/
def eMethR (f : Nat → List Stp → Ar) (i c : Nat) (mn : Str) (n m : Nat) (Fn : SS → RS) (G : SS → R (List Ar)) : SS → R D := fun s => match valAt i s with
  | some e => if obOk c mn e = true then (G s).bind fun as s1 => fnR n m Fn (f i [] :: as) s1 else .stuck
  | none => .stuck
def ArF (f : Nat → List Stp → Ar) : Prop := f = Ar.inn ∨ f = Ar.len
theorem ArF.mk {f : Nat → List Stp → Ar} (hf : ArF f) {i : Nat} {p : List Stp} {v v0 : V} {as : List Ar} {vs : List V} {B : AP} (h1 : σ[i]? = some (some v0)) (h2 : VAt H v0 p v) (h3 : ArL K C H σ as vs B) : ArL K C H σ (f i p :: as) (v :: vs) B := by
  rcases hf with rfl | rfl
  · exact .inn h1 h2 h3
  · exact .len h1 h2 h3
theorem se_methR {f : Nat → List Stp → Ar} (hf : ArF f) {i c n m : Nat} {mn : Str} {N : List Str} {Fn : SS → RS} {ta : TA} {G : SS → R (List Ar)} (ha : SimR K C W ta G) (hN : N.length - n = m) : SimE K C W (tMethS (C c) mn (spD K C N n Fn) (WE W) (tVar i) ta) (eMethR f i c mn n m Fn G) := fun Φ Λ π ss σ H Q rel p => by
  unfold eMethR at p
  cases e : valAt i ss with
  | none => rw [e] at p; exact p.elim
  | some d =>
    rw [e] at p
    simp only at p
    split at p
    · rename_i ho
      obtain ⟨v, A, e1, al, o⟩ := rel.val e
      refine ⟨v, e1, ?_⟩
      obtain ⟨a, dx, fs, rfl, q1, q2⟩ := obOk_ins ho o
      refine ⟨a, dx, fs, rfl, q1, q2, ha Φ Λ π ss σ H _ rel ?_⟩
      cases eb : G ss with
      | stuck => rw [eb] at p; exact p
      | exc x s => rw [eb] at p; exact p
      | ok as s1 =>
        rw [eb] at p
        intro vs H1 B1 k1 r1 sp1 ar
        exact fn_core k1 r1 sp1 rel.psi (hf.mk (p := []) e1 rfl ar) hN p
    · exact p.elim
/-- of what stands at a place -/
def eMethP (f : Nat → List Stp → Ar) (i : Nat) (PF : SS → Option (List Stp)) (c : Nat) (mn : Str) (n m : Nat) (Fn : SS → RS) (G : SS → Option (List Ar)) : SS → R D := fun s => match PF s, fP i PF s with
  | some p, some e => if obOk c mn e = true then match G s with
      | some as => fnR n m Fn (f i p :: as) s
      | none => .stuck
    else .stuck
  | _, _ => .stuck
theorem se_methP {f : Nat → List Stp → Ar} (hf : ArF f) {i c n m : Nat} {mn : Str} {N : List Str} {Fn : SS → RS} {PF : SS → Option (List Stp)} {te : TE} {ta : TA} {G : SS → Option (List Ar)} (hp : SimLP K C te i PF) (ha : SimRP K C ta G) (hN : N.length - n = m) :
    SimE K C W (tMethS (C c) mn (spD K C N n Fn) (WE W) te ta) (eMethP f i PF c mn n m Fn G) := fun Φ Λ π ss σ H Q rel p => by
  unfold eMethP at p
  cases e0 : PF ss with
  | none => rw [e0] at p; exact p.elim
  | some pp =>
    cases e : fP i PF ss with
    | none => rw [e0, e] at p; exact p.elim
    | some d =>
      rw [e0, e] at p
      simp only at p
      split at p
      · rename_i ho
        cases eb : G ss with
        | none => rw [eb] at p; exact p.elim
        | some as =>
          rw [eb] at p
          obtain ⟨d0, g1, g2⟩ := fP_inv e0 e
          refine hp Φ Λ π ss σ H _ d0 pp d rel g1 e0 g2 fun v0 v H1 e1 sm va => ?_
          obtain ⟨v', A, e2, al, o⟩ := (rel.same sm).val g1
          rw [e1] at e2; cases e2
          obtain ⟨w', B', S', va', o', _⟩ := lens o g2
          cases va.det va'
          obtain ⟨a, dx, fs, rfl, q1, q2⟩ := obOk_ins ho o'
          refine ⟨a, dx, fs, rfl, q1, q2, ha Φ Λ π ss σ H1 _ as (rel.same sm) eb fun vs H2 B s2 f2 al2 ar => ?_⟩
          have r2 := (rel.same sm).grow s2 f2 al2
          exact fn_core (Keep.of (sm.trans s2)) r2 ((fr_sep f2 (rel.same sm).al).symm) rel.psi (hf.mk e1 (va.same s2) ar) hN p
      · exact p.elim
/-! C(..) -/
theorem Rel.cons {d : D} {v : V} {A : AP} (r : Rel K C Φ Λ π ss σ H) (s : Same H H') (f : Fr H A) (al : Al H' A) (o : Own K C H' d v A) :
    Rel K C Φ (fun j => match j with | 0 => Φ | j + 1 => Λ j) (fun j => match j with | 0 => some v | j + 1 => π j) (.inn d :: ss) (some v :: σ) H' := by
  obtain ⟨As, a0⟩ := r
  have a := a0.same s
  refine ⟨fun j => match j with | 0 => A | j + 1 => As j, a.al, fun j => ?_, by simp [a.len], fun j w hj => ?_, fun j => ?_, fun j => ?_, fun j k n => ?_, fun j t w h1 h2 => ?_⟩
  · cases j with
    | zero => exact Sub.refl _
    | succ j => exact a.sub j
  · cases j with
    | zero => cases hj; exact ⟨rfl, d, rfl⟩
    | succ j => obtain ⟨h1, x, h2⟩ := a.pin j w hj; exact ⟨by simpa using h1, x, by simpa using h2⟩
  · cases j with
    | zero => exact al
    | succ j => exact a.aa j
  · cases j with
    | zero => exact (fr_sep f a0.al).symm
    | succ j => exact a.af j
  · cases j with
    | zero => cases k with
      | zero => exact (n rfl).elim
      | succ k => exact (fr_sep f (a0.aa k)).symm
    | succ j => cases k with
      | zero => exact fr_sep f (a0.aa j)
      | succ k => exact a.ap j k fun z => n (by rw [z])
  · cases j with
    | zero => simp at h1 h2; subst h1; subst h2; exact ⟨v, rfl, o⟩
    | succ j => exact a.ok j t w (by simpa using h1) (by simpa using h2)
def tMakeS (C : Addr) (sp : Sp) (E : L2.St → XK) (t : TA) : TE := fun σ H Q => t σ H fun vs H1 => ∀ x dx, H1 x = none → H1 dx = none → dx ≠ x →
  sp (.ref x :: vs) (upd (upd H1 dx (.own x)) x (.ins C dx [])) (fun v H2 => v = .non ∧ Q (.ref x) H2) (E σ)
def mkR (c n m : Nat) (Fn : SS → RS) (as : List Ar) (s : SS) : R D :=
  if (as.length == n && okAr as && okLe as) = true then
    match mkc as s with
    | none => .stuck
    | some cs => match Fn (.inn (.ob c [] []) :: (cs ++ List.replicate m .no)) with
      | .nx (.inn d :: s') => match bk as s' s with
        | some s2 => .ok d s2
        | none => .stuck
      | .ret .non (.inn d :: s') => match bk as s' s with
        | some s2 => .ok d s2
        | none => .stuck
      | .exc x (.inn d :: s') => match bk as s' s with
        | some s2 => .exc x s2
        | none => .stuck
      | _ => .stuck
  else .stuck
def eMake (c n m : Nat) (Fn : SS → RS) (G : SS → R (List Ar)) : SS → R D := fun s => (G s).bind fun as s1 => mkR c n m Fn as s1
theorem se_make {c n m : Nat} {nm : Str} {N : List Str} {Fn : SS → RS} {ta : TA} {G : SS → R (List Ar)} (ha : SimR K C W ta G) (hN : N.length - n = m) : SimE K C W (tMakeS (C c) (spD K C (nm :: N) (n + 1) Fn) (WE W) ta) (eMake c n m Fn G) := fun Φ Λ π ss σ H Q rel p => by
  unfold eMake at p
  refine ha Φ Λ π ss σ H _ rel ?_
  cases eb : G ss with
  | stuck => rw [eb] at p; exact p
  | exc x s => rw [eb] at p; exact p
  | ok as s1 =>
    rw [eb] at p
    intro vs H1 B1 k1 r1 sp1 ar x dx nx ndx nex
    have p' : PostE K C W Φ Λ π σ H Q (mkR c n m Fn as s1) := p
    unfold mkR at p'
    split at p'
    · rename_i hc
      simp only [Bool.and_eq_true, beq_iff_eq] at hc
      obtain ⟨⟨h1, h2⟩, h3⟩ := hc
      cases hm : mkc as s1 with
      | none => rw [hm] at p'; exact p'.elim
      | some cs =>
        rw [hm] at p'
        simp only at p'
        obtain ⟨Φc, Λc, πc, rel', _, back⟩ := call_rel (N := N) (m := m) r1 sp1 rel.psi ar hm h2 h3 (by rw [← ar.length, h1]; exact hN)
        have sm : Same H1 (upd (upd H1 dx (.own x)) x (.ins (C c) dx [])) := fun b o e => by
          rw [upd_ne (ne_of_none e nx), upd_ne (ne_of_none e ndx)]; exact e
        have frx : Fr H1 (One x) := fun b hb => by rw [show b = x from hb]; exact nx
        have alx : Al (upd (upd H1 dx (.own x)) x (.ins (C c) dx [])) (One x) := fun b hb => by rw [show b = x from hb, upd_same]; exact fun z => by cases z
        have ow : Own K C (upd (upd H1 dx (.own x)) x (.ins (C c) dx [])) (.ob c [] []) (.ref x) (One x) := .ob (vs := []) rfl rfl upd_same .nil
        have rc := rel'.cons (d := .ob c [] []) sm frx alx ow
        have est : (some (V.ref x) :: L2.start N vs) = L2.start (nm :: N) (.ref x :: vs) := by
          unfold L2.start
          simp
        rw [est] at rc
        refine ⟨by simp [← ar.length, h1], _, _, _, _, rc, ?_⟩
        have kf : Keep Φ H1 (upd (upd H1 dx (.own x)) x (.ins (C c) dx [])) := Keep.of sm
        -- what is left behind
        have fin : ∀ (H' : Hp) (s' : SS) (σ' : L2.St) (d : D) (B' : AP) (s2 : SS), Keep Φc (upd (upd H1 dx (.own x)) x (.ins (C c) dx [])) H' → Rel K C (Cup Φc B') (fun j => match j with | 0 => Φc | j + 1 => Λc j) (fun j => match j with | 0 => some (.ref x) | j + 1 => πc j) (.inn d :: s') σ' H' → Sep B' Φc → bk as s' s1 = some s2 →
            ∃ A, Keep Φ H H' ∧ Rel K C (Cup Φ A) Λ π s2 σ H' ∧ Sep A Φ ∧ Own K C H' d (.ref x) A := fun H' s' σ' d B' s2 kp rl sp' hb => by
          obtain ⟨As, a⟩ := rl
          obtain ⟨e1, _⟩ := a.pin 0 (.ref x) rfl
          obtain ⟨v, ev, o⟩ := a.ok 0 _ _ rfl e1
          cases ev
          cases σ' with
          | nil => simp at e1
          | cons o' σ'' =>
            have kk : Keep Φc H1 H' := (Keep.of sm).trans kp
            have rl2 : Rel K C (Cup Φc (Cup B' (As 0))) Λc πc s' σ'' H' := by
              refine ⟨fun j => As (j + 1), (a.al.mono cup_l).cup ((a.al.mono cup_r).cup (a.aa 0)), fun j => ?_, by simpa using a.len, fun j v hj => ?_, fun j => a.aa (j + 1), fun j => ?_, fun j k n => a.ap (j + 1) (k + 1) (by omega), fun j t w h1 h2 => a.ok (j + 1) t w (by simpa using h1) (by simpa using h2)⟩
              · exact (rel'.psi j).trans cup_l
              · obtain ⟨h1, d, h2⟩ := a.pin (j + 1) v hj
                exact ⟨by simpa using h1, d, by simpa using h2⟩
              · exact Sep.cup ((a.af (j + 1)).mono (Sub.refl _) cup_l) (Sep.cup ((a.af (j + 1)).mono (Sub.refl _) cup_r) (a.ap (j + 1) 0 (by omega)))
            obtain ⟨q1, q2, q3⟩ := back H' (Cup B' (As 0)) s' σ'' s2 kk rl2 (Sep.cupl sp' ((a.af 0).mono (Sub.refl _) cup_l)) hb
            exact ⟨As 0, k1.trans q1, q2.shrink (cup_sub cup_l (cup_r.trans cup_r)) (fun i => (rel.psi i).trans cup_l), q3.mono cup_r (Sub.refl _), o⟩
        cases hF : Fn (.inn (.ob c [] []) :: (cs ++ List.replicate m .no)) with
        | stuck => rw [hF] at p'; exact p'.elim
        | brk s' => rw [hF] at p'; exact p'.elim
        | ct s' => rw [hF] at p'; exact p'.elim
        | nx s' =>
          rw [hF] at p'
          cases s' with
          | nil => exact p'.elim
          | cons t s' =>
            cases t <;> try (exact p'.elim)
            rename_i d
            simp only at p'
            cases hb : bk as s' s1 with
            | none => rw [hb] at p'; exact p'.elim
            | some s2 =>
              rw [hb] at p'
              intro σ' H' kp rl
              obtain ⟨A, f1, f2, f3, f4⟩ := fin H' s' σ' d Mt s2 kp rl.mt sep_mt hb
              exact ⟨rfl, p' _ H' A f1 f2 f3 f4⟩
        | ret u s' =>
          rw [hF] at p'
          cases u <;> try (exact p'.elim)
          cases s' with
          | nil => exact p'.elim
          | cons t s' =>
            cases t <;> try (exact p'.elim)
            rename_i d
            simp only at p'
            cases hb : bk as s' s1 with
            | none => rw [hb] at p'; exact p'.elim
            | some s2 =>
              rw [hb] at p'
              intro v σ' H' B' kp rl sp' o'
              cases o'
              obtain ⟨A, f1, f2, f3, f4⟩ := fin H' s' σ' d B' s2 kp rl sp' hb
              exact ⟨rfl, p' _ H' A f1 f2 f3 f4⟩
        | exc e s' =>
          rw [hF] at p'
          cases s' with
          | nil => exact p'.elim
          | cons t s' =>
            cases t <;> try (exact p'.elim)
            rename_i d
            simp only at p'
            cases hb : bk as s' s1 with
            | none => rw [hb] at p'; exact p'.elim
            | some s2 =>
              rw [hb] at p'
              intro σ' H' cls da kp rl ix
              obtain ⟨A, f1, f2, f3, f4⟩ := fin H' s' σ' d Mt s2 kp rl.mt sep_mt hb
              exact p' H' cls da f1 (f2.shrink cup_l rel.psi) ix
    · exact p'.elim
end
end Dy

/-! Calls that change nothing; the words of calls with the wish at the slots; raise. -/
namespace Dy
open PySem PyProof.Rows L2
section
variable {K : PySem.W.Frag} {C : Nat → Addr} {W : WX} {Φ : AP} {Λ : Nat → AP} {π : Nat → Option V} {ss : SS} {σ : L2.St} {H H' : Hp}
/-- f(..) of one that changes nothing and lets nothing out -/
def pFn (n m : Nat) (Fn : SS → RS) (as : List Ar) : Option D :=
  if (as.length == n && (arN as).isEmpty) = true then match fnR n m Fn as [] with
    | .ok d _ => some d
    | _ => none
  else none
def lnd : List Ar → SS → Option (List Ar)
  | [], _ => some []
  | .len i p :: as, s => (valAt i s).bind fun d => (getP d p).bind fun e => (lnd as s).map fun r => .val e :: r
  | .val d :: as, s => (lnd as s).map fun r => .val d :: r
  | .inn _ _ :: _, _ => none
theorem mkc_lnd : ∀ {as bs : List Ar} {s s' : SS}, lnd as s = some bs → mkc as s = mkc bs s' ∧ arN as = [] ∧ arN bs = [] ∧ arL bs = [] ∧ bs.length = as.length
  | [], bs, s, s', h => by cases h; exact ⟨rfl, rfl, rfl, rfl, rfl⟩
  | .len i p :: as, bs, s, s', h => by
    unfold lnd at h
    simp only [Option.bind_eq_some_iff, Option.map_eq_some_iff] at h
    obtain ⟨d, h1, e, h2, r, h3, rfl⟩ := h
    obtain ⟨q1, q2, q3, q4, q5⟩ := mkc_lnd (s' := s') h3
    refine ⟨?_, q2, q3, q4, by simp [q5]⟩
    unfold mkc
    rw [h1]
    simp only [Option.bind, h2, q1]
  | .val d :: as, bs, s, s', h => by
    unfold lnd at h
    simp only [Option.map_eq_some_iff] at h
    obtain ⟨r, h3, rfl⟩ := h
    obtain ⟨q1, q2, q3, q4, q5⟩ := mkc_lnd (s' := s') h3
    refine ⟨?_, q2, q3, q4, by simp [q5]⟩
    unfold mkc
    rw [q1]
  | .inn _ _ :: _, bs, s, s', h => by cases h
theorem okAr_of {as : List Ar} : arN as = [] → okAr as = true := by
  induction as with
  | nil => intro _; rfl
  | cons a as ih =>
    intro h
    cases a with
    | inn i p => simp [arN] at h
    | len i p => exact ih h
    | val d => exact ih h
def pCall (n m : Nat) (Fn : SS → RS) (G : SS → Option (List Ar)) : SS → Option D := fun s => (G s).bind fun as => (lnd as s).bind fun bs => pFn n m Fn bs
theorem fn_pure {n m : Nat} {N : List Str} {Fn : SS → RS} {as bs : List Ar} {vs : List V} {B : AP} {H1 : Hp} {Q : VK} {E : XK} {d : D} (r1 : Rel K C (Cup Φ B) Λ π ss σ H1) (sp1 : Sep B Φ) (psi : ∀ i, Sub (Λ i) Φ) (ar : ArL K C H1 σ as vs B) (hN : N.length - n = m)
    (hl : lnd as ss = some bs) (hp : pFn n m Fn bs = some d) (k : ∀ v H' B', Same H1 H' → Fr H1 B' → Al H' B' → Own K C H' d v B' → Q v H') : spD K C N n Fn vs H1 Q E := by
  unfold pFn at hp
  split at hp
  · rename_i hc
    simp only [Bool.and_eq_true, beq_iff_eq, List.isEmpty_iff] at hc
    obtain ⟨c1, c2⟩ := hc
    obtain ⟨q1, q2, q3, q4, q5⟩ := mkc_lnd (s' := []) hl
    cases hR0 : fnR n m Fn bs [] with
    | stuck => rw [hR0] at hp; cases hp
    | exc x s0 => rw [hR0] at hp; cases hp
    | ok d0 s0 =>
    rw [hR0] at hp
    cases hp
    unfold fnR at hR0
    split at hR0
    · cases hF : mkc bs [] with
      | none => rw [hF] at hR0; cases hR0
      | some cs =>
        rw [hF] at hR0 q1
        simp only at hR0
        obtain ⟨Φc, Λc, πc, rel, alive, back⟩ := call_rel (N := N) (m := m) r1 sp1 psi ar q1 (okAr_of q2) (by unfold okLe; rw [q2]; simp) (by rw [← ar.length, ← q5, c1]; exact hN)
        refine ⟨by rw [← ar.length, ← q5]; exact c1, Φc, Λc, πc, _, rel, ?_⟩
        have sm : ∀ H', Keep Φc H1 H' → Same H1 H' := fun H' kp a o e => kp.k a o (alive q2 a (by rw [e]; exact fun z => by cases z)) e
        have fr : ∀ B', Sep B' Φc → Fr H1 B' := fun B' sp a ha => by
          cases e : H1 a with
          | none => rfl
          | some o => exact (sp a ha (alive q2 a (by rw [e]; exact fun z => by cases z))).elim
        cases hR : Fn (cs ++ List.replicate m .no) with
        | stuck => rw [hR] at hR0; cases hR0
        | brk s' => rw [hR] at hR0; cases hR0
        | ct s' => rw [hR] at hR0; cases hR0
        | exc x s' =>
          rw [hR] at hR0
          simp only at hR0
          cases hb : bk bs s' [] with
          | none => rw [hb] at hR0; cases hR0
          | some s2 => rw [hb] at hR0; cases hR0
        | ret d' s' =>
          rw [hR] at hR0
          simp only at hR0
          cases hb : bk bs s' [] with
          | none => rw [hb] at hR0; cases hR0
          | some s2 =>
            rw [hb] at hR0
            cases hR0
            intro v σ' H' B' kp rel' sp' o'
            exact k v H' B' (sm H' kp) (fr B' sp') (rel'.al.mono cup_r) o'
        | nx s' =>
          rw [hR] at hR0
          simp only at hR0
          cases hb : bk bs s' [] with
          | none => rw [hb] at hR0; cases hR0
          | some s2 =>
            rw [hb] at hR0
            cases hR0
            intro σ' H' kp rel'
            exact k .non H' Mt (sm H' kp) fr_mt al_mt .non
    · cases hR0
  · cases hp
theorem sf_fn {n m : Nat} {N : List Str} {Fn : SS → RS} {E : L2.St → XK} {ta : TA} {G : SS → Option (List Ar)} (ha : SimRP K C ta G) (hN : N.length - n = m) : SimF K C (tCallS (spD K C N n Fn) E ta) (pCall n m Fn G) := fun Φ Λ π ss σ H Q d rel e k => by
  unfold pCall at e
  simp only [Option.bind_eq_some_iff] at e
  obtain ⟨as, e1, bs, e2, e3⟩ := e
  refine ha Φ Λ π ss σ H _ as rel e1 fun vs H1 B1 s1 f1 al1 ar => ?_
  have r1 := rel.grow s1 f1 al1
  exact fn_pure r1 ((fr_sep f1 rel.al).symm) rel.psi ar hN e2 e3 fun v H' B' s2 f2 al2 o => k v H' B' (s1.trans s2) (fun a z => s1.free (f2 a z)) al2 o
/-- o.m(..) of one that changes nothing -/
def pMeth (i : Nat) (PF : SS → Option (List Stp)) (c : Nat) (mn : Str) (n m : Nat) (Fn : SS → RS) (G : SS → Option (List Ar)) : SS → Option D := fun s =>
  (PF s).bind fun p => (fP i PF s).bind fun e => if obOk c mn e = true then (G s).bind fun as => (lnd (.len i p :: as) s).bind fun bs => pFn n m Fn bs else none
theorem sf_meth {i c n m : Nat} {mn : Str} {N : List Str} {Fn : SS → RS} {E : L2.St → XK} {PF : SS → Option (List Stp)} {te : TE} {ta : TA} {G : SS → Option (List Ar)} (hp : SimLP K C te i PF) (ha : SimRP K C ta G) (hN : N.length - n = m) :
    SimF K C (tMethS (C c) mn (spD K C N n Fn) E te ta) (pMeth i PF c mn n m Fn G) := fun Φ Λ π ss σ H Q d rel e k => by
  unfold pMeth at e
  simp only [Option.bind_eq_some_iff] at e
  obtain ⟨pp, e0, x, e1, e⟩ := e
  split at e
  · rename_i ho
    simp only [Option.bind_eq_some_iff] at e
    obtain ⟨as, eb, bs, e2, e3⟩ := e
    obtain ⟨d0, g1, g2⟩ := fP_inv e0 e1
    refine hp Φ Λ π ss σ H _ d0 pp x rel g1 e0 g2 fun v0 v H1 e1 sm va => ?_
    obtain ⟨v', A, e4, al, o⟩ := (rel.same sm).val g1
    rw [e1] at e4; cases e4
    obtain ⟨w', B', S', va', o', _⟩ := lens o g2
    cases va.det va'
    obtain ⟨a, dx, fs, rfl, q1, q2⟩ := obOk_ins ho o'
    refine ⟨a, dx, fs, rfl, q1, q2, ha Φ Λ π ss σ H1 _ as (rel.same sm) eb fun vs H2 B s2 f2 al2 ar => ?_⟩
    have r2 := (rel.same sm).grow s2 f2 al2
    exact fn_pure r2 ((fr_sep f2 (rel.same sm).al).symm) rel.psi (.len (as := as) e1 (va.same s2) ar) hN e2 e3 fun v H' B' s3 f3 al3 o => k v H' B' ((sm.trans s2).trans s3) (fun a z => (sm.trans s2).free (f3 a z)) al3 o
  · cases e
/-! ### raise -/
def sRaise (c : Nat) : SS → RS := fun s => .exc ⟨c, none⟩ s
theorem ss_raise (c : Nat) : SimS K C W (fun _ σ H => (fun (_ : L2.St) (H : Hp) (Q : XK) => Q (.ref (C c)) none H) σ H fun cls d H' => W cls d σ H') (sRaise c) := fun Φ Λ π ss σ H E r p =>
  p σ H _ _ (Keep.refl _ _) r ⟨rfl, fun f i z => by cases z⟩
end
/-! ### the words -/
section
variable {X : Cx} {CX : CXT} {k : Nat} {f C : Addr} {fd : FuncData} {ps : List Str} {sp : Sp} {E : L2.St → XK} {x m : Str} {p pos apos : Pos} {e o : Expr} {es : List Expr} {ta : TE} {t : TA}
theorem pe_callS0 (F : FnOk X.prog X.w X.K X.mg X.base CX k f fd ps sp) (hr : Room k X.A) (hg : Gl X x) (hm : X.mg x = some (.ref f)) (hk : PySem.W.keepIn X.K (.ref f) = true) (hb : Binds X.K fd ps []) (hx : ∀ σ, PassesAt CX X σ (E σ))
    (hdb : (x == ("__debug__" : Str)) = false := by decide) : PE X (.Call (.Name x p) [] [] pos) (tCallS sp E tNil) := by
  refine ⟨fun pins s σ H Q I h => ?_⟩
  refine wpAny_Call_Name_kw (ld_glob I hg hm ?_ hdb)
  exact PySem.W.callWith_K0 I.kIn hk (run_fnS (us := []) F hr hb (hx σ) I .nil h)
theorem pe_methE {pl : Sem Bool} (he : PE X o ta) (c : Cls X.K C) (hm : Meth X.K C m f) (F : FnOk X.prog X.w X.K X.mg X.base CX k f fd ps sp) (hr : Room k X.A) (hb : Binds X.K fd ps []) (hx : ∀ σ, PassesAt CX X σ (E σ)) (ha : PA X (e :: es) t)
    (hst : starEach (e :: es) X.env = (false, eval e X.env) :: starEach es X.env := by rfl) (hpl : (backTo pos (starEach es X.env)).any (·.1) = false := by rfl)
    (ht : eval (.Call (.Attribute o m apos) (e :: es) [] pos) X.env = (do
      let ov ← eval o X.env
      standAt apos.atName
      let (f, first) ← holding [ov] (getMethod ov m pl)
      callWith pos f first (backTo pos (starEach (e :: es) X.env)) (backToKw pos (keywordEach [] X.env))) := by rfl) :
    PE X (.Call (.Attribute o m apos) (e :: es) [] pos) (tMethS C m sp E ta t) := by
  refine ⟨fun pins s σ H Q I h => ?_⟩
  refine PySem.W.methodCall_KW (pl := pl) (thn (he.run pins s σ H _ I h) fun u s1 ⟨x, H1, I1, rx, a, dx, fs, ex, ea, l, q⟩ => ?_) ht
  subst ex
  obtain rfl : u = Value.ref a := rx
  refine getmeth_ok I1 ea c hm l ?_
  refine PySem.W.callWith_K (first := [.ref a]) (h₀ := X.base) I.ok.mod.kin hm.kp (thn (ha.run pos pins s1 σ H1 _ I1 q) fun us s2 ⟨vs, H2, I2, r, q2⟩ => ⟨I2.kIn, ?_⟩) hst hpl
  exact run_fnS (us := .ref a :: us) (vs := .ref a :: vs) F hr hb (hx σ) I2 (.cons rfl r) q2
theorem pe_methE0 {pl : Sem Bool} (he : PE X o ta) (c : Cls X.K C) (hm : Meth X.K C m f) (F : FnOk X.prog X.w X.K X.mg X.base CX k f fd ps sp) (hr : Room k X.A) (hb : Binds X.K fd ps []) (hx : ∀ σ, PassesAt CX X σ (E σ))
    (ht : eval (.Call (.Attribute o m apos) [] [] pos) X.env = (do
      let ov ← eval o X.env
      standAt apos.atName
      let (f, first) ← holding [ov] (getMethod ov m pl)
      callWith pos f first (backTo pos (starEach [] X.env)) (backToKw pos (keywordEach [] X.env))) := by rfl) :
    PE X (.Call (.Attribute o m apos) [] [] pos) (tMethS C m sp E ta tNil) := by
  refine ⟨fun pins s σ H Q I h => ?_⟩
  refine PySem.W.methodCall_KW (pl := pl) (thn (he.run pins s σ H _ I h) fun u s1 ⟨x, H1, I1, rx, a, dx, fs, ex, ea, l, q⟩ => ?_) ht
  subst ex
  obtain rfl : u = Value.ref a := rx
  refine getmeth_ok I1 ea c hm l ?_
  exact PySem.W.callWith_K0 (first := [.ref a]) I1.kIn hm.kp (run_fnS (us := [.ref a]) (vs := [.ref a]) F hr hb (hx σ) I1 (.cons rfl .nil) q)
theorem run_makeS {pins : List (Addr × Obj)} {σ : L2.St} {H : Hp} {s : Shared} {Q : VK} {us : List Value} {vs : List V} (M : Mk X.K C f) (F : FnOk X.prog X.w X.K X.mg X.base CX k f fd ps sp) (hr : Room (k + 1) X.A) (hb : Binds X.K fd ps [])
    (hx : ∀ (pins : List (Addr × Obj)) (H : Hp) (s : Shared) (e : Value) (s' : Shared), Inv X pins σ H s → CX X.stack H s (E σ) e s' → X.xe e s') (I : Inv X pins σ H s) (r : Vals vs us)
    (h : ∀ x dx, H x = none → H dx = none → dx ≠ x → sp (.ref x :: vs) (upd (upd H dx (.own x)) x (.ins C dx [])) (fun v H2 => v = .non ∧ Q (.ref x) H2) (E σ)) :
    wpAny (model X.prog X.w) X.A (call (.ref C) us) (EP X pins σ Q) X.xe s := by
  have hq := h (s.heap.objs.size + 1) s.heap.objs.size (I.hok.fresh (Nat.le_succ _)) (I.hok.fresh (Nat.le_refl _)) (Nat.ne_of_lt (Nat.lt_succ_self _))
  have I2 := Inv.made (C := C) I
  have r2 : Vals (V.ref (s.heap.objs.size + 1) :: vs) (Value.ref (s.heap.objs.size + 1) :: us) := .cons rfl r
  have hl : (Value.ref (s.heap.objs.size + 1) :: us).length = ps.length := by
    have e := r2.length
    rw [F.len _ _ _ _ hq] at e
    exact e.symm
  refine wpAny_call (make_map (f := f) I.kIn M.makes M.init (beq_iff_eq.mp M.fn) (codeAny_mono (F.run _ X.stack _ _ ⟨Value.ref (s.heap.objs.size + 1) :: us, []⟩ (Value.ref (s.heap.objs.size + 1) :: us) _ _ (E σ) (hr.make C us [])
    (I2.env0.make C us []) (by have := hb _ (Value.ref (s.heap.objs.size + 1) :: us) I2.kIn (by rw [List.append_nil]; exact hl); rw [List.append_nil] at this; exact this) r2 hq) fun r s' hq' => ?_))
  cases r with
  | error e => exact hx pins _ _ e s' I2 hq'
  | ok fl =>
    cases fl with
    | ret u =>
      obtain ⟨v, H', I3, rv, ev, q3⟩ := I2.after hq'
      subst ev
      exact ⟨rv, ⟨V.ref (s.heap.objs.size + 1), H', I3, rfl, q3⟩⟩
    | next => exact False.elim hq'
    | brk => exact False.elim hq'
    | cont => exact False.elim hq'
theorem pe_makeE (M : Mk X.K C f) (F : FnOk X.prog X.w X.K X.mg X.base CX k f fd ps sp) (hr : Room (k + 1) X.A) (hg : Gl X x) (hm : X.mg x = some (.ref C)) (hb : Binds X.K fd ps []) (hx : ∀ σ, PassesAt CX X σ (E σ))
    (ha : PA X (e :: es) t) (hdb : (x == ("__debug__" : Str)) = false := by decide) (he : starEach (e :: es) X.env = (false, eval e X.env) :: starEach es X.env := by rfl) (hpl : (backTo pos (starEach es X.env)).any (·.1) = false := by rfl) :
    PE X (.Call (.Name x p) (e :: es) [] pos) (tMakeS C sp E t) := by
  refine ⟨fun pins s σ H Q I h => ?_⟩
  refine wpAny_Call_Name_kw (ld_glob I hg hm ?_ hdb)
  refine PySem.W.callWith_K (h₀ := X.base) I.ok.mod.kin M.kp (thn (ha.run pos pins s σ H _ I h) fun us s1 ⟨vs, H1, I1, r, q⟩ => ⟨I1.kIn, ?_⟩) he hpl
  exact run_makeS M F hr hb (hx σ) I1 r q
theorem pe_makeE0 (M : Mk X.K C f) (F : FnOk X.prog X.w X.K X.mg X.base CX k f fd ps sp) (hr : Room (k + 1) X.A) (hg : Gl X x) (hm : X.mg x = some (.ref C)) (hb : Binds X.K fd ps []) (hx : ∀ σ, PassesAt CX X σ (E σ))
    (hdb : (x == ("__debug__" : Str)) = false := by decide) : PE X (.Call (.Name x p) [] [] pos) (tMakeS C sp E tNil) := by
  refine ⟨fun pins s σ H Q I h => ?_⟩
  refine wpAny_Call_Name_kw (ld_glob I hg hm ?_ hdb)
  exact PySem.W.callWith_K0 I.kIn M.kp (run_makeS (us := []) M F hr hb (hx σ) I .nil h)
end
end Dy

/-! Words for whole defs: constants, chains, calls by name. -/
namespace Dy
open PySem PyProof.Rows L2
section
variable {X : Cx} {x : Str} {pos : Pos}
theorem pe_gint {i : Int} (hg : Gl X x) (hm : ∃ t, X.mg x = some (.int i t)) (hd : (x == ("__debug__" : Str)) = false := by decide) : PE X (.Name x pos) (tC (.int i)) := by
  obtain ⟨t, h⟩ := hm
  exact pe_glob hg h ⟨t, rfl⟩ hd
theorem pe_gstr {z : Str} (hg : Gl X x) (hm : ∃ t, X.mg x = some (.str z t)) (hd : (x == ("__debug__" : Str)) = false := by decide) : PE X (.Name x pos) (tC (.str z)) := by
  obtain ⟨t, h⟩ := hm
  exact pe_glob hg h ⟨t, rfl⟩ hd
theorem u65 {k : Nat} {A : Around} (r : Room k A) : A.units + 65 < cLine := by have := r.un; omega
theorem u64 {k : Nat} {A : Around} (r : Room k A) : A.units + 64 < cLine := by have := r.un; omega
theorem u1 {k : Nat} {A : Around} (r : Room k A) : A.units + 1 < cLine := by have := r.un; omega
end
section
variable {K : PySem.W.Frag} {C : Nat → Addr} {W : WX} {Φ : AP} {Λ : Nat → AP} {π : Nat → Option V} {ss : SS} {σ : L2.St} {H H' : Hp}
theorem spt_yes : SimPT K C tYes (fun _ => some true) := fun Φ Λ π ss σ H Q b r e k => by
  cases e
  exact k H (Same.refl H)
theorem st_yes : SimT K C W tYes (tP fun _ => some true) := SimPT.e spt_yes
/-- a slot's value moved out -/
def eMv (i : Nat) : SS → R D := fun s => match s[i]? with
  | some (.own d) => .ok d (s.set i .no)
  | _ => .stuck
theorem se_mv (i : Nat) : SimE K C W (tVar i) (eMv i) := fun Φ Λ π ss σ H Q rel p => by
  unfold eMv at p
  split at p
  · rename_i d e
    obtain ⟨As, a⟩ := rel
    obtain ⟨o, eo⟩ := getσ a.len e
    obtain ⟨v, ev, w⟩ := a.ok i _ _ e eo
    subst ev
    refine ⟨v, eo, p v H (As i) (Keep.refl _ _) ⟨fun j => if j = i then Mt else As j, a.al.cup (a.aa i), fun j => (a.sub j).trans cup_l, by rw [List.length_set]; exact a.len, fun j u hj => ?_, fun j => ?_, fun j => ?_, fun j k h => ?_, fun j t u h1 h2 => ?_⟩ (a.af i) w⟩
    · obtain ⟨h1, x, h2⟩ := a.pin j u hj
      have nj : i ≠ j := fun z => by subst z; rw [e] at h2; cases h2
      exact ⟨h1, x, by rw [List.getElem?_set_ne nj]; exact h2⟩
    · show Al H (if j = i then Mt else As j)
      split
      · exact al_mt
      · exact a.aa j
    · show Sep (if j = i then Mt else As j) _
      split
      · exact sep_mt
      · rename_i n; exact (a.af j).cup (a.ap j i n)
    · show Sep (if j = i then Mt else As j) (if k = i then Mt else As k)
      split
      · exact sep_mt
      · split
        · exact mt_sep
        · exact a.ap j k h
    · by_cases nj : i = j
      · subst nj
        have hi : i < ss.length := (List.getElem?_eq_some_iff.mp e).1
        rw [List.getElem?_set_self hi] at h1
        cases h1; trivial
      · rw [List.getElem?_set_ne nj] at h1
        show SlOk K C H (Λ j) (if j = i then Mt else As j) t u
        rw [if_neg (fun z => nj z.symm)]
        exact a.ok j t u h1 h2
  · exact p.elim
/-- a < b < c -/
def pChain (f g : D → D → Option D) (F G J : SS → Option D) : SS → Option D := fun s => (F s).bind fun a => (G s).bind fun b => ((f a b).bind asB).bind fun k => if k = true then (J s).bind fun c => g b c else some (.bl false)
theorem sf_chain {r r' : R2} {f g : D → D → Option D} {ta tb tc : TE} {F G J : SS → Option D} (ho : OpS K C r f) (ho' : OpS K C r' g) (ha : SimP K C ta F) (hb : SimP K C tb G) (hc : SimP K C tc J) : SimF K C (tChain r r' ta tb tc) (pChain f g F G J) := fun Φ Λ π ss σ H Q d rel e k => by
  unfold pChain at e
  cases ea : F ss with
  | none => rw [ea] at e; cases e
  | some x =>
    cases eb : G ss with
    | none => rw [ea, eb] at e; cases e
    | some y =>
      rw [ea, eb] at e
      simp only [Option.bind_some] at e
      cases ef : f x y with
      | none => rw [ef] at e; cases e
      | some z =>
        rw [ef] at e
        refine ha Φ Λ π ss σ H _ x rel ea fun v H1 s1 r1 => ?_
        refine hb Φ Λ π ss σ H1 _ y (rel.same s1) eb fun u H2 s2 r2 => ?_
        have s12 := s1.trans s2
        refine ho H2 v u x y z _ (r1.same s2) r2 ef fun w H3 B s3 f3 al3 o3 => ?_
        cases z <;> try (cases e)
        rename_i kb
        cases o3
        refine ⟨kb, rfl, ?_⟩
        have e' : (if kb = true then (J ss).bind fun c => g y c else some (.bl false)) = some d := e
        cases kb with
        | false =>
          simp at e'
          subst e'
          simp only [Bool.false_eq_true, if_false]
          exact k _ H3 Mt (s12.trans s3) fr_mt al_mt (.bl _)
        | true =>
          simp only [if_true] at e' ⊢
          cases ec : J ss with
          | none => rw [ec] at e'; cases e'
          | some c =>
            rw [ec] at e'
            have s123 := s12.trans s3
            refine hc Φ Λ π ss σ H3 _ c (rel.same s123) ec fun w' H4 s4 r4 => ?_
            exact ho' H4 u w' y c d Q ((r2.same s3).same s4) r4 e' fun w2 H5 B5 s5 f5 al5 o5 => k w2 H5 B5 ((s123.trans s4).trans s5) (fun a z => (s123.trans s4).free (f5 a z)) al5 o5
end
abbrev rTupA (K : PySem.W.Frag) : List V → Hp → VK → Prop := fun xs H Q => ∃ p ys, xs = [.ref p] ∧ ((SqL K H p ys ∧ ∀ l, H l = none → Q (.ref l) (upd H l (.tup ys))) ∨ (SqT K H p ys ∧ Q (.ref p) H))
/-- a def of the text: it keeps its promise, and stands under its name -/
structure FnAt (P : Program) (w : World) (K : PySem.W.Frag) (mg : Str → Option Value) (base : Heap) (C : Nat → Addr) (k : Nat) (f : Addr) (fd : FuncData) (x : Str) (N ps : List Str) (Fn : SS → RS) : Prop where
  ok : FnOk P w K mg base (L2.CX P w) k f fd ps (spD K C N ps.length Fn)
  gl : mg x = some (.ref f)
  kp : PySem.W.keepIn K (.ref f) = true
  bd : Binds K fd ps []
/-- an own exception class without __init__, below ValueError -/
structure ExAt (K : PySem.W.Frag) (mg : Str → Option Value) (C : Addr) (x : Str) : Prop where
  q : PySem.W.excIn K C [.type "ValueError", .type "Exception", .type "BaseException", .type "object"] "ValueError.__new__" = true
  gl : mg x = some (.ref C)
  kp : PySem.W.keepIn K (.ref C) = true
  sub : PySem.W.subIn K (.ref C) (.type "BaseException") = some true
  ty : PySem.W.typeIn K (.ref C) = some (.type "type")
theorem ps_rs {X : Cx} {W : WX} {C : Addr} {x m : Str} {j : Nat} {p p2 pos pos' : Pos} (A : ExAt X.K X.mg C x) (tk : Takes X W) (hc : X.calm = true := by rfl) (hg : Gl X x := by rfl) (hdb : (x == ("__debug__" : Str)) = false := by decide) :
    PS X (.Raise (some (.Call (.Name x p) [.Constant (.str m) j p2] [] pos)) none pos') (fun _ σ H => (fun (_ : L2.St) (H : Hp) (Q : XK) => Q (.ref C) none H) σ H fun cls d H' => W cls d σ H') :=
  ps_raise hc tk (pmk_own PySem.F.excBase_ValueError A.q A.gl A.kp (raises_own A.sub A.ty) hg hdb)
theorem fn_stuck {P : Program} {w : World} {K : PySem.W.Frag} {mg : Str → Option Value} {base : Heap} {C : Nat → Addr} {k : Nat} {f : Addr} {fd : FuncData} {N ps : List Str} : FnOk P w K mg base (L2.CX P w) k f fd ps (spD K C N ps.length sStuck) :=
  ⟨fun _ _ _ _ h => h.1, fun _ _ _ _ _ _ _ _ _ _ _ _ _ h => by
    obtain ⟨_, _, _, _, _, _, h⟩ := h
    exact h.elim⟩
section
variable {X : Cx} {K : PySem.W.Frag} {C : Nat → Addr} {j k : Nat} {f : Addr} {fd : FuncData} {N ps : List Str} {Fn : SS → RS} {W : WX} {x : Str} {p pos : Pos} {e : Expr} {es : List Expr} {t : TA}
theorem pe_fn (A : FnAt X.prog X.w K X.mg X.base C j f fd x N ps Fn) (hr : Room k X.A) (tk : Takes X W) (ha : PA X (e :: es) t) (hK : X.K = K := by rfl) (hj : j ≤ k := by omega) (hg : Gl X x := by rfl)
    (hdb : (x == ("__debug__" : Str)) = false := by decide) (he : starEach (e :: es) X.env = (false, eval e X.env) :: starEach es X.env := by rfl) (hpl : (backTo pos (starEach es X.env)).any (·.1) = false := by rfl) :
    PE X (.Call (.Name x p) (e :: es) [] pos) (tCallS (spD K C N ps.length Fn) (WE W) t) := by
  subst hK
  exact pe_callS A.ok (hr.mono hj) hg A.gl A.kp A.bd (passAt tk) ha hdb he hpl
theorem pe_fn0 (A : FnAt X.prog X.w K X.mg X.base C j f fd x N ps Fn) (hr : Room k X.A) (tk : Takes X W) (hK : X.K = K := by rfl) (hj : j ≤ k := by omega) (hg : Gl X x := by rfl)
    (hdb : (x == ("__debug__" : Str)) = false := by decide) :
    PE X (.Call (.Name x p) [] [] pos) (tCallS (spD K C N ps.length Fn) (WE W) tNil) := by
  subst hK
  exact pe_callS0 A.ok (hr.mono hj) hg A.gl A.kp A.bd (passAt tk) hdb
theorem pe_fldK {f : Str} {ta : TE} (K : PySem.W.Frag) (he : PE X e ta) (hb : attributeBase e f X.env (eval e X.env) = eval e X.env) (hK : X.K = K := by rfl) : PE X (.Attribute e f pos) (tFld K ta f) := by
  subst hK
  exact pe_fld he hb
end
end Dy

/-! The law's end: the script lent, the answer read. -/
namespace Dy
open PySem PyProof.Rows L2
theorem il_ints {K : PySem.W.Frag} {C : Nat → Addr} {H : Hp} {A : AP} : ∀ ns : List Int, OwnL K C H (ns.map D.int) (ns.map V.int) A
  | [] => .nil
  | n :: ns => .cons (A1 := Mt) (A2 := Mt) mt_sep sub_mt sub_mt (.int n) (il_ints ns)
/-- what is to be shown of the law's mirror -/
def LawYes (m : Nat) (Fn : SS → RS) : Prop := ∀ (c : List D → D) (ns : List Int), (c = D.lst ∨ c = D.fls) → ns.length ≤ 63 → (∀ z ∈ ns, Builtin.Int.intBits z ≤ 1048576) → ∃ s, Fn (.bor (c (ns.map D.int)) :: List.replicate m .no) = .ret (.bl true) s
theorem law_sp {K : PySem.W.Frag} {C : Nat → Addr} {N : List Str} {m : Nat} {Fn : SS → RS} {H : Hp} {a : Addr} {ns : List Int} {E : XK} (hN : N.length - 1 = m) (hS : SqL K H a (ns.map V.int)) (y : LawYes m Fn) (hl : ns.length ≤ 63) (hb : ∀ z ∈ ns, Builtin.Int.intBits z ≤ 1048576) :
    spD K C N 1 Fn [.ref a] H (fun v _ => v = .bl true) E := by
  refine ⟨rfl, ?_⟩
  have key : ∀ c : List D → D, (c = D.lst ∨ c = D.fls) → Own K C H (c (ns.map D.int)) (.ref a) (fun x => H x ≠ none) → ∃ Φ Λ π ss, Rel K C Φ Λ π ss (L2.start N [.ref a]) H ∧ PostS K C (fun cls da _ H => E cls da H) Φ Λ π H (dE fun v _ => v = .bl true) (Fn ss) := fun c hc o => by
    obtain ⟨s, e⟩ := y c ns hc hl hb
    refine ⟨fun x => H x ≠ none, fun _ => fun x => H x ≠ none, fun _ => none, _, ⟨fun _ => Mt, fun x h => h, fun _ => Sub.refl _, ?_, fun i v h => by (cases h), fun _ => al_mt, fun _ => sep_mt, fun _ _ _ => sep_mt, fun i s o' h1 h2 => ?_⟩, by rw [e]; exact fun v σ' H' B _ _ _ o => by (cases o; rfl)⟩
    · simp [L2.start, hN]
    · cases i with
      | zero => cases h1; cases h2; exact ⟨_, rfl, o⟩
      | succ i =>
        rw [List.getElem?_cons_succ, List.getElem?_replicate] at h1
        split at h1
        · cases h1; trivial
        · cases h1
  rcases hS with (h | ⟨o, h⟩) | h
  · exact key _ (.inl rfl) (.lst (by rw [h]; exact fun z => by cases z) h (il_ints ns))
  · exact key _ (.inr rfl) (.fls (.inl ⟨o, h⟩) (il_ints ns))
  · exact key _ (.inr rfl) (.fls (.inr h) (il_ints ns))
theorem cx_no {P : Program} {w : World} {H : Hp} {s : Shared} {e : Value} {s' : Shared} (h : L2.CX P w [] H s (fun _ _ _ => False) e s') : False := by
  obtain ⟨_, _, _, _, _, _, _, _, _, _, _, _, z⟩ := h
  exact z
theorem ex_at {K : PySem.W.Frag} {mg : Str → Option Value} {h : Heap} {x : Str} (X : K.In h) (G : h.Ns mainGlobals mg) (c : (He.Fa.exc x).ok K = true) (g : (He.Fa.glo x).ok K = true) : ExAt K mg (He.ga K x) x := by
  obtain ⟨c1, c2, c3, c4⟩ := He.exc_ok c
  exact ⟨c1, He.glo_ok X G g, c2, c3, c4⟩
end Dy

/-! What the mirrors' words make of known data. -/
namespace Dy
open PySem L2
theorem z_addI (i j : Int) : fAdd (.int i) (.int j) = some (.int (i + j)) := rfl
theorem z_mulI {i j : Int} (h : cMul i j = true) : fMul (.int i) (.int j) = some (.int (i * j)) := by
  simp [fMul, orF, fMulI, fIC, h]
theorem z_mulR {i j : Int} (h : -(2 ^ 64) < j ∧ j < 2 ^ 64) : fMul (.int i) (.int j) = some (.int (i * j)) := z_mulI (by
  simp only [cMul, Bool.or_eq_true, Bool.and_eq_true, dcd_eq]; exact .inr h)
theorem z_mulL {i j : Int} (h : -(2 ^ 64) < i ∧ i < 2 ^ 64) : fMul (.int i) (.int j) = some (.int (i * j)) := z_mulI (by
  simp only [cMul, Bool.or_eq_true, Bool.and_eq_true, dcd_eq]; exact .inl h)
theorem z_sub (i j : Int) : fSubI (.int i) (.int j) = some (.int (i - j)) := rfl
theorem z_lt (i j : Int) : fLt (.int i) (.int j) = some (.bl (decide (i < j))) := rfl
theorem z_le (i j : Int) : fLe (.int i) (.int j) = some (.bl (decide (i ≤ j))) := rfl
theorem z_gt (i j : Int) : fGt (.int i) (.int j) = some (.bl (decide (j < i))) := rfl
theorem z_ge (i j : Int) : fGe (.int i) (.int j) = some (.bl (decide (j ≤ i))) := rfl
theorem z_mod {i j : Int} (h : j ≠ 0) : fMod (.int i) (.int j) = some (.int (i.fmod j)) := by simp [fMod, fIC, cMod, h]
theorem z_div {i j : Int} (h : j ≠ 0) (h2 : j.natAbs < 1073741824) : fDiv (.int i) (.int j) = some (.int (i.fdiv j)) := by simp [fDiv, fIC, cDiv, h, h2]
theorem z_ixL (ds : List D) (i : Int) : fIx (.lst ds) (.int i) = atI ds i := by
  simp only [fIx, orF, fIxL, fIxT, fIxS, fDG]
  cases atI ds i <;> simp [dGet]
theorem z_ixT (ds : List D) (i : Int) : fIx (.tup ds) (.int i) = atI ds i := by
  simp only [fIx, orF, fIxL, fIxT, fIxS, fDG]
  cases atI ds i <;> simp [dGet]
theorem z_ixF (ds : List D) (i : Int) : fIx (.fls ds) (.int i) = atI ds i := by
  simp only [fIx, orF, fIxL, fIxT, fIxS, fDG]
  cases atI ds i <;> simp [dGet]
theorem z_imm : ∀ ns : List Int, immL (ns.map D.int) = true
  | [] => rfl
  | n :: ns => by simp [immL, imm, z_imm ns]
theorem z_dep : ∀ ns : List Int, depL (ns.map D.int) = 0
  | [] => rfl
  | n :: ns => by simp [depL, dep, z_dep ns]
theorem z_neNil {ds : List D} (h : depL ds ≤ 59) : fNe (.lst ds) (.lst []) = some (.bl (!ds.isEmpty)) := by
  have h1 : dep (.lst ds) ≤ 60 := by simp only [dep]; omega
  have h2 : dep (.lst []) ≤ 60 := by simp [dep, depL]
  unfold fNe
  rw [if_pos ⟨h1, h2⟩]
  cases ds <;> simp [eqD, eqDs]
theorem z_eqI (i j : Int) : fEq (.int i) (.int j) = some (.bl (decide (i = j))) := by
  simp only [fEq, dep]
  simp [eqD]
  rfl
theorem z_max2 (i j : Int) : fMax [.int i, .int j] = some (.int (max i j)) := rfl
theorem z_min2 (i j : Int) : fMin [.int i, .int j] = some (.int (min i j)) := rfl
theorem z_at {α : Type} {xs : List α} {i : Int} (h0 : 0 ≤ i) (h1 : i < xs.length) : atI xs i = xs[i.toNat]? := by
  simp [atI, ixN, h0, h1]
theorem z_ixN {n : Nat} {i : Int} (h0 : 0 ≤ i) (h1 : i < n) : ixN n i = some i.toNat := by simp [ixN, h0, h1]
theorem at0 {α : Type} (x : α) (xs : List α) : atI (x :: xs) 0 = some x := by
  have : (0 : Int) < ((x :: xs).length : Int) := by simp only [List.length_cons]; omega
  rw [z_at (by omega) this]; rfl
theorem at1 {α : Type} (x y : α) (xs : List α) : atI (x :: y :: xs) 1 = some y := by
  have : (1 : Int) < ((x :: y :: xs).length : Int) := by simp only [List.length_cons]; omega
  rw [z_at (by omega) this]; rfl
theorem at2 {α : Type} (x y z : α) (xs : List α) : atI (x :: y :: z :: xs) 2 = some z := by
  have : (2 : Int) < ((x :: y :: z :: xs).length : Int) := by simp only [List.length_cons]; omega
  rw [z_at (by omega) this]; rfl
theorem at3 {α : Type} (x y z w : α) (xs : List α) : atI (x :: y :: z :: w :: xs) 3 = some w := by
  have : (3 : Int) < ((x :: y :: z :: w :: xs).length : Int) := by simp only [List.length_cons]; omega
  rw [z_at (by omega) this]; rfl
theorem r_of {α : Type} (a : α) (s : SS) : R.of (some a) s = .ok a s := rfl
theorem r_bind {α β : Type} (a : α) (s : SS) (f : α → SS → R β) : (R.ok a s).bind f = f a s := rfl
theorem r_thn {α : Type} (a : α) (s : SS) (f : α → SS → RS) : (R.ok a s).thn f = f a s := rfl
theorem r_thnx {α : Type} (x : Xn) (s : SS) (f : α → SS → RS) : (R.exc x s : R α).thn f = .exc x s := rfl
theorem s_nx (s : SS) (f : SS → RS) : (RS.nx s).seq f = f s := rfl
theorem s_ret (d : D) (s : SS) (f : SS → RS) : (RS.ret d s).seq f = .ret d s := rfl
theorem s_exc (d : Xn) (s : SS) (f : SS → RS) : (RS.exc d s).seq f = .exc d s := rfl
theorem z_nx (s : SS) : nxO (some s) = .nx s := rfl
theorem on1_ (f : D → Option D) (d : D) : on1 f [d] = f d := rfl
theorem on2_ (f : D → D → Option D) (d e : D) : on2 f [d, e] = f d e := rfl
theorem z_asB (b : Bool) : asB (.bl b) = some b := rfl
theorem z_len (ds : List D) : fLen (.lst ds) = some (.int ds.length) := rfl
theorem z_lenT (ds : List D) : fLen (.tup ds) = some (.int ds.length) := rfl
theorem z_lenF (ds : List D) : fLen (.fls ds) = some (.int ds.length) := rfl
theorem z_pow18 : fPow (.int 10) (.int 18) = some (.int 1000000000000000000) := by
  simp [fPow, fIC, cPow, dcd_eq]
theorem z_setI {ds : List D} {i : Int} {d : D} (h0 : 0 ≤ i) (h1 : i < ds.length) : fSetI (.lst ds) (.int i) d = some (.lst (ds.set i.toNat d)) := by
  simp [fSetI, z_ixN h0 h1]
theorem z_lst0 : fLst [] = some (.lst []) := rfl
theorem z_empty {α β : Type} (f : α → β) (l : List α) : (l.map f).isEmpty = l.isEmpty := by cases l <;> rfl
theorem z_atI {ns : List Int} {i : Int} (h0 : 0 ≤ i) (h1 : i < ns.length) : atI (ns.map D.int) i = some (.int (ns.getD i.toNat 0)) := by
  have e : i.toNat < ns.length := by omega
  rw [z_at h0 (by rw [List.length_map]; exact h1), List.getElem?_map, List.getD_eq_getElem?_getD, List.getElem?_eq_getElem e]
  rfl
theorem z_set (ns : List Int) (i : Nat) (x : Int) : (ns.map D.int).set i (.int x) = (ns.set i x).map D.int := by
  rw [List.map_set]
theorem tn0 : Int.toNat 0 = 0 := rfl
theorem tn1 : Int.toNat 1 = 1 := rfl
theorem tn2 : Int.toNat 2 = 2 := rfl
theorem tn3 : Int.toNat 3 = 3 := rfl
theorem si0 (x d : D) (xs : List D) : fSetI (.lst (x :: xs)) (.int 0) d = some (.lst (d :: xs)) := by
  rw [z_setI (by omega) (by simp only [List.length_cons]; omega)]; rfl
theorem si1 (x y d : D) (xs : List D) : fSetI (.lst (x :: y :: xs)) (.int 1) d = some (.lst (x :: d :: xs)) := by
  rw [z_setI (by omega) (by simp only [List.length_cons]; omega)]; rfl
theorem si2 (x y z d : D) (xs : List D) : fSetI (.lst (x :: y :: z :: xs)) (.int 2) d = some (.lst (x :: y :: d :: xs)) := by
  rw [z_setI (by omega) (by simp only [List.length_cons]; omega)]; rfl
/-! loops -/
theorem for_inv {st : D → SS → Option SS} {body : SS → RS} {I : SS → Prop} : ∀ {ds : List D} {s : SS}, (∀ d ∈ ds, ∀ s, I s → ∃ s1 s2, st d s = some s1 ∧ body s1 = .nx s2 ∧ I s2) → I s → ∃ s', forL st body ds s = .nx s' ∧ I s'
  | [], s, _, h => ⟨s, rfl, h⟩
  | d :: ds, s, k, h => by
    obtain ⟨s1, s2, e1, e2, h2⟩ := k d (by simp) s h
    obtain ⟨s', e3, h3⟩ := for_inv (ds := ds) (fun d hd => k d (by simp [hd])) h2
    refine ⟨s', ?_, h3⟩
    unfold forL
    rw [e1]
    simp only
    rw [e2]
    exact e3
theorem for_ix {st : D → SS → Option SS} {body : SS → RS} {I : Nat → SS → Prop} : ∀ {ds : List D} {s : SS} {k : Nat}, (∀ j d, ds[j]? = some d → ∀ s, I (k + j) s → ∃ s1 s2, st d s = some s1 ∧ body s1 = .nx s2 ∧ I (k + j + 1) s2) → I k s → ∃ s', forL st body ds s = .nx s' ∧ I (k + ds.length) s'
  | [], s, k, _, h => ⟨s, rfl, h⟩
  | d :: ds, s, k, q, h => by
    obtain ⟨s1, s2, e1, e2, h2⟩ := q 0 d rfl s h
    obtain ⟨s', e3, h3⟩ := for_ix (ds := ds) (k := k + 1) (s := s2) (fun j d' hj s hs => by
      have := q (j + 1) d' (by simpa using hj) s (by rw [show k + (j + 1) = k + 1 + j by omega]; exact hs)
      rw [show k + (j + 1) + 1 = k + 1 + j + 1 by omega] at this
      exact this) h2
    refine ⟨s', ?_, ?_⟩
    · unfold forL
      rw [e1]
      simp only
      rw [e2]
      exact e3
    · rw [List.length_cons, show k + (ds.length + 1) = k + 1 + ds.length by omega]; exact h3
theorem isi_ii (i : Int) : fIsi (.int i) (.op (.ty "int")) = some (.bl true) := by simp [fIsi, tyN, tyB]
theorem isi_ib (i : Int) : fIsi (.int i) (.op (.ty "bool")) = some (.bl false) := by simp [fIsi, tyN, tyB]
theorem isi_is (i : Int) : fIsi (.int i) (.op (.ty "str")) = some (.bl false) := by simp [fIsi, tyN, tyB]
theorem isi_itl (i : Int) : fIsi (.int i) (.tup [.op (.ty "tuple"), .op (.ty "list")]) = some (.bl false) := by simp [fIsi, tyN, tyB]
theorem isi_ntl : fIsi .non (.tup [.op (.ty "tuple"), .op (.ty "list")]) = some (.bl false) := by simp [fIsi, tyN, tyB]
theorem isi_tt (ds : List D) : fIsi (.tup ds) (.op (.ty "tuple")) = some (.bl true) := by simp [fIsi, tyN, tyB]
theorem isN_n : fIsN .non .non = some (.bl true) := rfl
theorem isN_i (i : Int) : fIsN (.int i) .non = some (.bl false) := rfl
theorem tup2 : fTup [.op (.ty "tuple"), .op (.ty "list")] = some (.tup [.op (.ty "tuple"), .op (.ty "list")]) := rfl
theorem z_neL {a b : List Int} : fNe (.int 0) (.int 0) = some (.bl false) := by simp [fNe, dep, eqD]
theorem z_neI (i j : Int) : fNe (.int i) (.int j) = some (.bl (!decide (i = j))) := by
  simp only [fNe, dep]
  simp [eqD]
  rfl
/-! big steps -/
theorem seq_nx {F G : SS → RS} {s s1 : SS} {r : RS} (h : F s = .nx s1) (h2 : G s1 = r) : sSeq F G s = r := by
  unfold sSeq; rw [h]; exact h2
theorem seq_ret {F G : SS → RS} {s s1 : SS} {d : D} (h : F s = .ret d s1) : sSeq F G s = .ret d s1 := by
  unfold sSeq; rw [h]; rfl
theorem seq_exc {F G : SS → RS} {s s1 : SS} {d : Xn} (h : F s = .exc d s1) : sSeq F G s = .exc d s1 := by
  unfold sSeq; rw [h]; rfl
theorem e1_ev {α β : Type} {f : α → Option β} {F : SS → R α} {s s1 : SS} {a : α} {b : β} (h : F s = .ok a s1) (h2 : f a = some b) : e1 f F s = .ok b s1 := by
  unfold e1; rw [h]; show R.of (f a) s1 = _; rw [h2]; rfl
theorem for_run {ts : List Nat} {u : SS → SS} {it : SS → R (List D)} {st : D → SS → Option SS} {body : SS → RS} {s s1 s2 : SS} {ds : List D} (h : it s = .ok ds s1) (h2 : forL st body ds (clr ts s1) = .nx s2) : sFor ts u it st body s = .nx (u (clr ts s2)) := by
  unfold sFor; rw [h]; show RS.map _ (forL st body ds (clr ts s1)) = _; rw [h2]; rfl
theorem set_run {i : Nat} {F : SS → R D} {s s1 s2 : SS} {d : D} (h : F s = .ok d s1) (h2 : setSl i d s1 = some s2) : sSet i F s = .nx s2 := by
  unfold sSet; rw [h]; show nxO (setSl i d s1) = _; rw [h2]; rfl
theorem drop_run {F : SS → R D} {s s1 : SS} {d : D} (h : F s = .ok d s1) : sDrop F s = .nx s1 := by
  unfold sDrop; rw [h]; rfl
theorem ret_run {F : SS → R D} {s s1 : SS} {d : D} (h : F s = .ok d s1) : sRet F s = .ret d s1 := by
  unfold sRet; rw [h]; rfl
theorem if_run {T : SS → R Bool} {F G : SS → RS} {s s1 : SS} {b : Bool} (h : T s = .ok b s1) : sIf T F G s = if b = true then F s1 else G s1 := by
  unfold sIf; rw [h]; rfl
theorem while_inv {c : SS → R Bool} {body : SS → RS} {I : Nat → SS → Prop} {J : SS → Prop} (h : ∀ k s, I k s → (∃ s1, c s = .ok true s1 ∧ ∃ s2 k', body s1 = .nx s2 ∧ k' < k ∧ I k' s2) ∨ ∃ s1, c s = .ok false s1 ∧ J s1) :
    ∀ (n k : Nat) (s : SS), k < n → I k s → ∃ s', whL c body n s = .nx s' ∧ J s'
  | 0, k, s, hk, _ => by omega
  | n + 1, k, s, hk, hi => by
    rcases h k s hi with ⟨s1, e1, s2, k', e2, hlt, hi2⟩ | ⟨s1, e1, hj⟩
    · obtain ⟨s', e3, hj⟩ := while_inv h n k' s2 (by omega) hi2
      refine ⟨s', ?_, hj⟩
      unfold whL
      rw [e1]
      simp only [r_thn, if_true]
      rw [e2]
      exact e3
    · refine ⟨s1, ?_, hj⟩
      unfold whL
      rw [e1]
      rfl
theorem cmpL_inv {vs : List Nat} {st : D → SS → Option SS} {te : SS → R D} {I : SS → List D → Prop} : ∀ {ds : List D} {s : SS} {acc : List D}, (∀ d ∈ ds, ∀ s acc, I s acc → ∃ s1 y s3 s4, st d s = some s1 ∧ te s1 = .ok y s3 ∧ clrC vs s3 = some s4 ∧ I s4 (acc ++ [y])) → I s acc → acc.length + ds.length ≤ 1000000 →
    ∃ acc' s', cmpL vs st (tP fun _ => some true) te ds s acc = .ok acc' s' ∧ I s' acc' ∧ acc'.length = acc.length + ds.length
  | [], s, acc, _, hi, _ => ⟨acc, s, rfl, hi, rfl⟩
  | d :: ds, s, acc, h, hi, hl => by
    obtain ⟨s1, y, s3, s4, e1, e2, e3, hi2⟩ := h d (by simp) s acc hi
    rw [List.length_cons] at hl
    obtain ⟨acc', s', e4, hi3, hl3⟩ := cmpL_inv (ds := ds) (fun d hd => h d (by simp [hd])) hi2 (by rw [List.length_append, List.length_singleton]; omega)
    refine ⟨acc', s', ?_, hi3, by rw [hl3, List.length_append, List.length_singleton, List.length_cons]; omega⟩
    unfold cmpL
    rw [e1]
    show (if true = true then _ else _) = _
    rw [if_pos rfl, e2]
    simp only
    rw [e3]
    simp only
    rw [if_pos (by omega)]
    exact e4
theorem cmp_run {vs : List Nat} {u : SS → SS} {it : SS → R (List D)} {st : D → SS → Option SS} {tt : SS → R Bool} {te : SS → R D} {s s1 s0 s2 : SS} {ds acc : List D} (h : it s = .ok ds s1) (h0 : clrC vs s1 = some s0) (h2 : cmpL vs st tt te ds s0 [] = .ok acc s2) : eCmp vs u it st tt te s = .ok (.lst acc) (u (clr vs s2)) := by
  unfold eCmp
  rw [h]
  simp only
  rw [h0]
  simp only
  rw [h2]
theorem while_run {n : Nat} {c : SS → R Bool} {body : SS → RS} {s : SS} {r : RS} (h : whL c body n s = r) : sWhile n c body s = r := h
theorem eaC_run {F : SS → R D} {G : SS → R (List D)} {s s1 s2 : SS} {a : D} {r : List D} (h : F s = .ok a s1) (h2 : G s1 = .ok r s2) : eaC F G s = .ok (a :: r) s2 := by
  unfold eaC; rw [h]; show (G s1).bind _ = _; rw [h2]; rfl
theorem nl1 : (0 + 1 : Nat) = 1 := rfl
theorem nl2 : (0 + 1 + 1 : Nat) = 2 := rfl
theorem nl3 : (0 + 1 + 1 + 1 : Nat) = 3 := rfl
theorem nl4 : (0 + 1 + 1 + 1 + 1 : Nat) = 4 := rfl
theorem nc2 : ((2 : Nat) : Int) = 2 := rfl
theorem nc3 : ((3 : Nat) : Int) = 3 := rfl
theorem nc4 : ((4 : Nat) : Int) = 4 := rfl
theorem ix20 : ixN 2 0 = some 0 := rfl
theorem ix21 : ixN 2 1 = some 1 := rfl
theorem ix30 : ixN 3 0 = some 0 := rfl
theorem ix31 : ixN 3 1 = some 1 := rfl
theorem ix32 : ixN 3 2 = some 2 := rfl
theorem pCall_run {n m : Nat} {Fn : SS → RS} {G : SS → Option (List Ar)} {s : SS} {as bs : List Ar} {d : D} (h : G s = some as) (h2 : lnd as s = some bs) (h3 : pFn n m Fn bs = some d) : pCall n m Fn G s = some d := by
  unfold pCall; rw [h, Option.bind_some, h2, Option.bind_some, h3]
theorem p1_run {α β : Type} {f : α → Option β} {F : SS → Option α} {s : SS} {a : α} {b : β} (h : F s = some a) (h2 : f a = some b) : p1 f F s = some b := by
  unfold p1; rw [h, Option.bind_some, h2]
theorem p2_run {f : D → D → Option D} {F G : SS → Option D} {s : SS} {a b c : D} (h : F s = some a) (h2 : G s = some b) (h3 : f a b = some c) : p2 f F G s = some c := by
  unfold p2; rw [h, Option.bind_some, h2, Option.bind_some, h3]
theorem psC_run {F : SS → Option D} {G : SS → Option (List D)} {s : SS} {d : D} {r : List D} (h : F s = some d) (h2 : G s = some r) : psC F G s = some (d :: r) := by
  unfold psC; rw [h, h2]; rfl
theorem eN_run {F : SS → Option D} {s : SS} {d : D} (h : F s = some d) : eN F s = .ok d s := by
  unfold eN; rw [h]; rfl
end Dy

/-! Objects' methods and makes by name, slots cleared, dicts made. -/
namespace Dy
open PySem PyProof.Rows L2
/-- a def of a class: it keeps its promise -/
structure MtAt (P : Program) (w : World) (K : PySem.W.Frag) (mg : Str → Option Value) (base : Heap) (C : Nat → Addr) (k : Nat) (f : Addr) (fd : FuncData) (c : Nat) (x : Str) (N ps : List Str) (Fn : SS → RS) : Prop where
  ok : FnOk P w K mg base (L2.CX P w) k f fd ps (spD K C N ps.length Fn)
  cl : Cls K (C c)
  mt : Meth K (C c) x f
  bd : Binds K fd ps []
/-- a class by its __init__ -/
structure MkAt (P : Program) (w : World) (K : PySem.W.Frag) (mg : Str → Option Value) (base : Heap) (C : Nat → Addr) (k : Nat) (f : Addr) (fd : FuncData) (c : Nat) (x : Str) (N ps : List Str) (Fn : SS → RS) : Prop where
  ok : FnOk P w K mg base (L2.CX P w) k f fd ps (spD K C N ps.length Fn)
  mkr : Mk K (C c) f
  gl : mg x = some (.ref (C c))
  bd : Binds K fd ps []
section
variable {X : Cx} {K : PySem.W.Frag} {C : Nat → Addr} {c j k : Nat} {f : Addr} {fd : FuncData} {N ps : List Str} {Fn : SS → RS} {W : WX} {x : Str} {p pos apos : Pos} {e o : Expr} {es : List Expr} {t : TA} {ta : TE}
theorem pe_mt {pl : Sem Bool} (A : MtAt X.prog X.w K X.mg X.base C j f fd c x N ps Fn) (hr : Room k X.A) (tk : Takes X W) (he : PE X o ta) (ha : PA X (e :: es) t) (hK : X.K = K := by rfl) (hj : j ≤ k := by omega)
    (hst : starEach (e :: es) X.env = (false, eval e X.env) :: starEach es X.env := by rfl) (hpl : (backTo pos (starEach es X.env)).any (·.1) = false := by rfl)
    (ht : eval (.Call (.Attribute o x apos) (e :: es) [] pos) X.env = (do
      let ov ← eval o X.env
      standAt apos.atName
      let (f, first) ← holding [ov] (getMethod ov x pl)
      callWith pos f first (backTo pos (starEach (e :: es) X.env)) (backToKw pos (keywordEach [] X.env))) := by rfl) :
    PE X (.Call (.Attribute o x apos) (e :: es) [] pos) (tMethS (C c) x (spD K C N ps.length Fn) (WE W) ta t) := by
  subst hK
  exact pe_methE he A.cl A.mt A.ok (hr.mono hj) A.bd (passAt tk) ha hst hpl ht
theorem pe_mt0 {pl : Sem Bool} (A : MtAt X.prog X.w K X.mg X.base C j f fd c x N ps Fn) (hr : Room k X.A) (tk : Takes X W) (he : PE X o ta) (hK : X.K = K := by rfl) (hj : j ≤ k := by omega)
    (ht : eval (.Call (.Attribute o x apos) [] [] pos) X.env = (do
      let ov ← eval o X.env
      standAt apos.atName
      let (f, first) ← holding [ov] (getMethod ov x pl)
      callWith pos f first (backTo pos (starEach [] X.env)) (backToKw pos (keywordEach [] X.env))) := by rfl) :
    PE X (.Call (.Attribute o x apos) [] [] pos) (tMethS (C c) x (spD K C N ps.length Fn) (WE W) ta tNil) := by
  subst hK
  exact pe_methE0 he A.cl A.mt A.ok (hr.mono hj) A.bd (passAt tk) ht
theorem pe_mk (A : MkAt X.prog X.w K X.mg X.base C j f fd c x N ps Fn) (hr : Room k X.A) (tk : Takes X W) (ha : PA X (e :: es) t) (hK : X.K = K := by rfl) (hj : j + 1 ≤ k := by omega) (hg : Gl X x := by rfl)
    (hdb : (x == ("__debug__" : Str)) = false := by decide) (he : starEach (e :: es) X.env = (false, eval e X.env) :: starEach es X.env := by rfl) (hpl : (backTo pos (starEach es X.env)).any (·.1) = false := by rfl) :
    PE X (.Call (.Name x p) (e :: es) [] pos) (tMakeS (C c) (spD K C N ps.length Fn) (WE W) t) := by
  subst hK
  exact pe_makeE A.mkr A.ok (hr.mono hj) hg A.gl A.bd (passAt tk) ha hdb he hpl
theorem ps_fldK {fl : Str} {tv : TE} {v : Expr} {pos' : Pos} (K : PySem.W.Frag) (ha : PE X o ta) (hv : PE X v tv) (hs : swapsWith v (some (.Attribute o fl pos')) pos.line X.env = pure false := by rfl) (hK : X.K = K := by rfl) : PS X (.Assign [.Attribute o fl pos'] v pos) (sFld K ta tv fl) := by
  subst hK
  exact ps_fld ha hv hs
end
/-! ### slots cleared -/
abbrev WN : Nat := 100000
def sClr (ts : List Nat) (F : SS → RS) : SS → RS := fun s => RS.map (clr ts) (F s)
section
variable {K : PySem.W.Frag} {C : Nat → Addr} {W : WX} {Φ : AP} {Λ : Nat → AP} {π : Nat → Option V} {ss : SS} {σ : L2.St} {H H' : Hp}
theorem Rel.clr0 (ts : List Nat) (r : Rel K C Φ Λ π ss σ H) : Rel K C Φ Λ π (Dy.clr ts ss) σ H := r.clr (fun _ _ => rfl) r.psi
theorem ss_clr {t : TS} {F : SS → RS} (ts : List Nat) (h : SimS K C W t F) : SimS K C W t (sClr ts F) := fun Φ Λ π ss σ H E r p => by
  unfold sClr at p
  refine h Φ Λ π ss σ H E r ?_
  cases q : F ss with
  | stuck => rw [q] at p; exact p
  | nx s => rw [q] at p; exact fun σ' H' k r' => p σ' H' k (r'.clr0 ts)
  | brk s => rw [q] at p; exact fun σ' H' k r' => p σ' H' k (r'.clr0 ts)
  | ct s => rw [q] at p; exact fun σ' H' k r' => p σ' H' k (r'.clr0 ts)
  | ret d s => rw [q] at p; exact fun v σ' H' B k r' => p v σ' H' B k (r'.clr0 ts)
  | exc x s => rw [q] at p; exact fun σ' H' cls da k r' => p σ' H' cls da k (r'.clr0 ts)
/-! ### an operator beside what happens -/
/-- x op e: x a slot's, read behind -/
def e2v (f : D → D → Option D) (i : Nat) (G : SS → R D) : SS → R D := fun s => match valAt i s with
  | some _ => (G s).bind fun b s2 => R.of ((valAt i s2).bind fun a => f a b) s2
  | none => .stuck
theorem se_opV {r : R2} {f : D → D → Option D} {tb : TE} {G : SS → R D} (i : Nat) (ho : OpS K C r f) (hb : SimE K C W tb G) : SimE K C W (tOp r (tVar i) tb) (e2v f i G) := fun Φ Λ π ss σ H Q rel p => by
  unfold e2v at p
  cases e : valAt i ss with
  | none => rw [e] at p; exact p.elim
  | some d =>
    rw [e] at p
    obtain ⟨v, A, e1, al, o⟩ := rel.val e
    refine ⟨v, e1, hb Φ Λ π ss σ H _ rel ?_⟩
    have p' : PostE K C W Φ Λ π σ H Q ((G ss).bind fun b s2 => R.of ((valAt i s2).bind fun a => f a b) s2) := p
    cases eb : G ss with
    | stuck => rw [eb] at p'; exact p'
    | exc x s => rw [eb] at p'; exact p'
    | ok b s2 =>
      rw [eb] at p'
      intro u H2 B2 k2 r2 sp2 o2
      have p2 : PostE K C W Φ Λ π σ H Q (R.of ((valAt i s2).bind fun a => f a b) s2) := p'
      cases e2 : valAt i s2 with
      | none => rw [e2] at p2; exact p2.elim
      | some a =>
        rw [e2] at p2
        simp only [Option.bind_some] at p2
        obtain ⟨v', A', e1', al', o'⟩ := r2.val e2
        rw [e1] at e1'; cases e1'
        cases ez : f a b with
        | none => rw [ez] at p2; exact p2.elim
        | some z =>
          rw [ez] at p2
          have q4 := r2.shrink cup_l rel.psi
          exact ho H2 v u a b z Q ⟨A', al', o'⟩ ⟨B2, r2.al.mono cup_r, o2⟩ ez fun w H3 B s3 fr al o => p2 w H3 B (k2.trans (Keep.of s3)) (q4.grow s3 fr al) ((fr_sep fr q4.al).symm) o
/-- e op x: x without doing anything -/
def e2p (f : D → D → Option D) (F : SS → R D) (G : SS → Option D) : SS → R D := fun s => (F s).bind fun a s1 => R.of ((G s1).bind fun b => f a b) s1
theorem se_opR {r : R2} {f : D → D → Option D} {ta tb : TE} {F : SS → R D} {G : SS → Option D} (ho : OpS K C r f) (ha : SimE K C W ta F) (hb : SimP K C tb G) : SimE K C W (tOp r ta tb) (e2p f F G) := fun Φ Λ π ss σ H Q rel p => by
  unfold e2p at p
  refine ha Φ Λ π ss σ H _ rel ?_
  cases ea : F ss with
  | stuck => rw [ea] at p; exact p
  | exc x s => rw [ea] at p; exact p
  | ok x s1 =>
    rw [ea] at p
    intro v H1 B1 k1 r1 sp1 o1
    have p' : PostE K C W Φ Λ π σ H Q (R.of ((G s1).bind fun b => f x b) s1) := p
    cases eb : G s1 with
    | none => rw [eb] at p'; exact p'.elim
    | some y =>
      rw [eb] at p'
      simp only [Option.bind_some] at p'
      refine hb (Cup Φ B1) Λ π s1 σ H1 _ y r1 eb fun u H2 s2 ru => ?_
      cases ez : f x y with
      | none => rw [ez] at p'; exact p'.elim
      | some z =>
        rw [ez] at p'
        have q4 := r1.shrink cup_l rel.psi
        exact ho H2 v u x y z Q ⟨B1, (r1.al.mono cup_r).same s2, o1.same s2⟩ ru ez fun w H3 B s3 fr al o => p' w H3 B ((k1.trans (Keep.of s2)).trans (Keep.of s3)) ((q4.same s2).grow s3 fr al) ((fr_sep fr (q4.same s2).al).symm) o
theorem se_notV {ta : TE} {F : SS → R D} (h : SimE K C W ta F) : SimE K C W (tNotV ta) (eBl (rNot (e1 asB F))) := fun Φ Λ π ss σ H Q r p => by
  unfold eBl rNot e1 at p
  refine h Φ Λ π ss σ H _ r ?_
  cases q : F ss with
  | stuck => rw [q] at p; exact p
  | exc x s => rw [q] at p; exact p
  | ok d s1 =>
    rw [q] at p
    intro v H1 B1 k1 r1 sp1 o1
    cases eb : asB d with
    | none => simp [eb, R.bind, R.of] at p; exact p.elim
    | some b =>
      refine ⟨b, own_bl o1 eb, ?_⟩
      simp only [eb, R.bind, R.of] at p
      exact p _ H1 Mt k1 (r1.shrink cup_l r.psi).mt sep_mt (.bl _)
theorem se_orV {ta tb : TE} {F G : SS → R D} (h : SimE K C W ta F) (g : SimE K C W tb G) : SimE K C W (tOrV ta tb) (eBl (rOr' (e1 asB F) (e1 asB G))) := fun Φ Λ π ss σ H Q r p => by
  unfold eBl rOr' e1 at p
  refine h Φ Λ π ss σ H _ r ?_
  cases q : F ss with
  | stuck => rw [q] at p; exact p
  | exc x s => rw [q] at p; exact p
  | ok d s1 =>
    rw [q] at p
    intro v H1 B1 k1 r1 sp1 o1
    cases eb : asB d with
    | none => simp [eb, R.bind, R.of] at p; exact p.elim
    | some b =>
      refine ⟨b, own_bl o1 eb, ?_⟩
      simp only [eb, R.bind, R.of] at p
      have r1' := r1.shrink cup_l r.psi
      split
      · rename_i z
        rw [if_pos z] at p
        exact p _ H1 Mt k1 r1'.mt sep_mt (.bl true)
      · rename_i z
        rw [if_neg z] at p
        refine g Φ Λ π s1 σ H1 _ r1' ?_
        cases q2 : G s1 with
        | stuck => rw [q2] at p; exact p
        | exc x s => rw [q2] at p; exact PostX.seq p k1
        | ok y s2 =>
          rw [q2] at p
          intro u H2 B2 k2 r2 sp2 o2
          cases eb2 : asB y with
          | none => simp only [eb2] at p; exact p.elim
          | some c =>
            simp only [eb2] at p
            rw [own_bl o2 eb2]
            exact p _ H2 Mt (k1.trans k2) (r2.shrink cup_l r.psi).mt sep_mt (.bl c)
/-- a, b, c = e1, e2, e3 -/
def sPar3 (i j l : Nat) (F : SS → R (List D)) : SS → RS := fun s => (F s).thn fun ds s1 => match ds with
  | [d, e, g] => nxO (((setSl i d s1).bind (setSl j e)).bind (setSl l g))
  | _ => .stuck
theorem ss_par3 {i j l : Nat} {ta : TA} {F : SS → R (List D)} (h : SimA K C W ta F) : SimS K C W (tPar3 i j l ta) (sPar3 i j l F) := fun Φ Λ π ss σ H E r p => by
  unfold sPar3 at p
  refine h Φ Λ π ss σ H _ r ?_
  cases q : F ss with
  | stuck => rw [q] at p; exact p
  | exc x s => rw [q] at p; exact fun H' cls da => p σ H' cls da
  | ok ds s1 =>
    rw [q] at p
    intro vs H1 B1 k1 r1 sp1 o1
    cases o1 with
    | nil => exact p.elim
    | cons a b c x y =>
      cases y with
      | nil => exact p.elim
      | cons a2 b2 c2 x2 y2 =>
        cases y2 with
        | nil => exact p.elim
        | cons a3 b3 c3 x3 y3 =>
        cases y3 with
        | cons _ _ _ _ _ => exact p.elim
        | nil =>
          rename_i A1 A2 d v A3 A4 e w A5 A6 g u
          have p' : PostS K C W Φ Λ π H E (nxO (((setSl i d s1).bind (setSl j e)).bind (setSl l g))) := p
          cases e1 : setSl i d s1 with
          | none => rw [e1] at p'; exact p'.elim
          | some s2 =>
            rw [e1] at p'
            simp only [Option.bind_some] at p'
            cases e2 : setSl j e s2 with
            | none => rw [e2] at p'; exact p'.elim
            | some s3 =>
              rw [e2] at p'
              simp only [Option.bind_some] at p'
              cases e3 : setSl l g s3 with
              | none => rw [e3] at p'; exact p'.elim
              | some s4 =>
                rw [e3] at p'
                obtain ⟨z, h1, h2, rfl⟩ := setSl_ok e1
                obtain ⟨z', h1', h2', rfl⟩ := setSl_ok e2
                obtain ⟨z'', h1'', h2'', rfl⟩ := setSl_ok e3
                refine ⟨v, w, u, rfl, p' _ H1 k1 ?_⟩
                have c4 : Sub A5 A2 := b3.trans c2
                have r2 : Rel K C (Cup (Cup (Cup Φ A5) A3) A1) Λ π s1 σ H1 := r1.shrink (cup_sub (cup_sub (cup_sub cup_l ((c4.trans c).trans cup_r)) ((b2.trans c).trans cup_r)) (b.trans cup_r)) fun i => (r.psi i).trans ((cup_l.trans cup_l).trans cup_l)
                have r3 := r2.put h1 h2 (((sp1.mono b (Sub.refl _)).cup (a.mono (Sub.refl _) c4)).cup (a.mono (Sub.refl _) b2)) (fun i => (r.psi i).trans (cup_l.trans cup_l)) x
                have r4 := r3.put h1' h2' ((sp1.mono (b2.trans c) (Sub.refl _)).cup (a2.mono (Sub.refl _) b3)) (fun i => (r.psi i).trans cup_l) x2
                exact r4.put h1'' h2'' (sp1.mono (c4.trans c) (Sub.refl _)) r.psi x3
/-! ### -x -/
def fNeg (d : D) : Option D := match d with
  | .int i => some (.int (-i))
  | _ => none
theorem us_neg : UnS K C (rU fun i => .int (-i)) fNeg := fun H x dx z Q rb e k => by
  cases dx <;> simp [fNeg] at e
  subst e
  rw [rb_int rb]
  exact ⟨_, rfl, k _ H Mt (Same.refl H) fr_mt al_mt (.int _)⟩
/-! ### dicts made -/
/-- {"a": e, ..}: keys of their own, texts -/
inductive SimD (K : PySem.W.Frag) (C : Nat → Addr) (W : WX) : List (TE × TE) → List Key → (SS → R (List D)) → Prop
  | nil : SimD K C W [] [] eaN
  | cons {te : TE} {F : SS → R D} {trs : List (TE × TE)} {ks : List Key} {G : SS → R (List D)} (k : Key) : SimE K C W te F → SimD K C W trs ks G → SimD K C W ((tC (kV k), te) :: trs) (k :: ks) (eaC F G)
theorem SimD.run : ∀ {trs : List (TE × TE)} {ks : List Key} {F : SS → R (List D)}, SimD K C W trs ks F → ∀ Φ Λ π ss σ H (Q : List (V × V) → Hp → Prop), Rel K C Φ Λ π ss σ H → PostA K C W Φ Λ π σ H (fun vs H' => ks.length = vs.length → Q ((ks.zip vs).map fun q => (kV q.1, q.2)) H') (F ss) → tPairs trs σ H Q
  | _, _, _, .nil, Φ, Λ, π, ss, σ, H, Q, r, p => (p [] H Mt (Keep.refl _ _) r.mt sep_mt .nil rfl : Q [] H)
  | _, _, _, .cons (te := te) (F := F) (trs := trs) (ks := ks) (G := G) k ha hr, Φ, Λ, π, ss, σ, H, Q, rel, p => by
    show te σ H fun y H2 => tPairs trs σ H2 fun ps H3 => Q ((kV k, y) :: ps) H3
    unfold eaC at p
    refine ha Φ Λ π ss σ H _ rel ?_
    cases ea : F ss with
    | stuck => rw [ea] at p; exact p
    | exc x s => rw [ea] at p; exact p
    | ok x s1 =>
      rw [ea] at p
      intro v H1 B1 k1 r1 sp1 o1
      refine hr.run (Cup Φ B1) Λ π s1 σ H1 _ r1 ?_
      have p' : PostA K C W Φ Λ π σ H (fun vs H' => (k :: ks).length = vs.length → Q (((k :: ks).zip vs).map fun q => (kV q.1, q.2)) H') ((G s1).bind fun b s2 => .ok (x :: b) s2) := p
      cases eb : G s1 with
      | stuck => rw [eb] at p'; exact p'
      | exc x s => rw [eb] at p'; exact PostX.more p' k1 rel.psi
      | ok y s2 =>
        rw [eb] at p'
        intro us H2 B2 k2 r2 sp2 o2 hl
        refine p' (v :: us) H2 (Cup B1 B2) (k1.trans (k2.mono cup_l)) (r2.eqv ?_ ?_) (sp1.cupl (sp2.mono (Sub.refl _) cup_l)) ?_ (by simp [hl])
        · exact cup_sub (cup_sub cup_l (cup_l.trans cup_r)) (cup_r.trans cup_r)
        · exact cup_sub (cup_l.trans cup_l) (cup_sub (cup_r.trans cup_l) cup_r)
        · exact .cons (A1 := B1) (A2 := B2) (sp2.mono (Sub.refl _) cup_r).symm cup_l cup_r (o1.keep (k2.mono cup_r)) o2
theorem putK_new {κ : Type} [DecidableEq κ] {kvs : List (κ × V)} {k : κ} {v : V} (h : k ∉ kvs.map (·.1)) : putK kvs k v = kvs ++ [(k, v)] := by
  unfold putK
  rw [if_neg]
  intro z
  rw [List.any_eq_true] at z
  obtain ⟨x, hx, e⟩ := z
  exact h (List.mem_map.mpr ⟨x, hx, of_decide_eq_true e⟩)
theorem mergeK_nodup : ∀ {more kvs : List (Key × V)}, (more.map (·.1)).Nodup → (∀ k ∈ more.map (·.1), k ∉ kvs.map (·.1)) → mergeK kvs more = kvs ++ more
  | [], kvs, _, _ => by simp [mergeK]
  | x :: more, kvs, hn, hd => by
    have e1 : mergeK kvs (x :: more) = mergeK (putK kvs x.1 x.2) more := rfl
    rw [List.map_cons, List.nodup_cons] at hn
    rw [e1, putK_new (hd x.1 (by simp)), mergeK_nodup hn.2 fun k hk z => ?_]
    · rw [List.append_assoc]; rfl
    · rw [List.map_append, List.mem_append] at z
      rcases z with z | z
      · exact hd k (by simp [hk]) z
      · simp at z; subst z; exact hn.1 hk
theorem zip_keys : ∀ {ks : List Key} {vs : List V}, ks.length = vs.length → (ks.zip vs).map (·.1) = ks := fun h => zip_fst h
def eDisp (ks : List Key) (F : SS → R (List D)) : SS → R D := fun s => (F s).bind fun ds s1 => if ks.length = ds.length then .ok (.dk ks ds) s1 else .stuck
theorem se_disp {trs : List (TE × TE)} {ks : List Key} {F : SS → R (List D)} (h : SimD K C W trs ks F) (hn : ks.Nodup) (hl : ks.length ≤ 15) : SimE K C W (tDisp trs) (eDisp ks F) := fun Φ Λ π ss σ H Q rel p => by
  unfold eDisp at p
  intro q hq
  have s0 : Same H (upd H q (.dK [])) := same_upd hq
  have frq : Fr H (One q) := fun b hb => by rw [show b = q from hb]; exact hq
  have alq : Al (upd H q (.dK [])) (One q) := fun b hb => by rw [show b = q from hb, upd_same]; exact fun z => by cases z
  have r0 := rel.grow s0 frq alq
  have spq : Sep (One q) Φ := (fr_sep frq rel.al).symm
  refine h.run (Cup Φ (One q)) Λ π ss σ _ _ r0 ?_
  cases ea : F ss with
  | stuck => rw [ea] at p; exact p
  | exc x s =>
    rw [ea] at p
    have p' : PostX K C W Φ Λ π σ H x s := p
    exact p'.more (Keep.of s0) rel.psi
  | ok ds s1 =>
    rw [ea] at p
    intro vs H1 B1 k1 r1 sp1 o1 hlen
    have p' : PostE K C W Φ Λ π σ H Q (if ks.length = ds.length then .ok (.dk ks ds) s1 else .stuck) := p
    by_cases hd : ks.length = ds.length
    · rw [if_pos hd] at p'
      have eq1 : H1 q = some (.dK []) := k1.k q _ (.inr rfl) upd_same
      have hm : mergeK [] (ks.zip vs) = ks.zip vs := by
        have := mergeK_nodup (more := ks.zip vs) (kvs := []) (by rw [zip_keys hlen]; exact hn) (by simp)
        simpa using this
      refine ⟨eq1, ks.zip vs, rfl, by rw [List.length_zip]; omega, ?_⟩
      rw [hm]
      have nB : ¬ B1 q := fun z => sp1 q z (.inr rfl)
      have kq : ∀ R : AP, ¬ R q → Keep R H1 (upd H1 q (.dK (ks.zip vs))) := fun R n => keep_upd eq1 (fun _ z => by cases z) (fun _ _ z => by cases z) n
      have hΦq : ¬ Φ q := fun z => spq q rfl z
      have kΦ : Keep Φ H (upd H1 q (.dK (ks.zip vs))) := ((Keep.of s0).trans (k1.mono cup_l)).trans (kq Φ hΦq)
      obtain ⟨As, a⟩ := r1
      have rel2 : Rel K C (Cup Φ (Cup B1 (One q))) Λ π s1 σ (upd H1 q (.dK (ks.zip vs))) := by
        have nq : ∀ i, ¬ As i q := fun i z => a.af i q z (.inl (.inr rfl))
        refine ⟨As, fun b hb => upd_grow b (a.al b ?_), fun i => (rel.psi i).trans cup_l, a.len, a.pin, fun i b hb => upd_grow b (a.aa i b hb), fun i => (a.af i).mono (Sub.refl _) ?_, a.ap, fun i s o e1 e2 => (a.ok i s o e1 e2).keep (kq _ (nq i)) (kq _ fun z => hΦq (rel.psi i q z))⟩
        · rcases hb with hb | hb | hb
          · exact .inl (.inl hb)
          · exact .inr hb
          · exact .inl (.inr hb)
        · exact cup_sub (cup_l.trans cup_l) (cup_sub cup_r (cup_r.trans cup_l))
      refine p' _ _ (Cup B1 (One q)) kΦ rel2 ((sp1.mono (Sub.refl _) cup_l).cupl spq) (.dk (vs := vs) (.inr rfl) hd upd_same ((o1.keep (kq B1 nB)).mono fun b hb => ⟨.inl hb, fun z => nB (by rw [← z]; exact hb)⟩))
    · rw [if_neg hd] at p'; exact p'.elim
/-- {} -/
theorem sf_dnewK : SimF K C tDNewK (fC (.dk [] [])) := fun Φ Λ π ss σ H Q d r e k => by
  cases e
  intro p hp
  exact k _ _ (One p) (same_upd hp) (one_fr hp) one_al (.dk (vs := []) rfl rfl upd_same .nil)
theorem sf_dnewT : SimF K C tDNewT (fC (.dt [] [])) := fun Φ Λ π ss σ H Q d r e k => by
  cases e
  intro p hp
  exact k _ _ (One p) (same_upd hp) (one_fr hp) one_al (.dt (vs := []) rfl rfl upd_same .nil)
end
end Dy

/-! Evaluation of the mirrors, further. -/
namespace Dy
open PySem L2
theorem m_nx (f : SS → SS) (s : SS) : RS.map f (.nx s) = .nx (f s) := rfl
theorem m_ret (f : SS → SS) (d : D) (s : SS) : RS.map f (.ret d s) = .ret d (f s) := rfl
theorem m_exc (f : SS → SS) (d : Xn) (s : SS) : RS.map f (.exc d s) = .exc d (f s) := rfl
theorem m_brk (f : SS → SS) (s : SS) : RS.map f (.brk s) = .brk (f s) := rfl
theorem m_ct (f : SS → SS) (s : SS) : RS.map f (.ct s) = .ct (f s) := rfl
theorem s_brk (s : SS) (f : SS → RS) : (RS.brk s).seq f = .brk s := rfl
theorem s_ct (s : SS) (f : SS → RS) : (RS.ct s).seq f = .ct s := rfl
theorem c_nil (s : SS) : clr [] s = s := rfl
theorem c_cons (i : Nat) (is : List Nat) (s : SS) : clr (i :: is) s = clr is (clr1 i s) := rfl
theorem ite_seq {c : Prop} [Decidable c] (a b : RS) (f : SS → RS) : (if c then a else b).seq f = if c then a.seq f else b.seq f := by split <;> rfl
theorem ite_map {c : Prop} [Decidable c] (a b : RS) (f : SS → SS) : RS.map f (if c then a else b) = if c then RS.map f a else RS.map f b := by split <;> rfl
theorem ite_bind {α β : Type} {c : Prop} [Decidable c] (a b : R α) (f : α → SS → R β) : (if c then a else b).bind f = if c then a.bind f else b.bind f := by split <;> rfl
theorem ite_thn {α : Type} {c : Prop} [Decidable c] (a b : R α) (f : α → SS → RS) : (if c then a else b).thn f = if c then a.thn f else b.thn f := by split <;> rfl
theorem seq_assoc (F G J : SS → RS) : sSeq (sSeq F G) J = sSeq F (sSeq G J) := by
  funext s; unfold sSeq
  cases F s <;> rfl
/-! ### tuples, lists by typed items -/
theorem imm_mapL {α : Type} {f : α → D} (h : ∀ x, imm (f x) = true) (l : List α) : immL (l.map f) = true := by
  rw [immL_iff]; intro d hd; obtain ⟨x, _, rfl⟩ := List.mem_map.mp hd; exact h x
/-- a shape of at most n, all data -/
def shp : Nat → D → Bool
  | _, .non => true
  | _, .bl _ => true
  | _, .int _ => true
  | _, .str s => PyData.strOk s
  | n + 1, .tup ds => ds.attach.all fun ⟨d, _⟩ => shp n d
  | n + 1, .lst ds => ds.attach.all fun ⟨d, _⟩ => shp n d
  | _, _ => false
theorem shp_tup (n : Nat) (ds : List D) : shp (n + 1) (.tup ds) = ds.all (shp n) := by
  rw [shp]; simp
theorem shp_lst (n : Nat) (ds : List D) : shp (n + 1) (.lst ds) = ds.all (shp n) := by
  rw [shp]; simp
theorem shp_non (n : Nat) : shp n .non = true := by cases n <;> rfl
theorem shp_bl (n : Nat) (b : Bool) : shp n (.bl b) = true := by cases n <;> rfl
theorem shp_int (n : Nat) (i : Int) : shp n (.int i) = true := by cases n <;> rfl
theorem shp_str (n : Nat) (s : Str) : shp n (.str s) = PyData.strOk s := by cases n <;> rfl
theorem shp_map {α : Type} {f : α → D} {n : Nat} (h : ∀ x, shp n (f x) = true) (l : List α) : (l.map f).all (shp n) = true := by
  rw [List.all_map, List.all_eq_true]; intro x _; exact h x
theorem depL_le {ds : List D} {n : Nat} (h : ∀ d ∈ ds, dep d ≤ n) : depL ds ≤ n := by
  induction ds with
  | nil => simp [depL]
  | cons d ds ih =>
    have h1 := h d (by simp)
    have h2 := ih fun e he => h e (by simp [he])
    simp only [depL]; omega
theorem shp_dep : ∀ {n : Nat} {d : D}, shp n d = true → dep d ≤ n
  | n, .non, _ => by simp [dep]
  | n, .bl _, _ => by simp [dep]
  | n, .int _, _ => by simp [dep]
  | n, .str s, h => by
    have h' : PyData.strOk s = true := by simpa [shp] using h
    simp [dep, h']
  | n + 1, .tup ds, h => by
    rw [shp_tup, List.all_eq_true] at h
    have := depL_le (ds := ds) (n := n) fun d hd => shp_dep (h d hd)
    simp only [dep]; omega
  | n + 1, .lst ds, h => by
    rw [shp_lst, List.all_eq_true] at h
    have := depL_le (ds := ds) (n := n) fun d hd => shp_dep (h d hd)
    simp only [dep]; omega
  | 0, .tup _, h => by simp [shp] at h
  | 0, .lst _, h => by simp [shp] at h
  | _, .fls _, h => by simp [shp] at h
  | _, .op _, h => by simp [shp] at h
  | _, .dk _ _, h => by simp [shp] at h
  | _, .dt _ _, h => by simp [shp] at h
  | _, .ob _ _ _, h => by simp [shp] at h
theorem eqDs_self {ds : List D} (h : ∀ d ∈ ds, eqD d d = true) : eqDs ds ds = true := by
  induction ds with
  | nil => rfl
  | cons d ds ih => simp only [eqDs, h d (by simp), ih fun e he => h e (by simp [he]), Bool.and_self]
theorem shp_self : ∀ {n : Nat} {d : D}, shp n d = true → eqD d d = true
  | n, .non, _ => rfl
  | n, .bl b, _ => by simp [eqD]
  | n, .int _, _ => by simp [eqD]
  | n, .str s, h => by simp [eqD]
  | n + 1, .tup ds, h => by
    rw [shp_tup, List.all_eq_true] at h
    rw [eqD]; exact eqDs_self fun d hd => shp_self (h d hd)
  | n + 1, .lst ds, h => by
    rw [shp_lst, List.all_eq_true] at h
    rw [eqD]; exact eqDs_self fun d hd => shp_self (h d hd)
  | 0, .tup _, h => by simp [shp] at h
  | 0, .lst _, h => by simp [shp] at h
  | _, .fls _, h => by simp [shp] at h
  | _, .op _, h => by simp [shp] at h
  | _, .dk _ _, h => by simp [shp] at h
  | _, .dt _ _, h => by simp [shp] at h
  | _, .ob _ _ _, h => by simp [shp] at h
theorem z_eq {a b : D} (h1 : shp 60 a = true) (h2 : shp 60 b = true) : fEq a b = some (.bl (eqD a b)) := by
  unfold fEq; rw [if_pos ⟨shp_dep h1, shp_dep h2⟩]
theorem z_ne {a b : D} (h1 : shp 60 a = true) (h2 : shp 60 b = true) : fNe a b = some (.bl (!eqD a b)) := by
  unfold fNe; rw [if_pos ⟨shp_dep h1, shp_dep h2⟩]
theorem z_eqS {a : D} (h1 : shp 60 a = true) : fEq a a = some (.bl true) := by rw [z_eq h1 h1, shp_self h1]
theorem z_neS {a : D} (h1 : shp 60 a = true) : fNe a a = some (.bl false) := by rw [z_ne h1 h1, shp_self h1]; rfl
theorem eqDs_map {α : Type} [DecidableEq α] {f : α → D} (h : ∀ x y, eqD (f x) (f y) = decide (x = y)) : ∀ xs ys : List α, eqDs (xs.map f) (ys.map f) = decide (xs = ys)
  | [], [] => rfl
  | [], y :: ys => by simp [eqDs]
  | x :: xs, [] => by simp [eqDs]
  | x :: xs, y :: ys => by
    rw [List.map_cons, List.map_cons, eqDs, h, eqDs_map h xs ys]
    by_cases h1 : x = y <;> by_cases h2 : xs = ys <;> simp [h1, h2]
theorem eqD_int (i j : Int) : eqD (.int i) (.int j) = decide (i = j) := by
  simp only [eqD]; by_cases h : i = j <;> simp [h]
theorem any_map {α : Type} [DecidableEq α] {f : α → D} (h : ∀ x y, eqD (f x) (f y) = decide (x = y)) (xs : List α) (y : α) [Decidable (y ∈ xs)] : ((xs.map f).any fun z => eqD z (f y)) = decide (y ∈ xs) := by
  have key : ((xs.map f).any fun z => eqD z (f y)) = true ↔ y ∈ xs := by
    rw [List.any_map, List.any_eq_true]
    constructor
    · rintro ⟨x, hx, e⟩
      have e' : eqD (f x) (f y) = true := e
      rw [h] at e'
      rw [← of_decide_eq_true e']; exact hx
    · intro hy
      refine ⟨y, hy, ?_⟩
      show eqD (f y) (f y) = true
      rw [h]; simp
  rw [Bool.eq_iff_iff, key]; simp
/-- the empty list asked -/
theorem z_eNil {ds : List D} (h : ds.all (shp 59) = true) : fEq (.lst ds) (.lst []) = some (.bl ds.isEmpty) := by
  rw [z_eq (by rw [shp_lst]; exact h) (by rw [shp_lst]; rfl)]
  cases ds <;> simp [eqD, eqDs]
theorem z_nNil {ds : List D} (h : ds.all (shp 59) = true) : fNe (.lst ds) (.lst []) = some (.bl (!ds.isEmpty)) := by
  rw [z_ne (by rw [shp_lst]; exact h) (by rw [shp_lst]; rfl)]
  cases ds <;> simp [eqD, eqDs]
theorem z_eNil' {ds : List D} (h : ds.all (shp 59) = true) : fEq (.tup ds) (.tup []) = some (.bl ds.isEmpty) := by
  rw [z_eq (by rw [shp_tup]; exact h) (by rw [shp_tup]; rfl)]
  cases ds <;> simp [eqD, eqDs]
theorem z_nNil' {ds : List D} (h : ds.all (shp 59) = true) : fNe (.tup ds) (.tup []) = some (.bl (!ds.isEmpty)) := by
  rw [z_ne (by rw [shp_tup]; exact h) (by rw [shp_tup]; rfl)]
  cases ds <;> simp [eqD, eqDs]
theorem shp_ints (n : Nat) (ns : List Int) : (ns.map D.int).all (shp n) = true := shp_map (fun x => shp_int n x) ns
/-! + * of known kinds -/
theorem z_addL {a b : List D} (h1 : immL a = true) (h2 : immL b = true) (h : a.length + b.length ≤ 1000000) : fAdd (.lst a) (.lst b) = some (.lst (a ++ b)) := by
  have : fAddL (.lst a) (.lst b) = some (.lst (a ++ b)) := by simp [fAddL, h1, h2, h]
  simp only [fAdd, orF, fAddI, fII, fAddS, this]
  rfl
theorem z_addT {a b : List D} (h1 : immL a = true) (h2 : immL b = true) (h : a.length + b.length ≤ 1000000) : fAdd (.tup a) (.tup b) = some (.tup (a ++ b)) := by
  have : fAddT (.tup a) (.tup b) = some (.tup (a ++ b)) := by simp [fAddT, h1, h2, h]
  simp only [fAdd, orF, fAddI, fII, fAddS, fAddL, this]
  rfl
theorem rep1 {α : Type} (x : α) (k : Nat) : (List.replicate k [x]).flatten = List.replicate k x := by
  induction k with
  | zero => rfl
  | succ k ih => rw [List.replicate_succ, List.flatten_cons, ih, List.replicate_succ]; rfl
theorem z_repL {x : D} {k : Int} (h1 : imm x = true) (h : k ≤ 1000000) (h2 : -1000000 ≤ k) : fMul (.lst [x]) (.int k) = some (.lst (List.replicate k.toNat x)) := by
  have : fRepL (.lst [x]) (.int k) = some (.lst (List.replicate k.toNat x)) := by
    simp only [fRepL, immL, h1, List.length_singleton, Bool.and_self]
    rw [if_pos (by rw [dcd_eq]; refine ⟨?_, ⟨?_, ?_⟩, ?_⟩ <;> first | trivial | omega), rep1]
  simp only [fMul, orF, fMulI, fIC, this]
  rfl
theorem z_repT {x : D} {k : Int} (h1 : imm x = true) (h : k ≤ 1000) (h2 : 2 ≤ k) : fMul (.tup [x]) (.int k) = some (.tup (List.replicate k.toNat x)) := by
  have : fRepT (.tup [x]) (.int k) = some (.tup (List.replicate k.toNat x)) := by
    simp only [fRepT, immL, h1, List.length_singleton, Bool.and_self]
    rw [if_pos (by refine ⟨?_, ?_, ⟨?_, ?_⟩, ?_⟩ <;> first | trivial | omega | simp), rep1]
  simp only [fMul, orF, fMulI, fIC, fRepL, this]
  rfl
theorem z_list {ds : List D} (h : immL ds = true) : fList (.lst ds) = some (.lst ds) := by simp [fList, h]
theorem z_listT {ds : List D} (h : immL ds = true) : fList (.tup ds) = some (.lst ds) := by simp [fList, h]
theorem z_tuple {ds : List D} (h : immL ds = true) : fTuple (.lst ds) = some (.tup ds) := by simp [fTuple, h]
theorem z_tupleT {ds : List D} (h : immL ds = true) : fTuple (.tup ds) = some (.tup ds) := by simp [fTuple, h]
theorem z_fTup {ds : List D} (h : immL ds = true) (h2 : ds.length ≤ 1000000) : fTup ds = some (.tup ds) := by simp [fTup, h, h2]
theorem z_fLst {ds : List D} (h : immL ds = true) (h2 : ds.length ≤ 1000000) : fLst ds = some (.lst ds) := by simp [fLst, h, h2]
theorem z_gLst {ds : List D} (h2 : ds.length ≤ 1000000) : gLstD ds = some (.lst ds) := by simp [gLstD, h2]
theorem z_gTup {ds : List D} (h2 : ds.length ≤ 1000000) : gTupD ds = some (.tup ds) := by simp [gTupD, h2]
theorem z_app {ds : List D} {d : D} (h : ds.length < 1000000) : fAppend (.lst ds) [d] = some (.non, .lst (ds ++ [d])) := by simp [fAppend, h]
theorem z_ext {ds es : List D} (h1 : immL es = true) (h : ds.length + es.length ≤ 1000000) : fExtend (.lst ds) [.lst es] = some (.non, .lst (ds ++ es)) := by simp [fExtend, h, h1]
theorem z_appM {α : Type} {f : α → D} {xs : List α} {x : α} (h : xs.length < 1000000) : fAppend (.lst (xs.map f)) [f x] = some (.non, .lst ((xs ++ [x]).map f)) := by
  rw [z_app (by rw [List.length_map]; exact h), List.map_append]; rfl
theorem z_extM {α : Type} {f : α → D} {xs ys : List α} (h1 : immL (ys.map f) = true) (h : xs.length + ys.length ≤ 1000000) : fExtend (.lst (xs.map f)) [.lst (ys.map f)] = some (.non, .lst ((xs ++ ys).map f)) := by
  rw [z_ext h1 (by rw [List.length_map, List.length_map]; exact h), List.map_append]
theorem asq_t (ds : List D) : asSeq (.tup ds) = some ds := rfl
theorem asq_l (ds : List D) : asSeq (.lst ds) = some ds := rfl
/-! ### walks by typed items -/
/-- a walk over typed items; P: what holds of the items left and what is carried -/
theorem for_fold {α β : Type} {f : α → D} {S : β → SS} {g : β → α → β} {P : List α → β → Prop} {st : D → SS → Option SS} {body : SS → RS} (h : ∀ x xs a, P (x :: xs) a → (∃ s1, st (f x) (S a) = some s1 ∧ body s1 = .nx (S (g a x))) ∧ P xs (g a x)) :
    ∀ (xs : List α) (a : β), P xs a → forL st body (xs.map f) (S a) = .nx (S (xs.foldl g a)) ∧ P [] (xs.foldl g a)
  | [], a, hp => ⟨rfl, hp⟩
  | x :: xs, a, hp => by
    obtain ⟨⟨s1, e1, e2⟩, hp2⟩ := h x xs a hp
    obtain ⟨e3, hp3⟩ := for_fold h xs (g a x) hp2
    refine ⟨?_, hp3⟩
    rw [List.map_cons, forL]
    simp only [e1, e2, e3, List.foldl_cons]
/-- .. that changes nothing -/
theorem for_same {st : D → SS → Option SS} {body : SS → RS} {s : SS} : ∀ {ds : List D}, (∀ d ∈ ds, ∃ s1, st d s = some s1 ∧ body s1 = .nx s) → forL st body ds s = .nx s
  | [], _ => rfl
  | d :: ds, h => by
    obtain ⟨s1, e1, e2⟩ := h d (by simp)
    have e3 := for_same (ds := ds) fun d hd => h d (by simp [hd])
    rw [forL]
    simp only [e1, e2, e3]
/-- .. with something carried of which only P is known -/
theorem for_ex {α β : Type} {f : α → D} {S : β → SS} {P : List α → β → Prop} {st : D → SS → Option SS} {body : SS → RS} (h : ∀ x xs a, P (x :: xs) a → ∃ s1 a', st (f x) (S a) = some s1 ∧ body s1 = .nx (S a') ∧ P xs a') :
    ∀ (xs : List α) (a : β), P xs a → ∃ a', forL st body (xs.map f) (S a) = .nx (S a') ∧ P [] a'
  | [], a, hp => ⟨a, rfl, hp⟩
  | x :: xs, a, hp => by
    obtain ⟨s1, a', e1, e2, hp2⟩ := h x xs a hp
    obtain ⟨a'', e3, hp3⟩ := for_ex h xs a' hp2
    refine ⟨a'', ?_, hp3⟩
    rw [List.map_cons, forL]
    simp only [e1, e2, e3]
/-- a walk over a range -/
theorem for_rng {β : Type} {S : β → SS} {P : Nat → β → Prop} {st : D → SS → Option SS} {body : SS → RS} {lo : Int} {n : Nat} (h : ∀ i a, i < n → P i a → ∃ s1 a', st (.int (lo + (i : Int))) (S a) = some s1 ∧ body s1 = .nx (S a') ∧ P (i + 1) a') {a : β} (h0 : P 0 a) : ∃ a', forL st body (rngL lo n) (S a) = .nx (S a') ∧ P n a' := by
  have key : ∀ (m i : Nat) (a : β), i + m = n → P i a → ∃ a', forL st body ((List.range' i m).map fun i : Nat => D.int (lo + i)) (S a) = .nx (S a') ∧ P n a' := by
    intro m
    induction m with
    | zero => intro i a hi hp; exact ⟨a, rfl, by rw [← hi]; exact hp⟩
    | succ m ih =>
      intro i a hi hp
      obtain ⟨s1, a', e1, e2, hp2⟩ := h i a (by omega) hp
      obtain ⟨a'', e3, hp3⟩ := ih (i + 1) a' (by omega) hp2
      refine ⟨a'', ?_, hp3⟩
      rw [List.range'_succ, List.map_cons, forL]
      simp only [e1, e2, e3]
  have := key n 0 a (by omega) h0
  rw [← List.range_eq_range'] at this
  exact this
/-- a walk that ends with the first that is found -/
theorem for_find {st : D → SS → Option SS} {body : SS → RS} {lo : Int} {s : SS} {p : Nat → Bool} {r : Nat → RS} {n : Nat} (hf : ∀ i, i < n → p i = false → ∃ s1, st (.int (lo + (i : Int))) s = some s1 ∧ body s1 = .nx s) (ht : ∀ i, i < n → p i = true → ∃ s1 d s2, st (.int (lo + (i : Int))) s = some s1 ∧ body s1 = .ret d s2 ∧ r i = .ret d s2) :
    forL st body (rngL lo n) s = match (List.range n).find? p with | none => .nx s | some i => r i := by
  have key : ∀ (m i : Nat), i + m = n → forL st body ((List.range' i m).map fun i : Nat => D.int (lo + i)) s = match (List.range' i m).find? p with | none => .nx s | some i => r i := by
    intro m
    induction m with
    | zero => intro i _; rfl
    | succ m ih =>
      intro i hi
      rw [List.range'_succ, List.map_cons, forL, List.find?_cons]
      cases e : p i with
      | false =>
        obtain ⟨s1, e1, e2⟩ := hf i (by omega) e
        simp only [e1, e2]
        exact ih (i + 1) (by omega)
      | true =>
        obtain ⟨s1, d, s2, e1, e2, e3⟩ := ht i (by omega) e
        simp only [e1, e2, e3]
  have := key n 0 (by omega)
  rw [← List.range_eq_range'] at this
  exact this
theorem pcmp_fm {α : Type} {st : D → SS → Option SS} {tt : SS → Option Bool} {te : SS → Option D} {s0 : SS} (enc : α → D) (p : α → Bool) (g : α → D) : ∀ ws : List α, (∀ w ∈ ws, ∃ s1, st (enc w) s0 = some s1 ∧ tt s1 = some (p w) ∧ (p w = true → te s1 = some (g w) ∧ imm (g w) = true)) → cmpP st tt te s0 (ws.map enc) = some ((ws.filter p).map g)
  | [], _ => rfl
  | w :: ws, h => by
    obtain ⟨s1, h1, h2, h3⟩ := h w (by simp)
    have ih := pcmp_fm enc p g ws fun x hx => h x (by simp [hx])
    rw [List.map_cons]
    unfold cmpP
    rw [h1]
    simp only [Option.bind_some, h2]
    cases e : p w with
    | false => simp only [Bool.false_eq_true, if_false, ih]; rw [List.filter_cons_of_neg (by simp [e])]
    | true =>
      obtain ⟨h4, h5⟩ := h3 e
      simp only [if_true, h4, Option.bind_some, h5, ih, Option.map_some]
      rw [List.filter_cons_of_pos e]; rfl
theorem pcmp_run {α : Type} {vs : List Nat} {it : SS → Option (List D)} {st : D → SS → Option SS} {T : SS → Option Bool} {E : SS → Option D} {s s0 : SS} (enc : α → D) (p : α → Bool) (g : α → D) (ws : List α) (hit : it s = some (ws.map enc)) (himm : immL (ws.map enc) = true) (hl : ws.length ≤ 1000000) (hc : clrC vs s = some s0)
    (h : ∀ w ∈ ws, ∃ s1, st (enc w) s0 = some s1 ∧ T s1 = some (p w) ∧ (p w = true → E s1 = some (g w) ∧ imm (g w) = true)) : pCmp vs it st T E s = some (.lst ((ws.filter p).map g)) := by
  unfold pCmp
  rw [hit, Option.bind_some, if_pos ⟨himm, by rw [List.length_map]; exact hl⟩, hc, Option.bind_some, pcmp_fm enc p g ws h]
  rfl
theorem pcmp_map {α : Type} {vs : List Nat} {it : SS → Option (List D)} {st : D → SS → Option SS} {E : SS → Option D} {s s0 : SS} (enc : α → D) (g : α → D) (ws : List α) (hit : it s = some (ws.map enc)) (himm : immL (ws.map enc) = true) (hl : ws.length ≤ 1000000) (hc : clrC vs s = some s0)
    (h : ∀ w ∈ ws, ∃ s1, st (enc w) s0 = some s1 ∧ E s1 = some (g w) ∧ imm (g w) = true) : pCmp vs it st (fun _ => some true) E s = some (.lst (ws.map g)) := by
  have := pcmp_run (T := fun _ => some true) enc (fun _ => true) g ws hit himm hl hc fun w hw => by
    obtain ⟨s1, h1, h2, h3⟩ := h w hw
    exact ⟨s1, h1, rfl, fun _ => ⟨h2, h3⟩⟩
  rw [this, List.filter_eq_self.mpr (by simp)]
/-- a comprehension that does things: each item's value is of P -/
theorem cmp_ex {α β γ : Type} {f : α → D} {g : γ → D} {S : β → SS} {P : List α → List γ → β → Prop} {vs : List Nat} {st : D → SS → Option SS} {te : SS → R D} (h : ∀ x xs acc a, P (x :: xs) acc a → ∃ s1 y s3 a', st (f x) (S a) = some s1 ∧ te s1 = .ok (g y) s3 ∧ clrC vs s3 = some (S a') ∧ P xs (acc ++ [y]) a') :
    ∀ (xs : List α) (acc : List γ) (a : β), acc.length + xs.length ≤ 1000000 → P xs acc a → ∃ acc' a', cmpL vs st (tP fun _ => some true) te (xs.map f) (S a) (acc.map g) = .ok (acc'.map g) (S a') ∧ P [] acc' a' ∧ acc'.length = acc.length + xs.length
  | [], acc, a, _, hp => ⟨acc, a, rfl, hp, rfl⟩
  | x :: xs, acc, a, hl, hp => by
    obtain ⟨s1, y, s3, a', e1, e2, e3, hp2⟩ := h x xs acc a hp
    rw [List.length_cons] at hl
    obtain ⟨acc', a'', e4, hp3, hl3⟩ := cmp_ex h xs (acc ++ [y]) a' (by rw [List.length_append, List.length_singleton]; omega) hp2
    refine ⟨acc', a'', ?_, hp3, by rw [hl3, List.length_append, List.length_singleton, List.length_cons]; omega⟩
    rw [List.map_cons, cmpL]
    simp only [e1, tP, R.of, if_true, e2, e3]
    rw [if_pos (by rw [List.length_map]; omega)]
    rw [List.map_append] at e4
    exact e4
theorem rng_map (lo : Int) (n : Nat) : rngL lo n = (List.range n).map fun i : Nat => D.int (lo + i) := rfl
theorem iR1_n {n : Nat} (h : n ≤ 1000000) : iR1 [.int (n : Int)] = some (rngL 0 n) := by
  simp only [iR1]
  rw [if_pos (by rw [dcd_eq]; constructor <;> omega), Int.toNat_natCast]
theorem iR1_i {n : Int} (h : n ≤ 1000000) (h0 : 0 ≤ n) : iR1 [.int n] = some (rngL 0 n.toNat) := by
  simp only [iR1]
  rw [if_pos (by rw [dcd_eq]; constructor <;> omega)]
theorem iR2_i {m n : Int} (h : n ≤ 1000000) (h0 : 0 ≤ n) (h1 : m ≤ 1000000) (h2 : 0 ≤ m) : iR2 [.int m, .int n] = some (rngL m (n - m).toNat) := by
  simp only [iR2]
  rw [if_pos (by rw [dcd_eq]; refine ⟨?_, ?_, ?_, ?_⟩ <;> omega)]
theorem imm_rngL (lo : Int) (n : Nat) : immL (rngL lo n) = true := imm_mapL (fun _ => rfl) _
theorem ast_t (ds : List D) : asTup (.tup ds) = some ds := rfl
theorem tyok_l (ds : List D) : tyOkD "list" (.lst ds) = true := rfl
theorem tyok_dk (ks : List Key) (ds : List D) : tyOkD "dict" (.dk ks ds) = true := rfl
theorem tyok_dt (ks : List (List Key)) (ds : List D) : tyOkD "dict" (.dt ks ds) = true := rfl
theorem stp_l (ds : List D) (i : Int) : stpOf (.lst ds) (.int i) = (ixN ds.length i).map Stp.idx := rfl
theorem stp_t (ds : List D) (i : Int) : stpOf (.tup ds) (.int i) = (ixN ds.length i).map Stp.idx := rfl
theorem g1_l (ds : List D) (k : Nat) : get1 (.lst ds) (.idx k) = ds[k]? := rfl
theorem g1_t (ds : List D) (k : Nat) : get1 (.tup ds) (.idx k) = ds[k]? := rfl
theorem s1_l (ds : List D) (k : Nat) (x : D) : set1 (.lst ds) (.idx k) x = .lst (ds.set k x) := rfl
theorem s1_t (ds : List D) (k : Nat) (x : D) : set1 (.tup ds) (.idx k) x = .tup (ds.set k x) := rfl
theorem z_min1 {ns : List Int} (h : ns ≠ []) : fMin [.lst (ns.map D.int)] = some (.int (minI ns)) := by
  have : fMin1 (.lst (ns.map D.int)) = some (.int (minI ns)) := by simp [fMin1, withInts, asLst, intsOf_map, h]
  simp [fMin, orL, on2, on1, this]
theorem z_max1 {ns : List Int} (h : ns ≠ []) : fMax [.lst (ns.map D.int)] = some (.int (maxI ns)) := by
  have : fMax1 (.lst (ns.map D.int)) = some (.int (maxI ns)) := by simp [fMax1, withInts, asLst, intsOf_map, h]
  simp [fMax, orL, on2, on1, this]
/-! ### calls of what changes nothing -/
theorem pfn_run {n m : Nat} {Fn : SS → RS} {as : List Ar} {cs : SS} {d : D} {s' : SS} (h0 : (as.length == n && (arN as).isEmpty) = true) (h1 : (as.length == n && okAr as && okLe as) = true) (h2 : mkc as [] = some cs) (h3 : Fn (cs ++ List.replicate m .no) = .ret d s') (h4 : (bk as s' []).isSome = true) : pFn n m Fn as = some d := by
  unfold pFn
  rw [if_pos h0]
  unfold fnR
  rw [if_pos h1, h2]
  simp only [h3]
  cases e : bk as s' [] with
  | none => rw [e] at h4; cases h4
  | some s2 => rfl
/-! slices -/
theorem cut_lh {ds : List D} {lo hi : Int} (h : 0 ≤ lo) (h2 : 0 ≤ hi) : cutD ds (some lo) (some hi) = (ds.take hi.toNat).drop lo.toNat := by
  have e1 : HT.sIx ds.length 0 (some lo) = min lo.toNat ds.length := by rw [show lo = ((lo.toNat : Nat) : Int) by omega, HT.sIx_nat, Int.toNat_natCast]
  have e2 : HT.sIx ds.length ds.length (some hi) = min hi.toNat ds.length := by rw [show hi = ((hi.toNat : Nat) : Int) by omega, HT.sIx_nat, Int.toNat_natCast]
  unfold cutD
  rw [e1, e2, List.drop_take]
  apply List.ext_getElem?
  intro i
  rw [List.getElem?_take, List.getElem?_take, List.getElem?_drop, List.getElem?_drop]
  by_cases h3 : ds.length ≤ lo.toNat
  · rw [List.getElem?_eq_none (by omega : ds.length ≤ min lo.toNat ds.length + i), List.getElem?_eq_none (by omega : ds.length ≤ lo.toNat + i)]; simp
  · rw [show min lo.toNat ds.length = lo.toNat by omega]
    by_cases h4 : i < hi.toNat - lo.toNat
    · by_cases h5 : i < min hi.toNat ds.length - lo.toNat
      · rw [if_pos h4, if_pos h5]
      · rw [if_pos h4, if_neg h5, List.getElem?_eq_none (by omega)]
    · rw [if_neg h4, if_neg (by omega)]
theorem cut_l {ds : List D} {lo : Int} (h : 0 ≤ lo) : cutD ds (some lo) none = ds.drop lo.toNat := by
  have e1 : HT.sIx ds.length 0 (some lo) = min lo.toNat ds.length := by rw [show lo = ((lo.toNat : Nat) : Int) by omega, HT.sIx_nat, Int.toNat_natCast]
  unfold cutD
  rw [e1, HT.sIx_none]
  by_cases h3 : ds.length ≤ lo.toNat
  · rw [List.drop_eq_nil_of_le h3, show min lo.toNat ds.length = ds.length by omega]; simp
  · rw [show min lo.toNat ds.length = lo.toNat by omega, List.take_of_length_le (by simp)]
theorem cut_h {ds : List D} {hi : Int} (h2 : 0 ≤ hi) : cutD ds none (some hi) = ds.take hi.toNat := by
  have e2 : HT.sIx ds.length ds.length (some hi) = min hi.toNat ds.length := by rw [show hi = ((hi.toNat : Nat) : Int) by omega, HT.sIx_nat, Int.toNat_natCast]
  unfold cutD
  rw [e2, HT.sIx_none, List.drop_zero, Nat.sub_zero]
  by_cases h3 : ds.length ≤ hi.toNat
  · rw [List.take_of_length_le h3, List.take_of_length_le (by omega)]
  · rw [show min hi.toNat ds.length = hi.toNat by omega]
theorem z_slL {ds : List D} (h : immL ds = true) (lo hi : Option Int) : fSl (.lst ds) lo hi = some (.lst (cutD ds lo hi)) := by simp [fSl, fSlL, h]
theorem z_slT {ds : List D} (h : immL ds = true) (lo hi : Option Int) : fSl (.tup ds) lo hi = some (.tup (cutD ds lo hi)) := by simp [fSl, fSlL, fSlT, h]
end Dy

/-! Sums and greatest of tuples, sorted ints, ranges as lists, lists backwards. -/
namespace Dy
open PySem PyProof.Rows L2
section
variable {K : PySem.W.Frag} {C : Nat → Addr} {H : Hp}
/-- a tuple's address and values -/
theorem tup_ints {ns : List Int} {v : V} (r : Rb K C H (.tup (ns.map D.int)) v) : ∃ a, v = .ref a ∧ SqT K H a (ns.map V.int) := by
  obtain ⟨A, _, o⟩ := r
  cases o with
  | tup q y =>
    have := ints_v y
    subst this
    exact ⟨_, rfl, SqT.of q⟩
def rSumT (K : PySem.W.Frag) : List V → Hp → VK → Prop := fun vs H Q => ∃ (a : Addr) (ns : List Int), vs = [V.ref a] ∧ SqT K H a (ns.map V.int) ∧ Q (.int ns.sum) H
def rMaxT (K : PySem.W.Frag) : List V → Hp → VK → Prop := fun vs H Q => ∃ (a : Addr) (n : Int) (ns : List Int), vs = [V.ref a] ∧ SqT K H a ((n :: ns).map V.int) ∧ Q (.int (ns.foldl max n)) H
theorem cr_sumT {X : Cx} (hc : X.calm = true) : CallR X (.builtin "sum") (rSumT X.K) := by
  intro pins s σ H vs us Q I r h
  obtain ⟨a, ns, rfl, hs, q⟩ := h
  obtain ⟨its, rv, ht, hz⟩ := I.tuple hs
  rw [Vals.ref1 r]
  have hi := rv.ints
  obtain ⟨xs, hx⟩ := hi.allInts.items
  have hn : numsOf its.toArray.toList = ns := by rw [show its.toArray.toList = its from rfl, hi.numsOf]
  rw [show its.toArray = intItems xs from hx] at ht hn
  rw [nums_intItems] at hn
  refine PySem.W.ktm_sumG (I.ok.hd hc) ht fun h' tk t' hk => ⟨.int ns.sum, H, I.kept hk, ⟨t', ?_⟩, q⟩
  rw [preSum_eq, List.take_of_length_le (by simp), hn]
theorem depthAll_ints : ∀ ns : List Int, PyData.depthAll (ns.map PyData.int) ≤ 2
  | [] => by decide
  | n :: r => by
    have := depthAll_ints r
    rw [List.map_cons]
    show max _ _ ≤ 2
    refine Nat.max_le.mpr ⟨?_, this⟩
    simp [PyData.depth]
theorem alike_ints (ns : List Int) : PySem.W.AlikeAll (ns.map PyData.int) := by
  refine ⟨fun x hx y hy => ?_, fun x hx => ?_⟩
  · obtain ⟨i, _, rfl⟩ := List.mem_map.mp hx
    obtain ⟨j, _, rfl⟩ := List.mem_map.mp hy
    rfl
  · obtain ⟨i, _, rfl⟩ := List.mem_map.mp hx
    intro z; cases z
theorem cr_maxT {X : Cx} (hc : X.calm = true) (hu : X.A.units + 64 < cLine) : CallR X (.builtin "max") (rMaxT X.K) := by
  intro pins s σ H vs us Q I r h
  obtain ⟨a, n, ns, rfl, hs, q⟩ := h
  obtain ⟨its, rv, ht, hz⟩ := I.tuple hs
  rw [Vals.ref1 r]
  have hr := ints_readAll s.heap rv.ints
  have d := depthAll_ints (n :: ns)
  obtain ⟨o, ho, hcl, k, hd⟩ := id ht
  refine PySem.W.max_tuple_data (I.ok.hd hc) (show s.heap.IsTuple a its.toArray from ht) (vs := its.toArray) (x := .int n) (xs := ns.map PyData.int) hr (alike_ints (n :: ns)) (by
    have e : PyData.int n :: ns.map PyData.int = (n :: ns).map PyData.int := rfl
    rw [e]; omega) fun i v h' tk bs hv rd hk => ?_
  rw [PySem.W.maxD_ints] at rd
  cases rd
  exact ⟨.int _, H, I.kept hk, ⟨_, rfl⟩, q⟩
/-! sums, the greatest -/
def fSumA (d : D) : Option D := match d with
  | .tup ds => (intsOf ds).map fun ns => .int ns.sum
  | d => fSum1 d
abbrev rSumA (K : PySem.W.Frag) : List V → Hp → VK → Prop := fun xs H Q => rSum K xs H Q ∨ rSumT K xs H Q
theorem call_sumA {X : Cx} (hc : X.calm = true) : CallR X (.builtin "sum") (rSumA X.K) := CallR.or (cr_sum hc) (cr_sumT hc)
theorem tup_ds {ds : List D} {ns : List Int} {v : V} (q : intsOf ds = some ns) (rb : Rb K C H (.tup ds) v) : ∃ a, v = .ref a ∧ SqT K H a (ns.map V.int) := by
  rw [intsOf_ok q] at rb
  exact tup_ints rb
theorem cs_sumA : CallS K C (rSumA K) (on1 fSumA) := fun H vs ds z Q r e k => by
  obtain ⟨d, rfl, e1⟩ := on1_inv e
  clear e
  have e := e1
  by_cases ht : ∃ ds, d = .tup ds
  · obtain ⟨ds, rfl⟩ := ht
    obtain ⟨v, rfl, rb⟩ := rbl1 r
    have e2 : ((intsOf ds).map fun ns => D.int ns.sum) = some z := e
    cases q : intsOf ds with
    | none => rw [q] at e2; cases e2
    | some ns =>
      rw [q] at e2
      cases e2
      obtain ⟨a, rfl, h⟩ := tup_ds q rb
      exact .inr ⟨a, ns, rfl, h, k _ H Mt (Same.refl H) fr_mt al_mt (.int _)⟩
  · have e2 : fSum1 d = some z := by
      unfold fSumA at e
      split at e
      · exact (ht ⟨_, rfl⟩).elim
      · exact e
    exact .inl (cs_sum1 (K := K) (C := C) H vs [d] z Q r (by show (on1 fSum1) [d] = _; exact e2) k)
def fMaxT (d : D) : Option D := match d with
  | .tup ds => (intsOf ds).bind fun ns => match ns with
    | [] => none
    | n :: ns => some (.int (ns.foldl max n))
  | _ => none
theorem cs_maxT : CallS K C (rMaxT K) (on1 fMaxT) := fun H vs ds z Q r e k => by
  obtain ⟨d, rfl, e1⟩ := on1_inv e
  obtain ⟨v, rfl, rb⟩ := rbl1 r
  cases d <;> simp [fMaxT] at e1
  rename_i ds
  cases q : intsOf ds with
  | none => rw [q] at e1; simp at e1
  | some ns =>
    rw [q] at e1
    cases ns with
    | nil => simp at e1
    | cons n ns =>
      simp at e1
      subst e1
      obtain ⟨a, rfl, h⟩ := tup_ds q rb
      exact ⟨a, n, ns, rfl, h, k _ H Mt (Same.refl H) fr_mt al_mt (.int _)⟩
/-! sorted -/
def ins (x : Int) : List Int → List Int
  | [] => [x]
  | y :: ys => if x ≤ y then x :: y :: ys else y :: ins x ys
def isort : List Int → List Int
  | [] => []
  | x :: xs => ins x (isort xs)
theorem ins_perm (x : Int) : ∀ ys : List Int, (ins x ys).Perm (x :: ys)
  | [] => .refl _
  | y :: ys => by
    unfold ins
    split
    · exact .refl _
    · exact ((ins_perm x ys).cons y).trans (.swap x y ys)
theorem isort_perm : ∀ xs : List Int, (isort xs).Perm xs
  | [] => .refl _
  | x :: xs => (ins_perm x _).trans ((isort_perm xs).cons x)
theorem ins_up (x : Int) : ∀ {ys : List Int}, ys.Pairwise (· ≤ ·) → (ins x ys).Pairwise (· ≤ ·)
  | [], _ => by simp [ins]
  | y :: ys, h => by
    obtain ⟨h1, h2⟩ := List.pairwise_cons.mp h
    unfold ins
    split
    · rename_i c
      refine List.pairwise_cons.mpr ⟨fun z hz => ?_, h⟩
      rcases List.mem_cons.mp hz with rfl | hz
      · exact c
      · exact Int.le_trans c (h1 z hz)
    · rename_i c
      refine List.pairwise_cons.mpr ⟨fun z hz => ?_, ins_up x h2⟩
      rcases List.mem_cons.mp ((ins_perm x ys).mem_iff.mp hz) with rfl | hz
      · omega
      · exact h1 z hz
theorem isort_up : ∀ xs : List Int, (isort xs).Pairwise (· ≤ ·)
  | [] => .nil
  | x :: xs => ins_up x (isort_up xs)
theorem up_one : ∀ {xs ys : List Int}, xs.Perm ys → xs.Pairwise (· ≤ ·) → ys.Pairwise (· ≤ ·) → xs = ys
  | [], ys, p, _, _ => (List.nil_perm.mp p).symm
  | x :: xs, [], p, _, _ => by simp at p
  | x :: xs, y :: ys, p, h1, h2 => by
    obtain ⟨a1, a2⟩ := List.pairwise_cons.mp h1
    obtain ⟨b1, b2⟩ := List.pairwise_cons.mp h2
    have e : x = y := by
      have c1 : x ∈ y :: ys := p.mem_iff.mp List.mem_cons_self
      have c2 : y ∈ x :: xs := p.mem_iff.mpr List.mem_cons_self
      rcases List.mem_cons.mp c1 with c1 | c1
      · exact c1
      · rcases List.mem_cons.mp c2 with c2 | c2
        · exact c2.symm
        · have := a1 _ c2; have := b1 _ c1; omega
    subst e
    rw [up_one (List.Perm.cons_inv p) a2 b2]
def fSorted : D → Option D := withInts fun ns => some (.lst ((isort ns).map D.int))
theorem cs_sorted : CallS K C (rSortedI K) (on1 fSorted) := fun H vs ds z Q r e k => by
  obtain ⟨d, rfl, e1⟩ := on1_inv e
  clear e
  have e := e1
  clear e1
  obtain ⟨v, rfl, rb⟩ := rbl1 r
  obtain ⟨a, ns, rfl, h, e⟩ := withInts_ok rb e
  cases e
  refine ⟨a, ns, rfl, h, fun ns' p h1 h2 hp => ?_⟩
  have : ns' = isort ns := up_one (h1.trans (isort_perm ns).symm) h2 (isort_up ns)
  subst this
  exact k _ _ (One p) (same_upd hp) (one_fr hp) one_al (new_lst (own_ints _) hp)
/-! a list backwards -/
def rRevI (K : PySem.W.Frag) : V → Hp → VK → Prop := fun x H Q => ∃ a xs, x = .ref a ∧ SqL K H a xs ∧ ∀ p, H p = none → Q (.ref p) (upd H p (.lst xs.reverse))
def fRev : D → Option D := withInts fun ns => some (.lst (ns.reverse.map D.int))
theorem us_rev : UnS K C (rRevI K) fRev := fun H v d z Q r e k => by
  obtain ⟨a, ns, rfl, h, e⟩ := withInts_ok r e
  cases e
  refine ⟨a, _, rfl, h, fun p hp => ?_⟩
  rw [← List.map_reverse]
  exact k _ _ (One p) (same_upd hp) (one_fr hp) one_al (new_lst (own_ints _) hp)
/-! a range as a list -/
def rLrg2 : List V → Hp → VK → Prop
  | [x, y], H, Q => ∃ i j, x = .int i ∧ y = .int j ∧ RgOk i j ∧ ∀ q, H q = none → Q (.ref q) (upd H q (.lst (rgV i j)))
  | _, _, _ => False
noncomputable def fLrg2 (l : List D) : Option D := match l with
  | [.int i, .int j] => if dcd (RgOk i j) = true then some (.lst (rngL i (j - i).toNat)) else none
  | _ => none
theorem own_rng (i : Int) (n : Nat) : IL K C H (rngL i n) ((List.range n).map fun k => V.int (i + (k : Nat))) := by
  have e1 : rngL i n = ((List.range n).map fun k : Nat => i + (k : Int)).map D.int := by rw [List.map_map]; rfl
  have e2 : ((List.range n).map fun k => V.int (i + (k : Nat))) = ((List.range n).map fun k : Nat => i + (k : Int)).map V.int := by rw [List.map_map]; rfl
  rw [e1, e2]
  exact own_ints _
theorem cs_lrg2 : CallS K C rLrg2 fLrg2 := fun H vs ds z Q r e k => by
  unfold fLrg2 at e
  split at e
  · rename_i i j
    split at e
    · rename_i c
      have c := dcd_eq.mp c
      cases e
      obtain ⟨v, w, rfl, r1, r2⟩ := rbl2 r
      rw [rb_int r1, rb_int r2]
      exact ⟨i, j, rfl, rfl, c, fun p hp => k _ _ (One p) (same_upd hp) (one_fr hp) one_al (new_lst (own_rng _ _) hp)⟩
    · cases e
  · cases e
section
variable {X : Cx} {a b : Expr} {ta tb : TE} {p p' pos pos' : Pos}
theorem pe_lrg2 (hc : X.calm = true) (hg : Gl X "list") (hm : X.mg "list" = none) (hg' : Gl X "range") (hm' : X.mg "range" = none) (ha : PE X a ta) (hb : PE X b tb)
    (na : starEach [a, b] X.env = (false, eval a X.env) :: starEach [b] X.env := by rfl) (nb : starEach [b] X.env = (false, eval b X.env) :: starEach [] X.env := by rfl) (hp : (backTo pos' (starEach [b] X.env)).any (·.1) = false := by rfl)
    (nc : starEach [.Call (.Name "range" p') [a, b] [] pos'] X.env = (false, eval (.Call (.Name "range" p') [a, b] [] pos') X.env) :: starEach [] X.env := by rfl) :
    PE X (.Call (.Name "list" p) [.Call (.Name "range" p') [a, b] [] pos'] [] pos) (tCB rLrg2 (tCons ta (tCons tb tNil))) :=
  show PE X _ (tLstRg (tRg2 ta tb)) from pe_listRg hc hg hm (prg_2 hg' hm' ha hb na nb hp) nc
theorem pe_revI {te : TE} {k : Nat} {e : Expr} {p1 p2 p3 pos : Pos} (he : PE X e te) : PE X (.Subscript e (.Slice none none (some (.UnaryOp .USub (.Constant (.int 1) k p1) p2)) p3) pos) (tUn (rRevI X.K) te) :=
  show PE X _ (tRevL X.K te) from pe_revL he
end
end
end Dy

/-! Dicts: stores, get with a default, of pairs, sorted, updated. -/
namespace Dy
open PySem PyProof.Rows L2
section
variable {K : PySem.W.Frag} {C : Nat → Addr} {H : Hp}
/-! ### a key's place -/
def putKD : List Key → List D → Key → D → List Key × List D
  | [], _, k, d => ([k], [d])
  | g :: ks, x :: ds, k, d => if g = k then (g :: ks, d :: ds) else (g :: (putKD ks ds k d).1, x :: (putKD ks ds k d).2)
  | g :: ks, [], k, d => (g :: ks, [])
theorem putK_ne {g k : Key} {w v : V} {r : List (Key × V)} (h : ¬ g = k) : putK ((g, w) :: r) k v = (g, w) :: putK r k v := by
  unfold putK
  rw [List.any_cons]
  have e : decide ((g, w).1 = k) = false := by simpa using h
  rw [e, Bool.false_or]
  split
  · rw [List.map_cons, if_neg (show ¬ (g, w).1 = k from h)]
  · rfl
theorem putK_eq {g : Key} {w v : V} {r : List (Key × V)} (h : ∀ x ∈ r, ¬ x.1 = g) : putK ((g, w) :: r) g v = (g, v) :: r := by
  unfold putK
  rw [List.any_cons]
  have e : decide ((g, w).1 = g) = true := by simp
  rw [e, Bool.true_or, if_pos rfl, List.map_cons, if_pos rfl]
  congr 1
  refine (List.map_congr_left fun x hx => ?_).trans (List.map_id r)
  rw [if_neg (h x hx)]; rfl
theorem putKD_keys : ∀ (ks : List Key) (ds : List D) (k : Key) (d : D), ks.length = ds.length → (k ∈ ks ∧ (putKD ks ds k d).1 = ks) ∨ (k ∉ ks ∧ (putKD ks ds k d).1 = ks ++ [k])
  | [], _, k, d, _ => .inr ⟨by simp, rfl⟩
  | g :: ks, x :: ds, k, d, h => by
    have ih := putKD_keys ks ds k d (by simpa using h)
    unfold putKD
    by_cases e : g = k
    · rw [if_pos e]; exact .inl ⟨by rw [e]; exact List.mem_cons_self, rfl⟩
    · rw [if_neg e]
      show (_ ∧ g :: (putKD ks ds k d).1 = _) ∨ (_ ∧ g :: (putKD ks ds k d).1 = _)
      rcases ih with ⟨m, ih⟩ | ⟨m, ih⟩
      · exact .inl ⟨List.mem_cons_of_mem _ m, by rw [ih]⟩
      · refine .inr ⟨fun z => ?_, by rw [ih]; rfl⟩
        rcases List.mem_cons.mp z with z | z
        · exact e z.symm
        · exact m z
  | g :: ks, [], k, d, h => by cases h
theorem putKD_nodup {ks : List Key} {ds : List D} {k : Key} {d : D} (h : ks.length = ds.length) (nd : ks.Nodup) : (putKD ks ds k d).1.Nodup := by
  rcases putKD_keys ks ds k d h with ⟨_, e⟩ | ⟨m, e⟩
  · rw [e]; exact nd
  · rw [e, List.nodup_append]
    exact ⟨nd, by simp, fun a ha b hb => by simp at hb; subst hb; exact fun z => m (z ▸ ha)⟩
theorem putKD_own {d : D} {v : V} {B : AP} {k : Key} (o : Own K C H d v B) : ∀ {ks : List Key} {ds : List D} {vs : List V} {A : AP}, ks.length = ds.length → ks.Nodup → OwnL K C H ds vs A → Sep A B →
    ∃ ws, (putKD ks ds k d).1.length = (putKD ks ds k d).2.length ∧ putK (ks.zip vs) k v = (putKD ks ds k d).1.zip ws ∧ OwnL K C H (putKD ks ds k d).2 ws (Cup A B)
  | [], [], _, A, _, _, h, s => by
    cases h
    exact ⟨[v], rfl, rfl, .cons (A1 := B) (A2 := Mt) mt_sep cup_r sub_mt o .nil⟩
  | g :: ks, x :: ds, _, A, hl, nd, h, s => by
    cases h with
    | cons a b c xx y =>
      rename_i A1 A2 w ws
      obtain ⟨n1, n2⟩ := List.nodup_cons.mp nd
      obtain ⟨us, h1, h2, h3⟩ := putKD_own o (ks := ks) (k := k) (by simpa using hl) n2 y (s.mono c (Sub.refl _))
      unfold putKD
      by_cases e : g = k
      · subst e
        rw [if_pos rfl]
        refine ⟨v :: ws, by simpa using hl, ?_, .cons (A1 := B) (s.mono c (Sub.refl _)).symm cup_r (c.trans cup_l) o y⟩
        rw [List.zip_cons_cons, List.zip_cons_cons]
        exact putK_eq fun p hp z => n1 (by rw [← z]; exact (List.of_mem_zip (show (p.1, p.2) ∈ ks.zip ws from hp)).1)
      · rw [if_neg e]
        refine ⟨w :: us, by simp only [List.length_cons, h1], ?_, .cons (A1 := A1) (A2 := Cup A2 B) (a.cup (s.mono b (Sub.refl _))) (b.trans cup_l) (cup_sub (c.trans cup_l) cup_r) xx h3⟩
        rw [List.zip_cons_cons, List.zip_cons_cons, putK_ne e, h2]
  | [], _ :: _, _, _, hl, _, _, _ => by cases hl
  | _ :: _, [], _, _, hl, _, _, _ => by cases hl
/-! ### d[k] = v -/
def rSetD : TSet := fun w j v H Q => ∃ a H4, w = .ref a ∧ DPut H a j v H4 ∧ Q H4
def fSetD (e j d : D) : Option D := match e with
  | .dk ks ds => (keyOf j).bind fun k => if ks.Nodup ∧ ks.length < 1000000 then some (.dk (putKD ks ds k d).1 (putKD ks ds k d).2) else none
  | _ => none
theorem rb_key {dj : D} {k : Key} {j : V} (r : Rb K C H dj j) (e : keyOf dj = some k) : j = kV k := by
  obtain ⟨A, _, o⟩ := r
  exact key_v o e
theorem sts_dict : SetS K C rSetD fSetD := fun H w j v e dj d A B e' Q al o rb ov sp alB h k => by
  unfold fSetD at h
  cases o <;> try (cases h)
  rename_i p ks vs ds hn q ha z
  cases hk : keyOf dj with
  | none => rw [hk] at h; cases h
  | some kk =>
    rw [hk] at h
    have h' : (if ks.Nodup ∧ ks.length < 1000000 then some (D.dk (putKD ks ds kk d).1 (putKD ks ds kk d).2) else none) = some e' := h
    split at h'
    case isFalse => cases h'
    rename_i cc
    obtain ⟨nd, hl⟩ := cc
    cases h'
    rw [rb_key rb hk]
    have nB : ¬ B p := fun zz => sp p ha zz
    have kp : ∀ (R : AP) o', ¬ R p → Keep R H (upd H p o') := fun R o' n => keep_upd q (fun _ z => by cases z) (fun _ _ z => by cases z) n
    have lz : (ks.zip vs).length < sizeLine := by
      rw [List.length_zip]
      exact Nat.lt_of_le_of_lt (Nat.min_le_left _ _) (sl_lt hl)
    obtain ⟨ws, w1, w2, w3⟩ := putKD_own (k := kk) (ov.keep (kp _ (.dK (putK (ks.zip vs) kk v)) nB)) hn nd (z.keep (kp _ (.dK (putK (ks.zip vs) kk v)) fun t => t.2 rfl)) (fun t t1 t2 => sp t t1.1 t2)
    refine ⟨p, _, rfl, DPut.k q lz, k .non _ (Cup A B) (fun R s _ => upd_keep q (fun _ z => by cases z) (fun _ _ z => by cases z) ha s) ((upd_al al).cup (upd_al alB)) (Sub.refl _) upd_grow ?_ .non⟩
    refine .dk (.inl ha) w1 (by rw [← w2]; exact upd_same) (w3.mono fun t tt => ?_)
    rcases tt with tt | tt
    · exact ⟨.inl tt.1, tt.2⟩
    · exact ⟨.inr tt, fun e => nB (by rw [← e]; exact tt)⟩
section
variable {X : Cx} {o i value : Expr} {pos pos' : Pos} {td ty tv : TE}
theorem ps_dputK (hu : X.A.units + 1 < cLine) (ho : PE X o td) (hi : PE X i ty) (hv : PE X value tv) (hs : swapsWith value (some (.Subscript o i pos')) pos.line X.env = pure false := by rfl) :
    PS X (.Assign [.Subscript o i pos'] value pos) (tAsg tv (gSub td ty rSetD)) :=
  show PS X _ (sDPut td ty tv) from ps_dput hu ho hi hv hs
end
/-! ### d.get(k, x) -/
def pGet2 (F J Z : SS → Option D) : SS → Option D := fun s => (F s).bind fun d => (J s).bind fun j => (Z s).bind fun z => (dGet d j).map fun o => o.getD z
theorem sp_get2 {td ty tx : TE} {F J Z : SS → Option D} (hd : SimP K C td F) (hj : SimP K C ty J) (hz : SimP K C tx Z) : SimP K C (tDGet2 td ty tx) (pGet2 F J Z) := fun Φ Λ π ss σ H Q d rel e k => by
  unfold pGet2 at e
  cases e1 : F ss with
  | none => rw [e1] at e; cases e
  | some d0 =>
    cases e2 : J ss with
    | none => rw [e1, e2] at e; cases e
    | some j =>
      cases e3 : Z ss with
      | none => rw [e1, e2, e3] at e; cases e
      | some z =>
        rw [e1, e2, e3] at e
        simp only [Option.bind_some] at e
        cases e4 : dGet d0 j with
        | none => rw [e4] at e; cases e
        | some r =>
          rw [e4] at e
          have e5 : r.getD z = d := by simpa using e
          refine hd Φ Λ π ss σ H _ d0 rel e1 fun v H1 s1 r1 => ?_
          have isd : ∃ a, v = .ref a ∧ IsD H1 a := by
            obtain ⟨A, _, o⟩ := r1
            cases d0 <;> simp [dGet] at e4
            · cases o with | dk h l q y => exact ⟨_, rfl, .inl ⟨_, .inl q⟩⟩
            · cases o with | dt h l q y => exact ⟨_, rfl, .inr ⟨_, .inl q⟩⟩
          obtain ⟨a, rfl, hi⟩ := isd
          refine ⟨a, rfl, hi, ?_⟩
          refine hj Φ Λ π ss σ H1 _ j (rel.same s1) e2 fun jv H2 s2 r2 => ?_
          refine hz Φ Λ π ss σ H2 _ z ((rel.same s1).same s2) e3 fun zv H3 s3 r3 => ?_
          obtain ⟨A, al, o⟩ := (r1.same s2).same s3
          obtain ⟨B, _, o2⟩ := r2.same s3
          obtain ⟨a', w, ea, g, g1, g2⟩ := dget_of o o2 e4
          cases ea
          refine ⟨w, g, k _ H3 ((s1.trans s2).trans s3) ?_⟩
          cases r with
          | none =>
            rw [g2 rfl]
            have : z = d := e5
            subst this
            exact r3
          | some d1 =>
            obtain ⟨v1, rfl, ov⟩ := g1 d1 rfl
            have : d1 = d := e5
            subst this
            exact ⟨A, al, ov⟩
/-! ### pairs -/
def prOf (d : D) : Option (Key × D) := match d with
  | .tup [k, x] => if imm x = true then (keyOf k).map fun k => (k, x) else none
  | _ => none
def prsOf : List D → Option (List (Key × D))
  | [] => some []
  | d :: ds => (prOf d).bind fun p => (prsOf ds).map fun r => p :: r
theorem prs_v : ∀ {ds : List D} {prs : List (Key × D)} {vs : List V} {A : AP}, OwnL K C H ds vs A → prsOf ds = some prs →
    ∃ (ps : List Addr) (xs : List V), vs = ps.map V.ref ∧ IL K C H (prs.map (·.2)) xs ∧ Paired (fun p kv => SqT K H p [kV kv.1, kv.2]) ps ((prs.map (·.1)).zip xs)
  | [], prs, _, _, h, e => by
    cases h; cases e
    exact ⟨[], [], rfl, .nil, .nil⟩
  | d :: ds, prs, _, _, h, e => by
    cases h with
    | cons a b c x y =>
      unfold prsOf at e
      cases e1 : prOf d with
      | none => rw [e1] at e; cases e
      | some p =>
        cases e2 : prsOf ds with
        | none => rw [e1, e2] at e; cases e
        | some r =>
          rw [e1, e2] at e
          cases e
          obtain ⟨ps, xs, rfl, i2, pp⟩ := prs_v y e2
          unfold prOf at e1
          split at e1
          · rename_i k0 x0
            split at e1
            · rename_i im
              cases e3 : keyOf k0 with
              | none => rw [e3] at e1; cases e1
              | some kk =>
                rw [e3] at e1
                cases e1
                cases x with
                | tup q z =>
                  rename_i ad us
                  cases z with
                  | cons a1 b1 c1 x1 y1 =>
                    cases y1 with
                    | cons a2 b2 c2 x2 y2 =>
                      cases y2
                      have := key_v x1 e3
                      subst this
                      exact ⟨ad :: ps, _ :: xs, rfl, IL.cons (x2.imm im) i2, .cons (SqT.of q) pp⟩
            · cases e1
          · cases e1
def mergeKD (acc : List Key × List D) (prs : List (Key × D)) : List Key × List D := prs.foldl (fun a kd => putKD a.1 a.2 kd.1 kd.2) acc
theorem merge_own : ∀ {prs : List (Key × D)} {xs : List V} {ks : List Key} {ds : List D} {vs : List V} {A : AP}, IL K C H (prs.map (·.2)) xs → ks.length = ds.length → ks.Nodup → OwnL K C H ds vs A →
    ∃ ws, mergeK (ks.zip vs) ((prs.map (·.1)).zip xs) = (mergeKD (ks, ds) prs).1.zip ws ∧ (mergeKD (ks, ds) prs).1.length = (mergeKD (ks, ds) prs).2.length ∧ OwnL K C H (mergeKD (ks, ds) prs).2 ws A
  | [], xs, ks, ds, vs, A, h, hl, nd, o => by
    cases h
    exact ⟨vs, rfl, hl, o⟩
  | (k, d) :: prs, xs, ks, ds, vs, A, h, hl, nd, o => by
    cases h with
    | cons a b c x y =>
      rename_i A1 A2 v xs
      have x' : Own K C H d v Mt := x.mono b
      obtain ⟨ws, w1, w2, w3⟩ := putKD_own (k := k) x' hl nd o sep_mt.symm
      have w3' := w3.mono (B := A) (cup_sub (Sub.refl _) sub_mt)
      obtain ⟨us, u1, u2, u3⟩ := merge_own (prs := prs) (y.mono c) w1 (putKD_nodup hl nd) w3'
      refine ⟨us, ?_, u2, u3⟩
      rw [List.map_cons, List.zip_cons_cons]
      show mergeK (putK (ks.zip vs) k v) ((prs.map (·.1)).zip xs) = _
      rw [w2]
      exact u1
/-! ### dict(pairs) -/
def rDictP (K : PySem.W.Frag) : List V → Hp → VK → Prop := fun xs H Q => ∃ (a : Addr) (ps : List Addr) (kvs : List (Key × V)), xs = [.ref a] ∧ SqL K H a (ps.map V.ref) ∧ Paired (fun p kv => SqT K H p [kV kv.1, kv.2]) ps kvs ∧
    ∀ p, H p = none → Q (.ref p) (upd H p (.dK (mergeK [] kvs)))
def fDictP (d : D) : Option D := (asLst d).bind fun ds => (prsOf ds).map fun prs => .dk (mergeKD ([], []) prs).1 (mergeKD ([], []) prs).2
theorem cs_dictP : CallS K C (rDictP K) (on1 fDictP) := fun H vs ds z Q r e k => by
  obtain ⟨d, rfl, e1⟩ := on1_inv e
  clear e
  have e := e1
  clear e1
  obtain ⟨v, rfl, rb⟩ := rbl1 r
  unfold fDictP at e
  cases q : asLst d with
  | none => rw [q] at e; cases e
  | some ds =>
    rw [q] at e
    simp only [Option.bind] at e
    cases q2 : prsOf ds with
    | none => rw [q2] at e; cases e
    | some prs =>
      rw [q2] at e
      cases e
      obtain ⟨a, vs, rfl, h, A, o⟩ := lst_sq rb q
      obtain ⟨ps, xs, rfl, i2, pp⟩ := prs_v o q2
      refine ⟨a, ps, _, rfl, h, pp, fun p hp => ?_⟩
      obtain ⟨ws, w1, w2, w3⟩ := merge_own (ks := []) (ds := []) (vs := []) (A := Mt) i2 rfl List.nodup_nil .nil
      have w1' : mergeK [] ((prs.map (·.1)).zip xs) = (mergeKD ([], []) prs).1.zip ws := w1
      rw [w1']
      exact k _ _ (One p) (same_upd hp) (one_fr hp) one_al (.dk rfl w2 upd_same ((OwnL.same w3 (same_upd hp)).mono sub_mt))
/-! ### sorted(d) -/
def rSortedDA : List V → Hp → VK → Prop := fun xs H Q => ∃ (a : Addr) (kvs : List (Key × V)) (ks : List Int), xs = [.ref a] ∧ Rd H a (.dK kvs) ∧ kvs.map (·.1) = ks.map Sum.inl ∧
    ∀ (ys : List Int) (p : Addr), ys.Perm ks → ys.Pairwise (· ≤ ·) → H p = none → Q (.ref p) (upd H p (.lst (ys.map V.int)))
theorem call_sortedDA {X : Cx} (hcalm : X.calm = true) : CallR X (.builtin "sorted") rSortedDA := by
  intro pins s σ H xs us Q I r q
  obtain ⟨a, kvs, ks, ex, hd, hks, q⟩ := q
  subst ex
  obtain ⟨u, eu, rx⟩ := vals1 r
  subst eu
  cases rx
  obtain ⟨z, lo, vs, rel, dd⟩ := dk_rd I.hok hd
  obtain ⟨ep, hat⟩ := dd.dictAt
  have hkeys : vs.map (·.1) = ks.map Sum.inl := rel.keys.symm.trans hks
  have hl : vs.length = ks.length := by
    have e := congrArg List.length hkeys
    rw [List.length_map, List.length_map] at e
    exact e
  have h16 : vs.length ≤ sizeLine := by
    have e : kvs.length = vs.length := Paired.length rel
    rw [← e]; exact z
  refine Calls.call_function_entry PyProof.Rows.kind_sorted PyProof.Rows.plain_sorted PyProof.Rows.entry_sorted (PyProof.Rows.args_sorted1 _) ?_
  unfold Builtin.«sorted»
  refine wpAny_bind (m := checkCount "sorted" 1 1 _) (wpAny_pure ?_)
  refine wpAny_bind (PySem.W.kdu_collect (A := X.A.in1) (PySem.W.kdl_dict (knd := mixKind X.prog X.w) (kvs := vs) (ep := ep) lo) (I.ok.hd hcalm) hat h16 fun h' tk acc hk hacc => ?_)
  have hal : acc.toList.length = ks.length := by rw [Array.length_toList, hacc.1, hl]
  have hS : IntsAre acc.toList ks := ints_each hal fun j v e => by
    obtain ⟨k, x, e1, e2⟩ := hacc.2 j v (by rw [← Array.getElem?_toList]; exact e)
    have e3 : (vs.map (·.1))[j]? = some k := by rw [List.getElem?_map, e1]; rfl
    rw [hkeys, List.getElem?_map] at e3
    cases e4 : ks[j]? with
    | none => rw [e4] at e3; cases e3
    | some y =>
      rw [e4] at e3
      have e5 : Sum.inl y = k := Option.some.inj e3
      subst e5
      rcases keyIs_shape (show keyIs (Sum.inl y) v = true from e2) with ⟨i, t, ek, ev⟩ | ⟨z, t, ek, ev⟩
      · cases ek
        exact ⟨y, t, rfl, ev⟩
      · cases ek
  have I1 : Inv X pins σ H { s with heap := h', toks := tk } := I.kept hk
  have hz2 : acc.toList.length ≤ sizeLine := by rw [hal, ← hl]; exact h16
  refine wpAny_bind (wpAny_newList ?_ hz2)
  have hoL : (h'.push (seqObj "list" acc.toList.toArray 0)).get? h'.objs.size = some (seqObj "list" acc.toList.toArray 0) := Heap.get?_push_size _ rfl
  show wpAny _ _ _ _ _ { s with heap := h'.push (seqObj "list" acc.toList.toArray 0), toks := tk }
  refine wpAny_bind (wpAny_holding (wpAny_call_entry PyProof.Rows.slot_list_sort ⟨_, hoL, rfl⟩ PyProof.Rows.entry_list_sort
    (SrtO.list_sort_ord (s := { s with heap := h'.push (seqObj "list" acc.toList.toArray 0), toks := tk }) SrtO.swo_int hoL hz2 (fun h2 => SrtO.ints_sortable hS h2) fun out g1 g2 => ⟨_, rfl, ?_⟩) (PyProof.Rows.args_list_sort _)))
  obtain ⟨k1, k2, k3⟩ := SrtO.ints_out hS g1 g2
  obtain ⟨e', he'⟩ := PyProof.Rows.sortedHeap_at (vs := acc.toList) (out := out.toArray) hoL
  have hlen : ((out.map SrtO.iv).map V.int).length ≤ sizeLine := by
    rw [List.length_map, k2.length_eq, ← hl]
    exact h16
  refine wpAny_pure ⟨_, rfl, .ref h'.objs.size, upd H h'.objs.size (.lst ((out.map SrtO.iv).map V.int)), I1.laid (t' := tk) (fun b u e => ?_) (Nat.le_refl _)
    (show ObjOk X.prog X.w _ _ _ (.lst ((out.map SrtO.iv).map V.int)) from ⟨hlen, out, e', vals_of_ints k1, he'⟩), rfl, q _ _ k2 k3 (I1.hok.fresh (Nat.le_refl _))⟩
  have hb : b < h'.objs.size := Heap.lt_size e
  rw [PyProof.Rows.sortedHeap_old (Nat.ne_of_lt hb) (by rw [size_push']; exact Nat.lt_succ_of_lt hb)]
  exact Heap.get?_push_of_some _ e
def kints : List Key → Option (List Int)
  | [] => some []
  | .inl i :: r => (kints r).map fun l => i :: l
  | _ => none
theorem kints_ok : ∀ {ks : List Key} {ns : List Int}, kints ks = some ns → ks = ns.map Sum.inl
  | [], ns, e => by cases e; rfl
  | .inr _ :: r, ns, e => by cases e
  | .inl i :: r, ns, e => by
    unfold kints at e
    cases q : kints r with
    | none => rw [q] at e; cases e
    | some l => rw [q] at e; cases e; rw [kints_ok q]; rfl
theorem kints_map (ns : List Int) : kints (ns.map Sum.inl) = some ns := by
  induction ns with
  | nil => rfl
  | cons n r ih => rw [List.map_cons, kints, ih]; rfl
def fSortedD (d : D) : Option D := match d with
  | .dk ks _ => (kints ks).map fun ns => .lst ((isort ns).map D.int)
  | _ => none
theorem cs_sortedD : CallS K C rSortedDA (on1 fSortedD) := fun H vs ds z Q r e k => by
  obtain ⟨d, rfl, e1⟩ := on1_inv e
  clear e
  obtain ⟨v, rfl, rb⟩ := rbl1 r
  obtain ⟨A, _, o⟩ := rb
  cases o <;> try (cases e1)
  rename_i p ks vs ds hl q ha y
  have e2 : ((kints ks).map fun ns => D.lst ((isort ns).map D.int)) = some z := e1
  cases q2 : kints ks with
  | none => rw [q2] at e2; cases e2
  | some ns =>
    rw [q2] at e2
    cases e2
    have := kints_ok q2
    subst this
    refine ⟨p, _, ns, rfl, .inl q, zip_fst (by rw [hl, y.length]), fun ys p2 h1 h2 hp => ?_⟩
    have : ys = isort ns := up_one (h1.trans (isort_perm ns).symm) h2 (isort_up ns)
    subst this
    exact k _ _ (One p2) (same_upd hp) (one_fr hp) one_al (new_lst (own_ints _) hp)
/-! ### d.update(d2) -/
def rUpdD : V → List V → Hp → VK → Prop := fun x xs H Q => ∃ a b kvs more, x = .ref a ∧ xs = [.ref b] ∧ a ≠ b ∧ H a = some (.dK kvs) ∧ Rd H b (.dK more) ∧ kvs.length + more.length ≤ sizeLine ∧ Q .non (upd H a (.dK (mergeK kvs more)))
theorem mt_updD {X : Cx} : MtR X "dict.update" rUpdD := by
  intro pins s σ H x xs v us Q I rx rxs h
  obtain ⟨a, b, kvs, more, rfl, rfl, hab, ha, hb, hz, q⟩ := h
  cases rx
  obtain ⟨u, eu, ru⟩ := vals1 rxs
  subst eu
  cases ru
  obtain ⟨z1, lo1, vs1, rel1, dd1⟩ := dk_rd I.hok (.inl ha)
  obtain ⟨z2, lo2, vs2, rel2, dd2⟩ := dk_rd I.hok hb
  have l1 : kvs.length = vs1.length := Paired.length rel1
  have l2 : more.length = vs2.length := Paired.length rel2
  refine call_meetsIn PySem.F.slot_dict_update dd1.typeIs PySem.F.entry_dict_update (PySem.F.args_dict_update_2 _ _) (meets_dict_update (mixKind X.prog X.w) a b hab lo2)
    ⟨vs1, vs2, dd1, dd2, by omega, fun h' hm _ hs => ?_⟩
  have hlen : (mergeK kvs more).length ≤ sizeLine := Nat.le_trans (length_mergeK more kvs) (by omega)
  have he : ∃ q, h'.get? a = some q := let ⟨q, _, _, hq, _⟩ := hm; ⟨q, hq⟩
  exact ⟨.non, _, d_write (t' := s.toks) I (by rw [ha]; exact True.intro) hs he (dk_new hlen lo1 (KV.merge rel2 rel1) hm), rfl, q⟩
def fUpdD (e : D) (l : List D) : Option (D × D) := match e, l with
  | .dk ks ds, [.dk ms es] => if ks.Nodup ∧ immL es = true ∧ ks.length + ms.length ≤ 1000000 then some (.non, .dk (mergeKD (ks, ds) (ms.zip es)).1 (mergeKD (ks, ds) (ms.zip es)).2) else none
  | _, _ => none
theorem zip_1 {α β : Type} : ∀ {a : List α} {b : List β}, a.length = b.length → (a.zip b).map (fun x => x.1) = a
  | [], [], _ => rfl
  | x :: a, y :: b, h => by rw [List.zip_cons_cons, List.map_cons, zip_1 (by simpa using h)]
theorem zip_2 {α β : Type} : ∀ {a : List α} {b : List β}, a.length = b.length → (a.zip b).map (fun x => x.2) = b
  | [], [], _ => rfl
  | x :: a, y :: b, h => by rw [List.zip_cons_cons, List.map_cons, zip_2 (by simpa using h)]
theorem ms_updD : MutS K C rUpdD fUpdD := fun H w ws e ds A B r' e' Q al o ol sp alB h k => by
  cases o <;> try (cases h)
  rename_i p ks vs ds0 hn q ha z
  cases ol with
  | nil => cases h
  | cons a b c x y =>
    cases y with
    | cons _ _ _ _ _ => cases x <;> cases h
    | nil =>
      rename_i A1 A2 d v
      cases x <;> try (cases h)
      rename_i p2 ms vs2 es hn2 q2 ha2 z2
      have h' : (if ks.Nodup ∧ immL es = true ∧ ks.length + ms.length ≤ 1000000 then some (D.non, D.dk (mergeKD (ks, ds0) (ms.zip es)).1 (mergeKD (ks, ds0) (ms.zip es)).2) else none) = some (r', e') := h
      split at h'
      case isFalse => cases h'
      rename_i cc
      obtain ⟨nd, im, hl⟩ := cc
      cases h'
      have ne : p ≠ p2 := fun zz => sp p ha (b p (by rw [zz]; exact ha2))
      have kp : ∀ (R : AP) o', ¬ R p → Keep R H (upd H p o') := fun R o' n => keep_upd q (fun _ z => by cases z) (fun _ _ z => by cases z) n
      have iz : IL K C H es vs2 := z2.imm (B := Mt) im
      have lz : (ks.zip vs).length ≤ ks.length := by rw [List.length_zip]; exact Nat.min_le_left _ _
      have lz2 : (ms.zip vs2).length ≤ ms.length := by rw [List.length_zip]; exact Nat.min_le_left _ _
      have i2 : IL K C H ((ms.zip es).map (·.2)) vs2 := by rw [zip_2 hn2]; exact iz
      obtain ⟨us, w1, w2, w3⟩ := merge_own (prs := ms.zip es) i2 hn nd z
      rw [zip_1 hn2] at w1
      refine ⟨p, p2, _, _, rfl, rfl, ne, q, .inl q2, Nat.le_trans (Nat.add_le_add lz lz2) (sl100 hl), ?_⟩
      rw [w1]
      exact k .non _ A (fun R s _ => upd_keep q (fun _ z => by cases z) (fun _ _ z => by cases z) ha s) (upd_al al) cup_l upd_grow (.dk ha w2 upd_same (w3.keep (kp _ _ fun t => t.2 rfl))) .non
end
end Dy

/-! Further rules. -/
namespace Dy
open PySem PyProof.Rows L2
section
variable {K : PySem.W.Frag} {C : Nat → Addr} {W : Nat → Prop}
end
section
variable {K : PySem.W.Frag} {C : Nat → Addr}
/-! ### x[e]: x a slot's, read behind; an item that stays as it is -/
def impD (d : D) : Option D := if imm d = true then some d else none
def e2x (i : Nat) (G : SS → R D) : SS → R D := fun s => match valAt i s with
  | some _ => (G s).bind fun b s2 => R.of ((valAt i s2).bind fun a => (fIx a b).bind impD) s2
  | none => .stuck
theorem se_ixV {W} {tb : TE} {G : SS → R D} (i : Nat) (hb : SimE K C W tb G) : SimE K C W (tOp (rIxA K) (tVar i) tb) (e2x i G) := fun Φ Λ π ss σ H Q rel p => by
  unfold e2x at p
  cases e : valAt i ss with
  | none => rw [e] at p; exact p.elim
  | some d =>
    rw [e] at p
    obtain ⟨v, A, e1, al, o⟩ := rel.val e
    refine ⟨v, e1, hb Φ Λ π ss σ H _ rel ?_⟩
    have p' : PostE K C W Φ Λ π σ H Q ((G ss).bind fun b s2 => R.of ((valAt i s2).bind fun a => (fIx a b).bind impD) s2) := p
    cases eb : G ss with
    | stuck => rw [eb] at p'; exact p'
    | exc x s => rw [eb] at p'; exact p'
    | ok b s2 =>
      rw [eb] at p'
      intro u H2 B2 k2 r2 sp2 o2
      have p2 : PostE K C W Φ Λ π σ H Q (R.of ((valAt i s2).bind fun a => (fIx a b).bind impD) s2) := p'
      cases e2 : valAt i s2 with
      | none => rw [e2] at p2; exact p2.elim
      | some a =>
        rw [e2] at p2
        simp only [Option.bind_some] at p2
        obtain ⟨v', A', e1', al', o'⟩ := r2.val e2
        rw [e1] at e1'; cases e1'
        cases ez : fIx a b with
        | none => rw [ez] at p2; exact p2.elim
        | some z =>
          rw [ez] at p2
          simp only [Option.bind_some] at p2
          cases im : imm z with
          | false => simp only [impD, im, Bool.false_eq_true, if_false] at p2; exact p2.elim
          | true =>
            simp only [impD, im, if_true] at p2
            have q4 := r2.shrink cup_l rel.psi
            exact op_ix H2 v u a b z A' Q al' o' ⟨B2, r2.al.mono cup_r, o2⟩ ez fun w ow => p2 w H2 Mt k2 (q4.grow (Same.refl H2) fr_mt al_mt) ((fr_sep fr_mt q4.al).symm) (ow.imm im)
/-! ### steps -/
theorem clr_nx {ts : List Nat} {F : SS → RS} {s s1 s2 : SS} (h : F s = .nx s1) (h2 : clr ts s1 = s2) : sClr ts F s = .nx s2 := by
  unfold sClr; rw [h, ← h2]; rfl
theorem clr_ret {ts : List Nat} {F : SS → RS} {s s1 s2 : SS} {d : D} (h : F s = .ret d s1) (h2 : clr ts s1 = s2) : sClr ts F s = .ret d s2 := by
  unfold sClr; rw [h, ← h2]; rfl
end
end Dy

/-! Mirrors of defs. -/
namespace Dy.Pm
open PySem L2 Dy
noncomputable section
def F_is_number : SS → RS := (sRet (eN (pBl (pAnd (p1 asB (p1 (on2 fIsi) (psC (fV 0) (psC (fC (.op (.ty "int"))) psN)))) (p1 asB (pBl (pAnd (p1 asB (pBl (pNot (p1 asB (p1 (on2 fIsi) (psC (fV 0) (psC (fC (.op (.ty "bool"))) psN))))))) (p1 asB (pChain fLe fLe (fV 1) (fV 0) (fV 2))))))))))
def F_Layer_init : SS → RS := (sSeq (sFldD 0 pRoot "stream" (eI (fV 1)))
  (sSeq (sFldD 0 pRoot "size" (eI (fV 2)))
  (sSeq (sFldD 0 pRoot "seq" (eN (fC (.int 0))))
  (sSeq (sFldD 0 pRoot "count" (eN (fC (.int 0))))
  (sSeq (sFldD 0 pRoot "open_body" (eN (p1 fLst psN)))
  (sFldD 0 pRoot "first" (eN (fC .non))))))))
def F_Layer_made : SS → RS := (sClr [1] (sSeq (sSet 1 (eN (p1 fTup (psC (fP 0 (pFld pRoot "stream")) (psC (fP 0 (pFld pRoot "count")) (psC (fP 0 (pFld pRoot "first")) (psC (p1 (on1 fTuple) (psC (fP 0 (pFld pRoot "open_body")) psN)) psN)))))))
  (sSeq (sFldD 0 pRoot "count" (eN (p2 fAdd (fP 0 (pFld pRoot "count")) (fC (.int 1)))))
  (sSeq (sFldD 0 pRoot "open_body" (eN (p1 fLst psN)))
  (sSeq (sFldD 0 pRoot "first" (eN (fC .non)))
  (sRet (eI (fV 1))))))))
def L__law_mix_0 : SS → RS := (sClr [3] (sSet 2 (eN (p2 fMod (p2 fAdd (p2 fAdd (p2 fMul (fV 2) (fC (.int 48271))) (p2 fMod (fV 3) (fC (.int 2147483629)))) (fC (.int 1))) (fC (.int 2147483647))))))
def S__law_mix_1 : SS → RS := (sClr [3] (sFor [3] id (iBor 0) (lendSl 3) L__law_mix_0))
def F__law_mix : SS → RS := (sClr [2, 3] (sSeq (sSet 2 (eI (fV 1)))
  (sSeq S__law_mix_1
  (sRet (e1 gLstD (eaC (eI (fV 2)) (eaC (eN (p1 (on1 fList) (psC (fV 0) psN))) (eaC (eN (fC (.int 0))) eaN))))))))
def F__law_next : SS → RS := (sClr [2, 3] (sSeq (sSet 2 (eN (p2 fMod (p2 fIx (fV 0) (fC (.int 2))) (p1 fMax (psC (fC (.int 1)) (psC (p1 (on1 fLen) (psC (p2 fIx (fV 0) (fC (.int 1))) psN)) psN))))))
  (sSeq (sSet 3 (eI (pIf (p1 asB (p2 fNe (p2 fIx (fV 0) (fC (.int 1))) (p1 fLst psN))) (p2 fIx (p2 fIx (fV 0) (fC (.int 1))) (fV 2)) (fC (.int 0)))))
  (sSeq (sIf (tP (p1 asB (p2 fGe (fV 3) (p2 fPow (fC (.int 10)) (fC (.int 18)))))) (sSeq (sItem 0 (pIdx 0 pRoot (fC (.int 1))) (fV 2) fSetI (eN (p2 fDiv (fV 3) (fV 1))))
  (sRet (eN (p2 fMod (fV 3) (fV 1))))) sNil)
  (sSeq (sItem 0 pRoot (fC (.int 0)) fSetI (eN (p2 fMod (p2 fAdd (p2 fAdd (p2 fMul (p2 fIx (fV 0) (fC (.int 0))) (fC (.int 48271))) (p2 fMul (fV 3) (fC (.int 69621)))) (fC (.int 11))) (fC (.int 2147483647)))))
  (sSeq (sItem 0 pRoot (fC (.int 2)) fSetI (eN (p2 fAdd (p2 fIx (fV 0) (fC (.int 2))) (fC (.int 1)))))
  (sRet (eN (p2 fMod (p2 fDiv (p2 fIx (fV 0) (fC (.int 0))) (fC (.int 7))) (fV 1))))))))))
def F__law_fresh : SS → RS := (sRet (eDisp [(.inr "size"), (.inr "numbers"), (.inr "starts")] (eaC (eI (fV 0)) (eaC (eN (p1 fLst psN)) (eaC (eN (p1 fLst psN)) eaN)))))
def F__law_lay : SS → RS := (sClr [2] (sSeq (sSet 2 (eN (p1 (on1 fLen) (psC (p2 fIx (fV 0) (fC (.str "starts"))) psN))))
  (sSeq (sDrop (eMut 0 (pIdx 0 pRoot (fC (.str "starts"))) "list" fAppend (ofP (psC (p1 fTup (psC (p1 (on1 fLen) (psC (p2 fIx (fV 0) (fC (.str "numbers"))) psN)) (psC (fV 1) psN))) psN))))
  (sSeq (sDrop (eMut 0 (pIdx 0 pRoot (fC (.str "numbers"))) "list" fExtend (ofP (psC (p2 fAdd (p1 fLst (psC (p1 (on1 fLen) (psC (fV 1) psN)) (psC (p2 fDiv (fV 2) (fC (.int 256))) (psC (p2 fMod (fV 2) (fC (.int 256))) psN)))) (p1 (on1 fList) (psC (fV 1) psN))) psN))))
  (sRet (eI (fV 2)))))))
def F__law_fill : SS → RS := (sClr [1] (sSeq (sSet 1 (eN (p2 fMod (p1 (on1 fLen) (psC (p2 fIx (fV 0) (fC (.str "numbers"))) psN)) (p2 fIx (fV 0) (fC (.str "size"))))))
  (sSeq (sDrop (eMut 0 (pIdx 0 pRoot (fC (.str "numbers"))) "list" fExtend (ofP (psC (pIf (p1 asB (p2 fGt (fV 1) (fC (.int 0)))) (p2 fMul (p1 fLst (psC (fC (.int 0)) psN)) (p2 fSubI (p2 fIx (fV 0) (fC (.str "size"))) (fV 1))) (p1 fLst psN)) psN))))
  (sRet (eN (p2 fGt (fV 1) (fC (.int 0))))))))
def F__law_many : SS → RS := (sRet (eN (p2 fDiv (p1 (on1 fLen) (psC (p2 fIx (fV 0) (fC (.str "numbers"))) psN)) (p2 fIx (fV 0) (fC (.str "size"))))))
def T__law_frame_0 : SS → Option Bool := (p1 asB (pChain fLe fLt (fV 3) (fV 6) (fV 4)))
def E__law_frame_1 : SS → Option D := (p2 fSubI (fV 6) (fV 3))
def C__law_frame_2 : SS → Option D := (pCmp [6, 7] (iP (p2 fIx (fV 0) (fC (.str "starts")))) (lendAll [6, 7]) T__law_frame_0 E__law_frame_1)
def F__law_frame : SS → RS := (sClr [3, 4, 5] (sSeq (sSet 3 (eN (p2 fMul (fV 2) (p2 fIx (fV 0) (fC (.str "size"))))))
  (sSeq (sSet 4 (eN (p2 fAdd (fV 3) (p2 fIx (fV 0) (fC (.str "size"))))))
  (sSeq (sSet 5 (eN C__law_frame_2))
  (sRet (eN (p1 fTup (psC (fV 1) (psC (fV 2) (psC (pIf (p1 asB (p2 fNe (fV 5) (p1 fLst psN))) (p1 fMin (psC (fV 5) psN)) (fC .non)) (psC (p1 (on1 fTuple) (psC (pSl fSl (p2 fIx (fV 0) (fC (.str "numbers"))) (oS (fV 3)) (oS (fV 4))) psN)) psN)))))))))))
def F_need_size : SS → RS := (sIf (tP (pNot (p1 asB (pCall 3 0 F_is_number (qL 0 pRoot (qV (fC (.int 8)) (qV (fC (.int 24)) qN))))))) (sRaise 5) sNil)
def F_need_stream : SS → RS := (sIf (tP (pNot (p1 asB (pCall 3 0 F_is_number (qL 0 pRoot (qV (fC (.int 0)) (qV (p2 fSubI (fC (.int 4)) (fC (.int 1))) qN))))))) (sRaise 7) sNil)
def T_are_numbers_0 : SS → Option Bool := (pNot (p1 asB (pCall 3 0 F_is_number (qL 3 pRoot (qV (fC (.int 0)) (qV (fC (.int 255)) qN))))))
def E_are_numbers_1 : SS → Option D := (fV 3)
def C_are_numbers_2 : SS → Option D := (pCmp [3] (iP (fV 0)) (lendSl 3) T_are_numbers_0 E_are_numbers_1)
def F_are_numbers : SS → RS := (sSeq (sIf (tP (pOr (pNot (p1 asB (p1 (on2 fIsi) (psC (fV 0) (psC (fC (.op (.ty "tuple"))) psN))))) (pNot (p1 asB (pChain fLe fLe (fV 1) (p1 (on1 fLen) (psC (fV 0) psN)) (fV 2)))))) (sRet (eN (fC (.bl false)))) sNil)
  (sRet (eN (p2 fEq C_are_numbers_2 (p1 fLst psN)))))
def L_Layer_lay_0 : SS → RS := (sClr [3] (sSeq (sDrop (eMut 0 (pFld pRoot "open_body") "list" fAppend (ofP (psC (pI (fV 3)) psN))))
  (sIf (tP (p1 asB (p2 fEq (p1 (on1 fLen) (psC (fP 0 (pFld pRoot "open_body")) psN)) (fP 0 (pFld pRoot "size"))))) (sDrop (eMut 2 pRoot "list" fAppend (eaC (eMethP Ar.inn 0 pRoot 0 "made" 1 1 F_Layer_made qN) eaN))) sNil)))
def S_Layer_lay_1 : SS → RS := (sClr [3] (sFor [3] id (iE (eN (p2 fAdd (p1 fTup (psC (p1 (on1 fLen) (psC (fV 1) psN)) (psC (p2 fDiv (fP 0 (pFld pRoot "seq")) (fC (.int 256))) (psC (p2 fMod (fP 0 (pFld pRoot "seq")) (fC (.int 256))) psN)))) (fV 1)))) (lendSl 3) L_Layer_lay_0))
def F_Layer_lay : SS → RS := (sClr [2, 3] (sSeq (sSet 2 (eN (p1 fLst psN)))
  (sSeq (sIf (tP (p1 asB (p2 fIsN (fP 0 (pFld pRoot "first")) (fC .non)))) (sFldD 0 pRoot "first" (eN (p1 (on1 fLen) (psC (fP 0 (pFld pRoot "open_body")) psN)))) sNil)
  (sSeq S_Layer_lay_1
  (sSeq (sFldD 0 pRoot "seq" (eN (p2 fAdd (fP 0 (pFld pRoot "seq")) (fC (.int 1)))))
  (sRet (eMv 2)))))))
def F_Layer_filled : SS → RS := (sSeq (sIf (tP (p1 asB (p2 fEq (fP 0 (pFld pRoot "open_body")) (p1 fLst psN)))) (sRet (eN (p1 fLst psN))) sNil)
  (sSeq (sDrop (eMut 0 (pFld pRoot "open_body") "list" fExtend (ofP (psC (p2 fMul (p1 fLst (psC (fC (.int 0)) psN)) (p2 fSubI (fP 0 (pFld pRoot "size")) (p1 (on1 fLen) (psC (fP 0 (pFld pRoot "open_body")) psN)))) psN))))
  (sRet (e1 gLstD (eaC (eMethP Ar.inn 0 pRoot 0 "made" 1 1 F_Layer_made qN) eaN)))))
def E__law_data_0 : SS → R D := (eCall 2 2 F__law_next (gI 0 (gV (e2 fIx (eN (p1 fLst (psC (fC (.int 2)) (psC (fC (.int 256)) psN)))) (eCall 2 2 F__law_next (rP (qI 0 pRoot (qV (fC (.int 2)) qN))))) (rP qN))))
def C__law_data_1 : SS → R D := (eCmp [2] id (e1 iR1 (eaC (eI (fV 1)) eaN)) (lendSl 2) (tP fun _ => some true) E__law_data_0)
def F__law_data : SS → RS := (sClr [1] (sSeq (sSet 1 (e2 fIx (e1 gLstD (eaC (eN (fC (.int 1))) (eaC (e2 fAdd (eN (fC (.int 1))) (eCall 2 2 F__law_next (rP (qI 0 pRoot (qV (fC (.int 5)) qN))))) (eaC (e2 fAdd (eN (fC (.int 1))) (eCall 2 2 F__law_next (rP (qI 0 pRoot (qV (fC (.int 20)) qN))))) (eaC (eN (fC (.int 20))) eaN))))) (eCall 2 2 F__law_next (rP (qI 0 pRoot (qV (fC (.int 4)) qN))))))
  (sRet (e1 (on1 fTuple) (eaC C__law_data_1 eaN)))))
def F_need_data : SS → RS := (sIf (tP (pNot (p1 asB (pCall 3 1 F_are_numbers (qL 0 pRoot (qV (fC (.int 1)) (qV (fC (.int 20)) qN))))))) (sRaise 8) sNil)
def L_frames_of_0 : SS → RS := (sClr [3] (sDrop (eCall 1 0 F_need_data (rP (qL 3 pRoot qN)))))
def S_frames_of_1 : SS → RS := (sClr [3] (sFor [3] id (iBor 1) (lendSl 3) L_frames_of_0))
def L_frames_of_2 : SS → RS := (sClr [3] (sDrop (eMut 5 pRoot "list" fExtend (eaC (eMethP Ar.inn 4 pRoot 0 "lay" 2 2 F_Layer_lay (qL 3 pRoot qN)) eaN))))
def S_frames_of_3 : SS → RS := (sClr [3] (sFor [3] id (iBor 1) (lendSl 3) L_frames_of_2))
def F_frames_of : SS → RS := (sClr [3, 4, 5] (sSeq (sDrop (eCall 1 0 F_need_stream (rP (qL 0 pRoot qN))))
  (sSeq S_frames_of_1
  (sSeq (sDrop (eCall 1 0 F_need_size (rP (qL 2 pRoot qN))))
  (sSeq (sSet 4 (eMake 0 2 0 F_Layer_init (rP (qL 0 pRoot (qL 2 pRoot qN)))))
  (sSeq (sSet 5 (eN (p1 fLst psN)))
  (sSeq S_frames_of_3
  (sRet (e2v fAdd 5 (eMethP Ar.inn 4 pRoot 0 "filled" 1 0 F_Layer_filled qN))))))))))
def B__law_alike (rec : SS → RS) : SS → RS := (sSeq (sIf (tP (p1 asB (p1 (on2 fIsi) (psC (fV 1) (psC (p1 fTup (psC (fC (.op (.ty "tuple"))) (psC (fC (.op (.ty "list"))) psN))) psN))))) (sSeq (sIf (tP (pOr (pNot (p1 asB (p1 (on2 fIsi) (psC (fV 0) (psC (p1 fTup (psC (fC (.op (.ty "tuple"))) (psC (fC (.op (.ty "list"))) psN))) psN))))) (p1 asB (p2 fNe (p1 (on2 fIsi) (psC (fV 0) (psC (fC (.op (.ty "list"))) psN))) (p1 (on2 fIsi) (psC (fV 1) (psC (fC (.op (.ty "list"))) psN))))))) (sRet (eN (fC (.bl false)))) sNil)
  (sSeq (sIf (tP (p1 asB (p2 fNe (p1 (on1 fLen) (psC (fV 0) psN)) (p1 (on1 fLen) (psC (fV 1) psN))))) (sRet (eN (fC (.bl false)))) sNil)
  (sRet (eN (p2 fEq (pCmp [2] (p1 iR1 (psC (p1 (on1 fLen) (psC (fV 1) psN)) psN)) (lendSl 2) (pNot (p1 asB (pCall 2 1 rec (qL 0 (pIdx 0 pRoot (fV 2)) (qL 1 (pIdx 1 pRoot (fV 2)) qN))))) (fV 2)) (p1 fLst psN)))))) sNil)
  (sSeq (sIf (tP (p1 asB (p2 fIsN (fV 1) (fC .non)))) (sRet (eN (p2 fIsN (fV 0) (fC .non)))) sNil)
  (sSeq (sIf (tP (p1 asB (p1 (on2 fIsi) (psC (fV 1) (psC (fC (.op (.ty "str"))) psN))))) (sRet (eN (pBl (pAnd (p1 asB (p1 (on2 fIsi) (psC (fV 0) (psC (fC (.op (.ty "str"))) psN)))) (p1 asB (p2 fEq (fV 0) (fV 1))))))) sNil)
  (sSeq (sIf (tP (pOr (p1 asB (p1 (on2 fIsi) (psC (fV 1) (psC (fC (.op (.ty "bool"))) psN)))) (p1 asB (p1 (on2 fIsi) (psC (fV 0) (psC (fC (.op (.ty "bool"))) psN)))))) (sRet (eN (pBl (pAnd (p1 asB (p1 (on2 fIsi) (psC (fV 1) (psC (fC (.op (.ty "bool"))) psN)))) (p1 asB (pBl (pAnd (p1 asB (p1 (on2 fIsi) (psC (fV 0) (psC (fC (.op (.ty "bool"))) psN)))) (p1 asB (p2 fEq (fV 0) (fV 1)))))))))) sNil)
  (sRet (eN (pBl (pAnd (p1 asB (p1 (on2 fIsi) (psC (fV 0) (psC (fC (.op (.ty "int"))) psN)))) (p1 asB (p2 fEq (fV 0) (fV 1)))))))))))
def F__law_alike : Nat → SS → RS
  | 0 => sStuck
  | n + 1 => B__law_alike (F__law_alike n)
end
end Dy.Pm

/-! Mirrors of defs. -/
namespace Dy.Pm
open PySem L2 Dy
noncomputable section
def T_Craft_keep_0 : SS → Option Bool := (p1 asB (p2 fEq (p2 fIx (p2 fIx (fP 0 (pFld pRoot "store")) (fV 5)) (fC (.int 1))) (fC (.str "sent"))))
def E_Craft_keep_1 : SS → Option D := (fV 5)
def C_Craft_keep_2 : SS → Option D := (pCmp [5] (p1 iR1 (psC (p1 (on1 fLen) (psC (fP 0 (pFld pRoot "store")) psN)) psN)) (lendSl 5) T_Craft_keep_0 E_Craft_keep_1)
def T_Craft_keep_3 : SS → Option Bool := (p1 asB (p2 fNe (fV 6) (pSl fSl (fV 3) oN (oS (fC (.int 2))))))
def E_Craft_keep_4 : SS → Option D := (fV 6)
def C_Craft_keep_5 : SS → Option D := (pCmp [6] (iP (fP 0 (pFld pRoot "asked"))) (lendSl 6) T_Craft_keep_3 E_Craft_keep_4)
def F_Craft_keep : SS → RS := (sClr [2, 3, 4] (sSeq (sClr [2, 3, 4] (sIf (tP (p1 asB (p2 fEq (p1 (on1 fLen) (psC (fP 0 (pFld pRoot "store")) psN)) (fP 0 (pFld pRoot "room"))))) (sSeq (sSet 2 (eN C_Craft_keep_2))
  (sSeq (sUnp [3, 4] (eMut 0 (pFld pRoot "store") "list" fPopAt (ofP (psC (pI (pIf (p1 asB (p2 fNe (fV 2) (p1 fLst psN))) (p2 fIx (fV 2) (fC (.int 0))) (fC (.int 0)))) psN))))
  (sSeq (sFldD 0 pRoot "asked" (eN C_Craft_keep_5))
  (sIf (tP (p1 asB (p2 fEq (fV 4) (fC (.str "fresh"))))) (sDrop (eMut 0 (pFld pRoot "gone") "list" fAppend (ofP (psC (pSl fSl (fV 3) oN (oS (fC (.int 2)))) psN)))) sNil)))) sNil))
  (sDrop (eMut 0 (pFld pRoot "store") "list" fAppend (ofP (psC (p1 fTup (psC (fV 1) (psC (fC (.str "fresh")) psN))) psN))))))
def F_Craft_begin : SS → RS := (sClr [1] (sSeq (sSet 1 (eI (fP 0 (pFld pRoot "is_open"))))
  (sSeq (sFldD 0 pRoot "is_open" (eN (fC (.bl true))))
  (sRet (eN (pBl (pNot (p1 asB (fV 1)))))))))
def F_Craft_shut : SS → RS := (sClr [1] (sSeq (sSet 1 (eI (fP 0 (pFld pRoot "is_open"))))
  (sSeq (sFldD 0 pRoot "is_open" (eN (fC (.bl false))))
  (sRet (eI (fV 1))))))
def F_Craft_sent : SS → RS := (sClr [2] (sSeq (sSet 2 (eI (p2 fIx (p2 fIx (fP 0 (pFld pRoot "store")) (fV 1)) (fC (.int 0)))))
  (sSeq (sItem 0 (pFld pRoot "store") (fV 1) fSetI (eN (p1 fTup (psC (fV 2) (psC (fC (.str "sent")) psN)))))
  (sRet (eI (fV 2))))))
def E_Craft_kept_0 : SS → Option D := (p2 fAdd (pSl fSl (p2 fIx (fV 1) (fC (.int 0))) oN (oS (fC (.int 2)))) (p1 fTup (psC (p2 fIx (fV 1) (fC (.int 1))) psN)))
def C_Craft_kept_1 : SS → Option D := (pCmp [1] (iP (fP 0 (pFld pRoot "store"))) (lendSl 1) (fun _ => some true) E_Craft_kept_0)
def F_Craft_kept : SS → RS := (sRet (eN C_Craft_kept_1))
def F_Craft_lost : SS → RS := (sRet (eN (p1 (on1 fList) (psC (fP 0 (pFld pRoot "gone")) psN))))
def T_kept_by_0 : SS → Option Bool := (p1 asB (pChain fLe fLt (p2 fIx (fV 5) (fC (.int 0))) (fV 4) (p2 fIx (fV 5) (fC (.int 1)))))
def E_kept_by_1 : SS → Option D := (fV 5)
def C_kept_by_2 : SS → Option D := (pCmp [5] (iP (fV 1)) (lendSl 5) T_kept_by_0 E_kept_by_1)
def L_kept_by_3 : SS → RS := (sClr [4] (sSeq (sSet 3 (eN (p2 fAdd (fV 3) (p2 fIx (fV 0) (fV 4)))))
  (sSeq (sDrop (eMut 2 pRoot "list" fAppend (eaC (eI (fV 3)) eaN)))
  (sIf (tP (pAnd (p1 asB (p2 fGt (fV 3) (fC (.int 0)))) (p1 asB (p2 fNe C_kept_by_2 (p1 fLst psN))))) (sSet 3 (eN (p2 fSubI (fV 3) (fC (.int 1))))) sNil))))
def S_kept_by_4 : SS → RS := (sClr [3, 4] (sFor [4] id (e1 iR1 (eaC (eN (p1 (on1 fLen) (psC (fV 0) psN))) eaN)) (lendSl 4) L_kept_by_3))
def F_kept_by : SS → RS := (sClr [2, 3, 4] (sSeq (sSet 2 (eN (p1 fLst psN)))
  (sSeq (sSet 3 (eN (fC (.int 0))))
  (sSeq S_kept_by_4
  (sRet (eMv 2))))))
def F_need_room : SS → RS := (sIf (tP (pNot (p1 asB (pCall 3 0 F_is_number (qL 0 pRoot (qV (fC (.int 1)) (qV (fC (.int 60)) qN))))))) (sRaise 6) sNil)
def L_need_marks_0 : SS → RS := (sClr [1, 2, 3] (sSeq (sSet 2 (eI (p2 fIx (fV 0) (fV 1))))
  (sSeq (sSet 3 (eN (pBl (pAnd (p1 asB (p1 (on2 fIsi) (psC (fV 2) (psC (fC (.op (.ty "tuple"))) psN)))) (p1 asB (pBl (pAnd (p1 asB (p2 fEq (p1 (on1 fLen) (psC (fV 2) psN)) (fC (.int 2)))) (p1 asB (pCall 3 0 F_is_number (qL 2 (pIdx 2 pRoot (fC (.int 0))) (qV (fC (.int 0)) (qV (p2 fSubI (fC (.int 4)) (fC (.int 1))) qN))))))))))))
  (sIf (tP (pOr (pNot (p1 asB (fV 3))) (pNot (p1 asB (pCall 3 0 F_is_number (qL 2 (pIdx 2 pRoot (fC (.int 1))) (qV (fC (.int 0)) (qV (fC (.int 9999)) qN)))))))) sStuck sNil))))
def S_need_marks_1 : SS → RS := (sClr [1, 2, 3] (sFor [1] id (e1 iR1 (eaC (eN (p1 (on1 fLen) (psC (fV 0) psN))) eaN)) (lendSl 1) L_need_marks_0))
def F_need_marks : SS → RS := (sClr [1, 2, 3] S_need_marks_1)
def L_Craft_beat_0 : SS → RS := (sClr [1] (sIf (tP (pAnd (p1 asB (p2 fNe (fP 0 (pFld pRoot "asked")) (p1 fLst psN))) (p1 asB (p2 fEq (pSl fSl (p2 fIx (p2 fIx (fP 0 (pFld pRoot "store")) (fV 1)) (fC (.int 0))) oN (oS (fC (.int 2)))) (p2 fIx (fP 0 (pFld pRoot "asked")) (fC (.int 0))))))) (sSeq (sDrop (eMut 0 (pFld pRoot "asked") "list" fPopAt (ofP (psC (fC (.int 0)) psN))))
  (sRet (eMethP Ar.inn 0 pRoot 1 "sent" 2 1 F_Craft_sent (qL 1 pRoot qN)))) sNil))
def S_Craft_beat_1 : SS → RS := (sClr [1] (sFor [1] id (e1 iR1 (eaC (eN (p1 (on1 fLen) (psC (fP 0 (pFld pRoot "store")) psN))) eaN)) (lendSl 1) L_Craft_beat_0))
def L_Craft_beat_2 : SS → RS := (sClr [1] (sIf (tP (p1 asB (p2 fEq (p2 fIx (p2 fIx (fP 0 (pFld pRoot "store")) (fV 1)) (fC (.int 1))) (fC (.str "fresh"))))) (sRet (eMethP Ar.inn 0 pRoot 1 "sent" 2 1 F_Craft_sent (qL 1 pRoot qN))) sNil))
def S_Craft_beat_3 : SS → RS := (sClr [1] (sFor [1] id (e1 iR1 (eaC (eN (p1 (on1 fLen) (psC (fP 0 (pFld pRoot "store")) psN))) eaN)) (lendSl 1) L_Craft_beat_2))
def F_Craft_beat : SS → RS := (sClr [1] (sSeq (sIf (tP (pNot (p1 asB (fP 0 (pFld pRoot "is_open"))))) (sRet (eN (fC .non))) sNil)
  (sSeq S_Craft_beat_1
  (sSeq S_Craft_beat_3
  (sRet (eN (fC .non)))))))
def T_need_plan_0 : SS → Option Bool := (pNot (p1 asB (pCall 3 0 F_is_number (qL 4 pRoot (qV (fC (.int 0)) (qV (fC (.int 6)) qN))))))
def E_need_plan_1 : SS → Option D := (fV 4)
def C_need_plan_2 : SS → Option D := (pCmp [4] (iP (fV 0)) (lendSl 4) T_need_plan_0 E_need_plan_1)
def L_need_plan_3 : SS → RS := (sClr [3] (sSeq (sIf (tP (pOr (pNot (p1 asB (p1 (on2 fIsi) (psC (fV 3) (psC (fC (.op (.ty "tuple"))) psN))))) (pOr (p1 asB (p2 fNe (p1 (on1 fLen) (psC (fV 3) psN)) (fC (.int 2)))) (pNot (p1 asB (pCall 3 0 F_is_number (qL 3 (pIdx 3 pRoot (fC (.int 0))) (qL 2 pRoot (qV (p1 (on1 fLen) (psC (fV 0) psN)) qN))))))))) (sRaise 10) sNil)
  (sSeq (sIf (tP (pNot (p1 asB (pCall 3 0 F_is_number (qL 3 (pIdx 3 pRoot (fC (.int 1))) (qV (p2 fAdd (p2 fIx (fV 3) (fC (.int 0))) (fC (.int 1))) (qV (p1 (on1 fLen) (psC (fV 0) psN)) qN))))))) (sRaise 10) sNil)
  (sSet 2 (eI (p2 fIx (fV 3) (fC (.int 1))))))))
def S_need_plan_4 : SS → RS := (sClr [2, 3] (sFor [3] id (iBor 1) (lendSl 3) L_need_plan_3))
def F_need_plan : SS → RS := (sClr [2, 3] (sSeq (sIf (tP (pOr (pNot (p1 asB (p1 (on2 fIsi) (psC (fV 0) (psC (fC (.op (.ty "tuple"))) psN))))) (pOr (p1 asB (p2 fGt (p1 (on1 fLen) (psC (fV 0) psN)) (fC (.int 200)))) (pNot (p1 asB (p1 (on2 fIsi) (psC (fV 1) (psC (fC (.op (.ty "tuple"))) psN)))))))) (sRaise 10) sNil)
  (sSeq (sIf (tP (p1 asB (p2 fNe C_need_plan_2 (p1 fLst psN)))) (sRaise 10) sNil)
  (sSeq (sSet 2 (eN (fC (.int 0))))
  S_need_plan_4))))
def T__law_windows_0 : SS → R Bool := (tP (p1 asB (p2 fLt (fV 3) (fV 1))))
def L__law_windows_1 : SS → RS := (sClr [4, 5] (sSeq (sSet 4 (e2v fAdd 3 (eCall 2 2 F__law_next (rP (qI 0 pRoot (qV (fC (.int 6)) qN))))))
  (sSeq (sSet 5 (e2 fAdd (eN (p2 fAdd (fV 4) (fC (.int 1)))) (eCall 2 2 F__law_next (gI 0 (gV (e2 fIx (eN (p1 fLst (psC (fC (.int 3)) (psC (fC (.int 30)) psN)))) (eCall 2 2 F__law_next (rP (qI 0 pRoot (qV (fC (.int 2)) qN))))) (rP qN))))))
  (sSeq (sIf (tP (p1 asB (p2 fLe (fV 5) (fV 1)))) (sDrop (eMut 2 pRoot "list" fAppend (eaC (eN (p1 fTup (psC (fV 4) (psC (fV 5) psN)))) eaN))) sNil)
  (sSet 3 (eI (fV 5)))))))
def S__law_windows_2 : SS → RS := (sClr [3, 4, 5] (sWhile WN T__law_windows_0 L__law_windows_1))
def F__law_windows : SS → RS := (sClr [2, 3, 4, 5] (sSeq (sPar 2 3 (eaC (eN (p1 fLst psN)) (eaC (eN (fC (.int 0))) eaN)))
  (sSeq S__law_windows_2
  (sRet (eN (p1 (on1 fTuple) (psC (fV 2) psN)))))))
def E_Craft_init_0 : SS → R D := (eMake 0 2 0 F_Layer_init (rP (qL 3 pRoot (qL 1 pRoot qN))))
def C_Craft_init_1 : SS → R D := (eCmp [3] id (e1 iR1 (eaC (eN (fC (.int 4))) eaN)) (lendSl 3) (tP fun _ => some true) E_Craft_init_0)
def F_Craft_init : SS → RS := (sSeq (sDrop (eCall 1 0 F_need_size (rP (qL 1 pRoot qN))))
  (sSeq (sDrop (eCall 1 0 F_need_room (rP (qL 2 pRoot qN))))
  (sSeq (sFldD 0 pRoot "room" (eI (fV 2)))
  (sSeq (sFldD 0 pRoot "layers" C_Craft_init_1)
  (sSeq (sFldD 0 pRoot "store" (eN (p1 fLst psN)))
  (sSeq (sFldD 0 pRoot "asked" (eN (p1 fLst psN)))
  (sSeq (sFldD 0 pRoot "gone" (eN (p1 fLst psN)))
  (sFldD 0 pRoot "is_open" (eN (fC (.bl false)))))))))))
def T_Craft_known_0 : SS → Option Bool := (p1 asB (p2 (fIn true) (pSl fSl (p2 fIx (fV 3) (fC (.int 0))) oN (oS (fC (.int 2)))) (fV 1)))
def E_Craft_known_1 : SS → Option D := (fV 3)
def C_Craft_known_2 : SS → Option D := (pCmp [3] (iP (fP 0 (pFld pRoot "store"))) (lendSl 3) T_Craft_known_0 E_Craft_known_1)
def T_Craft_known_3 : SS → Option Bool := (p1 asB (p2 (fIn true) (fV 4) (fV 1)))
def E_Craft_known_4 : SS → Option D := (fV 4)
def C_Craft_known_5 : SS → Option D := (pCmp [4] (iP (fP 0 (pFld pRoot "asked"))) (lendSl 4) T_Craft_known_3 E_Craft_known_4)
def F_Craft_known : SS → RS := (sClr [2] (sSeq (sDrop (eCall 1 3 F_need_marks (rP (qL 1 pRoot qN))))
  (sSeq (sSet 2 (eN (p1 (on1 fLen) (psC (fP 0 (pFld pRoot "store")) psN))))
  (sSeq (sFldD 0 pRoot "store" (eN C_Craft_known_2))
  (sSeq (sFldD 0 pRoot "asked" (eN C_Craft_known_5))
  (sRet (eN (p2 fSubI (fV 2) (p1 (on1 fLen) (psC (fP 0 (pFld pRoot "store")) psN))))))))))
def F_most_kept : SS → RS := (sSeq (sDrop (eCall 2 3 F_need_plan (rP (qL 0 pRoot (qL 1 pRoot qN)))))
  (sRet (eN (p1 fMax (psC (p2 fAdd (p1 fLst (psC (fC (.int 0)) psN)) (pCall 2 4 F_kept_by (qL 0 pRoot (qL 1 pRoot qN)))) psN)))))
def T_short_at_0 : SS → Option Bool := (p1 asB (p2 fGt (p2 fIx (fV 3) (fV 5)) (fV 2)))
def E_short_at_1 : SS → Option D := (fV 5)
def C_short_at_2 : SS → Option D := (pCmp [5] (p1 iR1 (psC (p1 (on1 fLen) (psC (fV 3) psN)) psN)) (lendSl 5) T_short_at_0 E_short_at_1)
def F_short_at : SS → RS := (sClr [3, 4] (sSeq (sDrop (eCall 2 3 F_need_plan (rP (qL 0 pRoot (qL 1 pRoot qN)))))
  (sSeq (sDrop (eCall 1 0 F_need_room (rP (qL 2 pRoot qN))))
  (sSeq (sSet 3 (eN (pCall 2 4 F_kept_by (qL 0 pRoot (qL 1 pRoot qN)))))
  (sSeq (sSet 4 (eN C_short_at_2))
  (sRet (eI (pIf (p1 asB (p2 fNe (fV 4) (p1 fLst psN))) (p2 fIx (fV 4) (fC (.int 0))) (fC .non)))))))))
def L_Craft_tell_0 : SS → RS := (sClr [4] (sDrop (eMethP Ar.inn 0 pRoot 1 "keep" 2 5 F_Craft_keep (qL 4 pRoot qN))))
def S_Craft_tell_1 : SS → RS := (sClr [4] (sFor [4] id (iE (eMethP Ar.inn 0 (pIdx 0 (pFld pRoot "layers") (fV 1)) 0 "lay" 2 2 F_Layer_lay (qL 2 pRoot qN))) (lendSl 4) L_Craft_tell_0))
def F_Craft_tell : SS → RS := (sClr [3, 4] (sSeq (sDrop (eCall 1 0 F_need_stream (rP (qL 1 pRoot qN))))
  (sSeq (sDrop (eCall 1 0 F_need_data (rP (qL 2 pRoot qN))))
  (sSeq (sSet 3 (eI (fP 0 (pFld (pIdx 0 (pFld pRoot "layers") (fV 1)) "seq"))))
  (sSeq S_Craft_tell_1
  (sRet (eI (fV 3))))))))
end
end Dy.Pm

/-! Mirrors of defs. -/
namespace Dy.Pm
open PySem L2 Dy
noncomputable section
def L_spans_0 : SS → RS := (sClr [2] (sIf (tP (pAnd (p1 asB (p2 fNe (fV 1) (p1 fLst psN))) (p1 asB (p2 fEq (p2 fIx (p2 fIx (fV 1) (p1 fNeg (fC (.int 1)))) (fC (.int 1))) (fV 2))))) (sItem 1 pRoot (p1 fNeg (fC (.int 1))) fSetI (eN (p1 fTup (psC (p2 fIx (p2 fIx (fV 1) (p1 fNeg (fC (.int 1)))) (fC (.int 0))) (psC (p2 fAdd (fV 2) (fC (.int 1))) psN))))) (sDrop (eMut 1 pRoot "list" fAppend (eaC (eN (p1 fTup (psC (fV 2) (psC (p2 fAdd (fV 2) (fC (.int 1))) psN)))) eaN)))))
def S_spans_1 : SS → RS := (sClr [2] (sFor [2] id (iBor 0) (lendSl 2) L_spans_0))
def F_spans : SS → RS := (sClr [1, 2] (sSeq (sSet 1 (eN (p1 fLst psN)))
  (sSeq S_spans_1
  (sRet (eN (p1 (on1 fTuple) (psC (fV 1) psN)))))))
def L__law_spans_0 : SS → RS := (sClr [2] (sIf (tP (pAnd (p1 asB (p2 fNe (fV 1) (p1 fLst psN))) (p1 asB (p2 fEq (p2 fIx (p2 fIx (fV 1) (p1 fNeg (fC (.int 1)))) (fC (.int 1))) (fV 2))))) (sItem 1 pRoot (p1 fNeg (fC (.int 1))) fSetI (eN (p1 fTup (psC (p2 fIx (p2 fIx (fV 1) (p1 fNeg (fC (.int 1)))) (fC (.int 0))) (psC (p2 fAdd (fV 2) (fC (.int 1))) psN))))) (sDrop (eMut 1 pRoot "list" fAppend (eaC (eN (p1 fTup (psC (fV 2) (psC (p2 fAdd (fV 2) (fC (.int 1))) psN)))) eaN)))))
def S__law_spans_1 : SS → RS := (sClr [2] (sFor [2] id (iE (eN (p1 (on1 fSorted) (psC (fV 0) psN)))) (lendSl 2) L__law_spans_0))
def F__law_spans : SS → RS := (sClr [1, 2] (sSeq (sSet 1 (eN (p1 fLst psN)))
  (sSeq S__law_spans_1
  (sRet (eN (p1 (on1 fTuple) (psC (fV 1) psN)))))))
def T_least_windows_0 : SS → R Bool := (tP (p1 asB (p2 (fIn false) (fV 5) (fV 2))))
def L_least_windows_1 : SS → RS := (sSet 5 (eN (p2 fSubI (fV 5) (fC (.int 1)))))
def S_least_windows_2 : SS → RS := (sWhile WN T_least_windows_0 L_least_windows_1)
def T_least_windows_3 : SS → R Bool := (tP (p1 asB (p2 fGt (p2 fSubI (fV 3) (p1 (on1 fLen) (psC (fV 2) psN))) (fV 1))))
def L_least_windows_4 : SS → RS := (sSeq S_least_windows_2
  (sSeq (sIf (tP (p1 asB (p2 fLt (fV 5) (fC (.int 0))))) (sRet (eN (fC .non))) sNil)
  (sDrop (eMut 2 pRoot "list" fAppend (eaC (eI (fV 5)) eaN)))))
def S_least_windows_5 : SS → RS := (sClr [5] (sWhile WN T_least_windows_3 L_least_windows_4))
def L_least_windows_6 : SS → RS := (sClr [4, 5] (sSeq (sSet 3 (eN (p2 fAdd (fV 3) (p2 fIx (fV 0) (fV 4)))))
  (sSeq (sSet 5 (eN (p2 fSubI (fV 4) (fC (.int 1)))))
  S_least_windows_5)))
def S_least_windows_7 : SS → RS := (sClr [3, 4, 5] (sFor [4] id (e1 iR1 (eaC (eN (p1 (on1 fLen) (psC (fV 0) psN))) eaN)) (lendSl 4) L_least_windows_6))
def T_least_windows_8 : SS → Option Bool := (p1 asB (p2 fLe (p1 (on1 fSumA) (psC (pSl fSl (fV 0) oN (oS (p2 fAdd (p2 fIx (fV 2) (fV 6)) (fC (.int 1))))) psN)) (fV 6)))
def E_least_windows_9 : SS → Option D := (fV 6)
def C_least_windows_10 : SS → Option D := (pCmp [6] (p1 iR1 (psC (p1 (on1 fLen) (psC (fV 2) psN)) psN)) (lendSl 6) T_least_windows_8 E_least_windows_9)
def F_least_windows : SS → RS := (sClr [2, 3, 4, 5] (sSeq (sDrop (eCall 2 3 F_need_plan (rP (qL 0 pRoot (qV (p1 fTup psN) qN)))))
  (sSeq (sDrop (eCall 1 0 F_need_room (rP (qL 1 pRoot qN))))
  (sSeq (sSet 2 (eN (p1 fLst psN)))
  (sSeq (sSet 3 (eN (fC (.int 0))))
  (sSeq S_least_windows_7
  (sSeq (sSet 2 (eN (p1 (on1 fSorted) (psC (fV 2) psN))))
  (sSeq (sIf (tP (p1 asB (p2 fNe C_least_windows_10 (p1 fLst psN)))) (sRet (eN (fC .non))) sNil)
  (sRet (eN (pCall 1 2 F_spans (qL 2 pRoot qN))))))))))))
end
end Dy.Pm

/-! Mirrors of defs. -/
namespace Dy.Pm
open PySem L2 Dy
noncomputable section
def L__law_mix_b_0 : SS → RS := (sClr [3] (sSet 2 (eN (p2 fMod (p1 (on1 fInt) (psC (p2 fAdd (p2 fAdd (p2 fMul (fV 2) (fC (.int 48271))) (p2 fMod (p1 (on1 fInt) (psC (fV 3) psN)) (fC (.int 2147483629)))) (fC (.int 1))) psN)) (fC (.int 2147483647))))))
def S__law_mix_b_1 : SS → RS := (sClr [3] (sFor [3] id (iBor 0) (lendSl 3) L__law_mix_b_0))
def F__law_mix_b : SS → RS := (sClr [2, 3] (sSeq (sSet 2 (eI (fV 1)))
  (sSeq S__law_mix_b_1
  (sRet (e1 gLstD (eaC (eI (fV 2)) (eaC (eN (p1 (on1 fList) (psC (fV 0) psN))) (eaC (eN (fC (.int 0))) eaN))))))))
def F__law_next_b : SS → RS := (sClr [2, 3] (sSeq (sSet 2 (eN (p2 fMod (p2 fIx (fV 0) (fC (.int 2))) (p1 fMax (psC (fC (.int 1)) (psC (p1 (on1 fLen) (psC (p2 fIx (fV 0) (fC (.int 1))) psN)) psN))))))
  (sSeq (sSet 3 (eI (pIf (p1 asB (p2 fNe (p2 fIx (fV 0) (fC (.int 1))) (p1 fLst psN))) (p2 fIx (p2 fIx (fV 0) (fC (.int 1))) (fV 2)) (fC (.int 0)))))
  (sSeq (sIf (tP (p1 asB (p2 fGe (fV 3) (p2 fPow (fC (.int 10)) (fC (.int 18)))))) (sSeq (sItem 0 (pIdx 0 pRoot (fC (.int 1))) (fV 2) fSetI (eN (p2 fDiv (fV 3) (fV 1))))
  (sRet (eN (p2 fMod (p1 (on1 fInt) (psC (fV 3) psN)) (fV 1))))) sNil)
  (sSeq (sItem 0 pRoot (fC (.int 0)) fSetI (eN (p2 fMod (p1 (on1 fInt) (psC (p2 fAdd (p2 fAdd (p2 fMul (p2 fIx (fV 0) (fC (.int 0))) (fC (.int 48271))) (p2 fMul (fV 3) (fC (.int 69621)))) (fC (.int 11))) psN)) (fC (.int 2147483647)))))
  (sSeq (sItem 0 pRoot (fC (.int 2)) fSetI (eN (p2 fAdd (p2 fIx (fV 0) (fC (.int 2))) (fC (.int 1)))))
  (sRet (eN (p2 fMod (p1 (on1 fInt) (psC (p2 fDiv (p2 fIx (fV 0) (fC (.int 0))) (fC (.int 7))) psN)) (fV 1))))))))))
def T__law_ahead_0 : SS → Option Bool := (p1 asB (p2 fLt (fV 2) (fV 1)))
def E__law_ahead_1 : SS → Option D := (p1 fTup (psC (fV 2) (psC (p1 fMin (psC (fV 3) (psC (fV 1) psN))) psN)))
def C__law_ahead_2 : SS → Option D := (pCmp [2, 3] (iP (fV 0)) (lendAll [2, 3]) T__law_ahead_0 E__law_ahead_1)
def F__law_ahead : SS → RS := (sRet (eN C__law_ahead_2))
def T__law_windows_b_0 : SS → R Bool := (tP (p1 asB (p2 fLt (fV 3) (fV 1))))
def L__law_windows_b_1 : SS → RS := (sClr [4, 5] (sSeq (sSet 4 (e2v fAdd 3 (eCall 2 2 F__law_next_b (rP (qI 0 pRoot (qV (fC (.int 6)) qN))))))
  (sSeq (sSet 5 (e2 fAdd (eN (p2 fAdd (fV 4) (fC (.int 1)))) (eCall 2 2 F__law_next_b (gI 0 (gV (e2 fIx (eN (p1 fLst (psC (fC (.int 3)) (psC (fC (.int 30)) psN)))) (eCall 2 2 F__law_next_b (rP (qI 0 pRoot (qV (fC (.int 2)) qN))))) (rP qN))))))
  (sSeq (sIf (tP (p1 asB (p2 fLe (fV 5) (fV 1)))) (sDrop (eMut 2 pRoot "list" fAppend (eaC (eN (p1 fTup (psC (fV 4) (psC (fV 5) psN)))) eaN))) sNil)
  (sSet 3 (eI (fV 5)))))))
def S__law_windows_b_2 : SS → RS := (sClr [3, 4, 5] (sWhile WN T__law_windows_b_0 L__law_windows_b_1))
def F__law_windows_b : SS → RS := (sClr [2, 3, 4, 5] (sSeq (sPar 2 3 (eaC (eN (p1 fLst psN)) (eaC (eN (fC (.int 0))) eaN)))
  (sSeq S__law_windows_b_2
  (sRet (eN (p1 (on1 fTuple) (psC (fV 2) psN)))))))
end
end Dy.Pm

/-! Mirrors of defs. -/
namespace Dy.Pm
open PySem L2 Dy
noncomputable section
def T_told_in_0 : SS → R Bool := (tP (pAnd (p1 asB (p2 fGe (p1 (on1 fLen) (psC (fV 2) psN)) (fC (.int 3)))) (pAnd (p1 asB (p2 fGt (p2 fIx (fV 2) (fC (.int 0))) (fC (.int 0)))) (p1 asB (p2 fGe (p1 (on1 fLen) (psC (fV 2) psN)) (p2 fAdd (fC (.int 3)) (p2 fIx (fV 2) (fC (.int 0)))))))))
def L_told_in_1 : SS → RS := (sClr [4] (sSeq (sSet 4 (eN (p2 fAdd (fC (.int 3)) (p2 fIx (fV 2) (fC (.int 0))))))
  (sSeq (sDrop (eMut 1 pRoot "list" fAppend (eaC (eN (p1 fTup (psC (p2 fAdd (p2 fMul (p2 fIx (fV 2) (fC (.int 1))) (fC (.int 256))) (p2 fIx (fV 2) (fC (.int 2)))) (psC (p1 (on1 fTuple) (psC (pSl fSl (fV 2) (oS (fC (.int 3))) (oS (fV 4))) psN)) psN)))) eaN)))
  (sSet 2 (eN (pSl fSl (fV 2) (oS (fV 4)) oN))))))
def S_told_in_2 : SS → RS := (sClr [4] (sWhile WN T_told_in_0 L_told_in_1))
def L_told_in_3 : SS → RS := (sClr [3, 4] (sSeq (sSet 2 (eN (p2 fAdd (fV 2) (p1 (on1 fList) (psC (fV 3) psN)))))
  (sSeq S_told_in_2
  (sIf (tP (pAnd (p1 asB (p2 fNe (fV 2) (p1 fLst psN))) (p1 asB (p2 fEq (p2 fIx (fV 2) (fC (.int 0))) (fC (.int 0)))))) (sSet 2 (eN (p1 fLst psN))) sNil))))
def S_told_in_4 : SS → RS := (sClr [2, 3, 4] (sFor [3] id (iBor 0) (lendSl 3) L_told_in_3))
def F_told_in : SS → RS := (sClr [1, 2, 3, 4] (sSeq (sSet 1 (eN (p1 fLst psN)))
  (sSeq (sSet 2 (eN (p1 fLst psN)))
  (sSeq S_told_in_4
  (sRet (eMv 1))))))
def E_runs_of_0 : SS → Option D := (p1 fTup (psC (p2 fIx (fV 8) (fC (.int 1))) (psC (fV 8) psN)))
def C_runs_of_1 : SS → Option D := (pCmp [8] (iP (fV 0)) (lendSl 8) (fun _ => some true) E_runs_of_0)
def L_runs_of_2 : SS → RS := (sClr [4, 5, 6, 7] (sSeq (sUnp [5, 4, 6, 7] (eI (p2 fIx (fV 1) (fV 4))))
  (sSeq (sIf (tP (pAnd (p1 asB (p2 fNotN (fV 3) (fC .non))) (pAnd (p1 asB (p2 fEq (fV 3) (p2 fSubI (fV 4) (fC (.int 1))))) (p1 asB (p2 fNe (fV 2) (p1 fLst psN)))))) (sDrop (eMut 2 (pIdx 2 pRoot (p1 fNeg (fC (.int 1)))) "list" fAppend (ofP (psC (pI (fV 7)) psN)))) (sIf (tP (p1 asB (p2 fNotN (fV 6) (fC .non)))) (sSeq (sDrop (eMut 2 pRoot "list" fAppend (eaC (e1 gLstD (eaC (eN (pSl fSl (fV 7) (oS (fV 6)) oN)) eaN)) eaN)))
  (sSeq (sSet 3 (eI (fV 4)))
  sCt)) sNil))
  (sSet 3 (eI (pIf (pAnd (p1 asB (p2 fNe (fV 2) (p1 fLst psN))) (p1 asB (p2 fEq (fV 3) (p2 fSubI (fV 4) (fC (.int 1)))))) (fV 4) (fC .non)))))))
def S_runs_of_3 : SS → RS := (sClr [3, 4, 5, 6, 7] (sFor [4] id (iE (eN (p1 (on1 fSortedD) (psC (fV 1) psN)))) (lendSl 4) L_runs_of_2))
def F_runs_of : SS → RS := (sClr [1, 2, 3, 4, 5, 6, 7] (sSeq (sSet 1 (eN (p1 (on1 fDictP) (psC C_runs_of_1 psN))))
  (sSeq (sSet 2 (eN (p1 fLst psN)))
  (sSeq (sSet 3 (eN (fC .non)))
  (sSeq S_runs_of_3
  (sRet (eMv 2)))))))
def L_rows_in_0 : SS → RS := (sClr [2] (sDrop (eMut 1 pRoot "dict" fUpdD (eaC (eN (p1 (on1 fDictP) (psC (pCall 1 4 F_told_in (qL 2 pRoot qN)) psN))) eaN))))
def S_rows_in_1 : SS → RS := (sClr [2] (sFor [2] id (iE (eN (pCall 1 8 F_runs_of (qL 0 pRoot qN)))) (lendSl 2) L_rows_in_0))
def L_rows_in_2 : SS → RS := (sClr [5] (sSeq (sIf (tP (p1 asB (p2 fGt (fV 5) (fV 4)))) (sDrop (eMut 3 pRoot "list" fAppend (eaC (eN (p1 fTup (psC (fC (.str "gap")) (psC (fV 4) (psC (p2 fSubI (fV 5) (fC (.int 1))) psN))))) eaN))) sNil)
  (sSeq (sDrop (eMut 3 pRoot "list" fAppend (eaC (eN (p1 fTup (psC (fC (.str "told")) (psC (fV 5) (psC (p2 fIx (fV 1) (fV 5)) psN))))) eaN)))
  (sSet 4 (eN (p2 fAdd (fV 5) (fC (.int 1))))))))
def S_rows_in_3 : SS → RS := (sClr [4, 5] (sFor [5] id (iE (eN (p1 (on1 fSortedD) (psC (fV 1) psN)))) (lendSl 5) L_rows_in_2))
def F_rows_in : SS → RS := (sClr [1, 2, 3, 4, 5] (sSeq (sSet 1 (eN (fC (.dk [] []))))
  (sSeq S_rows_in_1
  (sSeq (sSet 3 (eN (p1 fLst psN)))
  (sSeq (sSet 4 (eN (fC (.int 0))))
  (sSeq S_rows_in_3
  (sRet (eMv 3))))))))
def E__law_data_b_0 : SS → R D := (eCall 2 2 F__law_next_b (gI 0 (gV (e2 fIx (eN (p1 fLst (psC (fC (.int 2)) (psC (fC (.int 256)) psN)))) (eCall 2 2 F__law_next_b (rP (qI 0 pRoot (qV (fC (.int 2)) qN))))) (rP qN))))
def C__law_data_b_1 : SS → R D := (eCmp [2] id (e1 iR1 (eaC (eI (fV 1)) eaN)) (lendSl 2) (tP fun _ => some true) E__law_data_b_0)
def F__law_data_b : SS → RS := (sClr [1] (sSeq (sSet 1 (e2 fIx (e1 gLstD (eaC (eN (fC (.int 1))) (eaC (e2 fAdd (eN (fC (.int 1))) (eCall 2 2 F__law_next_b (rP (qI 0 pRoot (qV (fC (.int 5)) qN))))) (eaC (e2 fAdd (eN (fC (.int 1))) (eCall 2 2 F__law_next_b (rP (qI 0 pRoot (qV (fC (.int 20)) qN))))) (eaC (eN (fC (.int 20))) eaN))))) (eCall 2 2 F__law_next_b (rP (qI 0 pRoot (qV (fC (.int 4)) qN))))))
  (sRet (e1 (on1 fTuple) (eaC C__law_data_b_1 eaN)))))
def F_is_frame : SS → RS := (sClr [2, 3, 4, 5] (sSeq (sIf (tP (pOr (pNot (p1 asB (p1 (on2 fIsi) (psC (fV 0) (psC (fC (.op (.ty "tuple"))) psN))))) (p1 asB (p2 fNe (p1 (on1 fLen) (psC (fV 0) psN)) (fC (.int 4)))))) (sRet (eN (fC (.bl false)))) sNil)
  (sSeq (sUnp [2, 3, 4, 5] (eI (fV 0)))
  (sSeq (sIf (tP (pOr (pNot (p1 asB (pCall 3 0 F_is_number (qL 2 pRoot (qV (fC (.int 0)) (qV (p2 fSubI (fC (.int 4)) (fC (.int 1))) qN)))))) (pNot (p1 asB (pCall 3 0 F_is_number (qL 3 pRoot (qV (fC (.int 0)) (qV (fC (.int 9999)) qN)))))))) (sRet (eN (fC (.bl false)))) sNil)
  (sRet (eN (pBl (pAnd (p1 asB (pBl (pOr (p1 asB (p2 fIsN (fV 4) (fC .non))) (p1 asB (pCall 3 0 F_is_number (qL 4 pRoot (qV (fC (.int 0)) (qV (p2 fSubI (fV 1) (fC (.int 1))) qN)))))))) (p1 asB (pCall 3 1 F_are_numbers (qL 5 pRoot (qL 1 pRoot (qL 1 pRoot qN)))))))))))))
def L_need_frames_0 : SS → RS := (sClr [3, 4] (sSeq (sSet 4 (eI (p2 fIx (fV 0) (fV 3))))
  (sSeq (sIf (tP (pOr (pNot (p1 asB (pCall 2 4 F_is_frame (qL 4 pRoot (qL 1 pRoot qN))))) (pOr (p1 asB (p2 fNe (p2 fIx (fV 4) (fC (.int 0))) (p2 fIx (p2 fIx (fV 0) (fC (.int 0))) (fC (.int 0))))) (p1 asB (p2 fNe (pGet2 (fV 2) (p2 fIx (fV 4) (fC (.int 1))) (fV 4)) (fV 4)))))) sStuck sNil)
  (sItem 2 pRoot (p2 fIx (fV 4) (fC (.int 1))) fSetD (eI (fV 4))))))
def S_need_frames_1 : SS → RS := (sClr [3, 4] (sFor [3] id (e1 iR1 (eaC (eN (p1 (on1 fLen) (psC (fV 0) psN))) eaN)) (lendSl 3) L_need_frames_0))
def F_need_frames : SS → RS := (sClr [2, 3, 4] (sSeq (sSet 2 (eN (fC (.dk [] []))))
  S_need_frames_1))
def F_rows_of : SS → RS := (sSeq (sDrop (eCall 1 0 F_need_size (rP (qL 1 pRoot qN))))
  (sSeq (sDrop (eCall 2 3 F_need_frames (rP (qL 0 pRoot (qL 1 pRoot qN)))))
  (sRet (eN (pCall 1 5 F_rows_in (qL 0 pRoot qN))))))
end
end Dy.Pm

/-! Mirrors of defs. -/
namespace Dy.Pm
open PySem L2 Dy
noncomputable section
def T__law_rows_0 : SS → Option Bool := (p1 asB (p2 (fIn true) (fV 9) (fV 1)))
def E__law_rows_1 : SS → Option D := (fV 9)
def C__law_rows_2 : SS → Option D := (pCmp [9] (p1 iR2 (psC (fV 7) (psC (p2 fAdd (fV 8) (fC (.int 1))) psN))) (lendSl 9) T__law_rows_0 E__law_rows_1)
def L__law_rows_3 : SS → RS := (sClr [4, 5, 6, 7, 8] (sSeq (sUnp [5, 6] (eI (p2 fIx (p2 fIx (fV 0) (fC (.str "starts"))) (fV 4))))
  (sSeq (sPar 7 8 (eaC (eN (p2 fDiv (fV 5) (p2 fIx (fV 0) (fC (.str "size"))))) (eaC (eN (p2 fDiv (p2 fAdd (p2 fAdd (fV 5) (fC (.int 2))) (p1 (on1 fLen) (psC (fV 6) psN))) (p2 fIx (fV 0) (fC (.str "size"))))) eaN)))
  (sIf (tP (p1 asB (p2 fEq C__law_rows_2 (p1 fLst psN)))) (sSeq (sIf (tP (p1 asB (p2 fGt (fV 4) (fV 3)))) (sDrop (eMut 2 pRoot "list" fAppend (eaC (eN (p1 fTup (psC (fC (.str "gap")) (psC (fV 3) (psC (p2 fSubI (fV 4) (fC (.int 1))) psN))))) eaN))) sNil)
  (sSeq (sDrop (eMut 2 pRoot "list" fAppend (eaC (eN (p1 fTup (psC (fC (.str "told")) (psC (fV 4) (psC (fV 6) psN))))) eaN)))
  (sSet 3 (eN (p2 fAdd (fV 4) (fC (.int 1))))))) sNil))))
def S__law_rows_4 : SS → RS := (sClr [3, 4, 5, 6, 7, 8] (sFor [4] id (e1 iR1 (eaC (eN (p1 (on1 fLen) (psC (p2 fIx (fV 0) (fC (.str "starts"))) psN))) eaN)) (lendSl 4) L__law_rows_3))
def F__law_rows : SS → RS := (sClr [2, 3, 4, 5, 6, 7, 8] (sSeq (sPar 2 3 (eaC (eN (p1 fLst psN)) (eaC (eN (fC (.int 0))) eaN)))
  (sSeq S__law_rows_4
  (sRet (eMv 2)))))
end
end Dy.Pm

/-! The laws' own numbers, and what is alike. -/
namespace Dy.Pm
open PySem L2 Dy
noncomputable section
structure Hs where
  a : Int
  cs : List Int
  n : Int
  a0 : 0 ≤ a
  a1 : a < 2147483647
  n0 : 0 ≤ n
def Hs.d (h : Hs) : D := .lst [.int h.a, .lst (h.cs.map D.int), .int h.n]
def Hs.at_ (h : Hs) : Int := h.n.fmod (max 1 (h.cs.length : Int))
def Hs.cell (h : Hs) : Int := if h.cs = [] then 0 else h.cs.getD h.at_.toNat 0
theorem fm0 (a : Int) {b : Int} (h : 0 < b) : 0 ≤ a.fmod b := Int.fmod_nonneg_of_pos _ h
theorem fm1 (a : Int) {b : Int} (h : 0 < b) : a.fmod b < b := Int.fmod_lt_of_pos _ h
def Hs.nx (h : Hs) : Hs := ⟨(h.a * 48271 + h.cell * 69621 + 11).fmod 2147483647, h.cs, h.n + 1, fm0 _ (by omega), fm1 _ (by omega), by have := h.n0; omega⟩
def Hs.big (h : Hs) (m : Int) : Hs := ⟨h.a, h.cs.set h.at_.toNat (h.cell.fdiv m), h.n, h.a0, h.a1, h.n0⟩
/-- what is drawn; what it is drawn from then -/
def Hs.v (h : Hs) (m : Int) : Int := if 1000000000000000000 ≤ h.cell then h.cell.fmod m else (h.nx.a.fdiv 7).fmod m
def Hs.s (h : Hs) (m : Int) : Hs := if 1000000000000000000 ≤ h.cell then h.big m else h.nx
theorem v_bd {h : Hs} {m : Int} (m1 : 1 ≤ m) : 0 ≤ h.v m ∧ h.v m < m := by
  unfold Hs.v
  split <;> exact ⟨fm0 _ (by omega), fm1 _ (by omega)⟩
theorem v_lo {h : Hs} {m : Int} (m1 : 1 ≤ m) : 0 ≤ h.v m := (v_bd m1).1
theorem v_hi {h : Hs} {m : Int} (m1 : 1 ≤ m) : h.v m < m := (v_bd m1).2
theorem at_ok (h : Hs) : 0 ≤ h.at_ ∧ h.at_ < max 1 (h.cs.length : Int) := by
  have : 0 < max 1 (h.cs.length : Int) := by omega
  exact ⟨fm0 _ this, fm1 _ this⟩
theorem next_ev (h : Hs) {m : Int} (m1 : 1 ≤ m) (m2 : m ≤ 1000000) : F__law_next [.inn h.d, .bor (.int m), .no, .no] = .ret (.int (h.v m)) [.inn (h.s m).d, .bor (.int m), .no, .no] := by
  obtain ⟨q1, q2⟩ := at_ok h
  have m0 : m ≠ 0 := by omega
  have mm : max 1 (h.cs.length : Int) ≠ 0 := by omega
  have hcell : (if (!h.cs.isEmpty) = true then (atI (h.cs.map D.int) (h.n.fmod (max 1 (h.cs.length : Int)))) else some (.int 0)) = some (.int h.cell) := by
    unfold Hs.cell
    cases e : h.cs with
    | nil => rfl
    | cons x xs =>
      have hl : (1 : Int) ≤ (h.cs.length : Int) := by rw [e, List.length_cons]; omega
      have hm : max 1 (h.cs.length : Int) = h.cs.length := by omega
      rw [hm] at q2
      have q4 : h.n.fmod (max 1 (h.cs.length : Int)) < h.cs.length := q2
      rw [← e]
      simp only [show h.cs ≠ [] by rw [e]; simp, if_false]
      rw [if_pos (by rw [e]; rfl)]
      exact z_atI q1 q4
  have c1 := z_neNil (ds := h.cs.map D.int) (by rw [z_dep]; omega)
  rw [z_empty] at c1
  have u1 : (-(2 ^ 64) < (48271 : Int) ∧ (48271 : Int) < 2 ^ 64) := by omega
  have u2 : (-(2 ^ 64) < (69621 : Int) ∧ (69621 : Int) < 2 ^ 64) := by omega
  have e3 : (2147483647 : Int) ≠ 0 := by omega
  have e4 : (7 : Int) ≠ 0 := by omega
  have e5 : (7 : Int).natAbs < 1073741824 := by omega
  have e6 : m.natAbs < 1073741824 := by omega
  unfold F__law_next
  simp (disch := first | assumption | omega) only [nl1, nl2, nl3, nl4, nc2, nc3, nc4, ix20, ix21, ix30, ix31, ix32, eq_self, isi_ii, isi_ib, isi_is, isi_itl, isi_ntl, isi_tt, isN_n, isN_i, tup2, z_eqI, z_neI, si0, si1, si2, tn0, tn1, tn2, tn3, List.nil_append, List.cons_append, sSeq, sSet, sIf, sRet, sItem, sDrop, sNil, eN, eI, tP, p2, p1, fV, fC, psC, psN, eaC, eaN, e1, e2, pBl, pAnd, pOr, pNot, pIf, eIf, on1_, on2_, List.getElem?_cons_zero, List.getElem?_cons_succ, List.set_cons_zero, List.set_cons_succ, Option.bind_some, Option.map_some, Sl.val, Sl.isInn, z_ixL, z_ixT, at0, at1, at2, at3, r_of, r_bind, r_thn, s_nx, s_ret, z_nx, z_asB, z_len, z_lenT, z_addI, z_mulR, z_mulL, z_sub, z_lt, z_le, z_gt, z_ge, z_mod, z_div, z_max2, z_min2, setSl, updP, modP, valAt, getP, setP, setV, pIdx, pRoot, z_ixN, z_setI, List.length_map, List.length_cons, List.length_nil, if_true, if_false, Bool.false_eq_true, Bool.not_true, Bool.not_false, decide_true, decide_false, sUnp, ast_t, setAll, sPar, sPar3, stp_l, stp_t, g1_l, g1_t, s1_l, s1_t, Nat.reduceBEq, asq_t, asq_l, sFor, iE, iBor, iLock, unlk, id_eq, z_lst0, imm, immL, sClr, m_nx, m_ret, m_exc, m_brk, m_ct, s_exc, s_brk, s_ct, c_nil, c_cons, clr1, e2v, e2p, sFldD, pFld, fP, eMethP, eMethR, List.contains_nil, List.contains_cons, Bool.or_false, fnR, mkc, okAr, okLe, arN, arL, bk, valO, qN, qV, qI, qL, gV, gI, gL, rP, eCall, ofP, eMut, tyok_l, tyok_dk, tyok_dt, ofM, eMake, mkR, pI, eMv, List.append_nil, r_thnx, eDisp, pCall, pMeth, lnd, List.length_append, List.length_replicate, List.replicate, Bool.and_true, Bool.true_and, Bool.and_self, beq_self_eq_true, List.all_nil, List.all_cons, ite_seq, ite_map, ite_bind, ite_thn, Hs.d, get1, set1, z_pow18, c1, hcell]
  unfold Hs.v Hs.s
  by_cases hb : 1000000000000000000 ≤ h.cell
  · have hn : h.cs ≠ [] := fun z => by unfold Hs.cell at hb; rw [if_pos z] at hb; omega
    have hl : (1 : Int) ≤ (h.cs.length : Int) := by
      have := List.length_pos_iff.mpr hn
      omega
    have hm : max 1 (h.cs.length : Int) = h.cs.length := by omega
    have q3 : h.at_ < (h.cs.map D.int).length := by rw [List.length_map]; omega
    have q1' : 0 ≤ h.n.fmod (max 1 (h.cs.length : Int)) := q1
    have q3' : h.n.fmod (max 1 (h.cs.length : Int)) < (h.cs.map D.int).length := q3
    simp (disch := first | assumption | omega) only [nl1, nl2, nl3, nl4, nc2, nc3, nc4, ix20, ix21, ix30, ix31, ix32, eq_self, isi_ii, isi_ib, isi_is, isi_itl, isi_ntl, isi_tt, isN_n, isN_i, tup2, z_eqI, z_neI, si0, si1, si2, tn0, tn1, tn2, tn3, List.nil_append, List.cons_append, sSeq, sSet, sIf, sRet, sItem, sDrop, sNil, eN, eI, tP, p2, p1, fV, fC, psC, psN, eaC, eaN, e1, e2, pBl, pAnd, pOr, pNot, pIf, eIf, on1_, on2_, List.getElem?_cons_zero, List.getElem?_cons_succ, List.set_cons_zero, List.set_cons_succ, Option.bind_some, Option.map_some, Sl.val, Sl.isInn, z_ixL, z_ixT, at0, at1, at2, at3, r_of, r_bind, r_thn, s_nx, s_ret, z_nx, z_asB, z_len, z_lenT, z_addI, z_mulR, z_mulL, z_sub, z_lt, z_le, z_gt, z_ge, z_mod, z_div, z_max2, z_min2, setSl, updP, modP, valAt, getP, setP, setV, pIdx, pRoot, z_ixN, z_setI, List.length_map, List.length_cons, List.length_nil, if_true, if_false, Bool.false_eq_true, Bool.not_true, Bool.not_false, decide_true, decide_false, sUnp, ast_t, setAll, sPar, sPar3, stp_l, stp_t, g1_l, g1_t, s1_l, s1_t, Nat.reduceBEq, asq_t, asq_l, sFor, iE, iBor, iLock, unlk, id_eq, z_lst0, imm, immL, sClr, m_nx, m_ret, m_exc, m_brk, m_ct, s_exc, s_brk, s_ct, c_nil, c_cons, clr1, e2v, e2p, sFldD, pFld, fP, eMethP, eMethR, List.contains_nil, List.contains_cons, Bool.or_false, fnR, mkc, okAr, okLe, arN, arL, bk, valO, qN, qV, qI, qL, gV, gI, gL, rP, eCall, ofP, eMut, tyok_l, tyok_dk, tyok_dt, ofM, eMake, mkR, pI, eMv, List.append_nil, r_thnx, eDisp, pCall, pMeth, lnd, List.length_append, List.length_replicate, List.replicate, Bool.and_true, Bool.true_and, Bool.and_self, beq_self_eq_true, List.all_nil, List.all_cons, ite_seq, ite_map, ite_bind, ite_thn, get1, set1, hb]
    rw [z_set]; rfl
  · simp (disch := first | assumption | omega) only [nl1, nl2, nl3, nl4, nc2, nc3, nc4, ix20, ix21, ix30, ix31, ix32, eq_self, isi_ii, isi_ib, isi_is, isi_itl, isi_ntl, isi_tt, isN_n, isN_i, tup2, z_eqI, z_neI, si0, si1, si2, tn0, tn1, tn2, tn3, List.nil_append, List.cons_append, sSeq, sSet, sIf, sRet, sItem, sDrop, sNil, eN, eI, tP, p2, p1, fV, fC, psC, psN, eaC, eaN, e1, e2, pBl, pAnd, pOr, pNot, pIf, eIf, on1_, on2_, List.getElem?_cons_zero, List.getElem?_cons_succ, List.set_cons_zero, List.set_cons_succ, Option.bind_some, Option.map_some, Sl.val, Sl.isInn, z_ixL, z_ixT, at0, at1, at2, at3, r_of, r_bind, r_thn, s_nx, s_ret, z_nx, z_asB, z_len, z_lenT, z_addI, z_mulR, z_mulL, z_sub, z_lt, z_le, z_gt, z_ge, z_mod, z_div, z_max2, z_min2, setSl, updP, modP, valAt, getP, setP, setV, pIdx, pRoot, z_ixN, z_setI, List.length_map, List.length_cons, List.length_nil, if_true, if_false, Bool.false_eq_true, Bool.not_true, Bool.not_false, decide_true, decide_false, sUnp, ast_t, setAll, sPar, sPar3, stp_l, stp_t, g1_l, g1_t, s1_l, s1_t, Nat.reduceBEq, asq_t, asq_l, sFor, iE, iBor, iLock, unlk, id_eq, z_lst0, imm, immL, sClr, m_nx, m_ret, m_exc, m_brk, m_ct, s_exc, s_brk, s_ct, c_nil, c_cons, clr1, e2v, e2p, sFldD, pFld, fP, eMethP, eMethR, List.contains_nil, List.contains_cons, Bool.or_false, fnR, mkc, okAr, okLe, arN, arL, bk, valO, qN, qV, qI, qL, gV, gI, gL, rP, eCall, ofP, eMut, tyok_l, tyok_dk, tyok_dt, ofM, eMake, mkR, pI, eMv, List.append_nil, r_thnx, eDisp, pCall, pMeth, lnd, List.length_append, List.length_replicate, List.replicate, Bool.and_true, Bool.true_and, Bool.and_self, beq_self_eq_true, List.all_nil, List.all_cons, ite_seq, ite_map, ite_bind, ite_thn, get1, set1, hb]
    rfl
theorem mix_ev {c : List D → D} (hc : c = D.lst ∨ c = D.fls) (ns : List Int) (seed : Int) (h0 : 0 ≤ seed ∧ seed < 2147483647) : ∃ h : Hs, F__law_mix [.bor (c (ns.map D.int)), .bor (.int seed), .no, .no] = .ret h.d [.bor (c (ns.map D.int)), .bor (.int seed), .no, .no] := by
  have asq : asSeq (c (ns.map D.int)) = some (ns.map D.int) := by rcases hc with rfl | rfl <;> rfl
  have hlist : fList (c (ns.map D.int)) = some (.lst (ns.map D.int)) := by rcases hc with rfl | rfl <;> simp [fList, z_imm]
  obtain ⟨f1, q1⟩ := for_fold (f := D.int) (S := fun a : Int => [.bor (c (ns.map D.int)), .bor (.int seed), .own (.int a), .no]) (g := fun a z => (a * 48271 + z.fmod 2147483629 + 1).fmod 2147483647) (P := fun _ a => 0 ≤ a ∧ a < 2147483647) (st := lendSl 3) (body := L__law_mix_0)
    (fun z xs a hp => by
      refine ⟨⟨[.bor (c (ns.map D.int)), .bor (.int seed), .own (.int a), .own (.int z)], rfl, ?_⟩, fm0 _ (by omega), fm1 _ (by omega)⟩
      have u1 : (-(2 ^ 64) < (48271 : Int) ∧ (48271 : Int) < 2 ^ 64) := by omega
      have e3 : (2147483647 : Int) ≠ 0 := by omega
      have e4 : (2147483629 : Int) ≠ 0 := by omega
      unfold L__law_mix_0
      simp (disch := first | assumption | omega) only [nl1, nl2, nl3, nl4, nc2, nc3, nc4, ix20, ix21, ix30, ix31, ix32, eq_self, isi_ii, isi_ib, isi_is, isi_itl, isi_ntl, isi_tt, isN_n, isN_i, tup2, z_eqI, z_neI, si0, si1, si2, tn0, tn1, tn2, tn3, List.nil_append, List.cons_append, sSeq, sSet, sIf, sRet, sItem, sDrop, sNil, eN, eI, tP, p2, p1, fV, fC, psC, psN, eaC, eaN, e1, e2, pBl, pAnd, pOr, pNot, pIf, eIf, on1_, on2_, List.getElem?_cons_zero, List.getElem?_cons_succ, List.set_cons_zero, List.set_cons_succ, Option.bind_some, Option.map_some, Sl.val, Sl.isInn, z_ixL, z_ixT, at0, at1, at2, at3, r_of, r_bind, r_thn, s_nx, s_ret, z_nx, z_asB, z_len, z_lenT, z_addI, z_mulR, z_mulL, z_sub, z_lt, z_le, z_gt, z_ge, z_mod, z_div, z_max2, z_min2, setSl, updP, modP, valAt, getP, setP, setV, pIdx, pRoot, z_ixN, z_setI, List.length_map, List.length_cons, List.length_nil, if_true, if_false, Bool.false_eq_true, Bool.not_true, Bool.not_false, decide_true, decide_false, sUnp, ast_t, setAll, sPar, sPar3, stp_l, stp_t, g1_l, g1_t, s1_l, s1_t, Nat.reduceBEq, asq_t, asq_l, sFor, iE, iBor, iLock, unlk, id_eq, z_lst0, imm, immL, sClr, m_nx, m_ret, m_exc, m_brk, m_ct, s_exc, s_brk, s_ct, c_nil, c_cons, clr1, e2v, e2p, sFldD, pFld, fP, eMethP, eMethR, List.contains_nil, List.contains_cons, Bool.or_false, fnR, mkc, okAr, okLe, arN, arL, bk, valO, qN, qV, qI, qL, gV, gI, gL, rP, eCall, ofP, eMut, tyok_l, tyok_dk, tyok_dt, ofM, eMake, mkR, pI, eMv, List.append_nil, r_thnx, eDisp, pCall, pMeth, lnd, List.length_append, List.length_replicate, List.replicate, Bool.and_true, Bool.true_and, Bool.and_self, beq_self_eq_true, List.all_nil, List.all_cons, ite_seq, ite_map, ite_bind, ite_thn]) ns seed h0
  have g3 : ∀ a, gLstD [.int a, .lst (ns.map D.int), .int 0] = some (.lst [.int a, .lst (ns.map D.int), .int 0]) := fun _ => rfl
  refine ⟨⟨_, ns, 0, q1.1, q1.2, by omega⟩, ?_⟩
  unfold F__law_mix S__law_mix_1
  simp (disch := first | assumption | omega) only [nl1, nl2, nl3, nl4, nc2, nc3, nc4, ix20, ix21, ix30, ix31, ix32, eq_self, isi_ii, isi_ib, isi_is, isi_itl, isi_ntl, isi_tt, isN_n, isN_i, tup2, z_eqI, z_neI, si0, si1, si2, tn0, tn1, tn2, tn3, List.nil_append, List.cons_append, sSeq, sSet, sIf, sRet, sItem, sDrop, sNil, eN, eI, tP, p2, p1, fV, fC, psC, psN, eaC, eaN, e1, e2, pBl, pAnd, pOr, pNot, pIf, eIf, on1_, on2_, List.getElem?_cons_zero, List.getElem?_cons_succ, List.set_cons_zero, List.set_cons_succ, Option.bind_some, Option.map_some, Sl.val, Sl.isInn, z_ixL, z_ixT, at0, at1, at2, at3, r_of, r_bind, r_thn, s_nx, s_ret, z_nx, z_asB, z_len, z_lenT, z_addI, z_mulR, z_mulL, z_sub, z_lt, z_le, z_gt, z_ge, z_mod, z_div, z_max2, z_min2, setSl, updP, modP, valAt, getP, setP, setV, pIdx, pRoot, z_ixN, z_setI, List.length_map, List.length_cons, List.length_nil, if_true, if_false, Bool.false_eq_true, Bool.not_true, Bool.not_false, decide_true, decide_false, sUnp, ast_t, setAll, sPar, sPar3, stp_l, stp_t, g1_l, g1_t, s1_l, s1_t, Nat.reduceBEq, asq_t, asq_l, sFor, iE, iBor, iLock, unlk, id_eq, z_lst0, imm, immL, sClr, m_nx, m_ret, m_exc, m_brk, m_ct, s_exc, s_brk, s_ct, c_nil, c_cons, clr1, e2v, e2p, sFldD, pFld, fP, eMethP, eMethR, List.contains_nil, List.contains_cons, Bool.or_false, fnR, mkc, okAr, okLe, arN, arL, bk, valO, qN, qV, qI, qL, gV, gI, gL, rP, eCall, ofP, eMut, tyok_l, tyok_dk, tyok_dt, ofM, eMake, mkR, pI, eMv, List.append_nil, r_thnx, eDisp, pCall, pMeth, lnd, List.length_append, List.length_replicate, List.replicate, Bool.and_true, Bool.true_and, Bool.and_self, beq_self_eq_true, List.all_nil, List.all_cons, ite_seq, ite_map, ite_bind, ite_thn, asq, f1, hlist, g3, Hs.d]
/-! one of some -/
def pk2 (v x y : Int) : Int := if v = 0 then x else y
def pk3 (v x y z : Int) : Int := if v = 0 then x else if v = 1 then y else z
def pk4 (v x y z w : Int) : Int := if v = 0 then x else if v = 1 then y else if v = 2 then z else w
theorem pk2_r {l u v x y : Int} (hx : l ≤ x ∧ x ≤ u) (hy : l ≤ y ∧ y ≤ u) : l ≤ pk2 v x y ∧ pk2 v x y ≤ u := by unfold pk2; split <;> omega
theorem pk3_r {l u v x y z : Int} (hx : l ≤ x ∧ x ≤ u) (hy : l ≤ y ∧ y ≤ u) (hz : l ≤ z ∧ z ≤ u) : l ≤ pk3 v x y z ∧ pk3 v x y z ≤ u := by unfold pk3; split <;> (try split) <;> omega
theorem pk4_r {l u v x y z w : Int} (hx : l ≤ x ∧ x ≤ u) (hy : l ≤ y ∧ y ≤ u) (hz : l ≤ z ∧ z ≤ u) (hw : l ≤ w ∧ w ≤ u) : l ≤ pk4 v x y z w ∧ pk4 v x y z w ≤ u := by unfold pk4; split <;> (try split) <;> (try split) <;> omega
theorem z_pk2 {v x y : Int} (h0 : 0 ≤ v) (h1 : v < 2) : atI [D.int x, .int y] v = some (.int (pk2 v x y)) := by
  unfold pk2
  have : v = 0 ∨ v = 1 := by omega
  rcases this with rfl | rfl
  · rw [at0]; rfl
  · rw [at1]; rfl
theorem z_pk3 {v x y z : Int} (h0 : 0 ≤ v) (h1 : v < 3) : atI [D.int x, .int y, .int z] v = some (.int (pk3 v x y z)) := by
  unfold pk3
  have : v = 0 ∨ v = 1 ∨ v = 2 := by omega
  rcases this with rfl | rfl | rfl
  · rw [at0]; rfl
  · rw [at1]; rfl
  · rw [at2]; rfl
theorem z_pk4 {v x y z w : Int} (h0 : 0 ≤ v) (h1 : v < 4) : atI [D.int x, .int y, .int z, .int w] v = some (.int (pk4 v x y z w)) := by
  unfold pk4
  have : v = 0 ∨ v = 1 ∨ v = 2 ∨ v = 3 := by omega
  rcases this with rfl | rfl | rfl | rfl
  · rw [at0]; rfl
  · rw [at1]; rfl
  · rw [at2]; rfl
  · rw [at3]; rfl
theorem z_l1 (a : Int) : fLst [.int a] = some (.lst [.int a]) := rfl
theorem z_l2 (a b : Int) : fLst [.int a, .int b] = some (.lst [.int a, .int b]) := rfl
theorem z_l3 (a b c : Int) : fLst [.int a, .int b, .int c] = some (.lst [.int a, .int b, .int c]) := rfl
theorem z_l4 (a b c d : Int) : fLst [.int a, .int b, .int c, .int d] = some (.lst [.int a, .int b, .int c, .int d]) := rfl
theorem z_g2 (a b : D) : gLstD [a, b] = some (.lst [a, b]) := rfl
theorem z_g3 (a b c : D) : gLstD [a, b, c] = some (.lst [a, b, c]) := rfl
theorem z_g4 (a b c d : D) : gLstD [a, b, c, d] = some (.lst [a, b, c, d]) := rfl
theorem z_t2 (a b : Int) : fTup [.int a, .int b] = some (.tup [.int a, .int b]) := rfl
theorem z_t3 (a b c : Int) : fTup [.int a, .int b, .int c] = some (.tup [.int a, .int b, .int c]) := rfl
/-! ### a telling -/
def tD (t : List Int) : D := .tup (t.map D.int)
structure OkT (t : List Int) : Prop where
  l1 : 1 ≤ t.length
  l2 : t.length ≤ 20
  b : ∀ x ∈ t, 0 ≤ x ∧ x ≤ 255
theorem cell_ev (h : Hs) (n k : Int) : ∃ (v : Int) (h' : Hs), 0 ≤ v ∧ v ≤ 255 ∧ E__law_data_0 [.inn h.d, .own (.int n), .own (.int k)] = .ok (.int v) [.inn h'.d, .own (.int n), .own (.int k)] := by
  have b1 := v_bd (h := h) (m := 2) (by omega)
  have b2 := pk2_r (l := 1) (u := 256) (v := h.v 2) (x := 2) (y := 256) (by omega) (by omega)
  have b3 := v_bd (h := h.s 2) (m := pk2 (h.v 2) 2 256) (by omega)
  refine ⟨(h.s 2).v (pk2 (h.v 2) 2 256), (h.s 2).s (pk2 (h.v 2) 2 256), by omega, by omega, ?_⟩
  unfold E__law_data_0
  simp (disch := first | assumption | omega) only [nl1, nl2, nl3, nl4, nc2, nc3, nc4, ix20, ix21, ix30, ix31, ix32, eq_self, isi_ii, isi_ib, isi_is, isi_itl, isi_ntl, isi_tt, isN_n, isN_i, tup2, z_eqI, z_neI, si0, si1, si2, tn0, tn1, tn2, tn3, List.nil_append, List.cons_append, sSeq, sSet, sIf, sRet, sItem, sDrop, sNil, eN, eI, tP, p2, p1, fV, fC, psC, psN, eaC, eaN, e1, e2, pBl, pAnd, pOr, pNot, pIf, eIf, on1_, on2_, List.getElem?_cons_zero, List.getElem?_cons_succ, List.set_cons_zero, List.set_cons_succ, Option.bind_some, Option.map_some, Sl.val, Sl.isInn, z_ixL, z_ixT, at0, at1, at2, at3, r_of, r_bind, r_thn, s_nx, s_ret, z_nx, z_asB, z_len, z_lenT, z_addI, z_mulR, z_mulL, z_sub, z_lt, z_le, z_gt, z_ge, z_mod, z_div, z_max2, z_min2, setSl, updP, modP, valAt, getP, setP, setV, pIdx, pRoot, z_ixN, z_setI, List.length_map, List.length_cons, List.length_nil, if_true, if_false, Bool.false_eq_true, Bool.not_true, Bool.not_false, decide_true, decide_false, sUnp, ast_t, setAll, sPar, sPar3, stp_l, stp_t, g1_l, g1_t, s1_l, s1_t, Nat.reduceBEq, asq_t, asq_l, sFor, iE, iBor, iLock, unlk, id_eq, z_lst0, imm, immL, sClr, m_nx, m_ret, m_exc, m_brk, m_ct, s_exc, s_brk, s_ct, c_nil, c_cons, clr1, e2v, e2p, sFldD, pFld, fP, eMethP, eMethR, List.contains_nil, List.contains_cons, Bool.or_false, fnR, mkc, okAr, okLe, arN, arL, bk, valO, qN, qV, qI, qL, gV, gI, gL, rP, eCall, ofP, eMut, tyok_l, tyok_dk, tyok_dt, ofM, eMake, mkR, pI, eMv, List.append_nil, r_thnx, eDisp, pCall, pMeth, lnd, List.length_append, List.length_replicate, List.replicate, Bool.and_true, Bool.true_and, Bool.and_self, beq_self_eq_true, List.all_nil, List.all_cons, ite_seq, ite_map, ite_bind, ite_thn, z_l2, next_ev, z_pk2]
theorem data_ev (h : Hs) : ∃ (t : List Int) (h' : Hs), OkT t ∧ F__law_data [.inn h.d, .no, .no] = .ret (tD t) [.inn h'.d, .no, .no] := by
  have b1 := v_bd (h := h) (m := 5) (by omega)
  have b2 := v_bd (h := h.s 5) (m := 20) (by omega)
  have b3 := v_bd (h := (h.s 5).s 20) (m := 4) (by omega)
  have b4 := pk4_r (l := 1) (u := 20) (v := ((h.s 5).s 20).v 4) (x := 1) (y := 1 + h.v 5) (z := 1 + (h.s 5).v 20) (w := 20) (by omega) (by omega) (by omega) (by omega)
  generalize hn : pk4 (((h.s 5).s 20).v 4) 1 (1 + h.v 5) (1 + (h.s 5).v 20) 20 = n at b4
  obtain ⟨t, h', c1, c2, c3⟩ := cmp_ex (f := fun i : Nat => D.int (0 + i)) (g := D.int) (S := fun h : Hs => [.inn h.d, .own (.int n), .no]) (P := fun _ t _ => ∀ x ∈ t, 0 ≤ x ∧ x ≤ 255) (vs := [2]) (st := lendSl 2) (te := E__law_data_0)
    (fun k ks acc h hp => by
      obtain ⟨v, h', v0, v1, q⟩ := cell_ev h n (0 + k)
      refine ⟨_, v, _, h', rfl, q, rfl, fun x hx => ?_⟩
      rcases List.mem_append.mp hx with hx | hx
      · exact hp x hx
      · simp at hx; subst hx; exact ⟨v0, v1⟩) (List.range n.toNat) [] (((h.s 5).s 20).s 4) (by simp; omega) (by simp)
  have r1 := iR1_i (n := n) (by omega) (by omega)
  rw [rng_map] at r1
  have e : C__law_data_1 [.inn (((h.s 5).s 20).s 4).d, .own (.int n), .no] = .ok (.lst (t.map D.int)) [.inn h'.d, .own (.int n), .no] := by
    unfold C__law_data_1
    refine cmp_run (s1 := [.inn (((h.s 5).s 20).s 4).d, .own (.int n), .no]) (ds := (List.range n.toNat).map fun i : Nat => D.int (0 + i)) ?_ rfl c1
    simp only [nl1, nl2, nl3, nl4, nc2, nc3, nc4, ix20, ix21, ix30, ix31, ix32, eq_self, isi_ii, isi_ib, isi_is, isi_itl, isi_ntl, isi_tt, isN_n, isN_i, tup2, z_eqI, z_neI, si0, si1, si2, tn0, tn1, tn2, tn3, List.nil_append, List.cons_append, sSeq, sSet, sIf, sRet, sItem, sDrop, sNil, eN, eI, tP, p2, p1, fV, fC, psC, psN, eaC, eaN, e1, e2, pBl, pAnd, pOr, pNot, pIf, eIf, on1_, on2_, List.getElem?_cons_zero, List.getElem?_cons_succ, List.set_cons_zero, List.set_cons_succ, Option.bind_some, Option.map_some, Sl.val, Sl.isInn, z_ixL, z_ixT, at0, at1, at2, at3, r_of, r_bind, r_thn, s_nx, s_ret, z_nx, z_asB, z_len, z_lenT, z_addI, z_mulR, z_mulL, z_sub, z_lt, z_le, z_gt, z_ge, z_mod, z_div, z_max2, z_min2, setSl, updP, modP, valAt, getP, setP, setV, pIdx, pRoot, z_ixN, z_setI, List.length_map, List.length_cons, List.length_nil, if_true, if_false, Bool.false_eq_true, Bool.not_true, Bool.not_false, decide_true, decide_false, sUnp, ast_t, setAll, sPar, sPar3, stp_l, stp_t, g1_l, g1_t, s1_l, s1_t, Nat.reduceBEq, asq_t, asq_l, sFor, iE, iBor, iLock, unlk, id_eq, z_lst0, imm, immL, sClr, m_nx, m_ret, m_exc, m_brk, m_ct, s_exc, s_brk, s_ct, c_nil, c_cons, clr1, e2v, e2p, sFldD, pFld, fP, eMethP, eMethR, List.contains_nil, List.contains_cons, Bool.or_false, fnR, mkc, okAr, okLe, arN, arL, bk, valO, qN, qV, qI, qL, gV, gI, gL, rP, eCall, ofP, eMut, tyok_l, tyok_dk, tyok_dt, ofM, eMake, mkR, pI, eMv, List.append_nil, r_thnx, eDisp, pCall, pMeth, lnd, List.length_append, List.length_replicate, List.replicate, Bool.and_true, Bool.true_and, Bool.and_self, beq_self_eq_true, List.all_nil, List.all_cons, ite_seq, ite_map, ite_bind, ite_thn, r1]
  refine ⟨t, h', ⟨?_, ?_, c2⟩, ?_⟩
  · rw [c3]; simp; omega
  · rw [c3]; simp; omega
  · have h1 := z_tuple (z_imm t)
    unfold F__law_data
    simp (disch := first | assumption | omega) only [nl1, nl2, nl3, nl4, nc2, nc3, nc4, ix20, ix21, ix30, ix31, ix32, eq_self, isi_ii, isi_ib, isi_is, isi_itl, isi_ntl, isi_tt, isN_n, isN_i, tup2, z_eqI, z_neI, si0, si1, si2, tn0, tn1, tn2, tn3, List.nil_append, List.cons_append, sSeq, sSet, sIf, sRet, sItem, sDrop, sNil, eN, eI, tP, p2, p1, fV, fC, psC, psN, eaC, eaN, e1, e2, pBl, pAnd, pOr, pNot, pIf, eIf, on1_, on2_, List.getElem?_cons_zero, List.getElem?_cons_succ, List.set_cons_zero, List.set_cons_succ, Option.bind_some, Option.map_some, Sl.val, Sl.isInn, z_ixL, z_ixT, at0, at1, at2, at3, r_of, r_bind, r_thn, s_nx, s_ret, z_nx, z_asB, z_len, z_lenT, z_addI, z_mulR, z_mulL, z_sub, z_lt, z_le, z_gt, z_ge, z_mod, z_div, z_max2, z_min2, setSl, updP, modP, valAt, getP, setP, setV, pIdx, pRoot, z_ixN, z_setI, List.length_map, List.length_cons, List.length_nil, if_true, if_false, Bool.false_eq_true, Bool.not_true, Bool.not_false, decide_true, decide_false, sUnp, ast_t, setAll, sPar, sPar3, stp_l, stp_t, g1_l, g1_t, s1_l, s1_t, Nat.reduceBEq, asq_t, asq_l, sFor, iE, iBor, iLock, unlk, id_eq, z_lst0, imm, immL, sClr, m_nx, m_ret, m_exc, m_brk, m_ct, s_exc, s_brk, s_ct, c_nil, c_cons, clr1, e2v, e2p, sFldD, pFld, fP, eMethP, eMethR, List.contains_nil, List.contains_cons, Bool.or_false, fnR, mkc, okAr, okLe, arN, arL, bk, valO, qN, qV, qI, qL, gV, gI, gL, rP, eCall, ofP, eMut, tyok_l, tyok_dk, tyok_dt, ofM, eMake, mkR, pI, eMv, List.append_nil, r_thnx, eDisp, pCall, pMeth, lnd, List.length_append, List.length_replicate, List.replicate, Bool.and_true, Bool.true_and, Bool.and_self, beq_self_eq_true, List.all_nil, List.all_cons, ite_seq, ite_map, ite_bind, ite_thn, z_g4, next_ev, z_pk4, hn, e, h1]
    rfl
end
end Dy.Pm

/-! What is the same is alike. -/
namespace Dy.Pm
open PySem L2 Dy
noncomputable section
theorem ty_t (ds : List D) (S : String) (h : S = "tuple" ∨ S = "list" ∨ S = "int" ∨ S = "bool" ∨ S = "str") : fIsi (.tup ds) (.op (.ty S)) = some (.bl (S == "tuple")) := by
  rcases h with rfl | rfl | rfl | rfl | rfl <;> simp [fIsi, tyN, tyB]
theorem ty_l (ds : List D) (S : String) (h : S = "tuple" ∨ S = "list" ∨ S = "int" ∨ S = "bool" ∨ S = "str") : fIsi (.lst ds) (.op (.ty S)) = some (.bl (S == "list")) := by
  rcases h with rfl | rfl | rfl | rfl | rfl <;> simp [fIsi, tyN, tyB]
theorem isT_t (ds : List D) : fIsi (.tup ds) (.tup [.op (.ty "tuple"), .op (.ty "list")]) = some (.bl true) := by simp [fIsi, tyN, tyB]
theorem isT_l (ds : List D) : fIsi (.lst ds) (.tup [.op (.ty "tuple"), .op (.ty "list")]) = some (.bl true) := by simp [fIsi, tyN, tyB]
theorem isT_n : fIsi .non (.tup [.op (.ty "tuple"), .op (.ty "list")]) = some (.bl false) := by simp [fIsi, tyN, tyB]
theorem isT_b (b : Bool) : fIsi (.bl b) (.tup [.op (.ty "tuple"), .op (.ty "list")]) = some (.bl false) := by simp [fIsi, tyN, tyB]
theorem isT_i (i : Int) : fIsi (.int i) (.tup [.op (.ty "tuple"), .op (.ty "list")]) = some (.bl false) := by simp [fIsi, tyN, tyB]
theorem isT_s (s : Str) : fIsi (.str s) (.tup [.op (.ty "tuple"), .op (.ty "list")]) = some (.bl false) := by simp [fIsi, tyN, tyB]
theorem isL_t (ds : List D) : fIsi (.tup ds) (.op (.ty "list")) = some (.bl false) := by simp [fIsi, tyN, tyB]
theorem isL_l (ds : List D) : fIsi (.lst ds) (.op (.ty "list")) = some (.bl true) := by simp [fIsi, tyN, tyB]
theorem isS_b (b : Bool) : fIsi (.bl b) (.op (.ty "str")) = some (.bl false) := by simp [fIsi, tyN, tyB]
theorem isS_i (b : Int) : fIsi (.int b) (.op (.ty "str")) = some (.bl false) := by simp [fIsi, tyN, tyB]
theorem isS_s (b : Str) : fIsi (.str b) (.op (.ty "str")) = some (.bl true) := by simp [fIsi, tyN, tyB]
theorem isB_b (b : Bool) : fIsi (.bl b) (.op (.ty "bool")) = some (.bl true) := by simp [fIsi, tyN, tyB]
theorem isB_i (b : Int) : fIsi (.int b) (.op (.ty "bool")) = some (.bl false) := by simp [fIsi, tyN, tyB]
theorem isI_i (b : Int) : fIsi (.int b) (.op (.ty "int")) = some (.bl true) := by simp [fIsi, tyN, tyB]
theorem isN_b (b : Bool) : fIsN (.bl b) .non = some (.bl false) := rfl
theorem isN_s (b : Str) : fIsN (.str b) .non = some (.bl false) := rfl
theorem isN_t (b : List D) : fIsN (.tup b) .non = some (.bl false) := rfl
theorem isN_l (b : List D) : fIsN (.lst b) .non = some (.bl false) := rfl
theorem ne_bl (a b : Bool) : fNe (.bl a) (.bl b) = some (.bl (!(a == b))) := by rw [z_ne (shp_bl _ _) (shp_bl _ _)]; rfl
theorem eq_bl (a b : Bool) : fEq (.bl a) (.bl b) = some (.bl (a == b)) := by rw [z_eq (shp_bl _ _) (shp_bl _ _)]; rfl
theorem at_range {ds : List D} {k : Nat} (h : k < ds.length) : ixN ds.length (0 + (k : Int)) = some k := by
  rw [z_ixN (by omega) (by omega)]; congr 1; omega
theorem alike_seq {n : Nat} {c : List D → D} (hc : c = D.lst ∨ c = D.tup) (ds : List D) (hl : ds.length ≤ 1000000) (h : ∀ d ∈ ds, F__law_alike n [.bor d, .bor d, .no] = .ret (.bl true) [.bor d, .bor d, .no]) :
    F__law_alike (n + 1) [.bor (c ds), .bor (c ds), .no] = .ret (.bl true) [.bor (c ds), .bor (c ds), .no] := by
  have hk : ∀ k : Nat, k < ds.length → ∃ d, ds[k]? = some d ∧ pFn 2 1 (F__law_alike n) [.val d, .val d] = some (.bl true) := fun k hk => by
    refine ⟨ds[k], List.getElem?_eq_getElem hk, ?_⟩
    exact pfn_run rfl rfl rfl (h _ (List.getElem_mem hk)) rfl
  have r1 := iR1_n hl
  rw [rng_map] at r1
  have key : pCmp [2] (p1 iR1 (psC (p1 (on1 fLen) (psC (fV 1) psN)) psN)) (lendSl 2) (pNot (p1 asB (pCall 2 1 (F__law_alike n) (qL 0 (pIdx 0 pRoot (fV 2)) (qL 1 (pIdx 1 pRoot (fV 2)) qN))))) (fV 2) [.bor (c ds), .bor (c ds), .no] = some (.lst []) := by
    have hc0 : clrC [2] [.bor (c ds), .bor (c ds), .no] = some [.bor (c ds), .bor (c ds), .no] := rfl
    have := pcmp_run (vs := [2]) (it := p1 iR1 (psC (p1 (on1 fLen) (psC (fV 1) psN)) psN)) (st := lendSl 2) (T := pNot (p1 asB (pCall 2 1 (F__law_alike n) (qL 0 (pIdx 0 pRoot (fV 2)) (qL 1 (pIdx 1 pRoot (fV 2)) qN))))) (E := fV 2) (s := [.bor (c ds), .bor (c ds), .no])
      (fun i : Nat => D.int (0 + i)) (fun _ => false) (fun i : Nat => D.int (0 + i)) (List.range ds.length) (by rcases hc with rfl | rfl <;> simp only [nl1, nl2, nl3, nl4, nc2, nc3, nc4, ix20, ix21, ix30, ix31, ix32, eq_self, isi_ii, isi_ib, isi_is, isi_itl, isi_ntl, isi_tt, isN_n, isN_i, tup2, z_eqI, z_neI, si0, si1, si2, tn0, tn1, tn2, tn3, List.nil_append, List.cons_append, sSeq, sSet, sIf, sRet, sItem, sDrop, sNil, eN, eI, tP, p2, p1, fV, fC, psC, psN, eaC, eaN, e1, e2, pBl, pAnd, pOr, pNot, pIf, eIf, on1_, on2_, List.getElem?_cons_zero, List.getElem?_cons_succ, List.set_cons_zero, List.set_cons_succ, Option.bind_some, Option.map_some, Sl.val, Sl.isInn, z_ixL, z_ixT, at0, at1, at2, at3, r_of, r_bind, r_thn, s_nx, s_ret, z_nx, z_asB, z_len, z_lenT, z_addI, z_mulR, z_mulL, z_sub, z_lt, z_le, z_gt, z_ge, z_mod, z_div, z_max2, z_min2, setSl, updP, modP, valAt, getP, setP, setV, pIdx, pRoot, z_ixN, z_setI, List.length_map, List.length_cons, List.length_nil, if_true, if_false, Bool.false_eq_true, Bool.not_true, Bool.not_false, decide_true, decide_false, sUnp, ast_t, setAll, sPar, sPar3, stp_l, stp_t, g1_l, g1_t, s1_l, s1_t, Nat.reduceBEq, asq_t, asq_l, sFor, iE, iBor, iLock, unlk, id_eq, z_lst0, imm, immL, sClr, m_nx, m_ret, m_exc, m_brk, m_ct, s_exc, s_brk, s_ct, c_nil, c_cons, clr1, e2v, e2p, sFldD, pFld, fP, eMethP, eMethR, List.contains_nil, List.contains_cons, Bool.or_false, fnR, mkc, okAr, okLe, arN, arL, bk, valO, qN, qV, qI, qL, gV, gI, gL, rP, eCall, ofP, eMut, tyok_l, tyok_dk, tyok_dt, ofM, eMake, mkR, pI, eMv, List.append_nil, r_thnx, eDisp, pCall, pMeth, lnd, List.length_append, List.length_replicate, List.replicate, Bool.and_true, Bool.true_and, Bool.and_self, beq_self_eq_true, List.all_nil, List.all_cons, ite_seq, ite_map, ite_bind, ite_thn, r1]) (imm_mapL (fun _ => rfl) _) (by rw [List.length_range]; exact hl) hc0 fun k hkk => by
        obtain ⟨d, e0, e3⟩ := hk k (by simpa using hkk)
        have e4 := at_range (ds := ds) (k := k) (by simpa using hkk)
        refine ⟨[.bor (c ds), .bor (c ds), .own (.int (0 + (k : Int)))], rfl, ?_, fun z => by cases z⟩
        rcases hc with rfl | rfl <;> simp only [nl1, nl2, nl3, nl4, nc2, nc3, nc4, ix20, ix21, ix30, ix31, ix32, eq_self, isi_ii, isi_ib, isi_is, isi_itl, isi_ntl, isi_tt, isN_n, isN_i, tup2, z_eqI, z_neI, si0, si1, si2, tn0, tn1, tn2, tn3, List.nil_append, List.cons_append, sSeq, sSet, sIf, sRet, sItem, sDrop, sNil, eN, eI, tP, p2, p1, fV, fC, psC, psN, eaC, eaN, e1, e2, pBl, pAnd, pOr, pNot, pIf, eIf, on1_, on2_, List.getElem?_cons_zero, List.getElem?_cons_succ, List.set_cons_zero, List.set_cons_succ, Option.bind_some, Option.map_some, Sl.val, Sl.isInn, z_ixL, z_ixT, at0, at1, at2, at3, r_of, r_bind, r_thn, s_nx, s_ret, z_nx, z_asB, z_len, z_lenT, z_addI, z_mulR, z_mulL, z_sub, z_lt, z_le, z_gt, z_ge, z_mod, z_div, z_max2, z_min2, setSl, updP, modP, valAt, getP, setP, setV, pIdx, pRoot, z_ixN, z_setI, List.length_map, List.length_cons, List.length_nil, if_true, if_false, Bool.false_eq_true, Bool.not_true, Bool.not_false, decide_true, decide_false, sUnp, ast_t, setAll, sPar, sPar3, stp_l, stp_t, g1_l, g1_t, s1_l, s1_t, Nat.reduceBEq, asq_t, asq_l, sFor, iE, iBor, iLock, unlk, id_eq, z_lst0, imm, immL, sClr, m_nx, m_ret, m_exc, m_brk, m_ct, s_exc, s_brk, s_ct, c_nil, c_cons, clr1, e2v, e2p, sFldD, pFld, fP, eMethP, eMethR, List.contains_nil, List.contains_cons, Bool.or_false, fnR, mkc, okAr, okLe, arN, arL, bk, valO, qN, qV, qI, qL, gV, gI, gL, rP, eCall, ofP, eMut, tyok_l, tyok_dk, tyok_dt, ofM, eMake, mkR, pI, eMv, List.append_nil, r_thnx, eDisp, pCall, pMeth, lnd, List.length_append, List.length_replicate, List.replicate, Bool.and_true, Bool.true_and, Bool.and_self, beq_self_eq_true, List.all_nil, List.all_cons, ite_seq, ite_map, ite_bind, ite_thn, g1_l, g1_t, e4, e0, e3]
    rw [this, List.filter_eq_nil_iff.mpr (by simp)]
    rfl
  have c1 : fEq (.lst []) (.lst []) = some (.bl true) := z_eNil (ds := []) rfl
  have a1 : fNe (.int (ds.length : Int)) (.int (ds.length : Int)) = some (.bl false) := by rw [z_neI]; simp
  unfold F__law_alike B__law_alike
  rcases hc with rfl | rfl
  · simp only [nl1, nl2, nl3, nl4, nc2, nc3, nc4, ix20, ix21, ix30, ix31, ix32, eq_self, isi_ii, isi_ib, isi_is, isi_itl, isi_ntl, isi_tt, isN_n, isN_i, tup2, z_eqI, z_neI, si0, si1, si2, tn0, tn1, tn2, tn3, List.nil_append, List.cons_append, sSeq, sSet, sIf, sRet, sItem, sDrop, sNil, eN, eI, tP, p2, p1, fV, fC, psC, psN, eaC, eaN, e1, e2, pBl, pAnd, pOr, pNot, pIf, eIf, on1_, on2_, List.getElem?_cons_zero, List.getElem?_cons_succ, List.set_cons_zero, List.set_cons_succ, Option.bind_some, Option.map_some, Sl.val, Sl.isInn, z_ixL, z_ixT, at0, at1, at2, at3, r_of, r_bind, r_thn, s_nx, s_ret, z_nx, z_asB, z_len, z_lenT, z_addI, z_mulR, z_mulL, z_sub, z_lt, z_le, z_gt, z_ge, z_mod, z_div, z_max2, z_min2, setSl, updP, modP, valAt, getP, setP, setV, pIdx, pRoot, z_ixN, z_setI, List.length_map, List.length_cons, List.length_nil, if_true, if_false, Bool.false_eq_true, Bool.not_true, Bool.not_false, decide_true, decide_false, sUnp, ast_t, setAll, sPar, sPar3, stp_l, stp_t, g1_l, g1_t, s1_l, s1_t, Nat.reduceBEq, asq_t, asq_l, sFor, iE, iBor, iLock, unlk, id_eq, z_lst0, imm, immL, sClr, m_nx, m_ret, m_exc, m_brk, m_ct, s_exc, s_brk, s_ct, c_nil, c_cons, clr1, e2v, e2p, sFldD, pFld, fP, eMethP, eMethR, List.contains_nil, List.contains_cons, Bool.or_false, fnR, mkc, okAr, okLe, arN, arL, bk, valO, qN, qV, qI, qL, gV, gI, gL, rP, eCall, ofP, eMut, tyok_l, tyok_dk, tyok_dt, ofM, eMake, mkR, pI, eMv, List.append_nil, r_thnx, eDisp, pCall, pMeth, lnd, List.length_append, List.length_replicate, List.replicate, Bool.and_true, Bool.true_and, Bool.and_self, beq_self_eq_true, List.all_nil, List.all_cons, ite_seq, ite_map, ite_bind, ite_thn, isT_t, isT_l, isL_t, isL_l, ne_bl, a1, key, c1]
  · simp only [nl1, nl2, nl3, nl4, nc2, nc3, nc4, ix20, ix21, ix30, ix31, ix32, eq_self, isi_ii, isi_ib, isi_is, isi_itl, isi_ntl, isi_tt, isN_n, isN_i, tup2, z_eqI, z_neI, si0, si1, si2, tn0, tn1, tn2, tn3, List.nil_append, List.cons_append, sSeq, sSet, sIf, sRet, sItem, sDrop, sNil, eN, eI, tP, p2, p1, fV, fC, psC, psN, eaC, eaN, e1, e2, pBl, pAnd, pOr, pNot, pIf, eIf, on1_, on2_, List.getElem?_cons_zero, List.getElem?_cons_succ, List.set_cons_zero, List.set_cons_succ, Option.bind_some, Option.map_some, Sl.val, Sl.isInn, z_ixL, z_ixT, at0, at1, at2, at3, r_of, r_bind, r_thn, s_nx, s_ret, z_nx, z_asB, z_len, z_lenT, z_addI, z_mulR, z_mulL, z_sub, z_lt, z_le, z_gt, z_ge, z_mod, z_div, z_max2, z_min2, setSl, updP, modP, valAt, getP, setP, setV, pIdx, pRoot, z_ixN, z_setI, List.length_map, List.length_cons, List.length_nil, if_true, if_false, Bool.false_eq_true, Bool.not_true, Bool.not_false, decide_true, decide_false, sUnp, ast_t, setAll, sPar, sPar3, stp_l, stp_t, g1_l, g1_t, s1_l, s1_t, Nat.reduceBEq, asq_t, asq_l, sFor, iE, iBor, iLock, unlk, id_eq, z_lst0, imm, immL, sClr, m_nx, m_ret, m_exc, m_brk, m_ct, s_exc, s_brk, s_ct, c_nil, c_cons, clr1, e2v, e2p, sFldD, pFld, fP, eMethP, eMethR, List.contains_nil, List.contains_cons, Bool.or_false, fnR, mkc, okAr, okLe, arN, arL, bk, valO, qN, qV, qI, qL, gV, gI, gL, rP, eCall, ofP, eMut, tyok_l, tyok_dk, tyok_dt, ofM, eMake, mkR, pI, eMv, List.append_nil, r_thnx, eDisp, pCall, pMeth, lnd, List.length_append, List.length_replicate, List.replicate, Bool.and_true, Bool.true_and, Bool.and_self, beq_self_eq_true, List.all_nil, List.all_cons, ite_seq, ite_map, ite_bind, ite_thn, isT_t, isT_l, isL_t, isL_l, ne_bl, a1, key, c1]
/-! how many items at most at each place -/
mutual
def wid : D → Bool
  | .tup ds => decide (ds.length ≤ 1000000) && widL ds
  | .lst ds => decide (ds.length ≤ 1000000) && widL ds
  | _ => true
def widL : List D → Bool
  | [] => true
  | d :: ds => wid d && widL ds
end
theorem widL_iff : ∀ {ds : List D}, widL ds = true ↔ ∀ d ∈ ds, wid d = true
  | [] => by simp [widL]
  | d :: ds => by simp [widL, widL_iff (ds := ds)]
theorem wid_tup (ds : List D) : wid (.tup ds) = true ↔ ds.length ≤ 1000000 ∧ ∀ d ∈ ds, wid d = true := by
  rw [wid, Bool.and_eq_true, decide_eq_true_eq, widL_iff]
theorem wid_lst (ds : List D) : wid (.lst ds) = true ↔ ds.length ≤ 1000000 ∧ ∀ d ∈ ds, wid d = true := by
  rw [wid, Bool.and_eq_true, decide_eq_true_eq, widL_iff]
theorem widL_map {α : Type} {f : α → D} {l : List α} (h : ∀ x ∈ l, wid (f x) = true) : widL (l.map f) = true := by
  rw [widL_iff]; intro d hd; obtain ⟨x, hx, rfl⟩ := List.mem_map.mp hd; exact h x hx
theorem alike_same : ∀ (n : Nat) (d : D), shp n d = true → wid d = true → F__law_alike (n + 1) [.bor d, .bor d, .no] = .ret (.bl true) [.bor d, .bor d, .no]
  | n, .non, _, _ => by
    unfold F__law_alike B__law_alike
    simp only [nl1, nl2, nl3, nl4, nc2, nc3, nc4, ix20, ix21, ix30, ix31, ix32, eq_self, isi_ii, isi_ib, isi_is, isi_itl, isi_ntl, isi_tt, isN_n, isN_i, tup2, z_eqI, z_neI, si0, si1, si2, tn0, tn1, tn2, tn3, List.nil_append, List.cons_append, sSeq, sSet, sIf, sRet, sItem, sDrop, sNil, eN, eI, tP, p2, p1, fV, fC, psC, psN, eaC, eaN, e1, e2, pBl, pAnd, pOr, pNot, pIf, eIf, on1_, on2_, List.getElem?_cons_zero, List.getElem?_cons_succ, List.set_cons_zero, List.set_cons_succ, Option.bind_some, Option.map_some, Sl.val, Sl.isInn, z_ixL, z_ixT, at0, at1, at2, at3, r_of, r_bind, r_thn, s_nx, s_ret, z_nx, z_asB, z_len, z_lenT, z_addI, z_mulR, z_mulL, z_sub, z_lt, z_le, z_gt, z_ge, z_mod, z_div, z_max2, z_min2, setSl, updP, modP, valAt, getP, setP, setV, pIdx, pRoot, z_ixN, z_setI, List.length_map, List.length_cons, List.length_nil, if_true, if_false, Bool.false_eq_true, Bool.not_true, Bool.not_false, decide_true, decide_false, sUnp, ast_t, setAll, sPar, sPar3, stp_l, stp_t, g1_l, g1_t, s1_l, s1_t, Nat.reduceBEq, asq_t, asq_l, sFor, iE, iBor, iLock, unlk, id_eq, z_lst0, imm, immL, sClr, m_nx, m_ret, m_exc, m_brk, m_ct, s_exc, s_brk, s_ct, c_nil, c_cons, clr1, e2v, e2p, sFldD, pFld, fP, eMethP, eMethR, List.contains_nil, List.contains_cons, Bool.or_false, fnR, mkc, okAr, okLe, arN, arL, bk, valO, qN, qV, qI, qL, gV, gI, gL, rP, eCall, ofP, eMut, tyok_l, tyok_dk, tyok_dt, ofM, eMake, mkR, pI, eMv, List.append_nil, r_thnx, eDisp, pCall, pMeth, lnd, List.length_append, List.length_replicate, List.replicate, Bool.and_true, Bool.true_and, Bool.and_self, beq_self_eq_true, List.all_nil, List.all_cons, ite_seq, ite_map, ite_bind, ite_thn, isT_n]
  | n, .bl b, _, _ => by
    unfold F__law_alike B__law_alike
    simp only [nl1, nl2, nl3, nl4, nc2, nc3, nc4, ix20, ix21, ix30, ix31, ix32, eq_self, isi_ii, isi_ib, isi_is, isi_itl, isi_ntl, isi_tt, isN_n, isN_i, tup2, z_eqI, z_neI, si0, si1, si2, tn0, tn1, tn2, tn3, List.nil_append, List.cons_append, sSeq, sSet, sIf, sRet, sItem, sDrop, sNil, eN, eI, tP, p2, p1, fV, fC, psC, psN, eaC, eaN, e1, e2, pBl, pAnd, pOr, pNot, pIf, eIf, on1_, on2_, List.getElem?_cons_zero, List.getElem?_cons_succ, List.set_cons_zero, List.set_cons_succ, Option.bind_some, Option.map_some, Sl.val, Sl.isInn, z_ixL, z_ixT, at0, at1, at2, at3, r_of, r_bind, r_thn, s_nx, s_ret, z_nx, z_asB, z_len, z_lenT, z_addI, z_mulR, z_mulL, z_sub, z_lt, z_le, z_gt, z_ge, z_mod, z_div, z_max2, z_min2, setSl, updP, modP, valAt, getP, setP, setV, pIdx, pRoot, z_ixN, z_setI, List.length_map, List.length_cons, List.length_nil, if_true, if_false, Bool.false_eq_true, Bool.not_true, Bool.not_false, decide_true, decide_false, sUnp, ast_t, setAll, sPar, sPar3, stp_l, stp_t, g1_l, g1_t, s1_l, s1_t, Nat.reduceBEq, asq_t, asq_l, sFor, iE, iBor, iLock, unlk, id_eq, z_lst0, imm, immL, sClr, m_nx, m_ret, m_exc, m_brk, m_ct, s_exc, s_brk, s_ct, c_nil, c_cons, clr1, e2v, e2p, sFldD, pFld, fP, eMethP, eMethR, List.contains_nil, List.contains_cons, Bool.or_false, fnR, mkc, okAr, okLe, arN, arL, bk, valO, qN, qV, qI, qL, gV, gI, gL, rP, eCall, ofP, eMut, tyok_l, tyok_dk, tyok_dt, ofM, eMake, mkR, pI, eMv, List.append_nil, r_thnx, eDisp, pCall, pMeth, lnd, List.length_append, List.length_replicate, List.replicate, Bool.and_true, Bool.true_and, Bool.and_self, beq_self_eq_true, List.all_nil, List.all_cons, ite_seq, ite_map, ite_bind, ite_thn, isT_b, isN_b, isS_b, isB_b, eq_bl]
  | n, .int i, _, _ => by
    have a1 : fEq (.int i) (.int i) = some (.bl true) := by rw [z_eqI]; simp
    unfold F__law_alike B__law_alike
    simp only [nl1, nl2, nl3, nl4, nc2, nc3, nc4, ix20, ix21, ix30, ix31, ix32, eq_self, isi_ii, isi_ib, isi_is, isi_itl, isi_ntl, isi_tt, isN_n, isN_i, tup2, z_eqI, z_neI, si0, si1, si2, tn0, tn1, tn2, tn3, List.nil_append, List.cons_append, sSeq, sSet, sIf, sRet, sItem, sDrop, sNil, eN, eI, tP, p2, p1, fV, fC, psC, psN, eaC, eaN, e1, e2, pBl, pAnd, pOr, pNot, pIf, eIf, on1_, on2_, List.getElem?_cons_zero, List.getElem?_cons_succ, List.set_cons_zero, List.set_cons_succ, Option.bind_some, Option.map_some, Sl.val, Sl.isInn, z_ixL, z_ixT, at0, at1, at2, at3, r_of, r_bind, r_thn, s_nx, s_ret, z_nx, z_asB, z_len, z_lenT, z_addI, z_mulR, z_mulL, z_sub, z_lt, z_le, z_gt, z_ge, z_mod, z_div, z_max2, z_min2, setSl, updP, modP, valAt, getP, setP, setV, pIdx, pRoot, z_ixN, z_setI, List.length_map, List.length_cons, List.length_nil, if_true, if_false, Bool.false_eq_true, Bool.not_true, Bool.not_false, decide_true, decide_false, sUnp, ast_t, setAll, sPar, sPar3, stp_l, stp_t, g1_l, g1_t, s1_l, s1_t, Nat.reduceBEq, asq_t, asq_l, sFor, iE, iBor, iLock, unlk, id_eq, z_lst0, imm, immL, sClr, m_nx, m_ret, m_exc, m_brk, m_ct, s_exc, s_brk, s_ct, c_nil, c_cons, clr1, e2v, e2p, sFldD, pFld, fP, eMethP, eMethR, List.contains_nil, List.contains_cons, Bool.or_false, fnR, mkc, okAr, okLe, arN, arL, bk, valO, qN, qV, qI, qL, gV, gI, gL, rP, eCall, ofP, eMut, tyok_l, tyok_dk, tyok_dt, ofM, eMake, mkR, pI, eMv, List.append_nil, r_thnx, eDisp, pCall, pMeth, lnd, List.length_append, List.length_replicate, List.replicate, Bool.and_true, Bool.true_and, Bool.and_self, beq_self_eq_true, List.all_nil, List.all_cons, ite_seq, ite_map, ite_bind, ite_thn, isT_i, isN_i, isS_i, isB_i, a1]
  | n, .str s, h, _ => by
    have a1 : fEq (.str s) (.str s) = some (.bl true) := z_eqS (by rw [shp_str] at h ⊢; exact h)
    unfold F__law_alike B__law_alike
    simp only [nl1, nl2, nl3, nl4, nc2, nc3, nc4, ix20, ix21, ix30, ix31, ix32, eq_self, isi_ii, isi_ib, isi_is, isi_itl, isi_ntl, isi_tt, isN_n, isN_i, tup2, z_eqI, z_neI, si0, si1, si2, tn0, tn1, tn2, tn3, List.nil_append, List.cons_append, sSeq, sSet, sIf, sRet, sItem, sDrop, sNil, eN, eI, tP, p2, p1, fV, fC, psC, psN, eaC, eaN, e1, e2, pBl, pAnd, pOr, pNot, pIf, eIf, on1_, on2_, List.getElem?_cons_zero, List.getElem?_cons_succ, List.set_cons_zero, List.set_cons_succ, Option.bind_some, Option.map_some, Sl.val, Sl.isInn, z_ixL, z_ixT, at0, at1, at2, at3, r_of, r_bind, r_thn, s_nx, s_ret, z_nx, z_asB, z_len, z_lenT, z_addI, z_mulR, z_mulL, z_sub, z_lt, z_le, z_gt, z_ge, z_mod, z_div, z_max2, z_min2, setSl, updP, modP, valAt, getP, setP, setV, pIdx, pRoot, z_ixN, z_setI, List.length_map, List.length_cons, List.length_nil, if_true, if_false, Bool.false_eq_true, Bool.not_true, Bool.not_false, decide_true, decide_false, sUnp, ast_t, setAll, sPar, sPar3, stp_l, stp_t, g1_l, g1_t, s1_l, s1_t, Nat.reduceBEq, asq_t, asq_l, sFor, iE, iBor, iLock, unlk, id_eq, z_lst0, imm, immL, sClr, m_nx, m_ret, m_exc, m_brk, m_ct, s_exc, s_brk, s_ct, c_nil, c_cons, clr1, e2v, e2p, sFldD, pFld, fP, eMethP, eMethR, List.contains_nil, List.contains_cons, Bool.or_false, fnR, mkc, okAr, okLe, arN, arL, bk, valO, qN, qV, qI, qL, gV, gI, gL, rP, eCall, ofP, eMut, tyok_l, tyok_dk, tyok_dt, ofM, eMake, mkR, pI, eMv, List.append_nil, r_thnx, eDisp, pCall, pMeth, lnd, List.length_append, List.length_replicate, List.replicate, Bool.and_true, Bool.true_and, Bool.and_self, beq_self_eq_true, List.all_nil, List.all_cons, ite_seq, ite_map, ite_bind, ite_thn, isT_s, isN_s, isS_s, a1]
  | n + 1, .tup ds, h, w => by
    rw [shp_tup, List.all_eq_true] at h
    rw [wid_tup] at w
    exact alike_seq (.inr rfl) ds w.1 fun d hd => alike_same n d (h d hd) (w.2 d hd)
  | n + 1, .lst ds, h, w => by
    rw [shp_lst, List.all_eq_true] at h
    rw [wid_lst] at w
    exact alike_seq (.inl rfl) ds w.1 fun d hd => alike_same n d (h d hd) (w.2 d hd)
  | 0, .tup _, h, _ => by simp [shp] at h
  | 0, .lst _, h, _ => by simp [shp] at h
  | _, .fls _, h, _ => by simp [shp] at h
  | _, .op _, h, _ => by simp [shp] at h
  | _, .dk _ _, h, _ => by simp [shp] at h
  | _, .dt _ _, h, _ => by simp [shp] at h
  | _, .ob _ _ _, h, _ => by simp [shp] at h
/-- as it is asked -/
theorem alike12 {d : D} (h : shp 11 d = true) (w : wid d = true) : pFn 2 1 (F__law_alike 12) [.val d, .val d] = some (.bl true) := pfn_run rfl rfl rfl (alike_same 11 d h w) rfl
end
end Dy.Pm

/-! The program's defs as typed functions: numbers, layers, frames. -/
namespace Dy.Pm
open PySem L2 Dy
noncomputable section
/-! ### data -/
abbrev zs (ns : List Int) : List D := ns.map D.int
def eO : Option Int → D
  | none => .non
  | some i => .int i
structure Fm where
  st : Int
  ct : Int
  fi : Option Int
  body : List Int
deriving DecidableEq
def Fm.d (f : Fm) : D := .tup [.int f.st, .int f.ct, eO f.fi, .tup (zs f.body)]
structure Lay where
  st : Int
  sz : Int
  seq : Int
  ct : Int
  body : List Int
  fi : Option Int
deriving DecidableEq
def layN : List Str := ["stream", "size", "seq", "count", "open_body", "first"]
def Lay.d (l : Lay) : D := .ob 0 layN [.int l.st, .int l.sz, .int l.seq, .int l.ct, .lst (zs l.body), eO l.fi]
section
variable (l : Lay)
theorem lay_st : get1 l.d (.fld "stream") = some (.int l.st) := rfl
theorem lay_sz : get1 l.d (.fld "size") = some (.int l.sz) := rfl
theorem lay_seq : get1 l.d (.fld "seq") = some (.int l.seq) := rfl
theorem lay_ct : get1 l.d (.fld "count") = some (.int l.ct) := rfl
theorem lay_body : get1 l.d (.fld "open_body") = some (.lst (zs l.body)) := rfl
theorem lay_fi : get1 l.d (.fld "first") = some (eO l.fi) := rfl
theorem lay_pseq (i : Int) : fPutF "seq" l.d (.int i) = some (Lay.d { l with seq := i }) := rfl
theorem lay_pct (i : Int) : fPutF "count" l.d (.int i) = some (Lay.d { l with ct := i }) := rfl
theorem lay_pnil : fPutF "open_body" l.d (.lst []) = some (Lay.d { l with body := [] }) := rfl
theorem lay_pfi (i : Int) : fPutF "first" l.d (.int i) = some (Lay.d { l with fi := some i }) := rfl
theorem lay_pfn : fPutF "first" l.d .non = some (Lay.d { l with fi := none }) := rfl
theorem lay_sbody (b : List Int) : set1 l.d (.fld "open_body") (.lst (zs b)) = Lay.d { l with body := b } := rfl
end
theorem imm_eO (o : Option Int) : imm (eO o) = true := by cases o <;> rfl
theorem imm_F (f : Fm) : imm f.d = true := by simp [Fm.d, imm, immL, imm_eO, z_imm]
theorem shp_eO (n : Nat) (o : Option Int) : shp n (eO o) = true := by cases o <;> cases n <;> rfl
theorem shp_F (n : Nat) (f : Fm) : shp (n + 2) f.d = true := by
  simp only [Fm.d, shp_tup, List.all_cons, List.all_nil, shp_eO, shp_ints, shp_int, Bool.and_self]
/-! ### made, filled, lay -/
def Lay.frame (l : Lay) : Fm := ⟨l.st, l.ct, l.fi, l.body⟩
def Lay.next (l : Lay) : Lay := { l with ct := l.ct + 1, body := [], fi := none }
theorem tupF (l : Lay) : fTup [.int l.st, .int l.ct, eO l.fi, .tup (zs l.body)] = some l.frame.d := by
  rw [z_fTup (by simp [imm, immL, imm_eO, z_imm]) (by simp)]; rfl
theorem made_ev (l : Lay) : F_Layer_made [.inn l.d, .no] = .ret l.frame.d [.inn l.next.d, .no] := by
  have h1 := z_tuple (z_imm l.body)
  have h2 := imm_F l.frame
  unfold F_Layer_made
  simp (disch := first | assumption | omega) only [nl1, nl2, nl3, nl4, nc2, nc3, nc4, ix20, ix21, ix30, ix31, ix32, eq_self, isi_ii, isi_ib, isi_is, isi_itl, isi_ntl, isi_tt, isN_n, isN_i, tup2, z_eqI, z_neI, si0, si1, si2, tn0, tn1, tn2, tn3, List.nil_append, List.cons_append, sSeq, sSet, sIf, sRet, sItem, sDrop, sNil, eN, eI, tP, p2, p1, fV, fC, psC, psN, eaC, eaN, e1, e2, pBl, pAnd, pOr, pNot, pIf, eIf, on1_, on2_, List.getElem?_cons_zero, List.getElem?_cons_succ, List.set_cons_zero, List.set_cons_succ, Option.bind_some, Option.map_some, Sl.val, Sl.isInn, z_ixL, z_ixT, at0, at1, at2, at3, r_of, r_bind, r_thn, s_nx, s_ret, z_nx, z_asB, z_len, z_lenT, z_addI, z_mulR, z_mulL, z_sub, z_lt, z_le, z_gt, z_ge, z_mod, z_div, z_max2, z_min2, setSl, updP, modP, valAt, getP, setP, setV, pIdx, pRoot, z_ixN, z_setI, List.length_map, List.length_cons, List.length_nil, if_true, if_false, Bool.false_eq_true, Bool.not_true, Bool.not_false, decide_true, decide_false, sUnp, ast_t, setAll, sPar, sPar3, stp_l, stp_t, g1_l, g1_t, s1_l, s1_t, Nat.reduceBEq, asq_t, asq_l, sFor, iE, iBor, iLock, unlk, id_eq, z_lst0, imm, immL, sClr, m_nx, m_ret, m_exc, m_brk, m_ct, s_exc, s_brk, s_ct, c_nil, c_cons, clr1, e2v, e2p, sFldD, pFld, fP, eMethP, eMethR, List.contains_nil, List.contains_cons, Bool.or_false, fnR, mkc, okAr, okLe, arN, arL, bk, valO, qN, qV, qI, qL, gV, gI, gL, rP, eCall, ofP, eMut, tyok_l, tyok_dk, tyok_dt, ofM, eMake, mkR, pI, eMv, List.append_nil, r_thnx, eDisp, pCall, pMeth, lnd, List.length_append, List.length_replicate, List.replicate, Bool.and_true, Bool.true_and, Bool.and_self, beq_self_eq_true, List.all_nil, List.all_cons, ite_seq, ite_map, ite_bind, ite_thn, lay_st, lay_sz, lay_seq, lay_ct, lay_body, lay_fi, lay_pseq, lay_pct, lay_pnil, lay_pfi, lay_pfn, lay_sbody, h1, h2, tupF]
  rfl
def Lay.add (l : Lay) (x : Int) : Lay := { l with body := l.body ++ [x] }
def Lay.push (l : Lay) (x : Int) : Lay × List Fm := if ((l.add x).body.length : Int) = l.sz then ((l.add x).next, [(l.add x).frame]) else (l.add x, [])
theorem lay_add (l : Lay) (x : Int) : ({ l with body := l.body ++ [x] } : Lay) = l.add x := rfl
theorem zs_snoc (ns : List Int) (x : Int) : ns.map D.int ++ [.int x] = (ns ++ [x]).map D.int := by rw [List.map_append]; rfl
theorem lay_o1 (l : Lay) : obOk 0 "made" l.d = true := rfl
theorem lay_o2 (l : Lay) : obOk 0 "lay" l.d = true := rfl
theorem lay_o3 (l : Lay) : obOk 0 "filled" l.d = true := rfl
theorem add_sz (l : Lay) (x : Int) : (l.add x).sz = l.sz := rfl
theorem push_ev (l : Lay) (dt : D) (fs : List Fm) (x : Int) (h1 : l.body.length < 1000000) (h2 : fs.length < 1000000) :
    L_Layer_lay_0 [.inn l.d, .bor dt, .own (.lst (fs.map Fm.d)), .own (.int x)] = .nx [.inn (l.push x).1.d, .bor dt, .own (.lst ((fs ++ (l.push x).2).map Fm.d)), .no] := by
  unfold L_Layer_lay_0 Lay.push
  by_cases c : ((l.add x).body.length : Int) = l.sz
  · simp (disch := first | assumption | omega) only [nl1, nl2, nl3, nl4, nc2, nc3, nc4, ix20, ix21, ix30, ix31, ix32, eq_self, isi_ii, isi_ib, isi_is, isi_itl, isi_ntl, isi_tt, isN_n, isN_i, tup2, z_eqI, z_neI, si0, si1, si2, tn0, tn1, tn2, tn3, List.nil_append, List.cons_append, sSeq, sSet, sIf, sRet, sItem, sDrop, sNil, eN, eI, tP, p2, p1, fV, fC, psC, psN, eaC, eaN, e1, e2, pBl, pAnd, pOr, pNot, pIf, eIf, on1_, on2_, List.getElem?_cons_zero, List.getElem?_cons_succ, List.set_cons_zero, List.set_cons_succ, Option.bind_some, Option.map_some, Sl.val, Sl.isInn, z_ixL, z_ixT, at0, at1, at2, at3, r_of, r_bind, r_thn, s_nx, s_ret, z_nx, z_asB, z_len, z_lenT, z_addI, z_mulR, z_mulL, z_sub, z_lt, z_le, z_gt, z_ge, z_mod, z_div, z_max2, z_min2, setSl, updP, modP, valAt, getP, setP, setV, pIdx, pRoot, z_ixN, z_setI, List.length_map, List.length_cons, List.length_nil, if_true, if_false, Bool.false_eq_true, Bool.not_true, Bool.not_false, decide_true, decide_false, sUnp, ast_t, setAll, sPar, sPar3, stp_l, stp_t, g1_l, g1_t, s1_l, s1_t, Nat.reduceBEq, asq_t, asq_l, sFor, iE, iBor, iLock, unlk, id_eq, z_lst0, imm, immL, sClr, m_nx, m_ret, m_exc, m_brk, m_ct, s_exc, s_brk, s_ct, c_nil, c_cons, clr1, e2v, e2p, sFldD, pFld, fP, eMethP, eMethR, List.contains_nil, List.contains_cons, Bool.or_false, fnR, mkc, okAr, okLe, arN, arL, bk, valO, qN, qV, qI, qL, gV, gI, gL, rP, eCall, ofP, eMut, tyok_l, tyok_dk, tyok_dt, ofM, eMake, mkR, pI, eMv, List.append_nil, r_thnx, eDisp, pCall, pMeth, lnd, List.length_append, List.length_replicate, List.replicate, Bool.and_true, Bool.true_and, Bool.and_self, beq_self_eq_true, List.all_nil, List.all_cons, ite_seq, ite_map, ite_bind, ite_thn, lay_st, lay_sz, lay_seq, lay_ct, lay_body, lay_fi, lay_pseq, lay_pct, lay_pnil, lay_pfi, lay_pfn, lay_sbody, lay_o1, lay_o2, lay_o3, add_sz, z_appM, lay_add, made_ev, c]
  · simp (disch := first | assumption | omega) only [nl1, nl2, nl3, nl4, nc2, nc3, nc4, ix20, ix21, ix30, ix31, ix32, eq_self, isi_ii, isi_ib, isi_is, isi_itl, isi_ntl, isi_tt, isN_n, isN_i, tup2, z_eqI, z_neI, si0, si1, si2, tn0, tn1, tn2, tn3, List.nil_append, List.cons_append, sSeq, sSet, sIf, sRet, sItem, sDrop, sNil, eN, eI, tP, p2, p1, fV, fC, psC, psN, eaC, eaN, e1, e2, pBl, pAnd, pOr, pNot, pIf, eIf, on1_, on2_, List.getElem?_cons_zero, List.getElem?_cons_succ, List.set_cons_zero, List.set_cons_succ, Option.bind_some, Option.map_some, Sl.val, Sl.isInn, z_ixL, z_ixT, at0, at1, at2, at3, r_of, r_bind, r_thn, s_nx, s_ret, z_nx, z_asB, z_len, z_lenT, z_addI, z_mulR, z_mulL, z_sub, z_lt, z_le, z_gt, z_ge, z_mod, z_div, z_max2, z_min2, setSl, updP, modP, valAt, getP, setP, setV, pIdx, pRoot, z_ixN, z_setI, List.length_map, List.length_cons, List.length_nil, if_true, if_false, Bool.false_eq_true, Bool.not_true, Bool.not_false, decide_true, decide_false, sUnp, ast_t, setAll, sPar, sPar3, stp_l, stp_t, g1_l, g1_t, s1_l, s1_t, Nat.reduceBEq, asq_t, asq_l, sFor, iE, iBor, iLock, unlk, id_eq, z_lst0, imm, immL, sClr, m_nx, m_ret, m_exc, m_brk, m_ct, s_exc, s_brk, s_ct, c_nil, c_cons, clr1, e2v, e2p, sFldD, pFld, fP, eMethP, eMethR, List.contains_nil, List.contains_cons, Bool.or_false, fnR, mkc, okAr, okLe, arN, arL, bk, valO, qN, qV, qI, qL, gV, gI, gL, rP, eCall, ofP, eMut, tyok_l, tyok_dk, tyok_dt, ofM, eMake, mkR, pI, eMv, List.append_nil, r_thnx, eDisp, pCall, pMeth, lnd, List.length_append, List.length_replicate, List.replicate, Bool.and_true, Bool.true_and, Bool.and_self, beq_self_eq_true, List.all_nil, List.all_cons, ite_seq, ite_map, ite_bind, ite_thn, lay_st, lay_sz, lay_seq, lay_ct, lay_body, lay_fi, lay_pseq, lay_pct, lay_pnil, lay_pfi, lay_pfn, lay_sbody, lay_o1, lay_o2, lay_o3, add_sz, z_appM, lay_add, made_ev, c]
/-- numbers laid one by one -/
def Lay.row : Lay → List Int → Lay × List Fm
  | l, [] => (l, [])
  | l, x :: xs => (((l.push x).1.row xs).1, (l.push x).2 ++ ((l.push x).1.row xs).2)
theorem push_len (l : Lay) (x : Int) : (l.push x).1.body.length ≤ l.body.length + 1 ∧ (l.push x).2.length ≤ 1 := by
  unfold Lay.push Lay.add Lay.next
  split <;> simp
theorem row_ev (dt : D) : ∀ (xs : List Int) (l : Lay) (fs : List Fm), l.body.length + xs.length < 1000000 → fs.length + xs.length < 1000000 →
    forL (lendSl 3) L_Layer_lay_0 (xs.map D.int) [.inn l.d, .bor dt, .own (.lst (fs.map Fm.d)), .no] = .nx [.inn (l.row xs).1.d, .bor dt, .own (.lst ((fs ++ (l.row xs).2).map Fm.d)), .no]
  | [], l, fs, _, _ => by simp [forL, Lay.row]
  | x :: xs, l, fs, h1, h2 => by
    rw [List.length_cons] at h1 h2
    obtain ⟨p1, p2⟩ := push_len l x
    have e := push_ev l dt fs x (by omega) (by omega)
    have ih := row_ev dt xs (l.push x).1 (fs ++ (l.push x).2) (by omega) (by rw [List.length_append]; omega)
    rw [List.map_cons, forL]
    simp only [lendSl, List.getElem?_cons_succ, List.getElem?_cons_zero, Sl.isInn, Bool.false_eq_true, if_false, imm, if_true, List.set_cons_succ, List.set_cons_zero, e, ih, Lay.row, List.append_assoc]
/-- a telling's head -/
def Lay.start (l : Lay) : Lay := match l.fi with
  | none => { l with fi := some l.body.length }
  | some _ => l
def Lay.cells (l : Lay) (t : List Int) : List Int := [(t.length : Int), l.seq.fdiv 256, l.seq.fmod 256] ++ t
def Lay.lay (l : Lay) (t : List Int) : Lay × List Fm := ({ (l.start.row (l.cells t)).1 with seq := (l.start.row (l.cells t)).1.seq + 1 }, (l.start.row (l.cells t)).2)
theorem lay_ev (l : Lay) (t : List Int) (h1 : l.body.length ≤ 10000) (h2 : t.length ≤ 10000) :
    F_Layer_lay [.inn l.d, .bor (.tup (zs t)), .no, .no] = .ret (.lst ((l.lay t).2.map Fm.d)) [.inn (l.lay t).1.d, .bor (.tup (zs t)), .no, .no] := by
  have a1 := z_addT (a := [.int (t.length : Int), .int (l.seq.fdiv 256), .int (l.seq.fmod 256)]) (b := zs t) (by rfl) (z_imm t) (by simp; omega)
  have a0 : fTup [.int (t.length : Int), .int (l.seq.fdiv 256), .int (l.seq.fmod 256)] = some (.tup [.int (t.length : Int), .int (l.seq.fdiv 256), .int (l.seq.fmod 256)]) := rfl
  have e : S_Layer_lay_1 [.inn l.start.d, .bor (.tup (zs t)), .own (.lst []), .no] = .nx [.inn (l.start.row (l.cells t)).1.d, .bor (.tup (zs t)), .own (.lst ((l.start.row (l.cells t)).2.map Fm.d)), .no] := by
    have b1 : l.start.body = l.body := by unfold Lay.start; split <;> rfl
    have b2 : l.start.seq = l.seq := by unfold Lay.start; split <;> rfl
    have r := row_ev (.tup (zs t)) (l.cells t) l.start [] (by rw [b1]; simp [Lay.cells]; omega) (by simp [Lay.cells]; omega)
    have c : List.map D.int (l.cells t) = [.int (t.length : Int), .int (l.seq.fdiv 256), .int (l.seq.fmod 256)] ++ zs t := by simp [Lay.cells]
    rw [c] at r
    simp only [List.cons_append, List.nil_append, List.map_nil] at r a1
    unfold S_Layer_lay_1
    simp (disch := first | assumption | omega) only [nl1, nl2, nl3, nl4, nc2, nc3, nc4, ix20, ix21, ix30, ix31, ix32, eq_self, isi_ii, isi_ib, isi_is, isi_itl, isi_ntl, isi_tt, isN_n, isN_i, tup2, z_eqI, z_neI, si0, si1, si2, tn0, tn1, tn2, tn3, List.nil_append, List.cons_append, sSeq, sSet, sIf, sRet, sItem, sDrop, sNil, eN, eI, tP, p2, p1, fV, fC, psC, psN, eaC, eaN, e1, e2, pBl, pAnd, pOr, pNot, pIf, eIf, on1_, on2_, List.getElem?_cons_zero, List.getElem?_cons_succ, List.set_cons_zero, List.set_cons_succ, Option.bind_some, Option.map_some, Sl.val, Sl.isInn, z_ixL, z_ixT, at0, at1, at2, at3, r_of, r_bind, r_thn, s_nx, s_ret, z_nx, z_asB, z_len, z_lenT, z_addI, z_mulR, z_mulL, z_sub, z_lt, z_le, z_gt, z_ge, z_mod, z_div, z_max2, z_min2, setSl, updP, modP, valAt, getP, setP, setV, pIdx, pRoot, z_ixN, z_setI, List.length_map, List.length_cons, List.length_nil, if_true, if_false, Bool.false_eq_true, Bool.not_true, Bool.not_false, decide_true, decide_false, sUnp, ast_t, setAll, sPar, sPar3, stp_l, stp_t, g1_l, g1_t, s1_l, s1_t, Nat.reduceBEq, asq_t, asq_l, sFor, iE, iBor, iLock, unlk, id_eq, z_lst0, imm, immL, sClr, m_nx, m_ret, m_exc, m_brk, m_ct, s_exc, s_brk, s_ct, c_nil, c_cons, clr1, e2v, e2p, sFldD, pFld, fP, eMethP, eMethR, List.contains_nil, List.contains_cons, Bool.or_false, fnR, mkc, okAr, okLe, arN, arL, bk, valO, qN, qV, qI, qL, gV, gI, gL, rP, eCall, ofP, eMut, tyok_l, tyok_dk, tyok_dt, ofM, eMake, mkR, pI, eMv, List.append_nil, r_thnx, eDisp, pCall, pMeth, lnd, List.length_append, List.length_replicate, List.replicate, Bool.and_true, Bool.true_and, Bool.and_self, beq_self_eq_true, List.all_nil, List.all_cons, ite_seq, ite_map, ite_bind, ite_thn, lay_st, lay_sz, lay_seq, lay_ct, lay_body, lay_fi, lay_pseq, lay_pct, lay_pnil, lay_pfi, lay_pfn, lay_sbody, lay_o1, lay_o2, lay_o3, add_sz, b2, a0, a1, r]
  unfold F_Layer_lay
  cases c : l.fi with
  | none =>
    have b : Lay.d { l with fi := some (l.body.length : Int) } = l.start.d := by unfold Lay.start; rw [c]
    simp (disch := first | assumption | omega) only [nl1, nl2, nl3, nl4, nc2, nc3, nc4, ix20, ix21, ix30, ix31, ix32, eq_self, isi_ii, isi_ib, isi_is, isi_itl, isi_ntl, isi_tt, isN_n, isN_i, tup2, z_eqI, z_neI, si0, si1, si2, tn0, tn1, tn2, tn3, List.nil_append, List.cons_append, sSeq, sSet, sIf, sRet, sItem, sDrop, sNil, eN, eI, tP, p2, p1, fV, fC, psC, psN, eaC, eaN, e1, e2, pBl, pAnd, pOr, pNot, pIf, eIf, on1_, on2_, List.getElem?_cons_zero, List.getElem?_cons_succ, List.set_cons_zero, List.set_cons_succ, Option.bind_some, Option.map_some, Sl.val, Sl.isInn, z_ixL, z_ixT, at0, at1, at2, at3, r_of, r_bind, r_thn, s_nx, s_ret, z_nx, z_asB, z_len, z_lenT, z_addI, z_mulR, z_mulL, z_sub, z_lt, z_le, z_gt, z_ge, z_mod, z_div, z_max2, z_min2, setSl, updP, modP, valAt, getP, setP, setV, pIdx, pRoot, z_ixN, z_setI, List.length_map, List.length_cons, List.length_nil, if_true, if_false, Bool.false_eq_true, Bool.not_true, Bool.not_false, decide_true, decide_false, sUnp, ast_t, setAll, sPar, sPar3, stp_l, stp_t, g1_l, g1_t, s1_l, s1_t, Nat.reduceBEq, asq_t, asq_l, sFor, iE, iBor, iLock, unlk, id_eq, z_lst0, imm, immL, sClr, m_nx, m_ret, m_exc, m_brk, m_ct, s_exc, s_brk, s_ct, c_nil, c_cons, clr1, e2v, e2p, sFldD, pFld, fP, eMethP, eMethR, List.contains_nil, List.contains_cons, Bool.or_false, fnR, mkc, okAr, okLe, arN, arL, bk, valO, qN, qV, qI, qL, gV, gI, gL, rP, eCall, ofP, eMut, tyok_l, tyok_dk, tyok_dt, ofM, eMake, mkR, pI, eMv, List.append_nil, r_thnx, eDisp, pCall, pMeth, lnd, List.length_append, List.length_replicate, List.replicate, Bool.and_true, Bool.true_and, Bool.and_self, beq_self_eq_true, List.all_nil, List.all_cons, ite_seq, ite_map, ite_bind, ite_thn, lay_st, lay_sz, lay_seq, lay_ct, lay_body, lay_fi, lay_pseq, lay_pct, lay_pnil, lay_pfi, lay_pfn, lay_sbody, lay_o1, lay_o2, lay_o3, add_sz, c, eO, b, e]
    rfl
  | some i =>
    have b : l.start = l := by unfold Lay.start; rw [c]
    rw [b] at e
    simp (disch := first | assumption | omega) only [nl1, nl2, nl3, nl4, nc2, nc3, nc4, ix20, ix21, ix30, ix31, ix32, eq_self, isi_ii, isi_ib, isi_is, isi_itl, isi_ntl, isi_tt, isN_n, isN_i, tup2, z_eqI, z_neI, si0, si1, si2, tn0, tn1, tn2, tn3, List.nil_append, List.cons_append, sSeq, sSet, sIf, sRet, sItem, sDrop, sNil, eN, eI, tP, p2, p1, fV, fC, psC, psN, eaC, eaN, e1, e2, pBl, pAnd, pOr, pNot, pIf, eIf, on1_, on2_, List.getElem?_cons_zero, List.getElem?_cons_succ, List.set_cons_zero, List.set_cons_succ, Option.bind_some, Option.map_some, Sl.val, Sl.isInn, z_ixL, z_ixT, at0, at1, at2, at3, r_of, r_bind, r_thn, s_nx, s_ret, z_nx, z_asB, z_len, z_lenT, z_addI, z_mulR, z_mulL, z_sub, z_lt, z_le, z_gt, z_ge, z_mod, z_div, z_max2, z_min2, setSl, updP, modP, valAt, getP, setP, setV, pIdx, pRoot, z_ixN, z_setI, List.length_map, List.length_cons, List.length_nil, if_true, if_false, Bool.false_eq_true, Bool.not_true, Bool.not_false, decide_true, decide_false, sUnp, ast_t, setAll, sPar, sPar3, stp_l, stp_t, g1_l, g1_t, s1_l, s1_t, Nat.reduceBEq, asq_t, asq_l, sFor, iE, iBor, iLock, unlk, id_eq, z_lst0, imm, immL, sClr, m_nx, m_ret, m_exc, m_brk, m_ct, s_exc, s_brk, s_ct, c_nil, c_cons, clr1, e2v, e2p, sFldD, pFld, fP, eMethP, eMethR, List.contains_nil, List.contains_cons, Bool.or_false, fnR, mkc, okAr, okLe, arN, arL, bk, valO, qN, qV, qI, qL, gV, gI, gL, rP, eCall, ofP, eMut, tyok_l, tyok_dk, tyok_dt, ofM, eMake, mkR, pI, eMv, List.append_nil, r_thnx, eDisp, pCall, pMeth, lnd, List.length_append, List.length_replicate, List.replicate, Bool.and_true, Bool.true_and, Bool.and_self, beq_self_eq_true, List.all_nil, List.all_cons, ite_seq, ite_map, ite_bind, ite_thn, lay_st, lay_sz, lay_seq, lay_ct, lay_body, lay_fi, lay_pseq, lay_pct, lay_pnil, lay_pfi, lay_pfn, lay_sbody, lay_o1, lay_o2, lay_o3, add_sz, c, eO, e]
    unfold Lay.lay
    rw [b]
def Lay.pad (l : Lay) : Lay := { l with body := l.body ++ List.replicate (l.sz - l.body.length).toNat 0 }
def Lay.fill (l : Lay) : Lay × List Fm := if l.body = [] then (l, []) else (l.pad.next, [l.pad.frame])
theorem lay_pad (l : Lay) : ({ l with body := l.body ++ List.replicate (l.sz - (l.body.length : Int)).toNat 0 } : Lay) = l.pad := rfl
theorem rep_map (n : Nat) (x : Int) : List.replicate n (D.int x) = (List.replicate n x).map D.int := by rw [List.map_replicate]
theorem fill_ev (l : Lay) (h1 : l.body.length ≤ 10000) (h2 : 0 ≤ l.sz ∧ l.sz ≤ 10000) : F_Layer_filled [.inn l.d] = .ret (.lst (l.fill.2.map Fm.d)) [.inn l.fill.1.d] := by
  have c1 := z_eNil (ds := l.body.map D.int) (shp_ints _ _)
  rw [z_empty] at c1
  have a1 := z_repL (x := .int 0) (k := l.sz - (l.body.length : Int)) rfl (by omega) (by omega)
  rw [rep_map] at a1
  have a2 := z_extM (f := D.int) (xs := l.body) (ys := List.replicate (l.sz - (l.body.length : Int)).toNat 0) (z_imm _) (by rw [List.length_replicate]; omega)
  have a3 : gLstD [l.pad.frame.d] = some (.lst [l.pad.frame.d]) := rfl
  unfold F_Layer_filled Lay.fill
  by_cases c : l.body = []
  · have c' : l.body.isEmpty = true := by rw [c]; rfl
    rw [if_pos c]
    simp (disch := first | assumption | omega) only [nl1, nl2, nl3, nl4, nc2, nc3, nc4, ix20, ix21, ix30, ix31, ix32, eq_self, isi_ii, isi_ib, isi_is, isi_itl, isi_ntl, isi_tt, isN_n, isN_i, tup2, z_eqI, z_neI, si0, si1, si2, tn0, tn1, tn2, tn3, List.nil_append, List.cons_append, sSeq, sSet, sIf, sRet, sItem, sDrop, sNil, eN, eI, tP, p2, p1, fV, fC, psC, psN, eaC, eaN, e1, e2, pBl, pAnd, pOr, pNot, pIf, eIf, on1_, on2_, List.getElem?_cons_zero, List.getElem?_cons_succ, List.set_cons_zero, List.set_cons_succ, Option.bind_some, Option.map_some, Sl.val, Sl.isInn, z_ixL, z_ixT, at0, at1, at2, at3, r_of, r_bind, r_thn, s_nx, s_ret, z_nx, z_asB, z_len, z_lenT, z_addI, z_mulR, z_mulL, z_sub, z_lt, z_le, z_gt, z_ge, z_mod, z_div, z_max2, z_min2, setSl, updP, modP, valAt, getP, setP, setV, pIdx, pRoot, z_ixN, z_setI, List.length_map, List.length_cons, List.length_nil, if_true, if_false, Bool.false_eq_true, Bool.not_true, Bool.not_false, decide_true, decide_false, sUnp, ast_t, setAll, sPar, sPar3, stp_l, stp_t, g1_l, g1_t, s1_l, s1_t, Nat.reduceBEq, asq_t, asq_l, sFor, iE, iBor, iLock, unlk, id_eq, z_lst0, imm, immL, sClr, m_nx, m_ret, m_exc, m_brk, m_ct, s_exc, s_brk, s_ct, c_nil, c_cons, clr1, e2v, e2p, sFldD, pFld, fP, eMethP, eMethR, List.contains_nil, List.contains_cons, Bool.or_false, fnR, mkc, okAr, okLe, arN, arL, bk, valO, qN, qV, qI, qL, gV, gI, gL, rP, eCall, ofP, eMut, tyok_l, tyok_dk, tyok_dt, ofM, eMake, mkR, pI, eMv, List.append_nil, r_thnx, eDisp, pCall, pMeth, lnd, List.length_append, List.length_replicate, List.replicate, Bool.and_true, Bool.true_and, Bool.and_self, beq_self_eq_true, List.all_nil, List.all_cons, ite_seq, ite_map, ite_bind, ite_thn, lay_st, lay_sz, lay_seq, lay_ct, lay_body, lay_fi, lay_pseq, lay_pct, lay_pnil, lay_pfi, lay_pfn, lay_sbody, lay_o1, lay_o2, lay_o3, add_sz, c1, c', List.map_nil]
  · have c' : l.body.isEmpty = false := by simpa using c
    rw [if_neg c]
    simp (disch := first | assumption | omega) only [nl1, nl2, nl3, nl4, nc2, nc3, nc4, ix20, ix21, ix30, ix31, ix32, eq_self, isi_ii, isi_ib, isi_is, isi_itl, isi_ntl, isi_tt, isN_n, isN_i, tup2, z_eqI, z_neI, si0, si1, si2, tn0, tn1, tn2, tn3, List.nil_append, List.cons_append, sSeq, sSet, sIf, sRet, sItem, sDrop, sNil, eN, eI, tP, p2, p1, fV, fC, psC, psN, eaC, eaN, e1, e2, pBl, pAnd, pOr, pNot, pIf, eIf, on1_, on2_, List.getElem?_cons_zero, List.getElem?_cons_succ, List.set_cons_zero, List.set_cons_succ, Option.bind_some, Option.map_some, Sl.val, Sl.isInn, z_ixL, z_ixT, at0, at1, at2, at3, r_of, r_bind, r_thn, s_nx, s_ret, z_nx, z_asB, z_len, z_lenT, z_addI, z_mulR, z_mulL, z_sub, z_lt, z_le, z_gt, z_ge, z_mod, z_div, z_max2, z_min2, setSl, updP, modP, valAt, getP, setP, setV, pIdx, pRoot, z_ixN, z_setI, List.length_map, List.length_cons, List.length_nil, if_true, if_false, Bool.false_eq_true, Bool.not_true, Bool.not_false, decide_true, decide_false, sUnp, ast_t, setAll, sPar, sPar3, stp_l, stp_t, g1_l, g1_t, s1_l, s1_t, Nat.reduceBEq, asq_t, asq_l, sFor, iE, iBor, iLock, unlk, id_eq, z_lst0, imm, immL, sClr, m_nx, m_ret, m_exc, m_brk, m_ct, s_exc, s_brk, s_ct, c_nil, c_cons, clr1, e2v, e2p, sFldD, pFld, fP, eMethP, eMethR, List.contains_nil, List.contains_cons, Bool.or_false, fnR, mkc, okAr, okLe, arN, arL, bk, valO, qN, qV, qI, qL, gV, gI, gL, rP, eCall, ofP, eMut, tyok_l, tyok_dk, tyok_dt, ofM, eMake, mkR, pI, eMv, List.append_nil, r_thnx, eDisp, pCall, pMeth, lnd, List.length_append, List.length_replicate, List.replicate, Bool.and_true, Bool.true_and, Bool.and_self, beq_self_eq_true, List.all_nil, List.all_cons, ite_seq, ite_map, ite_bind, ite_thn, lay_st, lay_sz, lay_seq, lay_ct, lay_body, lay_fi, lay_pseq, lay_pct, lay_pnil, lay_pfi, lay_pfn, lay_sbody, lay_o1, lay_o2, lay_o3, add_sz, c1, c', z_l1, a1, a2, lay_pad, made_ev, a3, List.map_cons, List.map_nil]
theorem init_ev (st sz : Int) : F_Layer_init [.inn (.ob 0 [] []), .bor (.int st), .bor (.int sz)] = .nx [.inn (Lay.d ⟨st, sz, 0, 0, [], none⟩), .bor (.int st), .bor (.int sz)] := by
  rfl
/-! ### needs -/
theorem isnum_ev (x lo hi : Int) : F_is_number [.bor (.int x), .bor (.int lo), .bor (.int hi)] = .ret (.bl (decide (lo ≤ x) && decide (x ≤ hi))) [.bor (.int x), .bor (.int lo), .bor (.int hi)] := by
  unfold F_is_number
  by_cases c : lo ≤ x <;> simp only [nl1, nl2, nl3, nl4, nc2, nc3, nc4, ix20, ix21, ix30, ix31, ix32, eq_self, isi_ii, isi_ib, isi_is, isi_itl, isi_ntl, isi_tt, isN_n, isN_i, tup2, z_eqI, z_neI, si0, si1, si2, tn0, tn1, tn2, tn3, List.nil_append, List.cons_append, sSeq, sSet, sIf, sRet, sItem, sDrop, sNil, eN, eI, tP, p2, p1, fV, fC, psC, psN, eaC, eaN, e1, e2, pBl, pAnd, pOr, pNot, pIf, eIf, on1_, on2_, List.getElem?_cons_zero, List.getElem?_cons_succ, List.set_cons_zero, List.set_cons_succ, Option.bind_some, Option.map_some, Sl.val, Sl.isInn, z_ixL, z_ixT, at0, at1, at2, at3, r_of, r_bind, r_thn, s_nx, s_ret, z_nx, z_asB, z_len, z_lenT, z_addI, z_mulR, z_mulL, z_sub, z_lt, z_le, z_gt, z_ge, z_mod, z_div, z_max2, z_min2, setSl, updP, modP, valAt, getP, setP, setV, pIdx, pRoot, z_ixN, z_setI, List.length_map, List.length_cons, List.length_nil, if_true, if_false, Bool.false_eq_true, Bool.not_true, Bool.not_false, decide_true, decide_false, sUnp, ast_t, setAll, sPar, sPar3, stp_l, stp_t, g1_l, g1_t, s1_l, s1_t, Nat.reduceBEq, asq_t, asq_l, sFor, iE, iBor, iLock, unlk, id_eq, z_lst0, imm, immL, sClr, m_nx, m_ret, m_exc, m_brk, m_ct, s_exc, s_brk, s_ct, c_nil, c_cons, clr1, e2v, e2p, sFldD, pFld, fP, eMethP, eMethR, List.contains_nil, List.contains_cons, Bool.or_false, fnR, mkc, okAr, okLe, arN, arL, bk, valO, qN, qV, qI, qL, gV, gI, gL, rP, eCall, ofP, eMut, tyok_l, tyok_dk, tyok_dt, ofM, eMake, mkR, pI, eMv, List.append_nil, r_thnx, eDisp, pCall, pMeth, lnd, List.length_append, List.length_replicate, List.replicate, Bool.and_true, Bool.true_and, Bool.and_self, beq_self_eq_true, List.all_nil, List.all_cons, ite_seq, ite_map, ite_bind, ite_thn, pChain, c, Bool.true_and, Bool.false_and]
theorem fnR3 {m : Nat} {Fn : SS → RS} {a b c d : D} {s : SS} {x y z : Sl} {r : SS} (h : Fn ([.bor a, .bor b, .bor c] ++ List.replicate m .no) = .ret d (x :: y :: z :: r)) : pFn 3 m Fn [.val a, .val b, .val c] = some d := by
  unfold pFn
  rw [if_pos (show ([Ar.val a, Ar.val b, Ar.val c].length == 3 && (arN [Ar.val a, Ar.val b, Ar.val c]).isEmpty) = true from rfl)]
  unfold fnR
  rw [if_pos (show ([Ar.val a, Ar.val b, Ar.val c].length == 3 && okAr [Ar.val a, Ar.val b, Ar.val c] && okLe [Ar.val a, Ar.val b, Ar.val c]) = true from rfl)]
  have e : mkc [Ar.val a, Ar.val b, Ar.val c] [] = some [.bor a, .bor b, .bor c] := rfl
  rw [e]
  simp only [h]
  rfl
theorem isnum_p (x lo hi : Int) : pFn 3 0 F_is_number [.val (.int x), .val (.int lo), .val (.int hi)] = some (.bl (decide (lo ≤ x) && decide (x ≤ hi))) := fnR3 (s := []) (isnum_ev x lo hi)
theorem nsize_ev {x : Int} (h1 : 8 ≤ x) (h2 : x ≤ 24) : F_need_size [.bor (.int x)] = .nx [.bor (.int x)] := by
  unfold F_need_size
  simp only [nl1, nl2, nl3, nl4, nc2, nc3, nc4, ix20, ix21, ix30, ix31, ix32, eq_self, isi_ii, isi_ib, isi_is, isi_itl, isi_ntl, isi_tt, isN_n, isN_i, tup2, z_eqI, z_neI, si0, si1, si2, tn0, tn1, tn2, tn3, List.nil_append, List.cons_append, sSeq, sSet, sIf, sRet, sItem, sDrop, sNil, eN, eI, tP, p2, p1, fV, fC, psC, psN, eaC, eaN, e1, e2, pBl, pAnd, pOr, pNot, pIf, eIf, on1_, on2_, List.getElem?_cons_zero, List.getElem?_cons_succ, List.set_cons_zero, List.set_cons_succ, Option.bind_some, Option.map_some, Sl.val, Sl.isInn, z_ixL, z_ixT, at0, at1, at2, at3, r_of, r_bind, r_thn, s_nx, s_ret, z_nx, z_asB, z_len, z_lenT, z_addI, z_mulR, z_mulL, z_sub, z_lt, z_le, z_gt, z_ge, z_mod, z_div, z_max2, z_min2, setSl, updP, modP, valAt, getP, setP, setV, pIdx, pRoot, z_ixN, z_setI, List.length_map, List.length_cons, List.length_nil, if_true, if_false, Bool.false_eq_true, Bool.not_true, Bool.not_false, decide_true, decide_false, sUnp, ast_t, setAll, sPar, sPar3, stp_l, stp_t, g1_l, g1_t, s1_l, s1_t, Nat.reduceBEq, asq_t, asq_l, sFor, iE, iBor, iLock, unlk, id_eq, z_lst0, imm, immL, sClr, m_nx, m_ret, m_exc, m_brk, m_ct, s_exc, s_brk, s_ct, c_nil, c_cons, clr1, e2v, e2p, sFldD, pFld, fP, eMethP, eMethR, List.contains_nil, List.contains_cons, Bool.or_false, fnR, mkc, okAr, okLe, arN, arL, bk, valO, qN, qV, qI, qL, gV, gI, gL, rP, eCall, ofP, eMut, tyok_l, tyok_dk, tyok_dt, ofM, eMake, mkR, pI, eMv, List.append_nil, r_thnx, eDisp, pCall, pMeth, lnd, List.length_append, List.length_replicate, List.replicate, Bool.and_true, Bool.true_and, Bool.and_self, beq_self_eq_true, List.all_nil, List.all_cons, ite_seq, ite_map, ite_bind, ite_thn, isnum_p, h1, h2]
theorem nstream_ev {x : Int} (h1 : 0 ≤ x) (h2 : x ≤ 3) : F_need_stream [.bor (.int x)] = .nx [.bor (.int x)] := by
  have h3 : x ≤ 4 - 1 := by omega
  unfold F_need_stream
  simp only [nl1, nl2, nl3, nl4, nc2, nc3, nc4, ix20, ix21, ix30, ix31, ix32, eq_self, isi_ii, isi_ib, isi_is, isi_itl, isi_ntl, isi_tt, isN_n, isN_i, tup2, z_eqI, z_neI, si0, si1, si2, tn0, tn1, tn2, tn3, List.nil_append, List.cons_append, sSeq, sSet, sIf, sRet, sItem, sDrop, sNil, eN, eI, tP, p2, p1, fV, fC, psC, psN, eaC, eaN, e1, e2, pBl, pAnd, pOr, pNot, pIf, eIf, on1_, on2_, List.getElem?_cons_zero, List.getElem?_cons_succ, List.set_cons_zero, List.set_cons_succ, Option.bind_some, Option.map_some, Sl.val, Sl.isInn, z_ixL, z_ixT, at0, at1, at2, at3, r_of, r_bind, r_thn, s_nx, s_ret, z_nx, z_asB, z_len, z_lenT, z_addI, z_mulR, z_mulL, z_sub, z_lt, z_le, z_gt, z_ge, z_mod, z_div, z_max2, z_min2, setSl, updP, modP, valAt, getP, setP, setV, pIdx, pRoot, z_ixN, z_setI, List.length_map, List.length_cons, List.length_nil, if_true, if_false, Bool.false_eq_true, Bool.not_true, Bool.not_false, decide_true, decide_false, sUnp, ast_t, setAll, sPar, sPar3, stp_l, stp_t, g1_l, g1_t, s1_l, s1_t, Nat.reduceBEq, asq_t, asq_l, sFor, iE, iBor, iLock, unlk, id_eq, z_lst0, imm, immL, sClr, m_nx, m_ret, m_exc, m_brk, m_ct, s_exc, s_brk, s_ct, c_nil, c_cons, clr1, e2v, e2p, sFldD, pFld, fP, eMethP, eMethR, List.contains_nil, List.contains_cons, Bool.or_false, fnR, mkc, okAr, okLe, arN, arL, bk, valO, qN, qV, qI, qL, gV, gI, gL, rP, eCall, ofP, eMut, tyok_l, tyok_dk, tyok_dt, ofM, eMake, mkR, pI, eMv, List.append_nil, r_thnx, eDisp, pCall, pMeth, lnd, List.length_append, List.length_replicate, List.replicate, Bool.and_true, Bool.true_and, Bool.and_self, beq_self_eq_true, List.all_nil, List.all_cons, ite_seq, ite_map, ite_bind, ite_thn, isnum_p, h1, h3]
def okN (x : Int) : Bool := decide (0 ≤ x) && decide (x ≤ 255)
theorem nums_ev (t : List Int) (lo hi : Int) (hl : t.length ≤ 1000000) : F_are_numbers [.bor (tD t), .bor (.int lo), .bor (.int hi), .no] = .ret (.bl (decide (lo ≤ (t.length : Int)) && decide ((t.length : Int) ≤ hi) && t.all okN)) [.bor (tD t), .bor (.int lo), .bor (.int hi), .no] := by
  have c : C_are_numbers_2 [.bor (tD t), .bor (.int lo), .bor (.int hi), .no] = some (.lst ((t.filter fun x => !okN x).map D.int)) := by
    unfold C_are_numbers_2
    refine pcmp_run D.int (fun x => !okN x) D.int t rfl (z_imm t) hl rfl fun x _ => ⟨_, rfl, ?_, fun _ => ⟨rfl, rfl⟩⟩
    unfold T_are_numbers_0
    simp only [nl1, nl2, nl3, nl4, nc2, nc3, nc4, ix20, ix21, ix30, ix31, ix32, eq_self, isi_ii, isi_ib, isi_is, isi_itl, isi_ntl, isi_tt, isN_n, isN_i, tup2, z_eqI, z_neI, si0, si1, si2, tn0, tn1, tn2, tn3, List.nil_append, List.cons_append, sSeq, sSet, sIf, sRet, sItem, sDrop, sNil, eN, eI, tP, p2, p1, fV, fC, psC, psN, eaC, eaN, e1, e2, pBl, pAnd, pOr, pNot, pIf, eIf, on1_, on2_, List.getElem?_cons_zero, List.getElem?_cons_succ, List.set_cons_zero, List.set_cons_succ, Option.bind_some, Option.map_some, Sl.val, Sl.isInn, z_ixL, z_ixT, at0, at1, at2, at3, r_of, r_bind, r_thn, s_nx, s_ret, z_nx, z_asB, z_len, z_lenT, z_addI, z_mulR, z_mulL, z_sub, z_lt, z_le, z_gt, z_ge, z_mod, z_div, z_max2, z_min2, setSl, updP, modP, valAt, getP, setP, setV, pIdx, pRoot, z_ixN, z_setI, List.length_map, List.length_cons, List.length_nil, if_true, if_false, Bool.false_eq_true, Bool.not_true, Bool.not_false, decide_true, decide_false, sUnp, ast_t, setAll, sPar, sPar3, stp_l, stp_t, g1_l, g1_t, s1_l, s1_t, Nat.reduceBEq, asq_t, asq_l, sFor, iE, iBor, iLock, unlk, id_eq, z_lst0, imm, immL, sClr, m_nx, m_ret, m_exc, m_brk, m_ct, s_exc, s_brk, s_ct, c_nil, c_cons, clr1, e2v, e2p, sFldD, pFld, fP, eMethP, eMethR, List.contains_nil, List.contains_cons, Bool.or_false, fnR, mkc, okAr, okLe, arN, arL, bk, valO, qN, qV, qI, qL, gV, gI, gL, rP, eCall, ofP, eMut, tyok_l, tyok_dk, tyok_dt, ofM, eMake, mkR, pI, eMv, List.append_nil, r_thnx, eDisp, pCall, pMeth, lnd, List.length_append, List.length_replicate, List.replicate, Bool.and_true, Bool.true_and, Bool.and_self, beq_self_eq_true, List.all_nil, List.all_cons, ite_seq, ite_map, ite_bind, ite_thn, isnum_p, okN]
  have c1 := z_eNil (ds := (t.filter fun x => !okN x).map D.int) (shp_ints _ _)
  rw [z_empty] at c1
  have c2 : (t.filter fun x => !okN x).isEmpty = t.all okN := by
    rw [Bool.eq_iff_iff, List.isEmpty_iff, List.filter_eq_nil_iff, List.all_eq_true]
    simp
  have l : ∀ t : List Int, fLen (tD t) = some (.int t.length) := fun t => by show some (D.int ((t.map D.int).length : Nat)) = _; rw [List.length_map]
  have ty : fIsi (tD t) (.op (.ty "tuple")) = some (.bl true) := rfl
  unfold F_are_numbers
  by_cases h1 : lo ≤ (t.length : Int)
  · by_cases h2 : (t.length : Int) ≤ hi
    · simp only [nl1, nl2, nl3, nl4, nc2, nc3, nc4, ix20, ix21, ix30, ix31, ix32, eq_self, isi_ii, isi_ib, isi_is, isi_itl, isi_ntl, isi_tt, isN_n, isN_i, tup2, z_eqI, z_neI, si0, si1, si2, tn0, tn1, tn2, tn3, List.nil_append, List.cons_append, sSeq, sSet, sIf, sRet, sItem, sDrop, sNil, eN, eI, tP, p2, p1, fV, fC, psC, psN, eaC, eaN, e1, e2, pBl, pAnd, pOr, pNot, pIf, eIf, on1_, on2_, List.getElem?_cons_zero, List.getElem?_cons_succ, List.set_cons_zero, List.set_cons_succ, Option.bind_some, Option.map_some, Sl.val, Sl.isInn, z_ixL, z_ixT, at0, at1, at2, at3, r_of, r_bind, r_thn, s_nx, s_ret, z_nx, z_asB, z_len, z_lenT, z_addI, z_mulR, z_mulL, z_sub, z_lt, z_le, z_gt, z_ge, z_mod, z_div, z_max2, z_min2, setSl, updP, modP, valAt, getP, setP, setV, pIdx, pRoot, z_ixN, z_setI, List.length_map, List.length_cons, List.length_nil, if_true, if_false, Bool.false_eq_true, Bool.not_true, Bool.not_false, decide_true, decide_false, sUnp, ast_t, setAll, sPar, sPar3, stp_l, stp_t, g1_l, g1_t, s1_l, s1_t, Nat.reduceBEq, asq_t, asq_l, sFor, iE, iBor, iLock, unlk, id_eq, z_lst0, imm, immL, sClr, m_nx, m_ret, m_exc, m_brk, m_ct, s_exc, s_brk, s_ct, c_nil, c_cons, clr1, e2v, e2p, sFldD, pFld, fP, eMethP, eMethR, List.contains_nil, List.contains_cons, Bool.or_false, fnR, mkc, okAr, okLe, arN, arL, bk, valO, qN, qV, qI, qL, gV, gI, gL, rP, eCall, ofP, eMut, tyok_l, tyok_dk, tyok_dt, ofM, eMake, mkR, pI, eMv, List.append_nil, r_thnx, eDisp, pCall, pMeth, lnd, List.length_append, List.length_replicate, List.replicate, Bool.and_true, Bool.true_and, Bool.and_self, beq_self_eq_true, List.all_nil, List.all_cons, ite_seq, ite_map, ite_bind, ite_thn, pChain, ty, l, h1, h2, c, c1, c2]
    · simp only [nl1, nl2, nl3, nl4, nc2, nc3, nc4, ix20, ix21, ix30, ix31, ix32, eq_self, isi_ii, isi_ib, isi_is, isi_itl, isi_ntl, isi_tt, isN_n, isN_i, tup2, z_eqI, z_neI, si0, si1, si2, tn0, tn1, tn2, tn3, List.nil_append, List.cons_append, sSeq, sSet, sIf, sRet, sItem, sDrop, sNil, eN, eI, tP, p2, p1, fV, fC, psC, psN, eaC, eaN, e1, e2, pBl, pAnd, pOr, pNot, pIf, eIf, on1_, on2_, List.getElem?_cons_zero, List.getElem?_cons_succ, List.set_cons_zero, List.set_cons_succ, Option.bind_some, Option.map_some, Sl.val, Sl.isInn, z_ixL, z_ixT, at0, at1, at2, at3, r_of, r_bind, r_thn, s_nx, s_ret, z_nx, z_asB, z_len, z_lenT, z_addI, z_mulR, z_mulL, z_sub, z_lt, z_le, z_gt, z_ge, z_mod, z_div, z_max2, z_min2, setSl, updP, modP, valAt, getP, setP, setV, pIdx, pRoot, z_ixN, z_setI, List.length_map, List.length_cons, List.length_nil, if_true, if_false, Bool.false_eq_true, Bool.not_true, Bool.not_false, decide_true, decide_false, sUnp, ast_t, setAll, sPar, sPar3, stp_l, stp_t, g1_l, g1_t, s1_l, s1_t, Nat.reduceBEq, asq_t, asq_l, sFor, iE, iBor, iLock, unlk, id_eq, z_lst0, imm, immL, sClr, m_nx, m_ret, m_exc, m_brk, m_ct, s_exc, s_brk, s_ct, c_nil, c_cons, clr1, e2v, e2p, sFldD, pFld, fP, eMethP, eMethR, List.contains_nil, List.contains_cons, Bool.or_false, fnR, mkc, okAr, okLe, arN, arL, bk, valO, qN, qV, qI, qL, gV, gI, gL, rP, eCall, ofP, eMut, tyok_l, tyok_dk, tyok_dt, ofM, eMake, mkR, pI, eMv, List.append_nil, r_thnx, eDisp, pCall, pMeth, lnd, List.length_append, List.length_replicate, List.replicate, Bool.and_true, Bool.true_and, Bool.and_self, beq_self_eq_true, List.all_nil, List.all_cons, ite_seq, ite_map, ite_bind, ite_thn, pChain, ty, l, h1, h2, Bool.false_and, Bool.and_false]
  · simp only [nl1, nl2, nl3, nl4, nc2, nc3, nc4, ix20, ix21, ix30, ix31, ix32, eq_self, isi_ii, isi_ib, isi_is, isi_itl, isi_ntl, isi_tt, isN_n, isN_i, tup2, z_eqI, z_neI, si0, si1, si2, tn0, tn1, tn2, tn3, List.nil_append, List.cons_append, sSeq, sSet, sIf, sRet, sItem, sDrop, sNil, eN, eI, tP, p2, p1, fV, fC, psC, psN, eaC, eaN, e1, e2, pBl, pAnd, pOr, pNot, pIf, eIf, on1_, on2_, List.getElem?_cons_zero, List.getElem?_cons_succ, List.set_cons_zero, List.set_cons_succ, Option.bind_some, Option.map_some, Sl.val, Sl.isInn, z_ixL, z_ixT, at0, at1, at2, at3, r_of, r_bind, r_thn, s_nx, s_ret, z_nx, z_asB, z_len, z_lenT, z_addI, z_mulR, z_mulL, z_sub, z_lt, z_le, z_gt, z_ge, z_mod, z_div, z_max2, z_min2, setSl, updP, modP, valAt, getP, setP, setV, pIdx, pRoot, z_ixN, z_setI, List.length_map, List.length_cons, List.length_nil, if_true, if_false, Bool.false_eq_true, Bool.not_true, Bool.not_false, decide_true, decide_false, sUnp, ast_t, setAll, sPar, sPar3, stp_l, stp_t, g1_l, g1_t, s1_l, s1_t, Nat.reduceBEq, asq_t, asq_l, sFor, iE, iBor, iLock, unlk, id_eq, z_lst0, imm, immL, sClr, m_nx, m_ret, m_exc, m_brk, m_ct, s_exc, s_brk, s_ct, c_nil, c_cons, clr1, e2v, e2p, sFldD, pFld, fP, eMethP, eMethR, List.contains_nil, List.contains_cons, Bool.or_false, fnR, mkc, okAr, okLe, arN, arL, bk, valO, qN, qV, qI, qL, gV, gI, gL, rP, eCall, ofP, eMut, tyok_l, tyok_dk, tyok_dt, ofM, eMake, mkR, pI, eMv, List.append_nil, r_thnx, eDisp, pCall, pMeth, lnd, List.length_append, List.length_replicate, List.replicate, Bool.and_true, Bool.true_and, Bool.and_self, beq_self_eq_true, List.all_nil, List.all_cons, ite_seq, ite_map, ite_bind, ite_thn, pChain, ty, l, h1, Bool.false_and]
theorem all_ok {t : List Int} (h : ∀ x ∈ t, 0 ≤ x ∧ x ≤ 255) : t.all okN = true := by
  rw [List.all_eq_true]; intro x hx; obtain ⟨a, b⟩ := h x hx; simp [okN, a, b]
theorem ndata_ev {t : List Int} (h : OkT t) : F_need_data [.bor (tD t)] = .nx [.bor (tD t)] := by
  have c := fnR3 (s := []) (m := 1) (nums_ev t 1 20 (by have := h.l2; omega))
  have h1 : (1 : Int) ≤ (t.length : Int) := by have := h.l1; omega
  have h2 : (t.length : Int) ≤ 20 := by have := h.l2; omega
  rw [all_ok h.b] at c
  unfold F_need_data
  simp only [nl1, nl2, nl3, nl4, nc2, nc3, nc4, ix20, ix21, ix30, ix31, ix32, eq_self, isi_ii, isi_ib, isi_is, isi_itl, isi_ntl, isi_tt, isN_n, isN_i, tup2, z_eqI, z_neI, si0, si1, si2, tn0, tn1, tn2, tn3, List.nil_append, List.cons_append, sSeq, sSet, sIf, sRet, sItem, sDrop, sNil, eN, eI, tP, p2, p1, fV, fC, psC, psN, eaC, eaN, e1, e2, pBl, pAnd, pOr, pNot, pIf, eIf, on1_, on2_, List.getElem?_cons_zero, List.getElem?_cons_succ, List.set_cons_zero, List.set_cons_succ, Option.bind_some, Option.map_some, Sl.val, Sl.isInn, z_ixL, z_ixT, at0, at1, at2, at3, r_of, r_bind, r_thn, s_nx, s_ret, z_nx, z_asB, z_len, z_lenT, z_addI, z_mulR, z_mulL, z_sub, z_lt, z_le, z_gt, z_ge, z_mod, z_div, z_max2, z_min2, setSl, updP, modP, valAt, getP, setP, setV, pIdx, pRoot, z_ixN, z_setI, List.length_map, List.length_cons, List.length_nil, if_true, if_false, Bool.false_eq_true, Bool.not_true, Bool.not_false, decide_true, decide_false, sUnp, ast_t, setAll, sPar, sPar3, stp_l, stp_t, g1_l, g1_t, s1_l, s1_t, Nat.reduceBEq, asq_t, asq_l, sFor, iE, iBor, iLock, unlk, id_eq, z_lst0, imm, immL, sClr, m_nx, m_ret, m_exc, m_brk, m_ct, s_exc, s_brk, s_ct, c_nil, c_cons, clr1, e2v, e2p, sFldD, pFld, fP, eMethP, eMethR, List.contains_nil, List.contains_cons, Bool.or_false, fnR, mkc, okAr, okLe, arN, arL, bk, valO, qN, qV, qI, qL, gV, gI, gL, rP, eCall, ofP, eMut, tyok_l, tyok_dk, tyok_dt, ofM, eMake, mkR, pI, eMv, List.append_nil, r_thnx, eDisp, pCall, pMeth, lnd, List.length_append, List.length_replicate, List.replicate, Bool.and_true, Bool.true_and, Bool.and_self, beq_self_eq_true, List.all_nil, List.all_cons, ite_seq, ite_map, ite_bind, ite_thn, c, h1, h2]
/-! ### frames_of -/
def layAll (l : Lay) (fs : List Fm) (ts : List (List Int)) : Lay × List Fm := ts.foldl (fun p t => ((p.1.lay t).1, p.2 ++ (p.1.lay t).2)) (l, fs)
def Lay.new (st sz : Int) : Lay := ⟨st, sz, 0, 0, [], none⟩
def framesOf (st sz : Int) (ts : List (List Int)) : List Fm := (layAll (Lay.new st sz) [] ts).2 ++ (layAll (Lay.new st sz) [] ts).1.fill.2
theorem push_lt {l : Lay} {x : Int} (h : (l.body.length : Int) < l.sz) : (((l.push x).1.body.length : Int) < (l.push x).1.sz) ∧ (l.push x).1.sz = l.sz ∧ (l.push x).1.st = l.st ∧ (l.push x).1.seq = l.seq := by
  unfold Lay.push Lay.next
  split
  · rename_i c
    refine ⟨?_, rfl, rfl, rfl⟩
    show (0 : Int) < l.sz
    omega
  · rename_i c
    refine ⟨?_, rfl, rfl, rfl⟩
    have c' : ¬ ((l.body ++ [x]).length : Int) = l.sz := c
    show ((l.body ++ [x]).length : Int) < l.sz
    rw [List.length_append, List.length_singleton] at c' ⊢
    omega
theorem row_lt : ∀ (xs : List Int) {l : Lay}, (l.body.length : Int) < l.sz → (((l.row xs).1.body.length : Int) < (l.row xs).1.sz) ∧ (l.row xs).1.sz = l.sz ∧ (l.row xs).1.st = l.st ∧ (l.row xs).1.seq = l.seq ∧ (l.row xs).2.length ≤ xs.length
  | [], l, h => ⟨h, rfl, rfl, rfl, Nat.le_refl _⟩
  | x :: xs, l, h => by
    obtain ⟨q1, q2, q3, q4⟩ := push_lt (x := x) h
    obtain ⟨r1, r2, r3, r4, r5⟩ := row_lt xs q1
    have q5 := (push_len l x).2
    refine ⟨r1, r2.trans q2, r3.trans q3, r4.trans q4, ?_⟩
    rw [Lay.row, List.length_append, List.length_cons]; omega
theorem start_eq (l : Lay) : l.start.body = l.body ∧ l.start.sz = l.sz ∧ l.start.st = l.st ∧ l.start.seq = l.seq ∧ l.start.ct = l.ct := by
  unfold Lay.start; split <;> exact ⟨rfl, rfl, rfl, rfl, rfl⟩
theorem lay_lt {l : Lay} (t : List Int) (h : (l.body.length : Int) < l.sz) : (((l.lay t).1.body.length : Int) < (l.lay t).1.sz) ∧ (l.lay t).1.sz = l.sz ∧ (l.lay t).1.st = l.st ∧ (l.lay t).1.seq = l.seq + 1 ∧ (l.lay t).2.length ≤ t.length + 3 := by
  obtain ⟨a1, a2, a3, a4, _⟩ := start_eq l
  obtain ⟨r1, r2, r3, r4, r5⟩ := row_lt (l.cells t) (l := l.start) (by rw [a1, a2]; exact h)
  refine ⟨r1, r2.trans a2, r3.trans a3, ?_, ?_⟩
  · show (l.start.row (l.cells t)).1.seq + 1 = _
    rw [r4, a4]
  · refine Nat.le_trans r5 ?_
    simp [Lay.cells]
theorem layAll_cons (l : Lay) (fs : List Fm) (t : List Int) (ts : List (List Int)) : layAll l fs (t :: ts) = layAll (l.lay t).1 (fs ++ (l.lay t).2) ts := rfl
theorem layAll_lt : ∀ (ts : List (List Int)) {l : Lay} {fs : List Fm}, (l.body.length : Int) < l.sz → (((layAll l fs ts).1.body.length : Int) < (layAll l fs ts).1.sz) ∧ (layAll l fs ts).1.sz = l.sz ∧ (layAll l fs ts).1.st = l.st ∧ (layAll l fs ts).1.seq = l.seq + ts.length
  | [], l, fs, h => ⟨h, rfl, rfl, by simp [layAll]⟩
  | t :: ts, l, fs, h => by
    obtain ⟨q1, q2, q3, q4, _⟩ := lay_lt t h
    obtain ⟨r1, r2, r3, r4⟩ := layAll_lt ts (l := (l.lay t).1) (fs := fs ++ (l.lay t).2) q1
    rw [layAll_cons]
    refine ⟨r1, r2.trans q2, r3.trans q3, ?_⟩
    rw [r4, q4, List.length_cons]; omega
theorem layAll_len : ∀ (ts : List (List Int)) {l : Lay} {fs : List Fm}, (l.body.length : Int) < l.sz → (∀ t ∈ ts, OkT t) → (layAll l fs ts).2.length ≤ fs.length + 23 * ts.length
  | [], l, fs, _, _ => Nat.le_refl _
  | t :: ts, l, fs, h, hk => by
    obtain ⟨q1, q2, q3, q4, q5⟩ := lay_lt t h
    have r := layAll_len ts (l := (l.lay t).1) (fs := fs ++ (l.lay t).2) q1 fun x hx => hk x (by simp [hx])
    have := (hk t (by simp)).l2
    rw [List.length_append] at r
    rw [layAll_cons, List.length_cons]; omega
theorem fill_len (l : Lay) : l.fill.2.length ≤ 1 := by unfold Lay.fill; split <;> simp
theorem framesOf_len {st sz : Int} {ts : List (List Int)} (h : 0 < sz) (hk : ∀ t ∈ ts, OkT t) : (framesOf st sz ts).length ≤ 23 * ts.length + 1 := by
  have r := layAll_len ts (l := Lay.new st sz) (fs := []) (by show (0 : Int) < sz; exact h) hk
  have f := fill_len (layAll (Lay.new st sz) [] ts).1
  unfold framesOf
  rw [List.length_append]
  simp at r
  omega
theorem imm_Fs (fs : List Fm) : immL (fs.map Fm.d) = true := imm_mapL imm_F fs
theorem frames_of_ev {st sz : Int} (ts : List (List Int)) (h1 : 0 ≤ st ∧ st ≤ 3) (h2 : 8 ≤ sz ∧ sz ≤ 24) (h3 : ts.length ≤ 1000) (h4 : ∀ t ∈ ts, OkT t) :
    F_frames_of [.bor (.int st), .bor (.lst (ts.map tD)), .bor (.int sz), .no, .no, .no] = .ret (.lst ((framesOf st sz ts).map Fm.d)) [.bor (.int st), .bor (.lst (ts.map tD)), .bor (.int sz), .no, .no, .no] := by
  have n1 := nstream_ev h1.1 h1.2
  have n2 := nsize_ev h2.1 h2.2
  have s1 : S_frames_of_1 [.bor (.int st), .bor (.lst (ts.map tD)), .bor (.int sz), .no, .no, .no] = .nx [.bor (.int st), .bor (.lst (ts.map tD)), .bor (.int sz), .no, .no, .no] := by
    have f1 := for_same (st := lendSl 3) (body := L_frames_of_0) (s := [.bor (.int st), .bor (.lst (ts.map tD)), .bor (.int sz), .no, .no, .no]) (ds := ts.map tD) fun d hd => by
      obtain ⟨t, ht, rfl⟩ := List.mem_map.mp hd
      have n3 := ndata_ev (h4 t ht)
      refine ⟨[.bor (.int st), .bor (.lst (ts.map tD)), .bor (.int sz), .own (tD t), .no, .no], by simp [lendSl, Sl.isInn, tD, imm, z_imm], ?_⟩
      unfold L_frames_of_0
      simp only [nl1, nl2, nl3, nl4, nc2, nc3, nc4, ix20, ix21, ix30, ix31, ix32, eq_self, isi_ii, isi_ib, isi_is, isi_itl, isi_ntl, isi_tt, isN_n, isN_i, tup2, z_eqI, z_neI, si0, si1, si2, tn0, tn1, tn2, tn3, List.nil_append, List.cons_append, sSeq, sSet, sIf, sRet, sItem, sDrop, sNil, eN, eI, tP, p2, p1, fV, fC, psC, psN, eaC, eaN, e1, e2, pBl, pAnd, pOr, pNot, pIf, eIf, on1_, on2_, List.getElem?_cons_zero, List.getElem?_cons_succ, List.set_cons_zero, List.set_cons_succ, Option.bind_some, Option.map_some, Sl.val, Sl.isInn, z_ixL, z_ixT, at0, at1, at2, at3, r_of, r_bind, r_thn, s_nx, s_ret, z_nx, z_asB, z_len, z_lenT, z_addI, z_mulR, z_mulL, z_sub, z_lt, z_le, z_gt, z_ge, z_mod, z_div, z_max2, z_min2, setSl, updP, modP, valAt, getP, setP, setV, pIdx, pRoot, z_ixN, z_setI, List.length_map, List.length_cons, List.length_nil, if_true, if_false, Bool.false_eq_true, Bool.not_true, Bool.not_false, decide_true, decide_false, sUnp, ast_t, setAll, sPar, sPar3, stp_l, stp_t, g1_l, g1_t, s1_l, s1_t, Nat.reduceBEq, asq_t, asq_l, sFor, iE, iBor, iLock, unlk, id_eq, z_lst0, imm, immL, sClr, m_nx, m_ret, m_exc, m_brk, m_ct, s_exc, s_brk, s_ct, c_nil, c_cons, clr1, e2v, e2p, sFldD, pFld, fP, eMethP, eMethR, List.contains_nil, List.contains_cons, Bool.or_false, fnR, mkc, okAr, okLe, arN, arL, bk, valO, qN, qV, qI, qL, gV, gI, gL, rP, eCall, ofP, eMut, tyok_l, tyok_dk, tyok_dt, ofM, eMake, mkR, pI, eMv, List.append_nil, r_thnx, eDisp, pCall, pMeth, lnd, List.length_append, List.length_replicate, List.replicate, Bool.and_true, Bool.true_and, Bool.and_self, beq_self_eq_true, List.all_nil, List.all_cons, ite_seq, ite_map, ite_bind, ite_thn, n3]
    unfold S_frames_of_1
    simp only [nl1, nl2, nl3, nl4, nc2, nc3, nc4, ix20, ix21, ix30, ix31, ix32, eq_self, isi_ii, isi_ib, isi_is, isi_itl, isi_ntl, isi_tt, isN_n, isN_i, tup2, z_eqI, z_neI, si0, si1, si2, tn0, tn1, tn2, tn3, List.nil_append, List.cons_append, sSeq, sSet, sIf, sRet, sItem, sDrop, sNil, eN, eI, tP, p2, p1, fV, fC, psC, psN, eaC, eaN, e1, e2, pBl, pAnd, pOr, pNot, pIf, eIf, on1_, on2_, List.getElem?_cons_zero, List.getElem?_cons_succ, List.set_cons_zero, List.set_cons_succ, Option.bind_some, Option.map_some, Sl.val, Sl.isInn, z_ixL, z_ixT, at0, at1, at2, at3, r_of, r_bind, r_thn, s_nx, s_ret, z_nx, z_asB, z_len, z_lenT, z_addI, z_mulR, z_mulL, z_sub, z_lt, z_le, z_gt, z_ge, z_mod, z_div, z_max2, z_min2, setSl, updP, modP, valAt, getP, setP, setV, pIdx, pRoot, z_ixN, z_setI, List.length_map, List.length_cons, List.length_nil, if_true, if_false, Bool.false_eq_true, Bool.not_true, Bool.not_false, decide_true, decide_false, sUnp, ast_t, setAll, sPar, sPar3, stp_l, stp_t, g1_l, g1_t, s1_l, s1_t, Nat.reduceBEq, asq_t, asq_l, sFor, iE, iBor, iLock, unlk, id_eq, z_lst0, imm, immL, sClr, m_nx, m_ret, m_exc, m_brk, m_ct, s_exc, s_brk, s_ct, c_nil, c_cons, clr1, e2v, e2p, sFldD, pFld, fP, eMethP, eMethR, List.contains_nil, List.contains_cons, Bool.or_false, fnR, mkc, okAr, okLe, arN, arL, bk, valO, qN, qV, qI, qL, gV, gI, gL, rP, eCall, ofP, eMut, tyok_l, tyok_dk, tyok_dt, ofM, eMake, mkR, pI, eMv, List.append_nil, r_thnx, eDisp, pCall, pMeth, lnd, List.length_append, List.length_replicate, List.replicate, Bool.and_true, Bool.true_and, Bool.and_self, beq_self_eq_true, List.all_nil, List.all_cons, ite_seq, ite_map, ite_bind, ite_thn, f1]
  have s2 : S_frames_of_3 [.bor (.int st), .bor (.lst (ts.map tD)), .bor (.int sz), .no, .own (Lay.new st sz).d, .own (.lst [])] = .nx [.bor (.int st), .bor (.lst (ts.map tD)), .bor (.int sz), .no, .own (layAll (Lay.new st sz) [] ts).1.d, .own (.lst ((layAll (Lay.new st sz) [] ts).2.map Fm.d))] := by
    obtain ⟨f1, _⟩ := for_fold (f := tD) (S := fun p : Lay × List Fm => [.bor (.int st), .bor (.lst (ts.map tD)), .bor (.int sz), .no, .own p.1.d, .own (.lst (p.2.map Fm.d))]) (g := fun p t => ((p.1.lay t).1, p.2 ++ (p.1.lay t).2))
      (P := fun r p => (p.1.body.length : Int) < p.1.sz ∧ p.1.sz ≤ 24 ∧ p.2.length + 23 * r.length ≤ 100000 ∧ ∀ t ∈ r, OkT t) (st := lendSl 3) (body := L_frames_of_2)
      (fun t r p ⟨b1, b2, b3, b4⟩ => by
        have ht := b4 t (by simp)
        have := ht.l2
        obtain ⟨q1, q2, q3, q4, q5⟩ := lay_lt t b1
        rw [List.length_cons] at b3
        have e := lay_ev p.1 t (by omega) (by omega)
        have x := z_extM (f := Fm.d) (xs := p.2) (ys := (p.1.lay t).2) (imm_Fs _) (by omega)
        refine ⟨⟨[.bor (.int st), .bor (.lst (ts.map tD)), .bor (.int sz), .own (tD t), .own p.1.d, .own (.lst (p.2.map Fm.d))], by simp [lendSl, Sl.isInn, tD, imm, z_imm], ?_⟩, q1, by show (p.1.lay t).1.sz ≤ 24; omega, by show (p.2 ++ (p.1.lay t).2).length + _ ≤ _; rw [List.length_append]; omega, fun t' h' => b4 t' (by simp [h'])⟩
        unfold L_frames_of_2
        simp only [nl1, nl2, nl3, nl4, nc2, nc3, nc4, ix20, ix21, ix30, ix31, ix32, eq_self, isi_ii, isi_ib, isi_is, isi_itl, isi_ntl, isi_tt, isN_n, isN_i, tup2, z_eqI, z_neI, si0, si1, si2, tn0, tn1, tn2, tn3, List.nil_append, List.cons_append, sSeq, sSet, sIf, sRet, sItem, sDrop, sNil, eN, eI, tP, p2, p1, fV, fC, psC, psN, eaC, eaN, e1, e2, pBl, pAnd, pOr, pNot, pIf, eIf, on1_, on2_, List.getElem?_cons_zero, List.getElem?_cons_succ, List.set_cons_zero, List.set_cons_succ, Option.bind_some, Option.map_some, Sl.val, Sl.isInn, z_ixL, z_ixT, at0, at1, at2, at3, r_of, r_bind, r_thn, s_nx, s_ret, z_nx, z_asB, z_len, z_lenT, z_addI, z_mulR, z_mulL, z_sub, z_lt, z_le, z_gt, z_ge, z_mod, z_div, z_max2, z_min2, setSl, updP, modP, valAt, getP, setP, setV, pIdx, pRoot, z_ixN, z_setI, List.length_map, List.length_cons, List.length_nil, if_true, if_false, Bool.false_eq_true, Bool.not_true, Bool.not_false, decide_true, decide_false, sUnp, ast_t, setAll, sPar, sPar3, stp_l, stp_t, g1_l, g1_t, s1_l, s1_t, Nat.reduceBEq, asq_t, asq_l, sFor, iE, iBor, iLock, unlk, id_eq, z_lst0, imm, immL, sClr, m_nx, m_ret, m_exc, m_brk, m_ct, s_exc, s_brk, s_ct, c_nil, c_cons, clr1, e2v, e2p, sFldD, pFld, fP, eMethP, eMethR, List.contains_nil, List.contains_cons, Bool.or_false, fnR, mkc, okAr, okLe, arN, arL, bk, valO, qN, qV, qI, qL, gV, gI, gL, rP, eCall, ofP, eMut, tyok_l, tyok_dk, tyok_dt, ofM, eMake, mkR, pI, eMv, List.append_nil, r_thnx, eDisp, pCall, pMeth, lnd, List.length_append, List.length_replicate, List.replicate, Bool.and_true, Bool.true_and, Bool.and_self, beq_self_eq_true, List.all_nil, List.all_cons, ite_seq, ite_map, ite_bind, ite_thn, lay_st, lay_sz, lay_seq, lay_ct, lay_body, lay_fi, lay_pseq, lay_pct, lay_pnil, lay_pfi, lay_pfn, lay_sbody, lay_o1, lay_o2, lay_o3, add_sz, tD, e, x]) ts (Lay.new st sz, []) ⟨by show (0 : Int) < sz; omega, h2.2, by simp; omega, h4⟩
    unfold S_frames_of_3
    simp only [List.map_nil] at f1
    simp only [nl1, nl2, nl3, nl4, nc2, nc3, nc4, ix20, ix21, ix30, ix31, ix32, eq_self, isi_ii, isi_ib, isi_is, isi_itl, isi_ntl, isi_tt, isN_n, isN_i, tup2, z_eqI, z_neI, si0, si1, si2, tn0, tn1, tn2, tn3, List.nil_append, List.cons_append, sSeq, sSet, sIf, sRet, sItem, sDrop, sNil, eN, eI, tP, p2, p1, fV, fC, psC, psN, eaC, eaN, e1, e2, pBl, pAnd, pOr, pNot, pIf, eIf, on1_, on2_, List.getElem?_cons_zero, List.getElem?_cons_succ, List.set_cons_zero, List.set_cons_succ, Option.bind_some, Option.map_some, Sl.val, Sl.isInn, z_ixL, z_ixT, at0, at1, at2, at3, r_of, r_bind, r_thn, s_nx, s_ret, z_nx, z_asB, z_len, z_lenT, z_addI, z_mulR, z_mulL, z_sub, z_lt, z_le, z_gt, z_ge, z_mod, z_div, z_max2, z_min2, setSl, updP, modP, valAt, getP, setP, setV, pIdx, pRoot, z_ixN, z_setI, List.length_map, List.length_cons, List.length_nil, if_true, if_false, Bool.false_eq_true, Bool.not_true, Bool.not_false, decide_true, decide_false, sUnp, ast_t, setAll, sPar, sPar3, stp_l, stp_t, g1_l, g1_t, s1_l, s1_t, Nat.reduceBEq, asq_t, asq_l, sFor, iE, iBor, iLock, unlk, id_eq, z_lst0, imm, immL, sClr, m_nx, m_ret, m_exc, m_brk, m_ct, s_exc, s_brk, s_ct, c_nil, c_cons, clr1, e2v, e2p, sFldD, pFld, fP, eMethP, eMethR, List.contains_nil, List.contains_cons, Bool.or_false, fnR, mkc, okAr, okLe, arN, arL, bk, valO, qN, qV, qI, qL, gV, gI, gL, rP, eCall, ofP, eMut, tyok_l, tyok_dk, tyok_dt, ofM, eMake, mkR, pI, eMv, List.append_nil, r_thnx, eDisp, pCall, pMeth, lnd, List.length_append, List.length_replicate, List.replicate, Bool.and_true, Bool.true_and, Bool.and_self, beq_self_eq_true, List.all_nil, List.all_cons, ite_seq, ite_map, ite_bind, ite_thn, f1]
    rfl
  obtain ⟨r1, r2, _, _⟩ := layAll_lt ts (l := Lay.new st sz) (fs := []) (by show (0 : Int) < sz; omega)
  have r3 : (layAll (Lay.new st sz) [] ts).1.sz = sz := r2
  have s3 := fill_ev (layAll (Lay.new st sz) [] ts).1 (by omega) (by omega)
  have mk : F_Layer_init [.inn (.ob 0 [] []), .bor (.int st), .bor (.int sz)] = .nx [.inn (Lay.new st sz).d, .bor (.int st), .bor (.int sz)] := init_ev st sz
  have x : fAdd (.lst ((layAll (Lay.new st sz) [] ts).2.map Fm.d)) (.lst ((layAll (Lay.new st sz) [] ts).1.fill.2.map Fm.d)) = some (.lst ((framesOf st sz ts).map Fm.d)) := by
    have b1 := layAll_len ts (l := Lay.new st sz) (fs := []) (by show (0 : Int) < sz; omega) h4
    have b2 := fill_len (layAll (Lay.new st sz) [] ts).1
    simp at b1
    rw [z_addL (imm_Fs _) (imm_Fs _) (by rw [List.length_map, List.length_map]; omega), ← List.map_append]
    rfl
  unfold F_frames_of
  simp only [nl1, nl2, nl3, nl4, nc2, nc3, nc4, ix20, ix21, ix30, ix31, ix32, eq_self, isi_ii, isi_ib, isi_is, isi_itl, isi_ntl, isi_tt, isN_n, isN_i, tup2, z_eqI, z_neI, si0, si1, si2, tn0, tn1, tn2, tn3, List.nil_append, List.cons_append, sSeq, sSet, sIf, sRet, sItem, sDrop, sNil, eN, eI, tP, p2, p1, fV, fC, psC, psN, eaC, eaN, e1, e2, pBl, pAnd, pOr, pNot, pIf, eIf, on1_, on2_, List.getElem?_cons_zero, List.getElem?_cons_succ, List.set_cons_zero, List.set_cons_succ, Option.bind_some, Option.map_some, Sl.val, Sl.isInn, z_ixL, z_ixT, at0, at1, at2, at3, r_of, r_bind, r_thn, s_nx, s_ret, z_nx, z_asB, z_len, z_lenT, z_addI, z_mulR, z_mulL, z_sub, z_lt, z_le, z_gt, z_ge, z_mod, z_div, z_max2, z_min2, setSl, updP, modP, valAt, getP, setP, setV, pIdx, pRoot, z_ixN, z_setI, List.length_map, List.length_cons, List.length_nil, if_true, if_false, Bool.false_eq_true, Bool.not_true, Bool.not_false, decide_true, decide_false, sUnp, ast_t, setAll, sPar, sPar3, stp_l, stp_t, g1_l, g1_t, s1_l, s1_t, Nat.reduceBEq, asq_t, asq_l, sFor, iE, iBor, iLock, unlk, id_eq, z_lst0, imm, immL, sClr, m_nx, m_ret, m_exc, m_brk, m_ct, s_exc, s_brk, s_ct, c_nil, c_cons, clr1, e2v, e2p, sFldD, pFld, fP, eMethP, eMethR, List.contains_nil, List.contains_cons, Bool.or_false, fnR, mkc, okAr, okLe, arN, arL, bk, valO, qN, qV, qI, qL, gV, gI, gL, rP, eCall, ofP, eMut, tyok_l, tyok_dk, tyok_dt, ofM, eMake, mkR, pI, eMv, List.append_nil, r_thnx, eDisp, pCall, pMeth, lnd, List.length_append, List.length_replicate, List.replicate, Bool.and_true, Bool.true_and, Bool.and_self, beq_self_eq_true, List.all_nil, List.all_cons, ite_seq, ite_map, ite_bind, ite_thn, lay_st, lay_sz, lay_seq, lay_ct, lay_body, lay_fi, lay_pseq, lay_pct, lay_pnil, lay_pfi, lay_pfn, lay_sbody, lay_o1, lay_o2, lay_o3, add_sz, n1, n2, s1, s2, s3, mk, x]
end
end Dy.Pm

/-! The laws' own stream. -/
namespace Dy.Pm
open PySem L2 Dy
noncomputable section
structure Ls where
  sz : Int
  N : List Int
  S : List (Nat × List Int)
def eS (p : Nat × List Int) : D := .tup [.int p.1, tD p.2]
def stK : List Key := [.inr "size", .inr "numbers", .inr "starts"]
def Ls.d (s : Ls) : D := .dk stK [.int s.sz, .lst (s.N.map D.int), .lst (s.S.map eS)]
section
variable (s : Ls)
theorem st_sz : fIx s.d (.str "size") = some (.int s.sz) := rfl
theorem st_N : fIx s.d (.str "numbers") = some (.lst (s.N.map D.int)) := rfl
theorem st_S : fIx s.d (.str "starts") = some (.lst (s.S.map eS)) := rfl
theorem st_p (z : Str) : stpOf s.d (.str z) = some (.key (.inr z)) := rfl
theorem st_gN : get1 s.d (.key (.inr "numbers")) = some (.lst (s.N.map D.int)) := rfl
theorem st_gS : get1 s.d (.key (.inr "starts")) = some (.lst (s.S.map eS)) := rfl
theorem st_wN (N : List Int) : set1 s.d (.key (.inr "numbers")) (.lst (N.map D.int)) = Ls.d { s with N := N } := rfl
theorem st_wS (S : List (Nat × List Int)) : set1 s.d (.key (.inr "starts")) (.lst (S.map eS)) = Ls.d { s with S := S } := rfl
end
theorem imm_tD (t : List Int) : imm (tD t) = true := by simp [tD, imm, z_imm]
theorem imm_eS (p : Nat × List Int) : imm (eS p) = true := by simp [eS, imm, immL, imm_tD]
theorem shp_tD (n : Nat) (t : List Int) : shp (n + 1) (tD t) = true := by simp only [tD, shp_tup, shp_ints]
theorem len_tD (t : List Int) : fLen (tD t) = some (.int t.length) := by show some (D.int ((t.map D.int).length : Nat)) = _; rw [List.length_map]
theorem list_tD (t : List Int) : fList (tD t) = some (.lst (t.map D.int)) := by simp [fList, tD, z_imm]
def Ls.new (sz : Int) : Ls := ⟨sz, [], []⟩
theorem fresh_ev (sz : Int) : F__law_fresh [.bor (.int sz)] = .ret (Ls.new sz).d [.bor (.int sz)] := rfl
def cells (k : Nat) (t : List Int) : List Int := [(t.length : Int), (k : Int).fdiv 256, (k : Int).fmod 256] ++ t
def Ls.lay (s : Ls) (t : List Int) : Ls := { s with S := s.S ++ [(s.N.length, t)], N := s.N ++ cells s.S.length t }
theorem slay_ev (s : Ls) (t : List Int) (h1 : s.N.length ≤ 100000) (h2 : s.S.length ≤ 100000) (h3 : t.length ≤ 10000) : F__law_lay [.inn s.d, .bor (tD t), .no] = .ret (.int s.S.length) [.inn (s.lay t).d, .bor (tD t), .no] := by
  have a0 : fTup [.int (s.N.length : Int), tD t] = some (eS (s.N.length, t)) := by rw [z_fTup (by simp [immL, imm, imm_tD]) (by simp)]; rfl
  have a1 := z_appM (f := eS) (xs := s.S) (x := (s.N.length, t)) (by omega)
  have a2 := z_addL (a := [.int (t.length : Int), .int ((s.S.length : Int).fdiv 256), .int ((s.S.length : Int).fmod 256)]) (b := t.map D.int) rfl (z_imm t) (by simp; omega)
  have a3 : [D.int (t.length : Int), .int ((s.S.length : Int).fdiv 256), .int ((s.S.length : Int).fmod 256)] ++ t.map D.int = (cells s.S.length t).map D.int := by simp [cells]
  rw [a3] at a2
  have a4 := z_extM (f := D.int) (xs := s.N) (ys := cells s.S.length t) (z_imm _) (by simp [cells]; omega)
  unfold F__law_lay
  simp (disch := first | assumption | omega) only [nl1, nl2, nl3, nl4, nc2, nc3, nc4, ix20, ix21, ix30, ix31, ix32, eq_self, isi_ii, isi_ib, isi_is, isi_itl, isi_ntl, isi_tt, isN_n, isN_i, tup2, z_eqI, z_neI, si0, si1, si2, tn0, tn1, tn2, tn3, List.nil_append, List.cons_append, sSeq, sSet, sIf, sRet, sItem, sDrop, sNil, eN, eI, tP, p2, p1, fV, fC, psC, psN, eaC, eaN, e1, e2, pBl, pAnd, pOr, pNot, pIf, eIf, on1_, on2_, List.getElem?_cons_zero, List.getElem?_cons_succ, List.set_cons_zero, List.set_cons_succ, Option.bind_some, Option.map_some, Sl.val, Sl.isInn, z_ixL, z_ixT, at0, at1, at2, at3, r_of, r_bind, r_thn, s_nx, s_ret, z_nx, z_asB, z_len, z_lenT, z_addI, z_mulR, z_mulL, z_sub, z_lt, z_le, z_gt, z_ge, z_mod, z_div, z_max2, z_min2, setSl, updP, modP, valAt, getP, setP, setV, pIdx, pRoot, z_ixN, z_setI, List.length_map, List.length_cons, List.length_nil, if_true, if_false, Bool.false_eq_true, Bool.not_true, Bool.not_false, decide_true, decide_false, sUnp, ast_t, setAll, sPar, sPar3, stp_l, stp_t, g1_l, g1_t, s1_l, s1_t, Nat.reduceBEq, asq_t, asq_l, sFor, iE, iBor, iLock, unlk, id_eq, z_lst0, imm, immL, sClr, m_nx, m_ret, m_exc, m_brk, m_ct, s_exc, s_brk, s_ct, c_nil, c_cons, clr1, e2v, e2p, sFldD, pFld, fP, eMethP, eMethR, List.contains_nil, List.contains_cons, Bool.or_false, fnR, mkc, okAr, okLe, arN, arL, bk, valO, qN, qV, qI, qL, gV, gI, gL, rP, eCall, ofP, eMut, tyok_l, tyok_dk, tyok_dt, ofM, eMake, mkR, pI, eMv, List.append_nil, r_thnx, eDisp, pCall, pMeth, lnd, List.length_append, List.length_replicate, List.replicate, Bool.and_true, Bool.true_and, Bool.and_self, beq_self_eq_true, List.all_nil, List.all_cons, ite_seq, ite_map, ite_bind, ite_thn, st_sz, st_N, st_S, st_p, st_gN, st_gS, st_wN, st_wS, len_tD, list_tD, imm_tD, a0, a1, z_l3, a2, a4]
  rfl
def Ls.rest (s : Ls) : Int := (s.N.length : Int).fmod s.sz
def Ls.fill (s : Ls) : Ls := { s with N := s.N ++ (if 0 < s.rest then List.replicate (s.sz - s.rest).toNat 0 else []) }
theorem sfill_ev (s : Ls) (h1 : s.N.length ≤ 100000) (h2 : 0 < s.sz ∧ s.sz ≤ 10000) : F__law_fill [.inn s.d, .no] = .ret (.bl (decide (0 < s.rest))) [.inn s.fill.d, .no] := by
  have h0 : s.sz ≠ 0 := by omega
  have hr : 0 ≤ s.rest := fm0 _ h2.1
  have hr2 : s.rest < s.sz := fm1 _ h2.1
  have hr' : (s.N.length : Int).fmod s.sz = s.rest := rfl
  have a1 := z_repL (x := .int 0) (k := s.sz - s.rest) rfl (by omega) (by omega)
  rw [rep_map] at a1
  unfold F__law_fill
  by_cases c : 0 < s.rest
  · have a2 := z_extM (f := D.int) (xs := s.N) (ys := List.replicate (s.sz - s.rest).toNat 0) (z_imm _) (by rw [List.length_replicate]; omega)
    simp (disch := first | assumption | omega) only [nl1, nl2, nl3, nl4, nc2, nc3, nc4, ix20, ix21, ix30, ix31, ix32, eq_self, isi_ii, isi_ib, isi_is, isi_itl, isi_ntl, isi_tt, isN_n, isN_i, tup2, z_eqI, z_neI, si0, si1, si2, tn0, tn1, tn2, tn3, List.nil_append, List.cons_append, sSeq, sSet, sIf, sRet, sItem, sDrop, sNil, eN, eI, tP, p2, p1, fV, fC, psC, psN, eaC, eaN, e1, e2, pBl, pAnd, pOr, pNot, pIf, eIf, on1_, on2_, List.getElem?_cons_zero, List.getElem?_cons_succ, List.set_cons_zero, List.set_cons_succ, Option.bind_some, Option.map_some, Sl.val, Sl.isInn, z_ixL, z_ixT, at0, at1, at2, at3, r_of, r_bind, r_thn, s_nx, s_ret, z_nx, z_asB, z_len, z_lenT, z_addI, z_mulR, z_mulL, z_sub, z_lt, z_le, z_gt, z_ge, z_mod, z_div, z_max2, z_min2, setSl, updP, modP, valAt, getP, setP, setV, pIdx, pRoot, z_ixN, z_setI, List.length_map, List.length_cons, List.length_nil, if_true, if_false, Bool.false_eq_true, Bool.not_true, Bool.not_false, decide_true, decide_false, sUnp, ast_t, setAll, sPar, sPar3, stp_l, stp_t, g1_l, g1_t, s1_l, s1_t, Nat.reduceBEq, asq_t, asq_l, sFor, iE, iBor, iLock, unlk, id_eq, z_lst0, imm, immL, sClr, m_nx, m_ret, m_exc, m_brk, m_ct, s_exc, s_brk, s_ct, c_nil, c_cons, clr1, e2v, e2p, sFldD, pFld, fP, eMethP, eMethR, List.contains_nil, List.contains_cons, Bool.or_false, fnR, mkc, okAr, okLe, arN, arL, bk, valO, qN, qV, qI, qL, gV, gI, gL, rP, eCall, ofP, eMut, tyok_l, tyok_dk, tyok_dt, ofM, eMake, mkR, pI, eMv, List.append_nil, r_thnx, eDisp, pCall, pMeth, lnd, List.length_append, List.length_replicate, List.replicate, Bool.and_true, Bool.true_and, Bool.and_self, beq_self_eq_true, List.all_nil, List.all_cons, ite_seq, ite_map, ite_bind, ite_thn, st_sz, st_N, st_S, st_p, st_gN, st_gS, st_wN, st_wS, hr', c, z_l1, a1, a2, Ls.fill]
  · have a2 := z_extM (f := D.int) (xs := s.N) (ys := []) rfl (by simp; omega)
    simp only [List.map_nil] at a2
    simp (disch := first | assumption | omega) only [nl1, nl2, nl3, nl4, nc2, nc3, nc4, ix20, ix21, ix30, ix31, ix32, eq_self, isi_ii, isi_ib, isi_is, isi_itl, isi_ntl, isi_tt, isN_n, isN_i, tup2, z_eqI, z_neI, si0, si1, si2, tn0, tn1, tn2, tn3, List.nil_append, List.cons_append, sSeq, sSet, sIf, sRet, sItem, sDrop, sNil, eN, eI, tP, p2, p1, fV, fC, psC, psN, eaC, eaN, e1, e2, pBl, pAnd, pOr, pNot, pIf, eIf, on1_, on2_, List.getElem?_cons_zero, List.getElem?_cons_succ, List.set_cons_zero, List.set_cons_succ, Option.bind_some, Option.map_some, Sl.val, Sl.isInn, z_ixL, z_ixT, at0, at1, at2, at3, r_of, r_bind, r_thn, s_nx, s_ret, z_nx, z_asB, z_len, z_lenT, z_addI, z_mulR, z_mulL, z_sub, z_lt, z_le, z_gt, z_ge, z_mod, z_div, z_max2, z_min2, setSl, updP, modP, valAt, getP, setP, setV, pIdx, pRoot, z_ixN, z_setI, List.length_map, List.length_cons, List.length_nil, if_true, if_false, Bool.false_eq_true, Bool.not_true, Bool.not_false, decide_true, decide_false, sUnp, ast_t, setAll, sPar, sPar3, stp_l, stp_t, g1_l, g1_t, s1_l, s1_t, Nat.reduceBEq, asq_t, asq_l, sFor, iE, iBor, iLock, unlk, id_eq, z_lst0, imm, immL, sClr, m_nx, m_ret, m_exc, m_brk, m_ct, s_exc, s_brk, s_ct, c_nil, c_cons, clr1, e2v, e2p, sFldD, pFld, fP, eMethP, eMethR, List.contains_nil, List.contains_cons, Bool.or_false, fnR, mkc, okAr, okLe, arN, arL, bk, valO, qN, qV, qI, qL, gV, gI, gL, rP, eCall, ofP, eMut, tyok_l, tyok_dk, tyok_dt, ofM, eMake, mkR, pI, eMv, List.append_nil, r_thnx, eDisp, pCall, pMeth, lnd, List.length_append, List.length_replicate, List.replicate, Bool.and_true, Bool.true_and, Bool.and_self, beq_self_eq_true, List.all_nil, List.all_cons, ite_seq, ite_map, ite_bind, ite_thn, st_sz, st_N, st_S, st_p, st_gN, st_gS, st_wN, st_wS, hr', c, z_l1, a1, a2, Ls.fill]
theorem smany_ev (s : Ls) (h2 : 0 < s.sz ∧ s.sz ≤ 10000) : F__law_many [.bor s.d] = .ret (.int ((s.N.length : Int).fdiv s.sz)) [.bor s.d] := by
  have h0 : s.sz ≠ 0 := by omega
  have h3 : s.sz.natAbs < 1073741824 := by omega
  unfold F__law_many
  simp (disch := first | assumption | omega) only [nl1, nl2, nl3, nl4, nc2, nc3, nc4, ix20, ix21, ix30, ix31, ix32, eq_self, isi_ii, isi_ib, isi_is, isi_itl, isi_ntl, isi_tt, isN_n, isN_i, tup2, z_eqI, z_neI, si0, si1, si2, tn0, tn1, tn2, tn3, List.nil_append, List.cons_append, sSeq, sSet, sIf, sRet, sItem, sDrop, sNil, eN, eI, tP, p2, p1, fV, fC, psC, psN, eaC, eaN, e1, e2, pBl, pAnd, pOr, pNot, pIf, eIf, on1_, on2_, List.getElem?_cons_zero, List.getElem?_cons_succ, List.set_cons_zero, List.set_cons_succ, Option.bind_some, Option.map_some, Sl.val, Sl.isInn, z_ixL, z_ixT, at0, at1, at2, at3, r_of, r_bind, r_thn, s_nx, s_ret, z_nx, z_asB, z_len, z_lenT, z_addI, z_mulR, z_mulL, z_sub, z_lt, z_le, z_gt, z_ge, z_mod, z_div, z_max2, z_min2, setSl, updP, modP, valAt, getP, setP, setV, pIdx, pRoot, z_ixN, z_setI, List.length_map, List.length_cons, List.length_nil, if_true, if_false, Bool.false_eq_true, Bool.not_true, Bool.not_false, decide_true, decide_false, sUnp, ast_t, setAll, sPar, sPar3, stp_l, stp_t, g1_l, g1_t, s1_l, s1_t, Nat.reduceBEq, asq_t, asq_l, sFor, iE, iBor, iLock, unlk, id_eq, z_lst0, imm, immL, sClr, m_nx, m_ret, m_exc, m_brk, m_ct, s_exc, s_brk, s_ct, c_nil, c_cons, clr1, e2v, e2p, sFldD, pFld, fP, eMethP, eMethR, List.contains_nil, List.contains_cons, Bool.or_false, fnR, mkc, okAr, okLe, arN, arL, bk, valO, qN, qV, qI, qL, gV, gI, gL, rP, eCall, ofP, eMut, tyok_l, tyok_dk, tyok_dt, ofM, eMake, mkR, pI, eMv, List.append_nil, r_thnx, eDisp, pCall, pMeth, lnd, List.length_append, List.length_replicate, List.replicate, Bool.and_true, Bool.true_and, Bool.and_self, beq_self_eq_true, List.all_nil, List.all_cons, ite_seq, ite_map, ite_bind, ite_thn, st_sz, st_N]
def inR (lo hi : Int) (p : Nat × List Int) : Bool := decide (lo ≤ (p.1 : Int)) && decide ((p.1 : Int) < hi)
def Ls.some_ (s : Ls) (lo hi : Int) : List Int := (s.S.filter (inR lo hi)).map fun p => (p.1 : Int) - lo
def Ls.frame (s : Ls) (st ct : Int) : Fm := ⟨st, ct, if s.some_ (ct * s.sz) (ct * s.sz + s.sz) = [] then none else some (minI (s.some_ (ct * s.sz) (ct * s.sz + s.sz))), (s.N.take (ct * s.sz + s.sz).toNat).drop (ct * s.sz).toNat⟩
theorem sframe_ev (s : Ls) (st ct : Int) (h2 : 0 < s.sz ∧ s.sz ≤ 10000) (h3 : 0 ≤ ct ∧ ct ≤ 100000) (hS : s.S.length ≤ 100000) :
    F__law_frame [.bor s.d, .bor (.int st), .bor (.int ct), .no, .no, .no, .no, .no] = .ret (s.frame st ct).d [.bor s.d, .bor (.int st), .bor (.int ct), .no, .no, .no, .no, .no] := by
  have hm : -(2 ^ 64) < s.sz ∧ s.sz < 2 ^ 64 := by omega
  have hlo : 0 ≤ ct * s.sz := Int.mul_nonneg h3.1 (by omega)
  generalize hlo' : ct * s.sz = lo at hlo
  have c : C__law_frame_2 [.bor s.d, .bor (.int st), .bor (.int ct), .own (.int lo), .own (.int (lo + s.sz)), .no, .no, .no] = some (.lst ((s.some_ lo (lo + s.sz)).map D.int)) := by
    unfold C__law_frame_2 Ls.some_
    rw [List.map_map]
    have hc : clrC [6, 7] [.bor s.d, .bor (.int st), .bor (.int ct), .own (.int lo), .own (.int (lo + s.sz)), .no, .no, .no] = some [.bor s.d, .bor (.int st), .bor (.int ct), .own (.int lo), .own (.int (lo + s.sz)), .no, .no, .no] := rfl
    refine pcmp_run eS (inR lo (lo + s.sz)) _ s.S ?_ (imm_mapL imm_eS _) (by omega) hc fun w _ => ?_
    · simp only [iP, nl1, nl2, nl3, nl4, nc2, nc3, nc4, ix20, ix21, ix30, ix31, ix32, eq_self, isi_ii, isi_ib, isi_is, isi_itl, isi_ntl, isi_tt, isN_n, isN_i, tup2, z_eqI, z_neI, si0, si1, si2, tn0, tn1, tn2, tn3, List.nil_append, List.cons_append, sSeq, sSet, sIf, sRet, sItem, sDrop, sNil, eN, eI, tP, p2, p1, fV, fC, psC, psN, eaC, eaN, e1, e2, pBl, pAnd, pOr, pNot, pIf, eIf, on1_, on2_, List.getElem?_cons_zero, List.getElem?_cons_succ, List.set_cons_zero, List.set_cons_succ, Option.bind_some, Option.map_some, Sl.val, Sl.isInn, z_ixL, z_ixT, at0, at1, at2, at3, r_of, r_bind, r_thn, s_nx, s_ret, z_nx, z_asB, z_len, z_lenT, z_addI, z_mulR, z_mulL, z_sub, z_lt, z_le, z_gt, z_ge, z_mod, z_div, z_max2, z_min2, setSl, updP, modP, valAt, getP, setP, setV, pIdx, pRoot, z_ixN, z_setI, List.length_map, List.length_cons, List.length_nil, if_true, if_false, Bool.false_eq_true, Bool.not_true, Bool.not_false, decide_true, decide_false, sUnp, ast_t, setAll, sPar, sPar3, stp_l, stp_t, g1_l, g1_t, s1_l, s1_t, Nat.reduceBEq, asq_t, asq_l, sFor, iE, iBor, iLock, unlk, id_eq, z_lst0, imm, immL, sClr, m_nx, m_ret, m_exc, m_brk, m_ct, s_exc, s_brk, s_ct, c_nil, c_cons, clr1, e2v, e2p, sFldD, pFld, fP, eMethP, eMethR, List.contains_nil, List.contains_cons, Bool.or_false, fnR, mkc, okAr, okLe, arN, arL, bk, valO, qN, qV, qI, qL, gV, gI, gL, rP, eCall, ofP, eMut, tyok_l, tyok_dk, tyok_dt, ofM, eMake, mkR, pI, eMv, List.append_nil, r_thnx, eDisp, pCall, pMeth, lnd, List.length_append, List.length_replicate, List.replicate, Bool.and_true, Bool.true_and, Bool.and_self, beq_self_eq_true, List.all_nil, List.all_cons, ite_seq, ite_map, ite_bind, ite_thn, st_S]
    · refine ⟨[.bor s.d, .bor (.int st), .bor (.int ct), .own (.int lo), .own (.int (lo + s.sz)), .no, .own (.int w.1), .own (tD w.2)], ?_, ?_, fun _ => ⟨?_, rfl⟩⟩
      · simp [lendAll, eS, immL, imm, imm_tD, setAll, setSl, Sl.isInn]
      · unfold T__law_frame_0
        by_cases c1 : lo ≤ (w.1 : Int) <;> simp only [nl1, nl2, nl3, nl4, nc2, nc3, nc4, ix20, ix21, ix30, ix31, ix32, eq_self, isi_ii, isi_ib, isi_is, isi_itl, isi_ntl, isi_tt, isN_n, isN_i, tup2, z_eqI, z_neI, si0, si1, si2, tn0, tn1, tn2, tn3, List.nil_append, List.cons_append, sSeq, sSet, sIf, sRet, sItem, sDrop, sNil, eN, eI, tP, p2, p1, fV, fC, psC, psN, eaC, eaN, e1, e2, pBl, pAnd, pOr, pNot, pIf, eIf, on1_, on2_, List.getElem?_cons_zero, List.getElem?_cons_succ, List.set_cons_zero, List.set_cons_succ, Option.bind_some, Option.map_some, Sl.val, Sl.isInn, z_ixL, z_ixT, at0, at1, at2, at3, r_of, r_bind, r_thn, s_nx, s_ret, z_nx, z_asB, z_len, z_lenT, z_addI, z_mulR, z_mulL, z_sub, z_lt, z_le, z_gt, z_ge, z_mod, z_div, z_max2, z_min2, setSl, updP, modP, valAt, getP, setP, setV, pIdx, pRoot, z_ixN, z_setI, List.length_map, List.length_cons, List.length_nil, if_true, if_false, Bool.false_eq_true, Bool.not_true, Bool.not_false, decide_true, decide_false, sUnp, ast_t, setAll, sPar, sPar3, stp_l, stp_t, g1_l, g1_t, s1_l, s1_t, Nat.reduceBEq, asq_t, asq_l, sFor, iE, iBor, iLock, unlk, id_eq, z_lst0, imm, immL, sClr, m_nx, m_ret, m_exc, m_brk, m_ct, s_exc, s_brk, s_ct, c_nil, c_cons, clr1, e2v, e2p, sFldD, pFld, fP, eMethP, eMethR, List.contains_nil, List.contains_cons, Bool.or_false, fnR, mkc, okAr, okLe, arN, arL, bk, valO, qN, qV, qI, qL, gV, gI, gL, rP, eCall, ofP, eMut, tyok_l, tyok_dk, tyok_dt, ofM, eMake, mkR, pI, eMv, List.append_nil, r_thnx, eDisp, pCall, pMeth, lnd, List.length_append, List.length_replicate, List.replicate, Bool.and_true, Bool.true_and, Bool.and_self, beq_self_eq_true, List.all_nil, List.all_cons, ite_seq, ite_map, ite_bind, ite_thn, pChain, c1, inR, Bool.false_and, Bool.true_and]
      · unfold E__law_frame_1
        simp only [nl1, nl2, nl3, nl4, nc2, nc3, nc4, ix20, ix21, ix30, ix31, ix32, eq_self, isi_ii, isi_ib, isi_is, isi_itl, isi_ntl, isi_tt, isN_n, isN_i, tup2, z_eqI, z_neI, si0, si1, si2, tn0, tn1, tn2, tn3, List.nil_append, List.cons_append, sSeq, sSet, sIf, sRet, sItem, sDrop, sNil, eN, eI, tP, p2, p1, fV, fC, psC, psN, eaC, eaN, e1, e2, pBl, pAnd, pOr, pNot, pIf, eIf, on1_, on2_, List.getElem?_cons_zero, List.getElem?_cons_succ, List.set_cons_zero, List.set_cons_succ, Option.bind_some, Option.map_some, Sl.val, Sl.isInn, z_ixL, z_ixT, at0, at1, at2, at3, r_of, r_bind, r_thn, s_nx, s_ret, z_nx, z_asB, z_len, z_lenT, z_addI, z_mulR, z_mulL, z_sub, z_lt, z_le, z_gt, z_ge, z_mod, z_div, z_max2, z_min2, setSl, updP, modP, valAt, getP, setP, setV, pIdx, pRoot, z_ixN, z_setI, List.length_map, List.length_cons, List.length_nil, if_true, if_false, Bool.false_eq_true, Bool.not_true, Bool.not_false, decide_true, decide_false, sUnp, ast_t, setAll, sPar, sPar3, stp_l, stp_t, g1_l, g1_t, s1_l, s1_t, Nat.reduceBEq, asq_t, asq_l, sFor, iE, iBor, iLock, unlk, id_eq, z_lst0, imm, immL, sClr, m_nx, m_ret, m_exc, m_brk, m_ct, s_exc, s_brk, s_ct, c_nil, c_cons, clr1, e2v, e2p, sFldD, pFld, fP, eMethP, eMethR, List.contains_nil, List.contains_cons, Bool.or_false, fnR, mkc, okAr, okLe, arN, arL, bk, valO, qN, qV, qI, qL, gV, gI, gL, rP, eCall, ofP, eMut, tyok_l, tyok_dk, tyok_dt, ofM, eMake, mkR, pI, eMv, List.append_nil, r_thnx, eDisp, pCall, pMeth, lnd, List.length_append, List.length_replicate, List.replicate, Bool.and_true, Bool.true_and, Bool.and_self, beq_self_eq_true, List.all_nil, List.all_cons, ite_seq, ite_map, ite_bind, ite_thn]; rfl
  have c1 := z_nNil (ds := (s.some_ lo (lo + s.sz)).map D.int) (shp_ints _ _)
  rw [z_empty] at c1
  have c2 := z_slL (z_imm s.N) (some lo) (some (lo + s.sz))
  rw [cut_lh hlo (by omega), ← List.map_take, ← List.map_drop] at c2
  have c3 := z_tuple (z_imm ((s.N.take (lo + s.sz).toNat).drop lo.toNat))
  have ai : ∀ i : Int, asInt (.int i) = some i := fun _ => rfl
  unfold F__law_frame
  by_cases e : s.some_ lo (lo + s.sz) = []
  · have e' : (s.some_ lo (lo + s.sz)).isEmpty = true := by rw [e]; rfl
    have t : fTup [.int st, .int ct, .non, .tup (((s.N.take (lo + s.sz).toNat).drop lo.toNat).map D.int)] = some (s.frame st ct).d := by
      rw [z_fTup (by simp only [immL, imm, z_imm, Bool.and_self]) (by simp)]
      simp only [Ls.frame, Fm.d, hlo', e, if_true, eO]
    simp (disch := first | assumption | omega) only [nl1, nl2, nl3, nl4, nc2, nc3, nc4, ix20, ix21, ix30, ix31, ix32, eq_self, isi_ii, isi_ib, isi_is, isi_itl, isi_ntl, isi_tt, isN_n, isN_i, tup2, z_eqI, z_neI, si0, si1, si2, tn0, tn1, tn2, tn3, List.nil_append, List.cons_append, sSeq, sSet, sIf, sRet, sItem, sDrop, sNil, eN, eI, tP, p2, p1, fV, fC, psC, psN, eaC, eaN, e1, e2, pBl, pAnd, pOr, pNot, pIf, eIf, on1_, on2_, List.getElem?_cons_zero, List.getElem?_cons_succ, List.set_cons_zero, List.set_cons_succ, Option.bind_some, Option.map_some, Sl.val, Sl.isInn, z_ixL, z_ixT, at0, at1, at2, at3, r_of, r_bind, r_thn, s_nx, s_ret, z_nx, z_asB, z_len, z_lenT, z_addI, z_mulR, z_mulL, z_sub, z_lt, z_le, z_gt, z_ge, z_mod, z_div, z_max2, z_min2, setSl, updP, modP, valAt, getP, setP, setV, pIdx, pRoot, z_ixN, z_setI, List.length_map, List.length_cons, List.length_nil, if_true, if_false, Bool.false_eq_true, Bool.not_true, Bool.not_false, decide_true, decide_false, sUnp, ast_t, setAll, sPar, sPar3, stp_l, stp_t, g1_l, g1_t, s1_l, s1_t, Nat.reduceBEq, asq_t, asq_l, sFor, iE, iBor, iLock, unlk, id_eq, z_lst0, imm, immL, sClr, m_nx, m_ret, m_exc, m_brk, m_ct, s_exc, s_brk, s_ct, c_nil, c_cons, clr1, e2v, e2p, sFldD, pFld, fP, eMethP, eMethR, List.contains_nil, List.contains_cons, Bool.or_false, fnR, mkc, okAr, okLe, arN, arL, bk, valO, qN, qV, qI, qL, gV, gI, gL, rP, eCall, ofP, eMut, tyok_l, tyok_dk, tyok_dt, ofM, eMake, mkR, pI, eMv, List.append_nil, r_thnx, eDisp, pCall, pMeth, lnd, List.length_append, List.length_replicate, List.replicate, Bool.and_true, Bool.true_and, Bool.and_self, beq_self_eq_true, List.all_nil, List.all_cons, ite_seq, ite_map, ite_bind, ite_thn, st_sz, st_N, st_S, hlo', c, c1, e', pSl, oS, oN, ai, c2, c3, t]
  · have e' : (s.some_ lo (lo + s.sz)).isEmpty = false := by simpa using e
    have t : fTup [.int st, .int ct, .int (minI (s.some_ lo (lo + s.sz))), .tup (((s.N.take (lo + s.sz).toNat).drop lo.toNat).map D.int)] = some (s.frame st ct).d := by
      rw [z_fTup (by simp only [immL, imm, z_imm, Bool.and_self]) (by simp)]
      simp only [Ls.frame, Fm.d, hlo', e, if_false, eO]
    have m1 := z_min1 e
    simp (disch := first | assumption | omega) only [nl1, nl2, nl3, nl4, nc2, nc3, nc4, ix20, ix21, ix30, ix31, ix32, eq_self, isi_ii, isi_ib, isi_is, isi_itl, isi_ntl, isi_tt, isN_n, isN_i, tup2, z_eqI, z_neI, si0, si1, si2, tn0, tn1, tn2, tn3, List.nil_append, List.cons_append, sSeq, sSet, sIf, sRet, sItem, sDrop, sNil, eN, eI, tP, p2, p1, fV, fC, psC, psN, eaC, eaN, e1, e2, pBl, pAnd, pOr, pNot, pIf, eIf, on1_, on2_, List.getElem?_cons_zero, List.getElem?_cons_succ, List.set_cons_zero, List.set_cons_succ, Option.bind_some, Option.map_some, Sl.val, Sl.isInn, z_ixL, z_ixT, at0, at1, at2, at3, r_of, r_bind, r_thn, s_nx, s_ret, z_nx, z_asB, z_len, z_lenT, z_addI, z_mulR, z_mulL, z_sub, z_lt, z_le, z_gt, z_ge, z_mod, z_div, z_max2, z_min2, setSl, updP, modP, valAt, getP, setP, setV, pIdx, pRoot, z_ixN, z_setI, List.length_map, List.length_cons, List.length_nil, if_true, if_false, Bool.false_eq_true, Bool.not_true, Bool.not_false, decide_true, decide_false, sUnp, ast_t, setAll, sPar, sPar3, stp_l, stp_t, g1_l, g1_t, s1_l, s1_t, Nat.reduceBEq, asq_t, asq_l, sFor, iE, iBor, iLock, unlk, id_eq, z_lst0, imm, immL, sClr, m_nx, m_ret, m_exc, m_brk, m_ct, s_exc, s_brk, s_ct, c_nil, c_cons, clr1, e2v, e2p, sFldD, pFld, fP, eMethP, eMethR, List.contains_nil, List.contains_cons, Bool.or_false, fnR, mkc, okAr, okLe, arN, arL, bk, valO, qN, qV, qI, qL, gV, gI, gL, rP, eCall, ofP, eMut, tyok_l, tyok_dk, tyok_dt, ofM, eMake, mkR, pI, eMv, List.append_nil, r_thnx, eDisp, pCall, pMeth, lnd, List.length_append, List.length_replicate, List.replicate, Bool.and_true, Bool.true_and, Bool.and_self, beq_self_eq_true, List.all_nil, List.all_cons, ite_seq, ite_map, ite_bind, ite_thn, st_sz, st_N, st_S, hlo', c, c1, e', pSl, oS, oN, ai, c2, c3, m1, t]
end
end Dy.Pm

/-! What is laid: frames against one long row. -/
namespace Dy.Pm
open PySem L2 Dy
noncomputable section
def inFr (n c p : Nat) : Bool := decide (c * n ≤ p) && decide (p < (c + 1) * n)
def firstAt (n : Nat) (S : List Nat) (c : Nat) : Option Int := (S.find? (inFr n c)).map fun p : Nat => (p : Int) - (c * n : Nat)
def frAt (st : Int) (n : Nat) (N : List Int) (S : List Nat) (c : Nat) : Fm := ⟨st, c, firstAt n S c, (N.drop (c * n)).take n⟩
structure Inv (w : Int) (n : Nat) (N : List Int) (S : List Nat) (l : Lay) (fs : List Fm) : Prop where
  n0 : 0 < n
  st : l.st = w
  sz : l.sz = n
  ct : l.ct = fs.length
  bl : l.body.length < n
  body : l.body = N.drop (fs.length * n)
  len : N.length = fs.length * n + l.body.length
  fr : fs = (List.range fs.length).map (frAt w n N S)
  fi : l.fi = firstAt n S fs.length
  bd : ∀ p ∈ S, p ≤ N.length
theorem frAt_more {st : Int} {n : Nat} {N M : List Int} {S : List Nat} {c : Nat} (h : (c + 1) * n ≤ N.length) : frAt st n (N ++ M) S c = frAt st n N S c := by
  have h2 : c * n + n ≤ N.length := by rw [Nat.add_mul, Nat.one_mul] at h; exact h
  unfold frAt
  rw [List.drop_append_of_le_length (by omega), List.take_append_of_le_length (by rw [List.length_drop]; omega)]
theorem range_more {st : Int} {n k : Nat} {N M : List Int} {S : List Nat} (h : k * n ≤ N.length) : (List.range k).map (frAt st n (N ++ M) S) = (List.range k).map (frAt st n N S) := by
  apply List.map_congr_left
  intro c hc
  rw [List.mem_range] at hc
  exact frAt_more (Nat.le_trans (Nat.mul_le_mul_right n hc) h)
theorem first_none {n : Nat} {S : List Nat} {c : Nat} (h : ∀ p ∈ S, p < c * n) : firstAt n S c = none := by
  unfold firstAt
  rw [List.find?_eq_none.mpr, Option.map_none]
  intro p hp
  have := h p hp
  simp [inFr]; omega
theorem Inv.push {st : Int} {n : Nat} {N : List Int} {S : List Nat} {l : Lay} {fs : List Fm} (v : Inv st n N S l fs) (x : Int) : Inv st n (N ++ [x]) S (l.push x).1 (fs ++ (l.push x).2) := by
  have h0 := v.n0
  have h1 := v.sz
  have h2 := v.bl
  have h3 := v.len
  have hb : l.body ++ [x] = (N ++ [x]).drop (fs.length * n) := by
    rw [v.body, List.drop_append_of_le_length (by omega)]
  unfold Lay.push
  by_cases c : ((l.add x).body.length : Int) = l.sz
  · have c' : l.body.length + 1 = n := by
      have : ((l.body ++ [x]).length : Int) = l.sz := c
      rw [List.length_append, List.length_singleton] at this; omega
    rw [if_pos c]
    have hm : (fs.length + 1) * n = N.length + 1 := by rw [Nat.add_mul, Nat.one_mul]; omega
    refine ⟨h0, v.st, h1, ?_, ?_, ?_, ?_, ?_, ?_, ?_⟩
    · show l.ct + 1 = ((fs ++ [(l.add x).frame]).length : Int)
      rw [v.ct, List.length_append, List.length_singleton]; omega
    · show 0 < n
      exact h0
    · show [] = _
      rw [List.length_append, List.length_singleton, hm, List.drop_eq_nil_of_le (by rw [List.length_append, List.length_singleton]; omega)]
    · show (N ++ [x]).length = (fs ++ [(l.add x).frame]).length * n + 0
      rw [List.length_append, List.length_append, List.length_singleton, List.length_singleton, hm]
    · show fs ++ [(l.add x).frame] = _
      rw [List.length_append, List.length_singleton, List.range_succ, List.map_append, range_more (by omega), ← v.fr]
      congr 1
      show [(⟨l.st, l.ct, l.fi, l.body ++ [x]⟩ : Fm)] = [frAt st n (N ++ [x]) S fs.length]
      unfold frAt
      rw [← hb, v.st, v.ct, v.fi, List.take_of_length_le (by rw [List.length_append, List.length_singleton]; omega)]
    · show none = _
      rw [List.length_append, List.length_singleton, first_none]
      intro p hp
      have := v.bd p hp
      omega
    · intro p hp
      have := v.bd p hp
      rw [List.length_append, List.length_singleton]; omega
  · have c' : l.body.length + 1 ≠ n := fun z => c (by
      show ((l.body ++ [x]).length : Int) = l.sz
      rw [List.length_append, List.length_singleton]; omega)
    rw [if_neg c]
    simp only [List.append_nil]
    refine ⟨h0, v.st, h1, v.ct, ?_, hb, ?_, ?_, v.fi, ?_⟩
    · show (l.body ++ [x]).length < n
      rw [List.length_append, List.length_singleton]; omega
    · show (N ++ [x]).length = fs.length * n + (l.body ++ [x]).length
      rw [List.length_append, List.length_append, List.length_singleton]; omega
    · rw [range_more (by omega)]; exact v.fr
    · intro p hp
      have := v.bd p hp
      rw [List.length_append, List.length_singleton]; omega
theorem Inv.row {st : Int} {n : Nat} {S : List Nat} : ∀ (xs : List Int) {N : List Int} {l : Lay} {fs : List Fm}, Inv st n N S l fs → Inv st n (N ++ xs) S (l.row xs).1 (fs ++ (l.row xs).2)
  | [], N, l, fs, v => by simpa [Lay.row] using v
  | x :: xs, N, l, fs, v => by
    have r := Inv.row xs (v.push x)
    rw [List.append_assoc, List.append_assoc] at r
    exact r
theorem find_snoc {n c q : Nat} {S : List Nat} : firstAt n (S ++ [q]) c = (firstAt n S c).or (if inFr n c q = true then some ((q : Int) - (c * n : Nat)) else none) := by
  unfold firstAt
  rw [List.find?_append]
  cases S.find? (inFr n c) with
  | some p => rfl
  | none =>
    simp only [Option.none_or, Option.map_none, List.find?_cons, List.find?_nil]
    cases inFr n c q <;> rfl
theorem Inv.start {st : Int} {n : Nat} {N : List Int} {S : List Nat} {l : Lay} {fs : List Fm} (v : Inv st n N S l fs) : Inv st n N (S ++ [N.length]) l.start fs := by
  have h0 := v.n0
  have h2 := v.bl
  have h3 := v.len
  obtain ⟨e1, e2, e3, e4, e5⟩ := start_eq l
  refine ⟨h0, e3.trans v.st, e2.trans v.sz, e5.trans v.ct, by rw [e1]; exact v.bl, by rw [e1]; exact v.body, by rw [e1]; exact v.len, ?_, ?_, ?_⟩
  · conv => lhs; rw [v.fr]
    apply List.map_congr_left
    intro c hc
    rw [List.mem_range] at hc
    unfold frAt
    have hq : inFr n c N.length = false := by
      have := Nat.mul_le_mul_right n hc
      simp [inFr]; intro _; rw [Nat.succ_eq_add_one] at this; omega
    rw [find_snoc, hq]
    simp
  · have hq : inFr n fs.length N.length = true := by
      simp [inFr]; rw [Nat.add_mul, Nat.one_mul]; omega
    rw [find_snoc, ← v.fi, hq, if_pos rfl]
    unfold Lay.start
    cases e : l.fi with
    | none =>
      simp only [Option.none_or]
      congr 1
      omega
    | some i => simp [e]
  · intro p hp
    rcases List.mem_append.mp hp with hp | hp
    · exact v.bd p hp
    · simp at hp; omega
theorem Inv.lay {st : Int} {n k : Nat} {N : List Int} {S : List Nat} {l : Lay} {fs : List Fm} (v : Inv st n N S l fs) (t : List Int) (hk : l.seq = k) : Inv st n (N ++ cells k t) (S ++ [N.length]) (l.lay t).1 (fs ++ (l.lay t).2) := by
  have r := (v.start).row (l.cells t)
  have e : l.cells t = cells k t := by unfold Lay.cells cells; rw [hk]
  rw [e] at r
  have e2 : l.lay t = ({ (l.start.row (cells k t)).1 with seq := (l.start.row (cells k t)).1.seq + 1 }, (l.start.row (cells k t)).2) := by unfold Lay.lay; rw [e]
  rw [e2]
  exact ⟨r.n0, r.st, r.sz, r.ct, r.bl, r.body, r.len, r.fr, r.fi, r.bd⟩
theorem Inv.fill {st : Int} {n : Nat} {N : List Int} {S : List Nat} {l : Lay} {fs : List Fm} (v : Inv st n N S l fs) (hlt : ∀ p ∈ S, p < N.length) : Inv st n (N ++ (if l.body = [] then [] else List.replicate (n - l.body.length) 0)) S l.fill.1 (fs ++ l.fill.2) := by
  have h0 := v.n0
  have h1 := v.sz
  have h2 := v.bl
  have h3 := v.len
  unfold Lay.fill
  by_cases c : l.body = []
  · simp only [c, if_true, List.append_nil]
    have e : l = { l with body := l.body } := rfl
    exact v
  · have hc : l.body.length ≠ 0 := fun z => c (List.length_eq_zero_iff.mp z)
    simp only [c, if_false]
    have hz : (l.sz - (l.body.length : Int)).toNat = n - l.body.length := by omega
    have hm : (fs.length + 1) * n = N.length + (n - l.body.length) := by rw [Nat.add_mul, Nat.one_mul]; omega
    refine ⟨h0, v.st, h1, ?_, h0, ?_, ?_, ?_, ?_, ?_⟩
    · show l.ct + 1 = ((fs ++ [l.pad.frame]).length : Int)
      rw [v.ct, List.length_append, List.length_singleton]; omega
    · show [] = _
      rw [List.length_append, List.length_singleton, hm, List.drop_eq_nil_of_le (by rw [List.length_append, List.length_replicate]; omega)]
    · show _ = (fs ++ [l.pad.frame]).length * n + 0
      rw [List.length_append, List.length_append, List.length_singleton, List.length_replicate, hm]; rfl
    · show fs ++ [l.pad.frame] = _
      rw [List.length_append, List.length_singleton, List.range_succ, List.map_append, range_more (by omega), ← v.fr]
      congr 1
      show [(⟨l.st, l.ct, l.fi, l.body ++ List.replicate (l.sz - l.body.length).toNat 0⟩ : Fm)] = [frAt st n _ S fs.length]
      unfold frAt
      rw [List.drop_append_of_le_length (by omega), ← v.body, v.st, v.ct, v.fi, hz, List.take_of_length_le (by rw [List.length_append, List.length_replicate]; omega)]
    · show none = _
      rw [List.length_append, List.length_singleton, first_none]
      intro p hp
      have := hlt p hp
      omega
    · intro p hp
      have := v.bd p hp
      rw [List.length_append]; omega
/-- the law's stream and the program's layer go side by side -/
structure Tie (st : Int) (n : Nat) (s : Ls) (l : Lay) (fs : List Fm) : Prop where
  inv : Inv st n s.N (s.S.map (·.1)) l fs
  seq : l.seq = s.S.length
  sz : s.sz = n
  srt : (s.S.map (·.1)).Pairwise (· < ·)
  lt : ∀ p ∈ s.S.map (·.1), p < s.N.length
theorem Tie.new {st : Int} {n : Nat} (h : 0 < n) : Tie st n (Ls.new n) (Lay.new st n) [] :=
  ⟨⟨h, rfl, rfl, rfl, h, List.drop_nil.symm, by show 0 = 0 * n + 0; omega, rfl, rfl, by intro p hp; cases hp⟩, rfl, rfl, .nil, by intro p hp; cases hp⟩
theorem Tie.lay {st : Int} {n : Nat} {s : Ls} {l : Lay} {fs : List Fm} (v : Tie st n s l fs) (t : List Int) : Tie st n (s.lay t) (l.lay t).1 (fs ++ (l.lay t).2) := by
  have hq := (lay_lt (l := l) t (by rw [v.inv.sz]; have := v.inv.bl; omega)).2.2.2.1
  refine ⟨?_, ?_, v.sz, ?_, ?_⟩
  · have := v.inv.lay t v.seq
    unfold Ls.lay
    rw [List.map_append]
    exact this
  · rw [hq, v.seq]
    show _ = ((s.S ++ [(s.N.length, t)]).length : Int)
    rw [List.length_append, List.length_singleton]; omega
  · show ((s.S ++ [(s.N.length, t)]).map (·.1)).Pairwise (· < ·)
    rw [List.map_append, List.pairwise_append]
    refine ⟨v.srt, by simp, fun a ha b hb => ?_⟩
    simp at hb; subst hb
    exact v.lt a ha
  · intro p hp
    have hl : (s.lay t).N.length = s.N.length + (t.length + 3) := by
      show (s.N ++ cells _ t).length = _
      rw [List.length_append]; simp [cells]
    rw [hl]
    have hp' : p ∈ (s.S ++ [(s.N.length, t)]).map (·.1) := hp
    rw [List.map_append, List.mem_append] at hp'
    rcases hp' with hp' | hp'
    · have := v.lt p hp'; omega
    · simp at hp'; omega
theorem fmod_nat (a b : Nat) : (a : Int).fmod (b : Int) = ((a % b : Nat) : Int) := by
  rw [Int.fmod_eq_emod_of_nonneg _ (by omega)]; rfl
theorem fdiv_nat (a b : Nat) : (a : Int).fdiv (b : Int) = ((a / b : Nat) : Int) := by
  rw [Int.fdiv_eq_ediv_of_nonneg _ (by omega)]; rfl
theorem Tie.rest {st : Int} {n : Nat} {s : Ls} {l : Lay} {fs : List Fm} (v : Tie st n s l fs) : s.rest = l.body.length := by
  unfold Ls.rest
  rw [v.sz, fmod_nat, v.inv.len, Nat.mul_comm, Nat.mul_add_mod, Nat.mod_eq_of_lt v.inv.bl]
theorem Tie.fill {st : Int} {n : Nat} {s : Ls} {l : Lay} {fs : List Fm} (v : Tie st n s l fs) : Tie st n s.fill l.fill.1 (fs ++ l.fill.2) := by
  have hr := v.rest
  have hbl := v.inv.bl
  have e : s.fill.N = s.N ++ (if l.body = [] then [] else List.replicate (n - l.body.length) 0) := by
    unfold Ls.fill
    rw [hr, v.sz]
    by_cases c : l.body = []
    · simp [c]
    · have hc : l.body.length ≠ 0 := fun z => c (List.length_eq_zero_iff.mp z)
      simp only [c, if_false]
      rw [if_pos (by omega), show ((n : Int) - (l.body.length : Int)).toNat = n - l.body.length by omega]
  refine ⟨?_, ?_, v.sz, v.srt, ?_⟩
  · rw [e]; exact v.inv.fill v.lt
  · have : l.fill.1.seq = l.seq := by unfold Lay.fill; split <;> rfl
    rw [this]; exact v.seq
  · intro p hp
    have := v.lt p hp
    rw [e, List.length_append]; omega
theorem minI_head {x : Int} {xs : List Int} (h : ∀ y ∈ xs, x ≤ y) : minI (x :: xs) = x := by
  obtain ⟨h1, h2⟩ := minI_spec (l := x :: xs) (by simp)
  have h3 := h2 x (by simp)
  rcases List.mem_cons.mp h1 with h4 | h4
  · exact h4
  · have := h (minI (x :: xs)) h4; omega
theorem Tie.frame {st : Int} {n : Nat} {s : Ls} {l : Lay} {fs : List Fm} (v : Tie st n s l fs) (c : Nat) : s.frame st c = frAt st n s.N (s.S.map (·.1)) c := by
  have e1 : (c : Int) * s.sz = ((c * n : Nat) : Int) := by rw [v.sz]; simp
  have e2 : (c : Int) * s.sz + s.sz = ((c * n + n : Nat) : Int) := by rw [e1, v.sz]; simp
  have e3 : s.some_ ((c : Int) * s.sz) ((c : Int) * s.sz + s.sz) = ((s.S.map (·.1)).filter (inFr n c)).map fun p : Nat => (p : Int) - (c * n : Nat) := by
    rw [e2, e1]
    unfold Ls.some_
    rw [List.filter_map, List.map_map]
    congr 1
    apply List.filter_congr
    intro p _
    simp only [inR, inFr, Function.comp, Nat.add_mul, Nat.one_mul]
    congr 1
    · rw [Bool.eq_iff_iff]; simp only [decide_eq_true_eq]; omega
    · rw [Bool.eq_iff_iff]; simp only [decide_eq_true_eq]; omega
  have e4 : (if s.some_ ((c : Int) * s.sz) ((c : Int) * s.sz + s.sz) = [] then none else some (minI (s.some_ ((c : Int) * s.sz) ((c : Int) * s.sz + s.sz)))) = firstAt n (s.S.map (·.1)) c := by
    rw [e3]
    unfold firstAt
    rw [← List.head?_filter]
    have srt := v.srt.filter (inFr n c)
    cases e : (s.S.map (·.1)).filter (inFr n c) with
    | nil => rfl
    | cons x xs =>
      rw [e, List.pairwise_cons] at srt
      simp only [List.map_cons, List.head?_cons, Option.map_some]
      rw [if_neg (by simp), minI_head]
      intro y hy
      obtain ⟨z, hz, rfl⟩ := List.mem_map.mp hy
      have := srt.1 z hz
      omega
  unfold Ls.frame frAt
  rw [e4, e2, e1, Int.toNat_natCast, Int.toNat_natCast, List.drop_take, show c * n + n - c * n = n by omega]
theorem Tie.frames {st : Int} {n : Nat} {s : Ls} {l : Lay} {fs : List Fm} (v : Tie st n s l fs) : fs = (List.range (s.N.length / n)).map fun c : Nat => s.frame st c := by
  have h : s.N.length / n = fs.length := by
    rw [v.inv.len, Nat.mul_comm, Nat.mul_add_div v.inv.n0, Nat.div_eq_of_lt v.inv.bl]; rfl
  rw [h]
  conv => lhs; rw [v.inv.fr]
  apply List.map_congr_left
  intro c _
  exact (v.frame c).symm
def layS (s : Ls) (ts : List (List Int)) : Ls := ts.foldl Ls.lay s
theorem Tie.all {st : Int} {n : Nat} : ∀ (ts : List (List Int)) {s : Ls} {l : Lay} {fs : List Fm}, Tie st n s l fs → Tie st n (layS s ts) (layAll l fs ts).1 (layAll l fs ts).2
  | [], _, _, _, v => v
  | t :: ts, _, _, _, v => Tie.all ts (v.lay t)
/-- the frames of tellings are cut of one long row -/
theorem framesOf_cut {st : Int} {n : Nat} (h : 0 < n) (ts : List (List Int)) : framesOf st n ts = (List.range ((layS (Ls.new n) ts).fill.N.length / n)).map fun c : Nat => (layS (Ls.new n) ts).fill.frame st c :=
  ((Tie.all ts (Tie.new (st := st) h)).fill).frames
end
end Dy.Pm


/-! Rows: what frames tell, as typed functions. -/
namespace Dy.Pm
open PySem L2 Dy
noncomputable section
/-! ### dicts by whole numbers -/
def putT {α : Type} : List (Int × α) → Int → α → List (Int × α)
  | [], k, x => [(k, x)]
  | (g, y) :: l, k, x => if g = k then (g, x) :: l else (g, y) :: putT l k x
def kk {α : Type} (l : List (Int × α)) : List Key := l.map fun p => Sum.inl p.1
def vv {α : Type} (f : α → D) (l : List (Int × α)) : List D := l.map fun p => f p.2
def dmap {α : Type} (f : α → D) (l : List (Int × α)) : D := .dk (kk l) (vv f l)
def getT {α : Type} : List (Int × α) → Int → Option α
  | [], _ => none
  | (g, y) :: l, k => if g = k then some y else getT l k
section
variable {α : Type} (f : α → D)
theorem kk_len (l : List (Int × α)) : (kk l).length = l.length := by unfold kk; rw [List.length_map]
theorem put_ev : ∀ (l : List (Int × α)) (k : Int) (x : α), putKD (kk l) (vv f l) (.inl k) (f x) = (kk (putT l k x), vv f (putT l k x))
  | [], k, x => rfl
  | (g, y) :: l, k, x => by
    have ih := put_ev l k x
    show putKD (Sum.inl g :: kk l) (f y :: vv f l) (.inl k) (f x) = _
    unfold putKD putT
    by_cases h : g = k
    · rw [if_pos (by rw [h]), if_pos h]; rfl
    · rw [if_neg (fun z => h (by cases z; rfl)), if_neg h, ih]; rfl
def putAll (l : List (Int × α)) (m : List (Int × α)) : List (Int × α) := m.foldl (fun a p => putT a p.1 p.2) l
theorem merge_ev : ∀ (m l : List (Int × α)), mergeKD (kk l, vv f l) (m.map fun p => (Sum.inl p.1, f p.2)) = (kk (putAll l m), vv f (putAll l m))
  | [], l => rfl
  | (k, x) :: m, l => by
    show mergeKD (putKD (kk l) (vv f l) (.inl k) (f x)) (m.map fun p => (Sum.inl p.1, f p.2)) = _
    rw [put_ev, merge_ev m]
    rfl
theorem look_ev : ∀ (l : List (Int × α)) (k : Int), lookD (kk l) (vv f l) (Sum.inl k) = (getT l k).map f
  | [], k => rfl
  | (g, y) :: l, k => by
    have ih := look_ev l k
    show lookD (Sum.inl g :: kk l) (f y :: vv f l) (Sum.inl k) = _
    unfold lookD getT
    by_cases h : g = k
    · rw [if_pos (by rw [h]), if_pos h]; rfl
    · rw [if_neg (fun z => h (by cases z; rfl)), if_neg h, ih]
theorem dget_ev (l : List (Int × α)) (k : Int) : dGet (dmap f l) (.int k) = some ((getT l k).map f) := by
  show (keyOf (.int k)).map (lookD (kk l) (vv f l)) = _
  rw [show keyOf (.int k) = some (Sum.inl k) from rfl, Option.map_some, look_ev]
theorem fix_ev {l : List (Int × α)} {k : Int} {x : α} (h : getT l k = some x) : fIx (dmap f l) (.int k) = some (f x) := by
  have g := dget_ev f l k
  rw [h] at g
  unfold dmap at *
  simp [fIx, orF, fIxL, fIxT, fIxS, fDG, g]
theorem kints_kk (l : List (Int × α)) : kints (kk l) = some (l.map (·.1)) := by
  have : kk l = (l.map (·.1)).map Sum.inl := by unfold kk; rw [List.map_map]; rfl
  rw [this, kints_map]
theorem sortd_ev (l : List (Int × α)) : fSortedD (dmap f l) = some (.lst ((isort (l.map (·.1))).map D.int)) := by
  show (kints (kk l)).map _ = _
  rw [kints_kk]
  rfl
def prD (p : Int × α) : D := .tup [.int p.1, f p.2]
theorem prs_ev (hf : ∀ x, imm (f x) = true) : ∀ m : List (Int × α), prsOf (m.map (prD f)) = some (m.map fun p => (Sum.inl p.1, f p.2))
  | [] => rfl
  | (k, x) :: m => by
    rw [List.map_cons, prsOf, prs_ev hf m]
    simp only [prD, prOf, hf, if_true, keyOf, Option.map_some, Option.bind_some]
    rfl
theorem dict_ev (hf : ∀ x, imm (f x) = true) (m : List (Int × α)) : fDictP (.lst (m.map (prD f))) = some (dmap f (putAll [] m)) := by
  unfold fDictP
  simp only [asLst, Option.bind_some, prs_ev f hf, Option.map_some]
  have := merge_ev f m []
  have e : mergeKD ([], []) (m.map fun p => (Sum.inl p.1, f p.2)) = _ := this
  rw [e]
  rfl
theorem keys_put : ∀ (l : List (Int × α)) (k : Int) (x : α), (putT l k x).map (·.1) = if k ∈ l.map (·.1) then l.map (·.1) else l.map (·.1) ++ [k]
  | [], k, x => by simp [putT]
  | (g, y) :: l, k, x => by
    have ih := keys_put l k x
    unfold putT
    by_cases h : g = k
    · rw [if_pos h]; simp [h]
    · rw [if_neg h]
      show g :: (putT l k x).map (·.1) = if k ∈ g :: l.map (·.1) then g :: l.map (·.1) else g :: l.map (·.1) ++ [k]
      rw [ih]
      have h' : ¬ k = g := fun z => h z.symm
      by_cases m : k ∈ l.map (·.1)
      · rw [if_pos m, if_pos (List.mem_cons_of_mem _ m)]
      · rw [if_neg m, if_neg (fun z => by rcases List.mem_cons.mp z with z | z; exact h' z; exact m z)]; rfl
theorem nd_put {l : List (Int × α)} (h : (l.map (·.1)).Nodup) (k : Int) (x : α) : ((putT l k x).map (·.1)).Nodup := by
  rw [keys_put]
  split
  · exact h
  · rename_i m
    rw [List.nodup_append]
    exact ⟨h, by simp, fun a ha b hb => by simp at hb; subst hb; exact fun z => m (z ▸ ha)⟩
theorem nd_all : ∀ (m : List (Int × α)) {l : List (Int × α)}, (l.map (·.1)).Nodup → ((putAll l m).map (·.1)).Nodup
  | [], l, h => h
  | (k, x) :: m, l, h => nd_all m (nd_put h k x)
theorem len_put : ∀ (l : List (Int × α)) (k : Int) (x : α), (putT l k x).length ≤ l.length + 1
  | [], k, x => by simp [putT]
  | (g, y) :: l, k, x => by
    have := len_put l k x
    unfold putT
    split <;> simp <;> omega
theorem len_all : ∀ (m l : List (Int × α)), (putAll l m).length ≤ l.length + m.length
  | [], l => by simp [putAll]
  | (k, x) :: m, l => by
    have := len_all m (putT l k x)
    have := len_put l k x
    show (putAll (putT l k x) m).length ≤ _
    rw [List.length_cons]; omega
theorem nd_kk {l : List (Int × α)} (h : (l.map (·.1)).Nodup) : (kk l).Nodup := by
  have : kk l = (l.map (·.1)).map Sum.inl := by unfold kk; rw [List.map_map]; rfl
  rw [this]
  exact List.Pairwise.map _ (fun a b hab => fun z => hab (by cases z; rfl)) h
theorem imm_vv (hf : ∀ x, imm (f x) = true) (l : List (Int × α)) : immL (vv f l) = true := imm_mapL (f := fun p : Int × α => f p.2) (fun p => hf p.2) l
theorem upd_ev (hf : ∀ x, imm (f x) = true) {l m : List (Int × α)} (h : (l.map (·.1)).Nodup) (hl : l.length + m.length ≤ 1000000) : fUpdD (dmap f l) [dmap f m] = some (.non, dmap f (putAll l m)) := by
  unfold dmap fUpdD
  simp only
  rw [if_pos ⟨nd_kk h, imm_vv f hf m, by rw [kk_len, kk_len]; exact hl⟩]
  have e : (kk m).zip (vv f m) = m.map fun p => ((Sum.inl p.1 : Key), f p.2) := by
    unfold kk vv
    rw [List.zip_map']
  rw [e, merge_ev]
theorem setd_ev {l : List (Int × α)} (h : (l.map (·.1)).Nodup) (hl : l.length < 1000000) (k : Int) (x : α) : fSetD (dmap f l) (.int k) (f x) = some (dmap f (putT l k x)) := by
  unfold dmap fSetD
  show (if (kk l).Nodup ∧ (kk l).length < 1000000 then _ else _) = _
  rw [if_pos ⟨nd_kk h, by rw [kk_len]; exact hl⟩, put_ev]
end
/-! ### tellings in bodies -/
def parse : Nat → List Int → List (Int × List Int) × List Int
  | 0, l => ([], l)
  | n + 1, l => if 3 ≤ l.length ∧ 0 < l.getD 0 0 ∧ 3 + l.getD 0 0 ≤ l.length then
      ((l.getD 1 0 * 256 + l.getD 2 0, (l.take (3 + l.getD 0 0).toNat).drop 3) :: (parse n (l.drop (3 + l.getD 0 0).toNat)).1, (parse n (l.drop (3 + l.getD 0 0).toNat)).2)
    else ([], l)
theorem imm_tD' (t : List Int) : imm (tD t) = true := by simp [tD, imm, z_imm]
theorem at_g {l : List Int} {i : Nat} (h : i < l.length) : atI (l.map D.int) (i : Int) = some (.int (l.getD i 0)) := by
  have := z_atI (ns := l) (i := (i : Int)) (by omega) (by omega)
  rw [Int.toNat_natCast] at this
  exact this
abbrev tP2 : Int × List Int → D := prD tD
theorem parse_ev (b x3 : Sl) : ∀ (n fuel : Nat) (l : List Int) (acc : List (Int × List Int)), l.length ≤ n → n < fuel → acc.length + l.length ≤ 100000 →
    whL T_told_in_0 L_told_in_1 fuel [b, .own (.lst (acc.map tP2)), .own (.lst (l.map D.int)), x3, .no] = .nx [b, .own (.lst ((acc ++ (parse n l).1).map tP2)), .own (.lst ((parse n l).2.map D.int)), x3, .no]
  | n, 0, l, acc, _, h, _ => by omega
  | 0, f + 1, l, acc, h, _, _ => by
    have : l = [] := List.eq_nil_of_length_eq_zero (by omega)
    subst this
    have t : T_told_in_0 [b, .own (.lst (acc.map tP2)), .own (.lst ([].map D.int)), x3, .no] = .ok false [b, .own (.lst (acc.map tP2)), .own (.lst ([].map D.int)), x3, .no] := by
      have c : ¬ (3 : Int) ≤ ((0 : Nat) : Int) := by omega
      unfold T_told_in_0
      simp only [nl1, nl2, nl3, nl4, nc2, nc3, nc4, ix20, ix21, ix30, ix31, ix32, eq_self, isi_ii, isi_ib, isi_is, isi_itl, isi_ntl, isi_tt, isN_n, isN_i, tup2, z_eqI, z_neI, si0, si1, si2, tn0, tn1, tn2, tn3, List.nil_append, List.cons_append, sSeq, sSet, sIf, sRet, sItem, sDrop, sNil, eN, eI, tP, p2, p1, fV, fC, psC, psN, eaC, eaN, e1, e2, pBl, pAnd, pOr, pNot, pIf, eIf, on1_, on2_, List.getElem?_cons_zero, List.getElem?_cons_succ, List.set_cons_zero, List.set_cons_succ, Option.bind_some, Option.map_some, Sl.val, Sl.isInn, z_ixL, z_ixT, at0, at1, at2, at3, r_of, r_bind, r_thn, s_nx, s_ret, z_nx, z_asB, z_len, z_lenT, z_addI, z_mulR, z_mulL, z_sub, z_lt, z_le, z_gt, z_ge, z_mod, z_div, z_max2, z_min2, setSl, updP, modP, valAt, getP, setP, setV, pIdx, pRoot, z_ixN, z_setI, List.length_map, List.length_cons, List.length_nil, if_true, if_false, Bool.false_eq_true, Bool.not_true, Bool.not_false, decide_true, decide_false, sUnp, ast_t, setAll, sPar, sPar3, stp_l, stp_t, g1_l, g1_t, s1_l, s1_t, Nat.reduceBEq, asq_t, asq_l, sFor, iE, iBor, iLock, unlk, id_eq, z_lst0, imm, immL, sClr, m_nx, m_ret, m_exc, m_brk, m_ct, s_exc, s_brk, s_ct, c_nil, c_cons, clr1, e2v, e2p, sFldD, pFld, fP, eMethP, eMethR, List.contains_nil, List.contains_cons, Bool.or_false, fnR, mkc, okAr, okLe, arN, arL, bk, valO, qN, qV, qI, qL, gV, gI, gL, rP, eCall, ofP, eMut, tyok_l, tyok_dk, tyok_dt, ofM, eMake, mkR, pI, eMv, List.append_nil, r_thnx, eDisp, pCall, pMeth, lnd, List.length_append, List.length_replicate, List.replicate, Bool.and_true, Bool.true_and, Bool.and_self, beq_self_eq_true, List.all_nil, List.all_cons, ite_seq, ite_map, ite_bind, ite_thn, List.map_nil, c, decide_false]
    unfold whL
    rw [t]
    simp only [r_thn, Bool.false_eq_true, if_false, parse, List.append_nil]
  | n + 1, f + 1, l, acc, h, hf, ha => by
    unfold whL parse
    by_cases c1 : (3 : Int) ≤ (l.length : Int)
    · have g0 := at_g (l := l) (i := 0) (by omega)
      have g1 := at_g (l := l) (i := 1) (by omega)
      have g2 := at_g (l := l) (i := 2) (by omega)
      rw [show ((0 : Nat) : Int) = 0 from rfl] at g0
      rw [show ((1 : Nat) : Int) = 1 from rfl] at g1
      rw [show ((2 : Nat) : Int) = 2 from rfl] at g2
      by_cases c2 : 0 < l.getD 0 0
      · by_cases c3 : 3 + l.getD 0 0 ≤ (l.length : Int)
        · have t : T_told_in_0 [b, .own (.lst (acc.map tP2)), .own (.lst (l.map D.int)), x3, .no] = .ok true [b, .own (.lst (acc.map tP2)), .own (.lst (l.map D.int)), x3, .no] := by
            unfold T_told_in_0
            simp only [nl1, nl2, nl3, nl4, nc2, nc3, nc4, ix20, ix21, ix30, ix31, ix32, eq_self, isi_ii, isi_ib, isi_is, isi_itl, isi_ntl, isi_tt, isN_n, isN_i, tup2, z_eqI, z_neI, si0, si1, si2, tn0, tn1, tn2, tn3, List.nil_append, List.cons_append, sSeq, sSet, sIf, sRet, sItem, sDrop, sNil, eN, eI, tP, p2, p1, fV, fC, psC, psN, eaC, eaN, e1, e2, pBl, pAnd, pOr, pNot, pIf, eIf, on1_, on2_, List.getElem?_cons_zero, List.getElem?_cons_succ, List.set_cons_zero, List.set_cons_succ, Option.bind_some, Option.map_some, Sl.val, Sl.isInn, z_ixL, z_ixT, at0, at1, at2, at3, r_of, r_bind, r_thn, s_nx, s_ret, z_nx, z_asB, z_len, z_lenT, z_addI, z_mulR, z_mulL, z_sub, z_lt, z_le, z_gt, z_ge, z_mod, z_div, z_max2, z_min2, setSl, updP, modP, valAt, getP, setP, setV, pIdx, pRoot, z_ixN, z_setI, List.length_map, List.length_cons, List.length_nil, if_true, if_false, Bool.false_eq_true, Bool.not_true, Bool.not_false, decide_true, decide_false, sUnp, ast_t, setAll, sPar, sPar3, stp_l, stp_t, g1_l, g1_t, s1_l, s1_t, Nat.reduceBEq, asq_t, asq_l, sFor, iE, iBor, iLock, unlk, id_eq, z_lst0, imm, immL, sClr, m_nx, m_ret, m_exc, m_brk, m_ct, s_exc, s_brk, s_ct, c_nil, c_cons, clr1, e2v, e2p, sFldD, pFld, fP, eMethP, eMethR, List.contains_nil, List.contains_cons, Bool.or_false, fnR, mkc, okAr, okLe, arN, arL, bk, valO, qN, qV, qI, qL, gV, gI, gL, rP, eCall, ofP, eMut, tyok_l, tyok_dk, tyok_dt, ofM, eMake, mkR, pI, eMv, List.append_nil, r_thnx, eDisp, pCall, pMeth, lnd, List.length_append, List.length_replicate, List.replicate, Bool.and_true, Bool.true_and, Bool.and_self, beq_self_eq_true, List.all_nil, List.all_cons, ite_seq, ite_map, ite_bind, ite_thn, c1, c2, c3, g0, decide_true]
          have asI : ∀ x : Int, asInt (.int x) = some x := fun _ => rfl
          have s1 := z_slL (ds := l.map D.int) (z_imm l) (some 3) (some (3 + l.getD 0 0))
          rw [cut_lh (by omega) (by omega), ← List.map_take, ← List.map_drop, show Int.toNat 3 = 3 from rfl] at s1
          have s2 := z_slL (ds := l.map D.int) (z_imm l) (some (3 + l.getD 0 0)) none
          rw [cut_l (by omega), ← List.map_drop] at s2
          have tt := z_tuple (z_imm ((l.take (3 + l.getD 0 0).toNat).drop 3))
          have tp : ∀ (i : Int) (t : List Int), fTup [.int i, .tup (t.map D.int)] = some (tP2 (i, t)) := fun i t => by
            rw [z_fTup (by simp [imm, immL, z_imm]) (by simp)]; rfl
          have ap := z_appM (f := tP2) (xs := acc) (x := (l.getD 1 0 * 256 + l.getD 2 0, (l.take (3 + l.getD 0 0).toNat).drop 3)) (by omega)
          have bd : L_told_in_1 [b, .own (.lst (acc.map tP2)), .own (.lst (l.map D.int)), x3, .no] = .nx [b, .own (.lst ((acc ++ [(l.getD 1 0 * 256 + l.getD 2 0, (l.take (3 + l.getD 0 0).toNat).drop 3)]).map tP2)), .own (.lst ((l.drop (3 + l.getD 0 0).toNat).map D.int)), x3, .no] := by
            have u256 : (-(2 ^ 64) < (256 : Int) ∧ (256 : Int) < 2 ^ 64) := by omega
            unfold L_told_in_1
            simp (disch := first | assumption | omega) only [nl1, nl2, nl3, nl4, nc2, nc3, nc4, ix20, ix21, ix30, ix31, ix32, eq_self, isi_ii, isi_ib, isi_is, isi_itl, isi_ntl, isi_tt, isN_n, isN_i, tup2, z_eqI, z_neI, si0, si1, si2, tn0, tn1, tn2, tn3, List.nil_append, List.cons_append, sSeq, sSet, sIf, sRet, sItem, sDrop, sNil, eN, eI, tP, p2, p1, fV, fC, psC, psN, eaC, eaN, e1, e2, pBl, pAnd, pOr, pNot, pIf, eIf, on1_, on2_, List.getElem?_cons_zero, List.getElem?_cons_succ, List.set_cons_zero, List.set_cons_succ, Option.bind_some, Option.map_some, Sl.val, Sl.isInn, z_ixL, z_ixT, at0, at1, at2, at3, r_of, r_bind, r_thn, s_nx, s_ret, z_nx, z_asB, z_len, z_lenT, z_addI, z_mulR, z_mulL, z_sub, z_lt, z_le, z_gt, z_ge, z_mod, z_div, z_max2, z_min2, setSl, updP, modP, valAt, getP, setP, setV, pIdx, pRoot, z_ixN, z_setI, List.length_map, List.length_cons, List.length_nil, if_true, if_false, Bool.false_eq_true, Bool.not_true, Bool.not_false, decide_true, decide_false, sUnp, ast_t, setAll, sPar, sPar3, stp_l, stp_t, g1_l, g1_t, s1_l, s1_t, Nat.reduceBEq, asq_t, asq_l, sFor, iE, iBor, iLock, unlk, id_eq, z_lst0, imm, immL, sClr, m_nx, m_ret, m_exc, m_brk, m_ct, s_exc, s_brk, s_ct, c_nil, c_cons, clr1, e2v, e2p, sFldD, pFld, fP, eMethP, eMethR, List.contains_nil, List.contains_cons, Bool.or_false, fnR, mkc, okAr, okLe, arN, arL, bk, valO, qN, qV, qI, qL, gV, gI, gL, rP, eCall, ofP, eMut, tyok_l, tyok_dk, tyok_dt, ofM, eMake, mkR, pI, eMv, List.append_nil, r_thnx, eDisp, pCall, pMeth, lnd, List.length_append, List.length_replicate, List.replicate, Bool.and_true, Bool.true_and, Bool.and_self, beq_self_eq_true, List.all_nil, List.all_cons, ite_seq, ite_map, ite_bind, ite_thn, g0, g1, g2, pSl, oN, oS, asI, s1, s2, tt, tp, ap]
          have ih := parse_ev b x3 n f (l.drop (3 + l.getD 0 0).toNat) (acc ++ [(l.getD 1 0 * 256 + l.getD 2 0, (l.take (3 + l.getD 0 0).toNat).drop 3)]) (by rw [List.length_drop]; omega) (by omega) (by rw [List.length_drop, List.length_append, List.length_singleton]; omega)
          rw [t, if_pos ⟨by omega, c2, c3⟩]
          simp only [r_thn, if_true, bd, ih, List.append_assoc, List.cons_append, List.nil_append]
        · have t : T_told_in_0 [b, .own (.lst (acc.map tP2)), .own (.lst (l.map D.int)), x3, .no] = .ok false [b, .own (.lst (acc.map tP2)), .own (.lst (l.map D.int)), x3, .no] := by
            unfold T_told_in_0
            simp only [nl1, nl2, nl3, nl4, nc2, nc3, nc4, ix20, ix21, ix30, ix31, ix32, eq_self, isi_ii, isi_ib, isi_is, isi_itl, isi_ntl, isi_tt, isN_n, isN_i, tup2, z_eqI, z_neI, si0, si1, si2, tn0, tn1, tn2, tn3, List.nil_append, List.cons_append, sSeq, sSet, sIf, sRet, sItem, sDrop, sNil, eN, eI, tP, p2, p1, fV, fC, psC, psN, eaC, eaN, e1, e2, pBl, pAnd, pOr, pNot, pIf, eIf, on1_, on2_, List.getElem?_cons_zero, List.getElem?_cons_succ, List.set_cons_zero, List.set_cons_succ, Option.bind_some, Option.map_some, Sl.val, Sl.isInn, z_ixL, z_ixT, at0, at1, at2, at3, r_of, r_bind, r_thn, s_nx, s_ret, z_nx, z_asB, z_len, z_lenT, z_addI, z_mulR, z_mulL, z_sub, z_lt, z_le, z_gt, z_ge, z_mod, z_div, z_max2, z_min2, setSl, updP, modP, valAt, getP, setP, setV, pIdx, pRoot, z_ixN, z_setI, List.length_map, List.length_cons, List.length_nil, if_true, if_false, Bool.false_eq_true, Bool.not_true, Bool.not_false, decide_true, decide_false, sUnp, ast_t, setAll, sPar, sPar3, stp_l, stp_t, g1_l, g1_t, s1_l, s1_t, Nat.reduceBEq, asq_t, asq_l, sFor, iE, iBor, iLock, unlk, id_eq, z_lst0, imm, immL, sClr, m_nx, m_ret, m_exc, m_brk, m_ct, s_exc, s_brk, s_ct, c_nil, c_cons, clr1, e2v, e2p, sFldD, pFld, fP, eMethP, eMethR, List.contains_nil, List.contains_cons, Bool.or_false, fnR, mkc, okAr, okLe, arN, arL, bk, valO, qN, qV, qI, qL, gV, gI, gL, rP, eCall, ofP, eMut, tyok_l, tyok_dk, tyok_dt, ofM, eMake, mkR, pI, eMv, List.append_nil, r_thnx, eDisp, pCall, pMeth, lnd, List.length_append, List.length_replicate, List.replicate, Bool.and_true, Bool.true_and, Bool.and_self, beq_self_eq_true, List.all_nil, List.all_cons, ite_seq, ite_map, ite_bind, ite_thn, c1, c2, c3, g0, decide_true, decide_false]
          rw [t, if_neg (fun z => c3 z.2.2)]
          simp only [r_thn, Bool.false_eq_true, if_false, List.append_nil]
      · have t : T_told_in_0 [b, .own (.lst (acc.map tP2)), .own (.lst (l.map D.int)), x3, .no] = .ok false [b, .own (.lst (acc.map tP2)), .own (.lst (l.map D.int)), x3, .no] := by
          unfold T_told_in_0
          simp only [nl1, nl2, nl3, nl4, nc2, nc3, nc4, ix20, ix21, ix30, ix31, ix32, eq_self, isi_ii, isi_ib, isi_is, isi_itl, isi_ntl, isi_tt, isN_n, isN_i, tup2, z_eqI, z_neI, si0, si1, si2, tn0, tn1, tn2, tn3, List.nil_append, List.cons_append, sSeq, sSet, sIf, sRet, sItem, sDrop, sNil, eN, eI, tP, p2, p1, fV, fC, psC, psN, eaC, eaN, e1, e2, pBl, pAnd, pOr, pNot, pIf, eIf, on1_, on2_, List.getElem?_cons_zero, List.getElem?_cons_succ, List.set_cons_zero, List.set_cons_succ, Option.bind_some, Option.map_some, Sl.val, Sl.isInn, z_ixL, z_ixT, at0, at1, at2, at3, r_of, r_bind, r_thn, s_nx, s_ret, z_nx, z_asB, z_len, z_lenT, z_addI, z_mulR, z_mulL, z_sub, z_lt, z_le, z_gt, z_ge, z_mod, z_div, z_max2, z_min2, setSl, updP, modP, valAt, getP, setP, setV, pIdx, pRoot, z_ixN, z_setI, List.length_map, List.length_cons, List.length_nil, if_true, if_false, Bool.false_eq_true, Bool.not_true, Bool.not_false, decide_true, decide_false, sUnp, ast_t, setAll, sPar, sPar3, stp_l, stp_t, g1_l, g1_t, s1_l, s1_t, Nat.reduceBEq, asq_t, asq_l, sFor, iE, iBor, iLock, unlk, id_eq, z_lst0, imm, immL, sClr, m_nx, m_ret, m_exc, m_brk, m_ct, s_exc, s_brk, s_ct, c_nil, c_cons, clr1, e2v, e2p, sFldD, pFld, fP, eMethP, eMethR, List.contains_nil, List.contains_cons, Bool.or_false, fnR, mkc, okAr, okLe, arN, arL, bk, valO, qN, qV, qI, qL, gV, gI, gL, rP, eCall, ofP, eMut, tyok_l, tyok_dk, tyok_dt, ofM, eMake, mkR, pI, eMv, List.append_nil, r_thnx, eDisp, pCall, pMeth, lnd, List.length_append, List.length_replicate, List.replicate, Bool.and_true, Bool.true_and, Bool.and_self, beq_self_eq_true, List.all_nil, List.all_cons, ite_seq, ite_map, ite_bind, ite_thn, c1, c2, g0, decide_true, decide_false]
        rw [t, if_neg (fun z => c2 z.2.1)]
        simp only [r_thn, Bool.false_eq_true, if_false, List.append_nil]
    · have t : T_told_in_0 [b, .own (.lst (acc.map tP2)), .own (.lst (l.map D.int)), x3, .no] = .ok false [b, .own (.lst (acc.map tP2)), .own (.lst (l.map D.int)), x3, .no] := by
        unfold T_told_in_0
        simp only [nl1, nl2, nl3, nl4, nc2, nc3, nc4, ix20, ix21, ix30, ix31, ix32, eq_self, isi_ii, isi_ib, isi_is, isi_itl, isi_ntl, isi_tt, isN_n, isN_i, tup2, z_eqI, z_neI, si0, si1, si2, tn0, tn1, tn2, tn3, List.nil_append, List.cons_append, sSeq, sSet, sIf, sRet, sItem, sDrop, sNil, eN, eI, tP, p2, p1, fV, fC, psC, psN, eaC, eaN, e1, e2, pBl, pAnd, pOr, pNot, pIf, eIf, on1_, on2_, List.getElem?_cons_zero, List.getElem?_cons_succ, List.set_cons_zero, List.set_cons_succ, Option.bind_some, Option.map_some, Sl.val, Sl.isInn, z_ixL, z_ixT, at0, at1, at2, at3, r_of, r_bind, r_thn, s_nx, s_ret, z_nx, z_asB, z_len, z_lenT, z_addI, z_mulR, z_mulL, z_sub, z_lt, z_le, z_gt, z_ge, z_mod, z_div, z_max2, z_min2, setSl, updP, modP, valAt, getP, setP, setV, pIdx, pRoot, z_ixN, z_setI, List.length_map, List.length_cons, List.length_nil, if_true, if_false, Bool.false_eq_true, Bool.not_true, Bool.not_false, decide_true, decide_false, sUnp, ast_t, setAll, sPar, sPar3, stp_l, stp_t, g1_l, g1_t, s1_l, s1_t, Nat.reduceBEq, asq_t, asq_l, sFor, iE, iBor, iLock, unlk, id_eq, z_lst0, imm, immL, sClr, m_nx, m_ret, m_exc, m_brk, m_ct, s_exc, s_brk, s_ct, c_nil, c_cons, clr1, e2v, e2p, sFldD, pFld, fP, eMethP, eMethR, List.contains_nil, List.contains_cons, Bool.or_false, fnR, mkc, okAr, okLe, arN, arL, bk, valO, qN, qV, qI, qL, gV, gI, gL, rP, eCall, ofP, eMut, tyok_l, tyok_dk, tyok_dt, ofM, eMake, mkR, pI, eMv, List.append_nil, r_thnx, eDisp, pCall, pMeth, lnd, List.length_append, List.length_replicate, List.replicate, Bool.and_true, Bool.true_and, Bool.and_self, beq_self_eq_true, List.all_nil, List.all_cons, ite_seq, ite_map, ite_bind, ite_thn, c1, decide_false]
      rw [t, if_neg (fun z => c1 (by omega))]
      simp only [r_thn, Bool.false_eq_true, if_false, List.append_nil]
theorem parse_len : ∀ (n : Nat) (l : List Int), (parse n l).1.length + (parse n l).2.length ≤ l.length
  | 0, l => by simp [parse]
  | n + 1, l => by
    unfold parse
    split
    · rename_i c
      have ih := parse_len n (l.drop (3 + l.getD 0 0).toNat)
      rw [List.length_drop] at ih
      simp only [List.length_cons]
      omega
    · simp
def tStep (a : List (Int × List Int) × List Int) (b : List Int) : List (Int × List Int) × List Int :=
  (a.1 ++ (parse (a.2 ++ b).length (a.2 ++ b)).1, if (parse (a.2 ++ b).length (a.2 ++ b)).2 ≠ [] ∧ (parse (a.2 ++ b).length (a.2 ++ b)).2.getD 0 0 = 0 then [] else (parse (a.2 ++ b).length (a.2 ++ b)).2)
def toldIn (bs : List (List Int)) : List (Int × List Int) := (bs.foldl tStep ([], [])).1
def tot (bs : List (List Int)) : Nat := (bs.map List.length).sum
theorem tStep_len (a : List (Int × List Int) × List Int) (b : List Int) : (tStep a b).1.length + (tStep a b).2.length ≤ a.1.length + a.2.length + b.length := by
  have := parse_len (a.2 ++ b).length (a.2 ++ b)
  unfold tStep
  simp only [List.length_append] at *
  split <;> simp <;> omega
theorem tstep_ev (x : Sl) (a : List (Int × List Int) × List Int) (b : List Int) (hl : a.1.length + a.2.length + b.length ≤ 90000) :
    L_told_in_3 [x, .own (.lst (a.1.map tP2)), .own (.lst (a.2.map D.int)), .own (tD b), .no] = .nx [x, .own (.lst ((tStep a b).1.map tP2)), .own (.lst ((tStep a b).2.map D.int)), .no, .no] := by
  have li : fList (tD b) = some (.lst (b.map D.int)) := by simp [fList, tD, z_imm]
  have ad := z_addL (a := a.2.map D.int) (b := b.map D.int) (z_imm _) (z_imm _) (by simp; omega)
  rw [← List.map_append] at ad
  have w := parse_ev x (.own (tD b)) (a.2 ++ b).length WN (a.2 ++ b) a.1 (Nat.le_refl _) (by unfold WN; rw [List.length_append]; omega) (by rw [List.length_append]; omega)
  have q : S_told_in_2 [x, .own (.lst (a.1.map tP2)), .own (.lst ((a.2 ++ b).map D.int)), .own (tD b), .no] = .nx [x, .own (.lst ((a.1 ++ (parse (a.2 ++ b).length (a.2 ++ b)).1).map tP2)), .own (.lst ((parse (a.2 ++ b).length (a.2 ++ b)).2.map D.int)), .own (tD b), .no] := by
    unfold S_told_in_2
    simp only [nl1, nl2, nl3, nl4, nc2, nc3, nc4, ix20, ix21, ix30, ix31, ix32, eq_self, isi_ii, isi_ib, isi_is, isi_itl, isi_ntl, isi_tt, isN_n, isN_i, tup2, z_eqI, z_neI, si0, si1, si2, tn0, tn1, tn2, tn3, List.nil_append, List.cons_append, sSeq, sSet, sIf, sRet, sItem, sDrop, sNil, eN, eI, tP, p2, p1, fV, fC, psC, psN, eaC, eaN, e1, e2, pBl, pAnd, pOr, pNot, pIf, eIf, on1_, on2_, List.getElem?_cons_zero, List.getElem?_cons_succ, List.set_cons_zero, List.set_cons_succ, Option.bind_some, Option.map_some, Sl.val, Sl.isInn, z_ixL, z_ixT, at0, at1, at2, at3, r_of, r_bind, r_thn, s_nx, s_ret, z_nx, z_asB, z_len, z_lenT, z_addI, z_mulR, z_mulL, z_sub, z_lt, z_le, z_gt, z_ge, z_mod, z_div, z_max2, z_min2, setSl, updP, modP, valAt, getP, setP, setV, pIdx, pRoot, z_ixN, z_setI, List.length_map, List.length_cons, List.length_nil, if_true, if_false, Bool.false_eq_true, Bool.not_true, Bool.not_false, decide_true, decide_false, sUnp, ast_t, setAll, sPar, sPar3, stp_l, stp_t, g1_l, g1_t, s1_l, s1_t, Nat.reduceBEq, asq_t, asq_l, sFor, iE, iBor, iLock, unlk, id_eq, z_lst0, imm, immL, sClr, m_nx, m_ret, m_exc, m_brk, m_ct, s_exc, s_brk, s_ct, c_nil, c_cons, clr1, e2v, e2p, sFldD, pFld, fP, eMethP, eMethR, List.contains_nil, List.contains_cons, Bool.or_false, fnR, mkc, okAr, okLe, arN, arL, bk, valO, qN, qV, qI, qL, gV, gI, gL, rP, eCall, ofP, eMut, tyok_l, tyok_dk, tyok_dt, ofM, eMake, mkR, pI, eMv, List.append_nil, r_thnx, eDisp, pCall, pMeth, lnd, List.length_append, List.length_replicate, List.replicate, Bool.and_true, Bool.true_and, Bool.and_self, beq_self_eq_true, List.all_nil, List.all_cons, ite_seq, ite_map, ite_bind, ite_thn, sWhile, w]
  unfold tStep
  generalize parse (a.2 ++ b).length (a.2 ++ b) = p at *
  obtain ⟨pa, pl⟩ := p
  simp only at q ⊢
  have n := z_nNil (ds := pl.map D.int) (shp_ints _ _)
  rw [z_empty] at n
  unfold L_told_in_3
  cases pl with
  | nil =>
    have n' : fNe (.lst []) (.lst []) = some (.bl false) := n
    rw [if_neg (fun z => z.1 rfl)]
    simp only [List.map_nil] at q
    simp only [nl1, nl2, nl3, nl4, nc2, nc3, nc4, ix20, ix21, ix30, ix31, ix32, eq_self, isi_ii, isi_ib, isi_is, isi_itl, isi_ntl, isi_tt, isN_n, isN_i, tup2, z_eqI, z_neI, si0, si1, si2, tn0, tn1, tn2, tn3, List.nil_append, List.cons_append, sSeq, sSet, sIf, sRet, sItem, sDrop, sNil, eN, eI, tP, p2, p1, fV, fC, psC, psN, eaC, eaN, e1, e2, pBl, pAnd, pOr, pNot, pIf, eIf, on1_, on2_, List.getElem?_cons_zero, List.getElem?_cons_succ, List.set_cons_zero, List.set_cons_succ, Option.bind_some, Option.map_some, Sl.val, Sl.isInn, z_ixL, z_ixT, at0, at1, at2, at3, r_of, r_bind, r_thn, s_nx, s_ret, z_nx, z_asB, z_len, z_lenT, z_addI, z_mulR, z_mulL, z_sub, z_lt, z_le, z_gt, z_ge, z_mod, z_div, z_max2, z_min2, setSl, updP, modP, valAt, getP, setP, setV, pIdx, pRoot, z_ixN, z_setI, List.length_map, List.length_cons, List.length_nil, if_true, if_false, Bool.false_eq_true, Bool.not_true, Bool.not_false, decide_true, decide_false, sUnp, ast_t, setAll, sPar, sPar3, stp_l, stp_t, g1_l, g1_t, s1_l, s1_t, Nat.reduceBEq, asq_t, asq_l, sFor, iE, iBor, iLock, unlk, id_eq, z_lst0, imm, immL, sClr, m_nx, m_ret, m_exc, m_brk, m_ct, s_exc, s_brk, s_ct, c_nil, c_cons, clr1, e2v, e2p, sFldD, pFld, fP, eMethP, eMethR, List.contains_nil, List.contains_cons, Bool.or_false, fnR, mkc, okAr, okLe, arN, arL, bk, valO, qN, qV, qI, qL, gV, gI, gL, rP, eCall, ofP, eMut, tyok_l, tyok_dk, tyok_dt, ofM, eMake, mkR, pI, eMv, List.append_nil, r_thnx, eDisp, pCall, pMeth, lnd, List.length_append, List.length_replicate, List.replicate, Bool.and_true, Bool.true_and, Bool.and_self, beq_self_eq_true, List.all_nil, List.all_cons, ite_seq, ite_map, ite_bind, ite_thn, li, ad, ↓q, n', List.map_nil]
  | cons y pl =>
    have n' : fNe (.lst (D.int y :: pl.map D.int)) (.lst []) = some (.bl true) := n
    have g0 : atI (D.int y :: pl.map D.int) 0 = some (.int y) := at0 _ _
    rw [List.map_cons] at q
    have gd : (y :: pl).getD 0 0 = y := rfl
    rw [gd]
    by_cases c : y = 0
    · subst c
      rw [if_pos ⟨by simp, rfl⟩]
      simp only [nl1, nl2, nl3, nl4, nc2, nc3, nc4, ix20, ix21, ix30, ix31, ix32, eq_self, isi_ii, isi_ib, isi_is, isi_itl, isi_ntl, isi_tt, isN_n, isN_i, tup2, z_eqI, z_neI, si0, si1, si2, tn0, tn1, tn2, tn3, List.nil_append, List.cons_append, sSeq, sSet, sIf, sRet, sItem, sDrop, sNil, eN, eI, tP, p2, p1, fV, fC, psC, psN, eaC, eaN, e1, e2, pBl, pAnd, pOr, pNot, pIf, eIf, on1_, on2_, List.getElem?_cons_zero, List.getElem?_cons_succ, List.set_cons_zero, List.set_cons_succ, Option.bind_some, Option.map_some, Sl.val, Sl.isInn, z_ixL, z_ixT, at0, at1, at2, at3, r_of, r_bind, r_thn, s_nx, s_ret, z_nx, z_asB, z_len, z_lenT, z_addI, z_mulR, z_mulL, z_sub, z_lt, z_le, z_gt, z_ge, z_mod, z_div, z_max2, z_min2, setSl, updP, modP, valAt, getP, setP, setV, pIdx, pRoot, z_ixN, z_setI, List.length_map, List.length_cons, List.length_nil, if_true, if_false, Bool.false_eq_true, Bool.not_true, Bool.not_false, decide_true, decide_false, sUnp, ast_t, setAll, sPar, sPar3, stp_l, stp_t, g1_l, g1_t, s1_l, s1_t, Nat.reduceBEq, asq_t, asq_l, sFor, iE, iBor, iLock, unlk, id_eq, z_lst0, imm, immL, sClr, m_nx, m_ret, m_exc, m_brk, m_ct, s_exc, s_brk, s_ct, c_nil, c_cons, clr1, e2v, e2p, sFldD, pFld, fP, eMethP, eMethR, List.contains_nil, List.contains_cons, Bool.or_false, fnR, mkc, okAr, okLe, arN, arL, bk, valO, qN, qV, qI, qL, gV, gI, gL, rP, eCall, ofP, eMut, tyok_l, tyok_dk, tyok_dt, ofM, eMake, mkR, pI, eMv, List.append_nil, r_thnx, eDisp, pCall, pMeth, lnd, List.length_append, List.length_replicate, List.replicate, Bool.and_true, Bool.true_and, Bool.and_self, beq_self_eq_true, List.all_nil, List.all_cons, ite_seq, ite_map, ite_bind, ite_thn, li, ad, ↓q, n', g0, decide_true]
      rfl
    · rw [if_neg (fun z => c z.2)]
      simp only [nl1, nl2, nl3, nl4, nc2, nc3, nc4, ix20, ix21, ix30, ix31, ix32, eq_self, isi_ii, isi_ib, isi_is, isi_itl, isi_ntl, isi_tt, isN_n, isN_i, tup2, z_eqI, z_neI, si0, si1, si2, tn0, tn1, tn2, tn3, List.nil_append, List.cons_append, sSeq, sSet, sIf, sRet, sItem, sDrop, sNil, eN, eI, tP, p2, p1, fV, fC, psC, psN, eaC, eaN, e1, e2, pBl, pAnd, pOr, pNot, pIf, eIf, on1_, on2_, List.getElem?_cons_zero, List.getElem?_cons_succ, List.set_cons_zero, List.set_cons_succ, Option.bind_some, Option.map_some, Sl.val, Sl.isInn, z_ixL, z_ixT, at0, at1, at2, at3, r_of, r_bind, r_thn, s_nx, s_ret, z_nx, z_asB, z_len, z_lenT, z_addI, z_mulR, z_mulL, z_sub, z_lt, z_le, z_gt, z_ge, z_mod, z_div, z_max2, z_min2, setSl, updP, modP, valAt, getP, setP, setV, pIdx, pRoot, z_ixN, z_setI, List.length_map, List.length_cons, List.length_nil, if_true, if_false, Bool.false_eq_true, Bool.not_true, Bool.not_false, decide_true, decide_false, sUnp, ast_t, setAll, sPar, sPar3, stp_l, stp_t, g1_l, g1_t, s1_l, s1_t, Nat.reduceBEq, asq_t, asq_l, sFor, iE, iBor, iLock, unlk, id_eq, z_lst0, imm, immL, sClr, m_nx, m_ret, m_exc, m_brk, m_ct, s_exc, s_brk, s_ct, c_nil, c_cons, clr1, e2v, e2p, sFldD, pFld, fP, eMethP, eMethR, List.contains_nil, List.contains_cons, Bool.or_false, fnR, mkc, okAr, okLe, arN, arL, bk, valO, qN, qV, qI, qL, gV, gI, gL, rP, eCall, ofP, eMut, tyok_l, tyok_dk, tyok_dt, ofM, eMake, mkR, pI, eMv, List.append_nil, r_thnx, eDisp, pCall, pMeth, lnd, List.length_append, List.length_replicate, List.replicate, Bool.and_true, Bool.true_and, Bool.and_self, beq_self_eq_true, List.all_nil, List.all_cons, ite_seq, ite_map, ite_bind, ite_thn, li, ad, ↓q, n', g0, c, decide_false]
      rfl
theorem toldin_ev (bs : List (List Int)) (hl : tot bs ≤ 90000) : F_told_in [.bor (.lst (bs.map tD)), .no, .no, .no, .no] = .ret (.lst ((toldIn bs).map tP2)) [.bor (.lst (bs.map tD)), .no, .no, .no, .no] := by
  obtain ⟨f1, _⟩ := for_fold (f := tD) (S := fun a : List (Int × List Int) × List Int => [.bor (.lst (bs.map tD)), .own (.lst (a.1.map tP2)), .own (.lst (a.2.map D.int)), .no, .no]) (g := tStep) (P := fun l a => a.1.length + a.2.length + tot l ≤ 90000) (st := lendSl 3) (body := L_told_in_3)
    (fun b l a hp => by
      have e : tot (b :: l) = b.length + tot l := by unfold tot; rw [List.map_cons, List.sum_cons]
      rw [e] at hp
      have := tStep_len a b
      refine ⟨⟨[.bor (.lst (bs.map tD)), .own (.lst (a.1.map tP2)), .own (.lst (a.2.map D.int)), .own (tD b), .no], ?_, tstep_ev _ a b (by omega)⟩, by omega⟩
      have im : imm (tD b) = true := imm_tD' b
      simp [lendSl, im, Sl.isInn]) bs ([], []) (by simpa using hl)
  have q : S_told_in_4 [.bor (.lst (bs.map tD)), .own (.lst []), .own (.lst []), .no, .no] = .nx [.bor (.lst (bs.map tD)), .own (.lst ((toldIn bs).map tP2)), .no, .no, .no] := by
    simp only [List.map_nil] at f1
    unfold S_told_in_4
    simp only [nl1, nl2, nl3, nl4, nc2, nc3, nc4, ix20, ix21, ix30, ix31, ix32, eq_self, isi_ii, isi_ib, isi_is, isi_itl, isi_ntl, isi_tt, isN_n, isN_i, tup2, z_eqI, z_neI, si0, si1, si2, tn0, tn1, tn2, tn3, List.nil_append, List.cons_append, sSeq, sSet, sIf, sRet, sItem, sDrop, sNil, eN, eI, tP, p2, p1, fV, fC, psC, psN, eaC, eaN, e1, e2, pBl, pAnd, pOr, pNot, pIf, eIf, on1_, on2_, List.getElem?_cons_zero, List.getElem?_cons_succ, List.set_cons_zero, List.set_cons_succ, Option.bind_some, Option.map_some, Sl.val, Sl.isInn, z_ixL, z_ixT, at0, at1, at2, at3, r_of, r_bind, r_thn, s_nx, s_ret, z_nx, z_asB, z_len, z_lenT, z_addI, z_mulR, z_mulL, z_sub, z_lt, z_le, z_gt, z_ge, z_mod, z_div, z_max2, z_min2, setSl, updP, modP, valAt, getP, setP, setV, pIdx, pRoot, z_ixN, z_setI, List.length_map, List.length_cons, List.length_nil, if_true, if_false, Bool.false_eq_true, Bool.not_true, Bool.not_false, decide_true, decide_false, sUnp, ast_t, setAll, sPar, sPar3, stp_l, stp_t, g1_l, g1_t, s1_l, s1_t, Nat.reduceBEq, asq_t, asq_l, sFor, iE, iBor, iLock, unlk, id_eq, z_lst0, imm, immL, sClr, m_nx, m_ret, m_exc, m_brk, m_ct, s_exc, s_brk, s_ct, c_nil, c_cons, clr1, e2v, e2p, sFldD, pFld, fP, eMethP, eMethR, List.contains_nil, List.contains_cons, Bool.or_false, fnR, mkc, okAr, okLe, arN, arL, bk, valO, qN, qV, qI, qL, gV, gI, gL, rP, eCall, ofP, eMut, tyok_l, tyok_dk, tyok_dt, ofM, eMake, mkR, pI, eMv, List.append_nil, r_thnx, eDisp, pCall, pMeth, lnd, List.length_append, List.length_replicate, List.replicate, Bool.and_true, Bool.true_and, Bool.and_self, beq_self_eq_true, List.all_nil, List.all_cons, ite_seq, ite_map, ite_bind, ite_thn, f1]
    rfl
  unfold F_told_in
  simp only [nl1, nl2, nl3, nl4, nc2, nc3, nc4, ix20, ix21, ix30, ix31, ix32, eq_self, isi_ii, isi_ib, isi_is, isi_itl, isi_ntl, isi_tt, isN_n, isN_i, tup2, z_eqI, z_neI, si0, si1, si2, tn0, tn1, tn2, tn3, List.nil_append, List.cons_append, sSeq, sSet, sIf, sRet, sItem, sDrop, sNil, eN, eI, tP, p2, p1, fV, fC, psC, psN, eaC, eaN, e1, e2, pBl, pAnd, pOr, pNot, pIf, eIf, on1_, on2_, List.getElem?_cons_zero, List.getElem?_cons_succ, List.set_cons_zero, List.set_cons_succ, Option.bind_some, Option.map_some, Sl.val, Sl.isInn, z_ixL, z_ixT, at0, at1, at2, at3, r_of, r_bind, r_thn, s_nx, s_ret, z_nx, z_asB, z_len, z_lenT, z_addI, z_mulR, z_mulL, z_sub, z_lt, z_le, z_gt, z_ge, z_mod, z_div, z_max2, z_min2, setSl, updP, modP, valAt, getP, setP, setV, pIdx, pRoot, z_ixN, z_setI, List.length_map, List.length_cons, List.length_nil, if_true, if_false, Bool.false_eq_true, Bool.not_true, Bool.not_false, decide_true, decide_false, sUnp, ast_t, setAll, sPar, sPar3, stp_l, stp_t, g1_l, g1_t, s1_l, s1_t, Nat.reduceBEq, asq_t, asq_l, sFor, iE, iBor, iLock, unlk, id_eq, z_lst0, imm, immL, sClr, m_nx, m_ret, m_exc, m_brk, m_ct, s_exc, s_brk, s_ct, c_nil, c_cons, clr1, e2v, e2p, sFldD, pFld, fP, eMethP, eMethR, List.contains_nil, List.contains_cons, Bool.or_false, fnR, mkc, okAr, okLe, arN, arL, bk, valO, qN, qV, qI, qL, gV, gI, gL, rP, eCall, ofP, eMut, tyok_l, tyok_dk, tyok_dt, ofM, eMake, mkR, pI, eMv, List.append_nil, r_thnx, eDisp, pCall, pMeth, lnd, List.length_append, List.length_replicate, List.replicate, Bool.and_true, Bool.true_and, Bool.and_self, beq_self_eq_true, List.all_nil, List.all_cons, ite_seq, ite_map, ite_bind, ite_thn, ↓q]
end
end Dy.Pm

/-! Runs of frames. -/
namespace Dy.Pm
open PySem L2 Dy
noncomputable section
theorem ng1 : fNeg (.int 1) = some (.int (-1)) := rfl
theorem ixN_lst (n : Nat) : ixN (n + 1) (-1) = some n := by
  unfold ixN
  rw [if_neg (by omega), if_pos (by omega)]
  congr 1
  omega
theorem for_foldc {α β : Type} {f : α → D} {S : β → SS} {g : β → α → β} {P : List α → β → Prop} {st : D → SS → Option SS} {body : SS → RS} (h : ∀ x xs a, P (x :: xs) a → (∃ s1, st (f x) (S a) = some s1 ∧ (body s1 = .nx (S (g a x)) ∨ body s1 = .ct (S (g a x)))) ∧ P xs (g a x)) :
    ∀ (xs : List α) (a : β), P xs a → forL st body (xs.map f) (S a) = .nx (S (xs.foldl g a)) ∧ P [] (xs.foldl g a)
  | [], a, hp => ⟨rfl, hp⟩
  | x :: xs, a, hp => by
    obtain ⟨⟨s1, e1', e2'⟩, hp2⟩ := h x xs a hp
    obtain ⟨e3, hp3⟩ := for_foldc h xs (g a x) hp2
    refine ⟨?_, hp3⟩
    rw [List.map_cons, List.foldl_cons, forL]
    rcases e2' with e2' | e2' <;> simp only [e1', e2', e3]
def bD (bs : List (List Int)) : D := .lst (bs.map tD)
theorem shp_bD (n : Nat) (bs : List (List Int)) : shp (n + 2) (bD bs) = true := by
  unfold bD
  rw [shp_lst]
  exact shp_map (fun t => by simp only [tD, shp_tup, shp_ints]) bs
abbrev Rst := List (List (List Int)) × Option Int
def rStep (a : Rst) (f : Fm) : Rst :=
  if a.2 = some (f.ct - 1) ∧ a.1 ≠ [] then (a.1.dropLast ++ [a.1.getLast?.getD [] ++ [f.body]], some f.ct)
  else match f.fi with
    | some i => (a.1 ++ [[f.body.drop i.toNat]], some f.ct)
    | none => (a.1, none)
abbrev SR (x : Sl) (kn : List (Int × Fm)) (a : Rst) : SS := [x, .own (dmap Fm.d kn), .own (.lst (a.1.map bD)), .own (eO a.2), .no, .no, .no, .no, .no]
theorem F_parts (f : Fm) : f.d = .tup [.int f.st, .int f.ct, eO f.fi, tD f.body] := rfl
theorem eq_eO (o : Option Int) (i : Int) : fEq (eO o) (.int i) = some (.bl (decide (o = some i))) := by
  cases o with
  | none => rw [z_eq (shp_eO 60 none) (shp_int _ _)]; rfl
  | some j =>
    show fEq (.int j) (.int i) = _
    rw [z_eqI]
    by_cases h : j = i <;> simp [h]
theorem ne_runs (l : List (List (List Int))) : fNe (.lst (l.map bD)) (.lst []) = some (.bl (!l.isEmpty)) := by
  have := z_nNil (ds := l.map bD) (shp_map (shp_bD 57) l)
  rw [z_empty] at this
  exact this
theorem eO_nN (o : Option Int) : fNotN (eO o) .non = some (.bl (!decide (o = none))) := by cases o <;> simp [eO] <;> rfl
theorem rstep_ev (x : Sl) (kn : List (Int × Fm)) (a : Rst) (f : Fm) (hk : getT kn f.ct = some f) (hi : ∀ i, f.fi = some i → 0 ≤ i) (hl : a.1.length ≤ 90000) (hb : ∀ r ∈ a.1, r.length ≤ 90000) :
    L_runs_of_2 ((SR x kn a).set 4 (.own (.int f.ct))) = .nx (SR x kn (rStep a f)) ∨ L_runs_of_2 ((SR x kn a).set 4 (.own (.int f.ct))) = .ct (SR x kn (rStep a f)) := by
  obtain ⟨fd, last⟩ := a
  have fx := fix_ev Fm.d hk
  rw [F_parts] at fx
  have im : imm (tD f.body) = true := imm_tD' f.body
  have ie := imm_eO f.fi
  have nl := eO_nN last
  have nf := eO_nN f.fi
  have ne := ne_runs fd
  have eq := eq_eO last (f.ct - 1)
  have asI : ∀ x : Int, asInt (.int x) = some x := fun _ => rfl
  by_cases c : last = some (f.ct - 1) ∧ fd ≠ []
  · left
    obtain ⟨rfl, cn⟩ := c
    rcases List.eq_nil_or_concat fd with rfl | ⟨ini, r, rfl⟩
    · exact (cn rfl).elim
    · rw [List.concat_eq_append] at *
      have rl := hb r (by simp)
      have e : rStep (ini ++ [r], some (f.ct - 1)) f = (ini ++ [r ++ [f.body]], some f.ct) := by
        unfold rStep
        rw [if_pos ⟨rfl, by simp⟩]
        simp
      rw [e]
      have il := ixN_lst ini.length
      have l1 : (List.map bD ini ++ [bD r]).length = ini.length + 1 := by simp
      have gt : (List.map bD ini ++ [bD r])[ini.length]? = some (bD r) := by
        rw [List.getElem?_append_right (by simp)]; simp
      have st : ∀ y : D, (List.map bD ini ++ [bD r]).set ini.length y = List.map bD ini ++ [y] := fun y => by
        rw [List.set_append_right _ _ (by simp)]; simp
      have ap : fAppend (bD r) [tD f.body] = some (.non, bD (r ++ [f.body])) := by
        unfold bD
        exact z_appM (f := tD) (xs := r) (x := f.body) (by omega)
      have n1 := ne_runs (ini ++ [r])
      have n2 := ne_runs (ini ++ [r ++ [f.body]])
      have ms : ∀ z : List (List Int), (ini ++ [z]).map bD = List.map bD ini ++ [bD z] := fun z => by simp
      rw [ms, show (ini ++ [r]).isEmpty = false by simp] at n1
      rw [ms, show (ini ++ [r ++ [f.body]]).isEmpty = false by simp] at n2
      have tk : tyOkD "list" (bD r) = true := rfl
      have nl' : fNotN (.int (f.ct - 1)) .non = some (.bl true) := rfl
      unfold L_runs_of_2
      simp only [SR, ms, eO]
      simp only [nl1, nl2, nl3, nl4, nc2, nc3, nc4, ix20, ix21, ix30, ix31, ix32, eq_self, isi_ii, isi_ib, isi_is, isi_itl, isi_ntl, isi_tt, isN_n, isN_i, tup2, z_eqI, z_neI, si0, si1, si2, tn0, tn1, tn2, tn3, List.nil_append, List.cons_append, sSeq, sSet, sIf, sRet, sItem, sDrop, sNil, eN, eI, tP, p2, p1, fV, fC, psC, psN, eaC, eaN, e1, e2, pBl, pAnd, pOr, pNot, pIf, eIf, on1_, on2_, List.getElem?_cons_zero, List.getElem?_cons_succ, List.set_cons_zero, List.set_cons_succ, Option.bind_some, Option.map_some, Sl.val, Sl.isInn, z_ixL, z_ixT, at0, at1, at2, at3, r_of, r_bind, r_thn, s_nx, s_ret, z_nx, z_asB, z_len, z_lenT, z_addI, z_mulR, z_mulL, z_sub, z_lt, z_le, z_gt, z_ge, z_mod, z_div, z_max2, z_min2, setSl, updP, modP, valAt, getP, setP, setV, pIdx, pRoot, z_ixN, z_setI, List.length_map, List.length_cons, List.length_nil, if_true, if_false, Bool.false_eq_true, Bool.not_true, Bool.not_false, decide_true, decide_false, sUnp, ast_t, setAll, sPar, sPar3, stp_l, stp_t, g1_l, g1_t, s1_l, s1_t, Nat.reduceBEq, asq_t, asq_l, sFor, iE, iBor, iLock, unlk, id_eq, z_lst0, imm, immL, sClr, m_nx, m_ret, m_exc, m_brk, m_ct, s_exc, s_brk, s_ct, c_nil, c_cons, clr1, e2v, e2p, sFldD, pFld, fP, eMethP, eMethR, List.contains_nil, List.contains_cons, Bool.or_false, fnR, mkc, okAr, okLe, arN, arL, bk, valO, qN, qV, qI, qL, gV, gI, gL, rP, eCall, ofP, eMut, tyok_l, tyok_dk, tyok_dt, ofM, eMake, mkR, pI, eMv, List.append_nil, r_thnx, eDisp, pCall, pMeth, lnd, List.length_append, List.length_replicate, List.replicate, Bool.and_true, Bool.true_and, Bool.and_self, beq_self_eq_true, List.all_nil, List.all_cons, ite_seq, ite_map, ite_bind, ite_thn, fx, ie, nl', n1, n2, ng1, stp_l, il, l1, g1_l, gt, tk, im, ap, s1_l, st]
  · have no : (!decide (last = none)) = true → last = some (f.ct - 1) → fd.isEmpty = true := fun _ z => by
      by_cases h : fd = []
      · rw [h]; rfl
      · exact (c ⟨z, h⟩).elim
    have e : rStep (fd, last) f = match f.fi with
        | some i => (fd ++ [[f.body.drop i.toNat]], some f.ct)
        | none => (fd, none) := by
      unfold rStep
      rw [if_neg c]
    rw [e]
    cases ef : f.fi with
    | some i =>
      right
      rw [ef] at fx ie
      have i0 := hi i ef
      have sl : fSl (tD f.body) (some i) none = some (tD (f.body.drop i.toNat)) := by
        unfold tD
        rw [z_slT (z_imm f.body), cut_l i0, ← List.map_drop]
      have gl : gLstD [tD (f.body.drop i.toNat)] = some (bD [f.body.drop i.toNat]) := rfl
      have ap := z_appM (f := bD) (xs := fd) (x := [f.body.drop i.toNat]) (by
        have : fd.length ≤ 90000 := hl
        omega)
      have n6 : fNotN (.int i) .non = some (.bl true) := rfl
      unfold L_runs_of_2
      cases last with
      | none =>
        have nl' : fNotN .non .non = some (.bl false) := rfl
        simp only [SR, eO] at *
        simp only [nl1, nl2, nl3, nl4, nc2, nc3, nc4, ix20, ix21, ix30, ix31, ix32, eq_self, isi_ii, isi_ib, isi_is, isi_itl, isi_ntl, isi_tt, isN_n, isN_i, tup2, z_eqI, z_neI, si0, si1, si2, tn0, tn1, tn2, tn3, List.nil_append, List.cons_append, sSeq, sSet, sIf, sRet, sItem, sDrop, sNil, eN, eI, tP, p2, p1, fV, fC, psC, psN, eaC, eaN, e1, e2, pBl, pAnd, pOr, pNot, pIf, eIf, on1_, on2_, List.getElem?_cons_zero, List.getElem?_cons_succ, List.set_cons_zero, List.set_cons_succ, Option.bind_some, Option.map_some, Sl.val, Sl.isInn, z_ixL, z_ixT, at0, at1, at2, at3, r_of, r_bind, r_thn, s_nx, s_ret, z_nx, z_asB, z_len, z_lenT, z_addI, z_mulR, z_mulL, z_sub, z_lt, z_le, z_gt, z_ge, z_mod, z_div, z_max2, z_min2, setSl, updP, modP, valAt, getP, setP, setV, pIdx, pRoot, z_ixN, z_setI, List.length_map, List.length_cons, List.length_nil, if_true, if_false, Bool.false_eq_true, Bool.not_true, Bool.not_false, decide_true, decide_false, sUnp, ast_t, setAll, sPar, sPar3, stp_l, stp_t, g1_l, g1_t, s1_l, s1_t, Nat.reduceBEq, asq_t, asq_l, sFor, iE, iBor, iLock, unlk, id_eq, z_lst0, imm, immL, sClr, m_nx, m_ret, m_exc, m_brk, m_ct, s_exc, s_brk, s_ct, c_nil, c_cons, clr1, e2v, e2p, sFldD, pFld, fP, eMethP, eMethR, List.contains_nil, List.contains_cons, Bool.or_false, fnR, mkc, okAr, okLe, arN, arL, bk, valO, qN, qV, qI, qL, gV, gI, gL, rP, eCall, ofP, eMut, tyok_l, tyok_dk, tyok_dt, ofM, eMake, mkR, pI, eMv, List.append_nil, r_thnx, eDisp, pCall, pMeth, lnd, List.length_append, List.length_replicate, List.replicate, Bool.and_true, Bool.true_and, Bool.and_self, beq_self_eq_true, List.all_nil, List.all_cons, ite_seq, ite_map, ite_bind, ite_thn, sCt, im, fx, ie, nl', n6, pSl, oN, oS, asI, sl, gl, ap]
      | some j =>
        have nl' : fNotN (.int j) .non = some (.bl true) := rfl
        simp only [SR, eO] at *
        by_cases cj : j = f.ct - 1
        · have emp : fd.isEmpty = true := no (by simp) (by rw [cj])
          rw [emp] at ne
          subst cj
          simp only [nl1, nl2, nl3, nl4, nc2, nc3, nc4, ix20, ix21, ix30, ix31, ix32, eq_self, isi_ii, isi_ib, isi_is, isi_itl, isi_ntl, isi_tt, isN_n, isN_i, tup2, z_eqI, z_neI, si0, si1, si2, tn0, tn1, tn2, tn3, List.nil_append, List.cons_append, sSeq, sSet, sIf, sRet, sItem, sDrop, sNil, eN, eI, tP, p2, p1, fV, fC, psC, psN, eaC, eaN, e1, e2, pBl, pAnd, pOr, pNot, pIf, eIf, on1_, on2_, List.getElem?_cons_zero, List.getElem?_cons_succ, List.set_cons_zero, List.set_cons_succ, Option.bind_some, Option.map_some, Sl.val, Sl.isInn, z_ixL, z_ixT, at0, at1, at2, at3, r_of, r_bind, r_thn, s_nx, s_ret, z_nx, z_asB, z_len, z_lenT, z_addI, z_mulR, z_mulL, z_sub, z_lt, z_le, z_gt, z_ge, z_mod, z_div, z_max2, z_min2, setSl, updP, modP, valAt, getP, setP, setV, pIdx, pRoot, z_ixN, z_setI, List.length_map, List.length_cons, List.length_nil, if_true, if_false, Bool.false_eq_true, Bool.not_true, Bool.not_false, decide_true, decide_false, sUnp, ast_t, setAll, sPar, sPar3, stp_l, stp_t, g1_l, g1_t, s1_l, s1_t, Nat.reduceBEq, asq_t, asq_l, sFor, iE, iBor, iLock, unlk, id_eq, z_lst0, imm, immL, sClr, m_nx, m_ret, m_exc, m_brk, m_ct, s_exc, s_brk, s_ct, c_nil, c_cons, clr1, e2v, e2p, sFldD, pFld, fP, eMethP, eMethR, List.contains_nil, List.contains_cons, Bool.or_false, fnR, mkc, okAr, okLe, arN, arL, bk, valO, qN, qV, qI, qL, gV, gI, gL, rP, eCall, ofP, eMut, tyok_l, tyok_dk, tyok_dt, ofM, eMake, mkR, pI, eMv, List.append_nil, r_thnx, eDisp, pCall, pMeth, lnd, List.length_append, List.length_replicate, List.replicate, Bool.and_true, Bool.true_and, Bool.and_self, beq_self_eq_true, List.all_nil, List.all_cons, ite_seq, ite_map, ite_bind, ite_thn, sCt, im, fx, ie, nl', n6, pSl, oN, oS, asI, sl, gl, ap, ne, decide_true]
        · simp only [nl1, nl2, nl3, nl4, nc2, nc3, nc4, ix20, ix21, ix30, ix31, ix32, eq_self, isi_ii, isi_ib, isi_is, isi_itl, isi_ntl, isi_tt, isN_n, isN_i, tup2, z_eqI, z_neI, si0, si1, si2, tn0, tn1, tn2, tn3, List.nil_append, List.cons_append, sSeq, sSet, sIf, sRet, sItem, sDrop, sNil, eN, eI, tP, p2, p1, fV, fC, psC, psN, eaC, eaN, e1, e2, pBl, pAnd, pOr, pNot, pIf, eIf, on1_, on2_, List.getElem?_cons_zero, List.getElem?_cons_succ, List.set_cons_zero, List.set_cons_succ, Option.bind_some, Option.map_some, Sl.val, Sl.isInn, z_ixL, z_ixT, at0, at1, at2, at3, r_of, r_bind, r_thn, s_nx, s_ret, z_nx, z_asB, z_len, z_lenT, z_addI, z_mulR, z_mulL, z_sub, z_lt, z_le, z_gt, z_ge, z_mod, z_div, z_max2, z_min2, setSl, updP, modP, valAt, getP, setP, setV, pIdx, pRoot, z_ixN, z_setI, List.length_map, List.length_cons, List.length_nil, if_true, if_false, Bool.false_eq_true, Bool.not_true, Bool.not_false, decide_true, decide_false, sUnp, ast_t, setAll, sPar, sPar3, stp_l, stp_t, g1_l, g1_t, s1_l, s1_t, Nat.reduceBEq, asq_t, asq_l, sFor, iE, iBor, iLock, unlk, id_eq, z_lst0, imm, immL, sClr, m_nx, m_ret, m_exc, m_brk, m_ct, s_exc, s_brk, s_ct, c_nil, c_cons, clr1, e2v, e2p, sFldD, pFld, fP, eMethP, eMethR, List.contains_nil, List.contains_cons, Bool.or_false, fnR, mkc, okAr, okLe, arN, arL, bk, valO, qN, qV, qI, qL, gV, gI, gL, rP, eCall, ofP, eMut, tyok_l, tyok_dk, tyok_dt, ofM, eMake, mkR, pI, eMv, List.append_nil, r_thnx, eDisp, pCall, pMeth, lnd, List.length_append, List.length_replicate, List.replicate, Bool.and_true, Bool.true_and, Bool.and_self, beq_self_eq_true, List.all_nil, List.all_cons, ite_seq, ite_map, ite_bind, ite_thn, sCt, im, fx, ie, nl', n6, pSl, oN, oS, asI, sl, gl, ap, cj, decide_false]
    | none =>
      left
      rw [ef] at fx ie
      have n6 : fNotN .non .non = some (.bl false) := rfl
      unfold L_runs_of_2
      cases last with
      | none =>
        have e9 : fEq .non (.int (f.ct - 1)) = some (.bl false) := eq
        simp only [SR, eO] at *
        cases emp : fd.isEmpty <;> rw [emp] at ne <;> simp only [nl1, nl2, nl3, nl4, nc2, nc3, nc4, ix20, ix21, ix30, ix31, ix32, eq_self, isi_ii, isi_ib, isi_is, isi_itl, isi_ntl, isi_tt, isN_n, isN_i, tup2, z_eqI, z_neI, si0, si1, si2, tn0, tn1, tn2, tn3, List.nil_append, List.cons_append, sSeq, sSet, sIf, sRet, sItem, sDrop, sNil, eN, eI, tP, p2, p1, fV, fC, psC, psN, eaC, eaN, e1, e2, pBl, pAnd, pOr, pNot, pIf, eIf, on1_, on2_, List.getElem?_cons_zero, List.getElem?_cons_succ, List.set_cons_zero, List.set_cons_succ, Option.bind_some, Option.map_some, Sl.val, Sl.isInn, z_ixL, z_ixT, at0, at1, at2, at3, r_of, r_bind, r_thn, s_nx, s_ret, z_nx, z_asB, z_len, z_lenT, z_addI, z_mulR, z_mulL, z_sub, z_lt, z_le, z_gt, z_ge, z_mod, z_div, z_max2, z_min2, setSl, updP, modP, valAt, getP, setP, setV, pIdx, pRoot, z_ixN, z_setI, List.length_map, List.length_cons, List.length_nil, if_true, if_false, Bool.false_eq_true, Bool.not_true, Bool.not_false, decide_true, decide_false, sUnp, ast_t, setAll, sPar, sPar3, stp_l, stp_t, g1_l, g1_t, s1_l, s1_t, Nat.reduceBEq, asq_t, asq_l, sFor, iE, iBor, iLock, unlk, id_eq, z_lst0, imm, immL, sClr, m_nx, m_ret, m_exc, m_brk, m_ct, s_exc, s_brk, s_ct, c_nil, c_cons, clr1, e2v, e2p, sFldD, pFld, fP, eMethP, eMethR, List.contains_nil, List.contains_cons, Bool.or_false, fnR, mkc, okAr, okLe, arN, arL, bk, valO, qN, qV, qI, qL, gV, gI, gL, rP, eCall, ofP, eMut, tyok_l, tyok_dk, tyok_dt, ofM, eMake, mkR, pI, eMv, List.append_nil, r_thnx, eDisp, pCall, pMeth, lnd, List.length_append, List.length_replicate, List.replicate, Bool.and_true, Bool.true_and, Bool.and_self, beq_self_eq_true, List.all_nil, List.all_cons, ite_seq, ite_map, ite_bind, ite_thn, im, fx, ie, n6, ne, e9]
      | some j =>
        have nl' : fNotN (.int j) .non = some (.bl true) := rfl
        simp only [SR, eO] at *
        by_cases cj : j = f.ct - 1
        · have emp : fd.isEmpty = true := no (by simp) (by rw [cj])
          rw [emp] at ne
          subst cj
          simp only [nl1, nl2, nl3, nl4, nc2, nc3, nc4, ix20, ix21, ix30, ix31, ix32, eq_self, isi_ii, isi_ib, isi_is, isi_itl, isi_ntl, isi_tt, isN_n, isN_i, tup2, z_eqI, z_neI, si0, si1, si2, tn0, tn1, tn2, tn3, List.nil_append, List.cons_append, sSeq, sSet, sIf, sRet, sItem, sDrop, sNil, eN, eI, tP, p2, p1, fV, fC, psC, psN, eaC, eaN, e1, e2, pBl, pAnd, pOr, pNot, pIf, eIf, on1_, on2_, List.getElem?_cons_zero, List.getElem?_cons_succ, List.set_cons_zero, List.set_cons_succ, Option.bind_some, Option.map_some, Sl.val, Sl.isInn, z_ixL, z_ixT, at0, at1, at2, at3, r_of, r_bind, r_thn, s_nx, s_ret, z_nx, z_asB, z_len, z_lenT, z_addI, z_mulR, z_mulL, z_sub, z_lt, z_le, z_gt, z_ge, z_mod, z_div, z_max2, z_min2, setSl, updP, modP, valAt, getP, setP, setV, pIdx, pRoot, z_ixN, z_setI, List.length_map, List.length_cons, List.length_nil, if_true, if_false, Bool.false_eq_true, Bool.not_true, Bool.not_false, decide_true, decide_false, sUnp, ast_t, setAll, sPar, sPar3, stp_l, stp_t, g1_l, g1_t, s1_l, s1_t, Nat.reduceBEq, asq_t, asq_l, sFor, iE, iBor, iLock, unlk, id_eq, z_lst0, imm, immL, sClr, m_nx, m_ret, m_exc, m_brk, m_ct, s_exc, s_brk, s_ct, c_nil, c_cons, clr1, e2v, e2p, sFldD, pFld, fP, eMethP, eMethR, List.contains_nil, List.contains_cons, Bool.or_false, fnR, mkc, okAr, okLe, arN, arL, bk, valO, qN, qV, qI, qL, gV, gI, gL, rP, eCall, ofP, eMut, tyok_l, tyok_dk, tyok_dt, ofM, eMake, mkR, pI, eMv, List.append_nil, r_thnx, eDisp, pCall, pMeth, lnd, List.length_append, List.length_replicate, List.replicate, Bool.and_true, Bool.true_and, Bool.and_self, beq_self_eq_true, List.all_nil, List.all_cons, ite_seq, ite_map, ite_bind, ite_thn, im, fx, ie, nl', n6, ne, decide_true]
        · cases emp : fd.isEmpty <;> rw [emp] at ne <;> simp only [nl1, nl2, nl3, nl4, nc2, nc3, nc4, ix20, ix21, ix30, ix31, ix32, eq_self, isi_ii, isi_ib, isi_is, isi_itl, isi_ntl, isi_tt, isN_n, isN_i, tup2, z_eqI, z_neI, si0, si1, si2, tn0, tn1, tn2, tn3, List.nil_append, List.cons_append, sSeq, sSet, sIf, sRet, sItem, sDrop, sNil, eN, eI, tP, p2, p1, fV, fC, psC, psN, eaC, eaN, e1, e2, pBl, pAnd, pOr, pNot, pIf, eIf, on1_, on2_, List.getElem?_cons_zero, List.getElem?_cons_succ, List.set_cons_zero, List.set_cons_succ, Option.bind_some, Option.map_some, Sl.val, Sl.isInn, z_ixL, z_ixT, at0, at1, at2, at3, r_of, r_bind, r_thn, s_nx, s_ret, z_nx, z_asB, z_len, z_lenT, z_addI, z_mulR, z_mulL, z_sub, z_lt, z_le, z_gt, z_ge, z_mod, z_div, z_max2, z_min2, setSl, updP, modP, valAt, getP, setP, setV, pIdx, pRoot, z_ixN, z_setI, List.length_map, List.length_cons, List.length_nil, if_true, if_false, Bool.false_eq_true, Bool.not_true, Bool.not_false, decide_true, decide_false, sUnp, ast_t, setAll, sPar, sPar3, stp_l, stp_t, g1_l, g1_t, s1_l, s1_t, Nat.reduceBEq, asq_t, asq_l, sFor, iE, iBor, iLock, unlk, id_eq, z_lst0, imm, immL, sClr, m_nx, m_ret, m_exc, m_brk, m_ct, s_exc, s_brk, s_ct, c_nil, c_cons, clr1, e2v, e2p, sFldD, pFld, fP, eMethP, eMethR, List.contains_nil, List.contains_cons, Bool.or_false, fnR, mkc, okAr, okLe, arN, arL, bk, valO, qN, qV, qI, qL, gV, gI, gL, rP, eCall, ofP, eMut, tyok_l, tyok_dk, tyok_dt, ofM, eMake, mkR, pI, eMv, List.append_nil, r_thnx, eDisp, pCall, pMeth, lnd, List.length_append, List.length_replicate, List.replicate, Bool.and_true, Bool.true_and, Bool.and_self, beq_self_eq_true, List.all_nil, List.all_cons, ite_seq, ite_map, ite_bind, ite_thn, im, fx, ie, nl', n6, cj, ne, decide_false]
/-! ### frames by their counts -/
section
variable {α : Type}
theorem getT_mem : ∀ {l : List (Int × α)} {k : Int} {x : α}, getT l k = some x → (k, x) ∈ l
  | [], k, x, h => by cases h
  | (g, y) :: l, k, x, h => by
    unfold getT at h
    split at h
    · rename_i e; cases h; rw [e]; exact List.mem_cons_self
    · exact List.mem_cons_of_mem _ (getT_mem h)
theorem getT_some : ∀ {l : List (Int × α)} {k : Int}, k ∈ l.map (·.1) → ∃ x, getT l k = some x
  | [], k, h => by cases h
  | (g, y) :: l, k, h => by
    unfold getT
    by_cases e : g = k
    · rw [if_pos e]; exact ⟨y, rfl⟩
    · rw [if_neg e]
      rcases List.mem_cons.mp h with h | h
      · exact (e h.symm).elim
      · exact getT_some h
theorem put_mem : ∀ {l : List (Int × α)} {k : Int} {x : α} {p : Int × α}, p ∈ putT l k x → p = (k, x) ∨ p ∈ l
  | [], k, x, p, h => by
    simp [putT] at h; exact .inl h
  | (g, y) :: l, k, x, p, h => by
    unfold putT at h
    split at h
    · rename_i e
      rcases List.mem_cons.mp h with h | h
      · left; rw [h, e]
      · exact .inr (List.mem_cons_of_mem _ h)
    · rcases List.mem_cons.mp h with h | h
      · right; rw [h]; exact List.mem_cons_self
      · rcases put_mem h with h | h
        · exact .inl h
        · exact .inr (List.mem_cons_of_mem _ h)
theorem putAll_mem : ∀ {m l : List (Int × α)} {p : Int × α}, p ∈ putAll l m → p ∈ l ∨ p ∈ m
  | [], l, p, h => .inl h
  | (k, x) :: m, l, p, h => by
    rcases putAll_mem (m := m) (l := putT l k x) h with h | h
    · rcases put_mem h with h | h
      · right; rw [h]; exact List.mem_cons_self
      · exact .inl h
    · exact .inr (List.mem_cons_of_mem _ h)
end
def knw (fs : List Fm) : List (Int × Fm) := putAll [] (fs.map fun f => (f.ct, f))
def sfr (fs : List Fm) : List Fm := (isort ((knw fs).map (·.1))).filterMap (getT (knw fs))
def runs (fs : List Fm) : List (List (List Int)) := ((sfr fs).foldl rStep ([], none)).1
theorem knw_ct {fs : List Fm} {k : Int} {f : Fm} (h : getT (knw fs) k = some f) : f.ct = k ∧ f ∈ fs := by
  rcases putAll_mem (getT_mem h) with h | h
  · cases h
  · obtain ⟨g, hg, e⟩ := List.mem_map.mp h
    cases e
    exact ⟨rfl, hg⟩
theorem sfr_ct (fs : List Fm) : (sfr fs).map (fun f => f.ct) = isort ((knw fs).map (·.1)) ∧ ∀ f ∈ sfr fs, getT (knw fs) f.ct = some f ∧ f ∈ fs := by
  have key : ∀ ks : List Int, (∀ k ∈ ks, k ∈ (knw fs).map (·.1)) → (ks.filterMap (getT (knw fs))).map (fun f => f.ct) = ks ∧ ∀ f ∈ ks.filterMap (getT (knw fs)), getT (knw fs) f.ct = some f ∧ f ∈ fs := by
    intro ks
    induction ks with
    | nil => intro _; exact ⟨rfl, fun f hf => by cases hf⟩
    | cons k ks ih =>
      intro h
      obtain ⟨f, e⟩ := getT_some (h k (by simp))
      obtain ⟨i1, i2⟩ := ih fun x hx => h x (by simp [hx])
      obtain ⟨c1, c2⟩ := knw_ct e
      rw [List.filterMap_cons_some e]
      refine ⟨by rw [List.map_cons, i1, c1], fun g hg => ?_⟩
      rcases List.mem_cons.mp hg with rfl | hg
      · rw [c1]; exact ⟨e, c2⟩
      · exact i2 g hg
  exact key _ fun k hk => (isort_perm _).mem_iff.mp hk
theorem sfr_len (fs : List Fm) : (sfr fs).length ≤ fs.length := by
  have h := congrArg List.length (sfr_ct fs).1
  rw [List.length_map, (isort_perm _).length_eq, List.length_map] at h
  have := len_all (fs.map fun f => (f.ct, f)) []
  rw [List.length_map] at this
  rw [h]
  unfold knw
  simp only [List.length_nil] at this
  omega
theorem rStep_len (a : Rst) (f : Fm) (n : Nat) (h1 : a.1.length ≤ n) (h2 : ∀ r ∈ a.1, r.length ≤ n) : (rStep a f).1.length ≤ n + 1 ∧ ∀ r ∈ (rStep a f).1, r.length ≤ n + 1 := by
  obtain ⟨fd, last⟩ := a
  unfold rStep
  simp only at *
  split
  · rcases List.eq_nil_or_concat fd with rfl | ⟨ini, r, rfl⟩
    · simp
    · rw [List.concat_eq_append] at *
      simp only [List.dropLast_concat, List.getLast?_concat, Option.getD_some]
      refine ⟨by simp at h1 ⊢; omega, fun z hz => ?_⟩
      rcases List.mem_append.mp hz with hz | hz
      · have := h2 z (by simp [hz]); omega
      · simp at hz; subst hz
        have := h2 r (by simp)
        simp; omega
  · split
    · refine ⟨by simp; omega, fun z hz => ?_⟩
      rcases List.mem_append.mp hz with hz | hz
      · have := h2 z hz; omega
      · simp at hz; subst hz; simp
    · exact ⟨by show fd.length ≤ n + 1; omega, fun z hz => by have := h2 z hz; omega⟩
theorem runs_ev (fs : List Fm) (hi : ∀ f ∈ fs, ∀ i, f.fi = some i → 0 ≤ i) (hl : fs.length ≤ 50000) :
    F_runs_of [.bor (.lst (fs.map Fm.d)), .no, .no, .no, .no, .no, .no, .no, .no] = .ret (.lst ((runs fs).map bD)) [.bor (.lst (fs.map Fm.d)), .no, .no, .no, .no, .no, .no, .no, .no] := by
  have c : C_runs_of_1 [.bor (.lst (fs.map Fm.d)), .no, .no, .no, .no, .no, .no, .no, .no] = some (.lst ((fs.map fun f => (f.ct, f)).map (prD Fm.d))) := by
    have hc : clrC [8] [.bor (.lst (fs.map Fm.d)), .no, .no, .no, .no, .no, .no, .no, .no] = some [.bor (.lst (fs.map Fm.d)), .no, .no, .no, .no, .no, .no, .no, .no] := rfl
    unfold C_runs_of_1
    rw [pcmp_map Fm.d (fun f => prD Fm.d (f.ct, f)) fs rfl (imm_mapL imm_F _) (by omega) hc fun f _ => ⟨[.bor (.lst (fs.map Fm.d)), .no, .no, .no, .no, .no, .no, .no, .own f.d], ?_, ?_, ?_⟩]
    · rw [List.map_map]; rfl
    · have := imm_F f
      simp [lendSl, this, Sl.isInn]
    · have g1 : fIx f.d (.int 1) = some (.int f.ct) := by rw [F_parts, z_ixT, at1]
      have tp : fTup [.int f.ct, f.d] = some (prD Fm.d (f.ct, f)) := by
        rw [z_fTup (by simp [imm, immL, imm_F]) (by simp)]; rfl
      unfold E_runs_of_0
      simp only [nl1, nl2, nl3, nl4, nc2, nc3, nc4, ix20, ix21, ix30, ix31, ix32, eq_self, isi_ii, isi_ib, isi_is, isi_itl, isi_ntl, isi_tt, isN_n, isN_i, tup2, z_eqI, z_neI, si0, si1, si2, tn0, tn1, tn2, tn3, List.nil_append, List.cons_append, sSeq, sSet, sIf, sRet, sItem, sDrop, sNil, eN, eI, tP, p2, p1, fV, fC, psC, psN, eaC, eaN, e1, e2, pBl, pAnd, pOr, pNot, pIf, eIf, on1_, on2_, List.getElem?_cons_zero, List.getElem?_cons_succ, List.set_cons_zero, List.set_cons_succ, Option.bind_some, Option.map_some, Sl.val, Sl.isInn, z_ixL, z_ixT, at0, at1, at2, at3, r_of, r_bind, r_thn, s_nx, s_ret, z_nx, z_asB, z_len, z_lenT, z_addI, z_mulR, z_mulL, z_sub, z_lt, z_le, z_gt, z_ge, z_mod, z_div, z_max2, z_min2, setSl, updP, modP, valAt, getP, setP, setV, pIdx, pRoot, z_ixN, z_setI, List.length_map, List.length_cons, List.length_nil, if_true, if_false, Bool.false_eq_true, Bool.not_true, Bool.not_false, decide_true, decide_false, sUnp, ast_t, setAll, sPar, sPar3, stp_l, stp_t, g1_l, g1_t, s1_l, s1_t, Nat.reduceBEq, asq_t, asq_l, sFor, iE, iBor, iLock, unlk, id_eq, z_lst0, imm, immL, sClr, m_nx, m_ret, m_exc, m_brk, m_ct, s_exc, s_brk, s_ct, c_nil, c_cons, clr1, e2v, e2p, sFldD, pFld, fP, eMethP, eMethR, List.contains_nil, List.contains_cons, Bool.or_false, fnR, mkc, okAr, okLe, arN, arL, bk, valO, qN, qV, qI, qL, gV, gI, gL, rP, eCall, ofP, eMut, tyok_l, tyok_dk, tyok_dt, ofM, eMake, mkR, pI, eMv, List.append_nil, r_thnx, eDisp, pCall, pMeth, lnd, List.length_append, List.length_replicate, List.replicate, Bool.and_true, Bool.true_and, Bool.and_self, beq_self_eq_true, List.all_nil, List.all_cons, ite_seq, ite_map, ite_bind, ite_thn, g1, tp]
    · simp [prD, imm, immL, imm_F]
  have d := dict_ev Fm.d imm_F (fs.map fun f => (f.ct, f))
  have so := sortd_ev Fm.d (knw fs)
  obtain ⟨s1, s2⟩ := sfr_ct fs
  have sl := sfr_len fs
  have ks : (isort ((knw fs).map (·.1))).map D.int = (sfr fs).map fun f => D.int f.ct := by
    rw [← s1, List.map_map]; rfl
  have key := for_foldc (f := fun f : Fm => D.int f.ct) (S := fun a : Rst => SR (.bor (.lst (fs.map Fm.d))) (knw fs) a) (g := rStep)
    (P := fun l a => (∀ f ∈ l, f ∈ sfr fs) ∧ l.length ≤ 50000 ∧ a.1.length ≤ 50000 - l.length ∧ ∀ r ∈ a.1, r.length ≤ 50000 - l.length) (st := lendSl 4) (body := L_runs_of_2)
    (fun f l a ⟨q1, q2, q3, q4⟩ => by
      rw [List.length_cons] at q2 q3 q4
      obtain ⟨k1, k2⟩ := s2 f (q1 f (by simp))
      obtain ⟨r1, r2⟩ := rStep_len a f (50000 - (l.length + 1)) q3 q4
      refine ⟨⟨_, rfl, rstep_ev _ (knw fs) a f k1 (hi f k2) (by omega) fun r hr => by have := q4 r hr; omega⟩, fun g hg => q1 g (by simp [hg]), by omega, by omega, fun r hr => by have := r2 r hr; omega⟩)
    (sfr fs) ([], none) ⟨fun f hf => hf, by omega, by simp, by simp⟩
  obtain ⟨f1, _⟩ := key
  have q : S_runs_of_3 (SR (.bor (.lst (fs.map Fm.d))) (knw fs) ([], none)) = .nx [.bor (.lst (fs.map Fm.d)), .own (dmap Fm.d (knw fs)), .own (.lst ((runs fs).map bD)), .no, .no, .no, .no, .no, .no] := by
    have f1' : forL (lendSl 4) L_runs_of_2 ((isort ((knw fs).map (·.1))).map D.int) [.bor (.lst (fs.map Fm.d)), .own (dmap Fm.d (knw fs)), .own (.lst []), .own .non, .no, .no, .no, .no, .no] = .nx (SR (.bor (.lst (fs.map Fm.d))) (knw fs) ((sfr fs).foldl rStep ([], none))) := by rw [ks]; exact f1
    have il : ∀ L : List Int, immL (L.map D.int) = true := fun L => z_imm L
    unfold S_runs_of_3
    simp only [SR, eO, List.map_nil]
    simp only [nl1, nl2, nl3, nl4, nc2, nc3, nc4, ix20, ix21, ix30, ix31, ix32, eq_self, isi_ii, isi_ib, isi_is, isi_itl, isi_ntl, isi_tt, isN_n, isN_i, tup2, z_eqI, z_neI, si0, si1, si2, tn0, tn1, tn2, tn3, List.nil_append, List.cons_append, sSeq, sSet, sIf, sRet, sItem, sDrop, sNil, eN, eI, tP, p2, p1, fV, fC, psC, psN, eaC, eaN, e1, e2, pBl, pAnd, pOr, pNot, pIf, eIf, on1_, on2_, List.getElem?_cons_zero, List.getElem?_cons_succ, List.set_cons_zero, List.set_cons_succ, Option.bind_some, Option.map_some, Sl.val, Sl.isInn, z_ixL, z_ixT, at0, at1, at2, at3, r_of, r_bind, r_thn, s_nx, s_ret, z_nx, z_asB, z_len, z_lenT, z_addI, z_mulR, z_mulL, z_sub, z_lt, z_le, z_gt, z_ge, z_mod, z_div, z_max2, z_min2, setSl, updP, modP, valAt, getP, setP, setV, pIdx, pRoot, z_ixN, z_setI, List.length_map, List.length_cons, List.length_nil, if_true, if_false, Bool.false_eq_true, Bool.not_true, Bool.not_false, decide_true, decide_false, sUnp, ast_t, setAll, sPar, sPar3, stp_l, stp_t, g1_l, g1_t, s1_l, s1_t, Nat.reduceBEq, asq_t, asq_l, sFor, iE, iBor, iLock, unlk, id_eq, z_lst0, imm, immL, sClr, m_nx, m_ret, m_exc, m_brk, m_ct, s_exc, s_brk, s_ct, c_nil, c_cons, clr1, e2v, e2p, sFldD, pFld, fP, eMethP, eMethR, List.contains_nil, List.contains_cons, Bool.or_false, fnR, mkc, okAr, okLe, arN, arL, bk, valO, qN, qV, qI, qL, gV, gI, gL, rP, eCall, ofP, eMut, tyok_l, tyok_dk, tyok_dt, ofM, eMake, mkR, pI, eMv, List.append_nil, r_thnx, eDisp, pCall, pMeth, lnd, List.length_append, List.length_replicate, List.replicate, Bool.and_true, Bool.true_and, Bool.and_self, beq_self_eq_true, List.all_nil, List.all_cons, ite_seq, ite_map, ite_bind, ite_thn, so, f1', SR]
    rfl
  have d' : fDictP (.lst ((fs.map fun f => (f.ct, f)).map (prD Fm.d))) = some (dmap Fm.d (knw fs)) := d
  simp only [SR, eO, List.map_nil] at q
  unfold F_runs_of
  simp only [nl1, nl2, nl3, nl4, nc2, nc3, nc4, ix20, ix21, ix30, ix31, ix32, eq_self, isi_ii, isi_ib, isi_is, isi_itl, isi_ntl, isi_tt, isN_n, isN_i, tup2, z_eqI, z_neI, si0, si1, si2, tn0, tn1, tn2, tn3, List.nil_append, List.cons_append, sSeq, sSet, sIf, sRet, sItem, sDrop, sNil, eN, eI, tP, p2, p1, fV, fC, psC, psN, eaC, eaN, e1, e2, pBl, pAnd, pOr, pNot, pIf, eIf, on1_, on2_, List.getElem?_cons_zero, List.getElem?_cons_succ, List.set_cons_zero, List.set_cons_succ, Option.bind_some, Option.map_some, Sl.val, Sl.isInn, z_ixL, z_ixT, at0, at1, at2, at3, r_of, r_bind, r_thn, s_nx, s_ret, z_nx, z_asB, z_len, z_lenT, z_addI, z_mulR, z_mulL, z_sub, z_lt, z_le, z_gt, z_ge, z_mod, z_div, z_max2, z_min2, setSl, updP, modP, valAt, getP, setP, setV, pIdx, pRoot, z_ixN, z_setI, List.length_map, List.length_cons, List.length_nil, if_true, if_false, Bool.false_eq_true, Bool.not_true, Bool.not_false, decide_true, decide_false, sUnp, ast_t, setAll, sPar, sPar3, stp_l, stp_t, g1_l, g1_t, s1_l, s1_t, Nat.reduceBEq, asq_t, asq_l, sFor, iE, iBor, iLock, unlk, id_eq, z_lst0, imm, immL, sClr, m_nx, m_ret, m_exc, m_brk, m_ct, s_exc, s_brk, s_ct, c_nil, c_cons, clr1, e2v, e2p, sFldD, pFld, fP, eMethP, eMethR, List.contains_nil, List.contains_cons, Bool.or_false, fnR, mkc, okAr, okLe, arN, arL, bk, valO, qN, qV, qI, qL, gV, gI, gL, rP, eCall, ofP, eMut, tyok_l, tyok_dk, tyok_dt, ofM, eMake, mkR, pI, eMv, List.append_nil, r_thnx, eDisp, pCall, pMeth, lnd, List.length_append, List.length_replicate, List.replicate, Bool.and_true, Bool.true_and, Bool.and_self, beq_self_eq_true, List.all_nil, List.all_cons, ite_seq, ite_map, ite_bind, ite_thn, c, d', ↓q]
end
end Dy.Pm

/-! What runs of frames tell: plain law. -/
namespace Dy.Pm
open PySem L2 Dy
noncomputable section
/-! ### a stream from a place on: tellings and fills -/
inductive Good (n : Nat) : Nat → Nat → List Int → List (Nat × List Int) → Prop
  | nil (p k : Nat) : Good n p k [] []
  | tell {p k : Nat} {R : List Int} {S : List (Nat × List Int)} (t : List Int) : 1 ≤ t.length → Good n (p + (t.length + 3)) (k + 1) R S → Good n p k (cells k t ++ R) ((p, t) :: S)
  | fill {p k : Nat} {R : List Int} {S : List (Nat × List Int)} (m : Nat) : 0 < m → m < n → (p + m) % n = 0 → Good n (p + m) k R S → Good n p k (List.replicate m 0 ++ R) S
theorem cells_len (k : Nat) (t : List Int) : (cells k t).length = t.length + 3 := by simp [cells]
theorem Good.ge {n p k : Nat} {R : List Int} {S : List (Nat × List Int)} (g : Good n p k R S) : ∀ x ∈ S, p ≤ x.1 := by
  induction g with
  | nil => intro x h; cases h
  | tell t h g ih =>
    intro x hx
    rcases List.mem_cons.mp hx with rfl | hx
    · exact Nat.le_refl _
    · have := ih x hx; omega
  | fill m h1 h2 h3 g ih => intro x hx; have := ih x hx; omega
theorem Good.le {n p k : Nat} {R : List Int} {S : List (Nat × List Int)} (g : Good n p k R S) : ∀ x ∈ S, x.1 + (x.2.length + 3) ≤ p + R.length := by
  induction g with
  | nil => intro x h; cases h
  | tell t h g ih =>
    intro x hx
    rw [List.length_append, cells_len]
    rcases List.mem_cons.mp hx with rfl | hx
    · simp only; omega
    · have := ih x hx; omega
  | fill m h1 h2 h3 g ih => intro x hx; have := ih x hx; rw [List.length_append, List.length_replicate]; omega
/-- a telling's end -/
def En (x : Nat × List Int) : Nat := x.1 + (x.2.length + 3)
theorem Good.srt {n p k : Nat} {R : List Int} {S : List (Nat × List Int)} (g : Good n p k R S) : S.Pairwise fun x y => En x ≤ y.1 := by
  induction g with
  | nil => exact .nil
  | tell t h g ih =>
    rw [List.pairwise_cons]
    exact ⟨fun y hy => g.ge y hy, ih⟩
  | fill m h1 h2 h3 g ih => exact ih
theorem Good.lay {n p k : Nat} {R : List Int} {S : List (Nat × List Int)} (g : Good n p k R S) (t : List Int) (h : 1 ≤ t.length) : Good n p k (R ++ cells (k + S.length) t) (S ++ [(p + R.length, t)]) := by
  induction g with
  | nil p k =>
    have := Good.tell (n := n) (p := p) (k := k) t h (.nil _ _)
    simpa using this
  | @tell p k R S u h1 g ih =>
    have := Good.tell u h1 ih
    rw [List.append_assoc, List.length_append, cells_len, List.length_cons, List.cons_append, show k + (S.length + 1) = k + 1 + S.length by omega, show p + (u.length + 3 + R.length) = p + (u.length + 3) + R.length by omega]
    exact this
  | @fill p k R S m h1 h2 h3 g ih =>
    have := Good.fill m h1 h2 h3 ih
    rw [List.append_assoc, List.length_append, List.length_replicate, show p + (m + R.length) = p + m + R.length by omega]
    exact this
theorem Good.pad {n p k : Nat} {R : List Int} {S : List (Nat × List Int)} (g : Good n p k R S) (m : Nat) (h : m < n) (h3 : m = 0 ∨ (p + R.length + m) % n = 0) : Good n p k (R ++ List.replicate m 0) S := by
  by_cases h0 : m = 0
  · subst h0; simpa using g
  replace h3 : (p + R.length + m) % n = 0 := h3.resolve_left h0
  induction g with
  | nil p k =>
    have := Good.fill (n := n) (p := p) (k := k) m (by omega) h (by simpa using h3) (.nil _ _)
    simpa using this
  | @tell p k R S u h1 g ih =>
    have := Good.tell u h1 (ih (by rw [List.length_append, cells_len] at h3; rw [show p + (u.length + 3) + R.length + m = p + (u.length + 3 + R.length) + m by omega]; exact h3))
    rw [List.append_assoc]
    exact this
  | @fill p k R S j h1 h2 h4 g ih =>
    have := Good.fill j h1 h2 h4 (ih (by rw [List.length_append, List.length_replicate] at h3; rw [show p + j + R.length + m = p + (j + R.length) + m by omega]; exact h3))
    rw [List.append_assoc]
    exact this
/-- from a telling on -/
theorem Good.at {n p k : Nat} {R : List Int} {S1 S2 : List (Nat × List Int)} {q : Nat} {t : List Int} (g : Good n p k R (S1 ++ (q, t) :: S2)) : Good n q (k + S1.length) (R.drop (q - p)) ((q, t) :: S2) := by
  generalize hS : S1 ++ (q, t) :: S2 = S at g
  induction g generalizing S1 with
  | nil => simp at hS
  | @tell p k R S u h g ih =>
    cases S1 with
    | nil =>
      cases hS
      rw [Nat.sub_self, List.drop_zero]
      exact .tell t h g
    | cons y S1 =>
      cases hS
      have := ih rfl
      have ge := g.ge (q, t) (by simp)
      simp only at ge
      rw [List.length_cons, show k + (S1.length + 1) = k + 1 + S1.length by omega]
      rw [List.drop_append, cells_len, List.drop_eq_nil_of_le (by rw [cells_len]; omega), List.nil_append, show q - p - (u.length + 3) = q - (p + (u.length + 3)) by omega]
      exact this
  | @fill p k R S m h1 h2 h3 g ih =>
    have := ih hS
    have ge := g.ge (q, t) (by rw [← hS]; simp)
    simp only at ge
    rw [List.drop_append, List.length_replicate, List.drop_eq_nil_of_le (by rw [List.length_replicate]; omega), List.nil_append, show q - p - m = q - (p + m) by omega]
    exact this
/-! ### what is parsed -/
/-- tellings with their numbers -/
def ixd : Nat → List (Nat × List Int) → List (Int × List Int)
  | _, [] => []
  | k, x :: S => ((k : Int), x.2) :: ixd (k + 1) S
theorem ixd_app : ∀ (k : Nat) (S T : List (Nat × List Int)), ixd k (S ++ T) = ixd k S ++ ixd (k + S.length) T
  | k, [], T => by simp [ixd]
  | k, x :: S, T => by
    rw [List.cons_append, ixd, ixd_app (k + 1) S T, ixd, List.length_cons, List.cons_append, show k + 1 + S.length = k + (S.length + 1) by omega]
/-- where a reader stands at the end e of a frame -/
def Stand (e q : Nat) (S : List (Nat × List Int)) : Prop := e ≤ q ∨ ∃ t S', S = (q, t) :: S' ∧ e < q + (t.length + 3)
def cut0 (L : List Int) : List Int := if L ≠ [] ∧ L.getD 0 0 = 0 then [] else L
theorem cells_num (k : Nat) : (k : Int).fdiv 256 * 256 + (k : Int).fmod 256 = k := by
  rw [show (256 : Int) = ((256 : Nat) : Int) from rfl, fdiv_nat, fmod_nat]; omega
theorem parse_good {n q k : Nat} {R : List Int} {S : List (Nat × List Int)} (g : Good n q k R S) : ∀ (f e0 : Nat), e0 % n = 0 → q ≤ e0 + n → e0 + n ≤ q + R.length → Stand e0 q S → e0 + n - q ≤ f →
    ∃ q' k' R' S1 S', S = S1 ++ S' ∧ (parse f (R.take (e0 + n - q))).1 = ixd k S1 ∧ cut0 (parse f (R.take (e0 + n - q))).2 = R'.take (e0 + n - q') ∧ Good n q' k' R' S' ∧ k' = k + S1.length ∧ q ≤ q' ∧ q' ≤ e0 + n ∧ R' = R.drop (q' - q) ∧ q' + R'.length = q + R.length ∧ (∀ x ∈ S1, En x ≤ e0 + n) ∧ Stand (e0 + n) q' S' := by
  have pn : ∀ f, parse f [] = ([], []) := fun f => by cases f <;> simp [parse]
  induction g with
  | nil p k =>
    intro f e0 h0 h1 h2 h3 h4
    simp only [List.length_nil] at h2
    exact ⟨p, k, [], [], [], rfl, by simp [pn, ixd], by simp [pn, cut0], .nil _ _, rfl, by omega, h1, by simp, rfl, by simp, .inl (by omega)⟩
  | @tell p k R S t ht g ih =>
    intro f e0 h0 h1 h2 h3 h4
    by_cases c : p + (t.length + 3) ≤ e0 + n
    · obtain ⟨f, rfl⟩ : ∃ f', f = f' + 1 := ⟨f - 1, by omega⟩
      have h3' : Stand e0 (p + (t.length + 3)) S := by
        rcases h3 with h3 | ⟨u, S', h5, h6⟩
        · exact .inl (by omega)
        · cases h5; exact .inl (by omega)
      rw [List.length_append, cells_len] at h2
      obtain ⟨q', k', R', S1, S', a1, a2, a3, a4, a5, a5', a6, a7, a8, a9, a10⟩ := ih f e0 h0 c (by omega) h3' (by omega)
      have tk : (cells k t ++ R).take (e0 + n - p) = cells k t ++ R.take (e0 + n - (p + (t.length + 3))) := by
        rw [List.take_append, cells_len, List.take_of_length_le (by rw [cells_len]; omega), show e0 + n - p - (t.length + 3) = e0 + n - (p + (t.length + 3)) by omega]
      have l0 : ∀ X, (cells k t ++ X).getD 0 0 = (t.length : Int) := fun X => rfl
      have l1 : ∀ X, (cells k t ++ X).getD 1 0 = (k : Int).fdiv 256 := fun X => rfl
      have l2 : ∀ X, (cells k t ++ X).getD 2 0 = (k : Int).fmod 256 := fun X => rfl
      have tn : (3 + (t.length : Int)).toNat = t.length + 3 := by omega
      have dr : ∀ X, (cells k t ++ X).drop (t.length + 3) = X := fun X => by rw [← cells_len k t, List.drop_left]
      have dt : ∀ X, ((cells k t ++ X).take (t.length + 3)).drop 3 = t := fun X => by rw [← cells_len k t, List.take_left]; rfl
      have st : parse (f + 1) ((cells k t ++ R).take (e0 + n - p)) = (((k : Int), t) :: (parse f (R.take (e0 + n - (p + (t.length + 3))))).1, (parse f (R.take (e0 + n - (p + (t.length + 3))))).2) := by
        rw [tk, parse, l0, l1, l2, tn, dr, dt, cells_num, if_pos]
        rw [List.length_append, cells_len]; omega
      refine ⟨q', k', R', (p, t) :: S1, S', by rw [a1]; rfl, by rw [st, ixd, a2], by rw [st, a3], a4, by rw [a5, List.length_cons]; omega, by omega, a6, ?_, ?_, ?_, a10⟩
      · rw [a7, List.drop_append, cells_len, List.drop_eq_nil_of_le (as := cells k t) (by rw [cells_len]; omega), List.nil_append, show q' - p - (t.length + 3) = q' - (p + (t.length + 3)) by omega]
      · rw [a8, List.length_append, cells_len]; omega
      · intro x hx
        rcases List.mem_cons.mp hx with rfl | hx
        · exact c
        · exact a9 x hx
    · have ln : ((cells k t ++ R).take (e0 + n - p)).length = e0 + n - p := by rw [List.length_take, List.length_append, cells_len]; rw [List.length_append, cells_len] at h2; omega
      have no : parse f ((cells k t ++ R).take (e0 + n - p)) = ([], (cells k t ++ R).take (e0 + n - p)) := by
        cases f with
        | zero => rfl
        | succ f =>
          rw [parse, if_neg]
          rintro ⟨c1, c2, c3⟩
          rw [ln] at c1 c3
          have : ((cells k t ++ R).take (e0 + n - p)).getD 0 0 = (t.length : Int) := by
            obtain ⟨j, hj⟩ : ∃ j, e0 + n - p = j + 1 := ⟨e0 + n - p - 1, by omega⟩
            rw [hj]; rfl
          rw [this] at c3
          omega
      refine ⟨p, k, cells k t ++ R, [], (p, t) :: S, rfl, by rw [no]; rfl, ?_, .tell t ht g, rfl, Nat.le_refl _, h1, by simp, rfl, by simp, .inr ⟨t, S, rfl, by omega⟩⟩
      rw [no]
      unfold cut0
      rw [if_neg]
      rintro ⟨c1, c2⟩
      obtain ⟨j, hj⟩ : ∃ j, e0 + n - p = j + 1 := ⟨e0 + n - p - 1, by
        have : ((cells k t ++ R).take (e0 + n - p)).length ≠ 0 := fun z => c1 (List.eq_nil_of_length_eq_zero z)
        rw [ln] at this; omega⟩
      simp only [hj] at c2
      have : (t.length : Int) = 0 := c2
      omega
  | @fill p k R S m hm1 hm2 hm3 g ih =>
    intro f e0 h0 h1 h2 h3 h4
    have n0 : 0 < n := by omega
    have hp : e0 ≤ p := by
      rcases h3 with h3 | ⟨u, S', h5, h6⟩
      · exact h3
      · have := g.ge (p, u) (by rw [h5]; simp)
        simp only at this; omega
    have hm : p + m = e0 + n := by
      obtain ⟨a, ha⟩ := Nat.dvd_of_mod_eq_zero hm3
      obtain ⟨b, hb⟩ := Nat.dvd_of_mod_eq_zero h0
      have q1 : n * b < n * a := by omega
      have q2 : n * a < n * (b + 2) := by rw [Nat.mul_add]; omega
      have q3 := Nat.lt_of_mul_lt_mul_left q1
      have q4 := Nat.lt_of_mul_lt_mul_left q2
      have : a = b + 1 := by omega
      rw [ha, hb, this, Nat.mul_add]; omega
    have tk : (List.replicate m (0 : Int) ++ R).take (e0 + n - p) = List.replicate m 0 := by
      rw [show e0 + n - p = m by omega]
      rw [List.take_append, List.length_replicate, Nat.sub_self, List.take_zero, List.append_nil, List.take_of_length_le (by simp)]
    have g0 : (List.replicate m (0 : Int)).getD 0 0 = 0 := by
      cases m with
      | zero => rfl
      | succ m => rfl
    have no : parse f (List.replicate m (0 : Int)) = ([], List.replicate m 0) := by
      cases f with
      | zero => rfl
      | succ f =>
        rw [parse, if_neg]
        rintro ⟨c1, c2, c3⟩
        rw [g0] at c2
        omega
    refine ⟨p + m, k, R, [], S, rfl, by rw [tk, no]; rfl, ?_, g, rfl, by omega, by omega, ?_, by rw [List.length_append, List.length_replicate]; omega, by simp, .inl (by omega)⟩
    · rw [tk, no]
      unfold cut0
      rw [if_pos ⟨by simp; omega, g0⟩, hm, Nat.sub_self, List.take_zero]
    · rw [show p + m - p = m by omega, List.drop_append, List.length_replicate, Nat.sub_self, List.drop_zero, List.drop_eq_nil_of_le (by simp), List.nil_append]
/-! ### runs of frames of one stream -/
def nix : Nat → List (Nat × List Int) → List (Nat × Nat × List Int)
  | _, [] => []
  | k, x :: S => (k, x.1, x.2) :: nix (k + 1) S
def out (x : Nat × Nat × List Int) : Int × List Int := ((x.1 : Int), x.2.2)
theorem nix_app : ∀ (k : Nat) (S T : List (Nat × List Int)), nix k (S ++ T) = nix k S ++ nix (k + S.length) T
  | k, [], T => by simp [nix]
  | k, x :: S, T => by
    rw [List.cons_append, nix, nix_app (k + 1) S T, nix, List.length_cons, List.cons_append, show k + 1 + S.length = k + (S.length + 1) by omega]
theorem ixd_nix : ∀ (k : Nat) (S : List (Nat × List Int)), ixd k S = (nix k S).map out
  | k, [] => rfl
  | k, x :: S => by rw [ixd, nix, List.map_cons, ixd_nix (k + 1) S]; rfl
theorem nix_mem : ∀ {k : Nat} {S : List (Nat × List Int)} {x : Nat × Nat × List Int}, x ∈ nix k S → x.2 ∈ S
  | k, [], x, h => by cases h
  | k, y :: S, x, h => by
    rcases List.mem_cons.mp h with rfl | h
    · exact List.mem_cons_self
    · exact List.mem_cons_of_mem _ (nix_mem h)
theorem nix_pw {r : Nat × List Int → Nat × List Int → Prop} : ∀ {k : Nat} {S : List (Nat × List Int)}, S.Pairwise r → (nix k S).Pairwise fun x y => r x.2 y.2
  | k, [], h => .nil
  | k, y :: S, h => by
    rw [List.pairwise_cons] at h
    rw [nix, List.pairwise_cons]
    exact ⟨fun x hx => h.1 _ (nix_mem hx), nix_pw h.2⟩
def toldG (n : Nat) (S : List (Nat × List Int)) (g b : Nat) : List (Int × List Int) := ((nix 0 S).filter fun x => decide (g * n ≤ x.2.1) && decide (En x.2 ≤ b * n)).map out
/-- a reader of the bodies of a run behind frame b - 1; no telling from g on is older -/
structure RunSt (n : Nat) (N : List Int) (S : List (Nat × List Int)) (bodies : List (List Int)) (g b : Nat) : Prop where
  ex : ∃ (p k q k' : Nat) (S0 S1 S' : List (Nat × List Int)), S = S0 ++ (S1 ++ S') ∧ k = S0.length ∧ (∀ x ∈ S0, x.1 < g * n) ∧ (∀ x ∈ S1 ++ S', p ≤ x.1) ∧ g * n ≤ p ∧
    (bodies.foldl tStep ([], [])).1 = ixd k S1 ∧ (bodies.foldl tStep ([], [])).2 = (N.drop q).take (b * n - q) ∧ Good n q k' (N.drop q) S' ∧ k' = k + S1.length ∧ q ≤ b * n ∧ q ≤ N.length ∧ (∀ x ∈ S1, En x ≤ b * n) ∧ Stand (b * n) q S'
theorem RunSt.told {n : Nat} {N : List Int} {S : List (Nat × List Int)} {bodies : List (List Int)} {g b : Nat} (r : RunSt n N S bodies g b) : toldIn bodies = toldG n S g b := by
  obtain ⟨p, k, q, k', S0, S1, S', h1, h2, h3, h4, h5, h6, h7, h8, h9, h10, h10', h11, h12⟩ := r.ex
  unfold toldIn toldG
  have f1 : (nix 0 S0).filter (fun x => decide (g * n ≤ x.2.1) && decide (En x.2 ≤ b * n)) = [] := by
    rw [List.filter_eq_nil_iff]
    intro x hx
    have := h3 _ (nix_mem hx)
    simp; omega
  have f2 : (nix k S1).filter (fun x => decide (g * n ≤ x.2.1) && decide (En x.2 ≤ b * n)) = nix k S1 := by
    rw [List.filter_eq_self]
    intro x hx
    have a1 := h11 _ (nix_mem hx)
    have a2 := h4 x.2 (List.mem_append_left _ (nix_mem hx))
    simp; omega
  have f3 : (nix k' S').filter (fun x => decide (g * n ≤ x.2.1) && decide (En x.2 ≤ b * n)) = [] := by
    rw [List.filter_eq_nil_iff]
    intro x hx
    have hx := nix_mem hx
    have : b * n < En x.2 := by
      rcases h12 with h12 | ⟨t, S2, rfl, h13⟩
      · have := h8.ge _ hx
        unfold En; omega
      · rcases List.mem_cons.mp hx with e | hx
        · rw [e]; exact h13
        · have s := (List.pairwise_cons.mp h8.srt).1 _ hx
          have : En (q, t) = q + (t.length + 3) := rfl
          unfold En at *; omega
    simp; omega
  rw [h6, h1, nix_app, nix_app, Nat.zero_add, ← h2, ← h9, List.filter_append, List.filter_append, f1, f2, f3, List.nil_append, List.append_nil, ixd_nix]
theorem tStep_cut (a : List (Int × List Int) × List Int) (b : List Int) : tStep a b = (a.1 ++ (parse (a.2 ++ b).length (a.2 ++ b)).1, cut0 (parse (a.2 ++ b).length (a.2 ++ b)).2) := rfl
theorem RunSt.step {n : Nat} {N : List Int} {S : List (Nat × List Int)} {bodies : List (List Int)} {g b : Nat} (r : RunSt n N S bodies g b) (hN : (b + 1) * n ≤ N.length) : RunSt n N S (bodies ++ [(N.drop (b * n)).take n]) g (b + 1) := by
  obtain ⟨p, k, q, k', S0, S1, S', h1, h2, h3, h4, h5, h6, h7, h8, h9, h10, h10', h11, h12⟩ := r.ex
  have hb : (b + 1) * n = b * n + n := by rw [Nat.add_mul, Nat.one_mul]
  have e : (bodies.foldl tStep ([], [])).2 ++ (N.drop (b * n)).take n = (N.drop q).take (b * n + n - q) := by
    rw [h7, show b * n + n - q = (b * n - q) + n by omega, List.take_add, List.drop_drop, show q + (b * n - q) = b * n by omega]
  obtain ⟨q2, k2, R2, T1, T2, a1, a2, a3, a4, a5, a5', a6, a7, a8, a9, a10⟩ := parse_good h8 ((N.drop q).take (b * n + n - q)).length (b * n) (Nat.mul_mod_left _ _) (by omega) (by rw [List.length_drop]; omega) h12 (by rw [List.length_take, List.length_drop]; omega)
  rw [List.drop_drop, show q + (q2 - q) = q2 by omega] at a7
  subst a7
  refine ⟨p, k, q2, k2, S0, S1 ++ T1, T2, by rw [h1, a1, List.append_assoc], h2, h3, by rw [List.append_assoc, ← a1]; exact h4, h5, ?_, ?_, a4, by rw [a5, h9, List.length_append]; omega, by omega, by omega, ?_, by rw [hb]; exact a10⟩
  · rw [List.foldl_append, List.foldl_cons, List.foldl_nil, tStep_cut, e, a2, h6, h9, ← ixd_app]
  · rw [List.foldl_append, List.foldl_cons, List.foldl_nil, tStep_cut, e, a3, hb]
  · intro x hx
    rcases List.mem_append.mp hx with hx | hx
    · have := h11 x hx; omega
    · have := a9 x hx; omega
theorem RunSt.init {n : Nat} {N : List Int} {S : List (Nat × List Int)} {g a : Nat} {i : Int} (good : Good n 0 0 N S) (hN : (a + 1) * n ≤ N.length) (hf : firstAt n (S.map (·.1)) a = some i) (hg : g ≤ a) (no : ∀ x ∈ S, ¬ (g * n ≤ x.1 ∧ x.1 < a * n)) :
    RunSt n N S [((N.drop (a * n)).take n).drop i.toNat] g (a + 1) := by
  have hb : (a + 1) * n = a * n + n := by rw [Nat.add_mul, Nat.one_mul]
  have hga := Nat.mul_le_mul_right n hg
  unfold firstAt at hf
  rw [Option.map_eq_some_iff] at hf
  obtain ⟨p, hp, rfl⟩ := hf
  rw [List.find?_eq_some_iff_append] at hp
  obtain ⟨hp1, as, bs, hp2, hp3⟩ := hp
  simp only [inFr, Bool.and_eq_true, decide_eq_true_eq] at hp1
  obtain ⟨S0, S2, e1, e2, e3⟩ := List.map_eq_append_iff.mp hp2
  obtain ⟨⟨p', t⟩, S2', e4, e5, e6⟩ := List.map_eq_cons_iff.mp e3
  simp only at e5
  subst e5
  subst e4
  subst e1
  have g2 := good.at
  rw [Nat.sub_zero, Nat.zero_add] at g2
  have srt := good.srt
  rw [List.pairwise_append] at srt
  have lt0 : ∀ x ∈ S0, x.1 < g * n := fun x hx => by
    have s1 := srt.2.2 x hx (p', t) (by simp)
    have s2 := hp3 x.1 (by rw [← e2]; exact List.mem_map_of_mem hx)
    have s3 := no x (by simp [hx])
    simp [inFr] at s2
    unfold En at s1
    simp only at s1
    omega
  have e : ([] : List Int) ++ ((N.drop (a * n)).take n).drop ((p' : Int) - (a * n : Nat)).toNat = (N.drop p').take (a * n + n - p') := by
    rw [List.nil_append, show ((p' : Int) - (a * n : Nat)).toNat = p' - a * n by omega, List.drop_take, List.drop_drop, show a * n + (p' - a * n) = p' by omega, show n - (p' - a * n) = a * n + n - p' by omega]
  obtain ⟨q2, k2, R2, T1, T2, a1, a2, a3, a4, a5, a5', a6, a7, a8, a9, a10⟩ := parse_good g2 ((N.drop p').take (a * n + n - p')).length (a * n) (Nat.mul_mod_left _ _) (by omega) (by rw [List.length_drop]; omega) (.inl (by omega)) (by rw [List.length_take, List.length_drop]; omega)
  rw [List.drop_drop, show p' + (q2 - p') = q2 by omega] at a7
  subst a7
  refine ⟨p', S0.length, q2, k2, S0, T1, T2, by rw [a1], rfl, lt0, by rw [← a1]; exact g2.ge, by omega, ?_, ?_, a4, a5, by omega, by omega, by rw [hb]; exact a9, by rw [hb]; exact a10⟩
  · rw [List.foldl_cons, List.foldl_nil, tStep_cut]
    simp only
    rw [e, a2, List.nil_append]
  · rw [List.foldl_cons, List.foldl_nil, tStep_cut]
    simp only
    rw [e, a3, hb]
/-! ### which tellings lie in some frames -/
def spanB (n : Nat) (P : List Nat) (x : Nat × List Int) : Bool := (List.range ((x.1 + x.2.length + 2) / n + 1)).all fun c => decide (c < x.1 / n) || decide (c ∈ P)
theorem spanB_iff {n : Nat} {P : List Nat} {x : Nat × List Int} (h : 0 < n) : spanB n P x = true ↔ ∀ c, x.1 < (c + 1) * n → c * n < En x → c ∈ P := by
  unfold spanB
  rw [List.all_eq_true]
  constructor
  · intro q c h1 h2
    have h3 : c ≤ (x.1 + x.2.length + 2) / n := by rw [Nat.le_div_iff_mul_le h]; unfold En at h2; omega
    have h4 : x.1 / n < c + 1 := by rw [Nat.div_lt_iff_lt_mul h]; exact h1
    have := q c (by rw [List.mem_range]; omega)
    simp at this
    rcases this with this | this
    · omega
    · exact this
  · intro q c hc
    rw [List.mem_range] at hc
    by_cases h1 : c < x.1 / n
    · simp [h1]
    · have h2 : c * n ≤ x.1 + x.2.length + 2 := by rw [← Nat.le_div_iff_mul_le h]; omega
      have := q c (by rw [← Nat.div_lt_iff_lt_mul h]; omega) (by unfold En; omega)
      simp [this]
def toldP (n : Nat) (S : List (Nat × List Int)) (P : List Nat) : List (Int × List Int) := ((nix 0 S).filter fun x => spanB n P x.2).map out
theorem filter_split {α : Type} {e : α → Nat} {A : α → Bool} {m : Nat} : ∀ {T : List α}, T.Pairwise (fun x y => e x < e y) → T.filter A = T.filter (fun x => A x && decide (e x ≤ m)) ++ T.filter (fun x => A x && decide (m < e x))
  | [], _ => rfl
  | x :: T, h => by
    rw [List.pairwise_cons] at h
    have ih := filter_split (A := A) (m := m) h.2
    by_cases c : e x ≤ m
    · have c' : ¬ m < e x := by omega
      cases a : A x <;> simp [List.filter_cons, a, c, c', ih]
    · have c' : m < e x := by omega
      have nil : T.filter (fun x => A x && decide (e x ≤ m)) = [] := by
        rw [List.filter_eq_nil_iff]
        intro y hy
        have := h.1 y hy
        simp; intro _; omega
      have all : T.filter (fun x => A x && decide (m < e x)) = T.filter A := by
        apply List.filter_congr
        intro y hy
        have := h.1 y hy
        have : decide (m < e y) = true := by simp; omega
        rw [this, Bool.and_true]
      cases a : A x <;> simp [List.filter_cons, a, c, c', all, nil]
theorem told_step {n : Nat} {N : List Int} {S : List (Nat × List Int)} (hn : 0 < n) (good : Good n 0 0 N S) {P : List Nat} {g c : Nat} (h1 : ∀ x ∈ P, x < c) (h2 : ∀ x, g ≤ x → x < c → x ∈ P) (h3 : g = 0 ∨ g - 1 ∉ P) (h4 : g ≤ c) :
    toldP n S (P ++ [c]) = toldP n S P ++ ((nix 0 S).filter fun x => decide (g * n ≤ x.2.1) && (decide (c * n < En x.2) && decide (En x.2 ≤ (c + 1) * n))).map out := by
  have mem : ∀ y, y ∈ P ++ [c] ↔ y ∈ P ∨ y = c := fun y => by simp
  have mlt : ∀ {a b : Nat}, a * n < b * n → a < b := fun h => Nat.lt_of_mul_lt_mul_right h
  have mle : ∀ {a b : Nat}, a ≤ b → a * n ≤ b * n := fun h => Nat.mul_le_mul_right n h
  have srt : (nix 0 S).Pairwise fun x y => En x.2 < En y.2 := (nix_pw (k := 0) good.srt).imp fun {x y} h => by
    have : y.2.1 + (y.2.2.length + 3) = En y.2 := rfl
    omega
  have s1 : ∀ m, (m + 1) * n = m * n + n := fun m => by rw [Nat.add_mul, Nat.one_mul]
  unfold toldP
  rw [← List.map_append, filter_split (e := fun x => En x.2) (m := c * n) srt]
  congr 2
  · apply List.filter_congr
    intro x hx
    have ee : En x.2 = x.2.1 + (x.2.2.length + 3) := rfl
    rw [Bool.eq_iff_iff, Bool.and_eq_true, spanB_iff hn, spanB_iff hn, decide_eq_true_eq]
    constructor
    · rintro ⟨q, q2⟩ y hy1 hy2
      rcases (mem y).mp (q y hy1 hy2) with h | h
      · exact h
      · subst h; omega
    · intro q
      refine ⟨fun y a b => (mem y).mpr (.inl (q y a b)), ?_⟩
      by_cases z : En x.2 ≤ c * n
      · exact z
      · have hl := q ((En x.2 - 1) / n) (by
          have := Nat.lt_div_mul_add hn (a := En x.2 - 1)
          rw [s1]; omega) (by
          have := Nat.div_mul_le_self (En x.2 - 1) n
          omega)
        have hl := h1 _ hl
        have := mle hl
        have := Nat.lt_div_mul_add hn (a := En x.2 - 1)
        rw [Nat.succ_eq_add_one, s1] at *
        omega
  · apply List.filter_congr
    intro x hx
    have ee : En x.2 = x.2.1 + (x.2.2.length + 3) := rfl
    rw [Bool.eq_iff_iff, Bool.and_eq_true, spanB_iff hn]
    simp only [Bool.and_eq_true, decide_eq_true_eq]
    constructor
    · rintro ⟨q, q2⟩
      have f0 := Nat.lt_div_mul_add hn (a := x.2.1)
      have f1 := Nat.div_mul_le_self x.2.1 n
      have l0 := Nat.lt_div_mul_add hn (a := En x.2 - 1)
      have l1 := Nat.div_mul_le_self (En x.2 - 1) n
      have qf := q (x.2.1 / n) (by rw [s1]; omega) (by omega)
      have ql := q ((En x.2 - 1) / n) (by rw [s1]; omega) (by omega)
      have lc : ∀ y ∈ P ++ [c], y ≤ c := fun y hy => by
        rcases (mem y).mp hy with h | h
        · have := h1 y h; omega
        · omega
      have ql2 := mle (lc _ ql)
      refine ⟨?_, q2, by rw [s1]; omega⟩
      by_cases z : g * n ≤ x.2.1
      · exact z
      · have g0 : g ≠ 0 := fun e => z (by rw [e, Nat.zero_mul]; omega)
        have hgc := mle h4
        have e : g - 1 + 1 = g := by omega
        have hg1 : (g - 1) * n + n = g * n := by rw [← s1, e]
        have := q (g - 1) (by rw [e]; omega) (by omega)
        rcases (mem _).mp this with h | h
        · exact (h3.resolve_left g0 h).elim
        · omega
    · rintro ⟨q, q2, q3⟩
      refine ⟨fun y hy1 hy2 => ?_, q2⟩
      have b1 : g * n < (y + 1) * n := by omega
      have b2 : y * n < (c + 1) * n := by omega
      have b1 := mlt b1
      have b2 := mlt b2
      by_cases h : y = c
      · exact (mem y).mpr (.inr h)
      · exact (mem y).mpr (.inl (h2 y (by omega) (by omega)))
structure J (n : Nat) (N : List Int) (S : List (Nat × List Int)) (P : List Nat) (a : Rst) : Prop where
  ex : ∃ g b : Nat, (∀ x ∈ P, x < b) ∧ (∀ x, g ≤ x → x < b → x ∈ P) ∧ (g = 0 ∨ g - 1 ∉ P) ∧ g ≤ b ∧ (a.1.map toldIn).flatten = toldP n S P ∧
    (∀ l, a.2 = some l → l + 1 = (b : Int) ∧ ∃ done bodies, a.1 = done ++ [bodies] ∧ RunSt n N S bodies g b) ∧ (a.2 = none → ∀ x ∈ S, ¬ (g * n ≤ x.1 ∧ x.1 < b * n)) ∧ (b = 0 ∨ b - 1 ∈ P)
theorem toldP_nil {n : Nat} {S : List (Nat × List Int)} (hn : 0 < n) : toldP n S [] = [] := by
  unfold toldP
  rw [List.filter_eq_nil_iff.mpr, List.map_nil]
  intro x hx h
  rw [spanB_iff hn] at h
  have f0 := Nat.lt_div_mul_add hn (a := x.2.1)
  have f1 := Nat.div_mul_le_self x.2.1 n
  have := h (x.2.1 / n) (by rw [Nat.add_mul, Nat.one_mul]; omega) (by unfold En; omega)
  cases this
theorem J.nil {n : Nat} {N : List Int} {S : List (Nat × List Int)} (hn : 0 < n) : J n N S [] ([], none) :=
  ⟨0, 0, by simp, by intro x h1 h2; omega, .inl rfl, Nat.le_refl _, by rw [toldP_nil hn]; rfl, by simp, fun _ x hx => by omega, .inl rfl⟩
theorem first_no {n : Nat} {S : List Nat} {c : Nat} (h : firstAt n S c = none) : ∀ p ∈ S, ¬ (c * n ≤ p ∧ p < (c + 1) * n) := by
  intro p hp
  unfold firstAt at h
  rw [Option.map_eq_none_iff, List.find?_eq_none] at h
  have := h p hp
  simp [inFr] at this
  omega
theorem J.step {st : Int} {n : Nat} {N : List Int} {S : List (Nat × List Int)} {P : List Nat} {a : Rst} (hn : 0 < n) (good : Good n 0 0 N S) (j : J n N S P a) {c : Nat} (hc : ∀ x ∈ P, x < c) (hN : (c + 1) * n ≤ N.length) : J n N S (P ++ [c]) (rStep a (frAt st n N (S.map (·.1)) c)) := by
  obtain ⟨g, b, i1, i2, i3, i4, i5, i6, i7, i8⟩ := j.ex
  obtain ⟨fd, last⟩ := a
  simp only at i5 i6 i7
  have s1 : ∀ m, (m + 1) * n = m * n + n := fun m => by rw [Nat.add_mul, Nat.one_mul]
  have mle : ∀ {a b : Nat}, a ≤ b → a * n ≤ b * n := fun h => Nat.mul_le_mul_right n h
  have mem : ∀ y, y ∈ P ++ [c] ↔ y ∈ P ∨ y = c := fun y => by simp
  have hbc : b ≤ c := by
    rcases i8 with h | h
    · omega
    · have := hc _ h; omega
  -- the group's first frame
  obtain ⟨g', j1, j2, j3, j4, j5⟩ : ∃ g', (∀ x, g' ≤ x → x < c → x ∈ P) ∧ (g' = 0 ∨ g' - 1 ∉ P) ∧ g' ≤ c ∧ (b = c → g' = g) ∧ (b ≠ c → g' = c) := by
    by_cases e : b = c
    · exact ⟨g, by rw [← e]; exact i2, i3, by omega, fun _ => rfl, fun h => absurd e h⟩
    · refine ⟨c, by intro x h1 h2; omega, ?_, Nat.le_refl _, fun h => absurd h e, fun _ => rfl⟩
      right
      intro h
      have := i1 _ h; omega
  have ts := told_step hn good hc j1 j2 j3
  have k1 : ∀ x ∈ P ++ [c], x < c + 1 := fun x hx => by
    rcases (mem x).mp hx with h | h
    · have := hc x h; omega
    · omega
  have k2 : ∀ x, g' ≤ x → x < c + 1 → x ∈ P ++ [c] := fun x h1 h2 => by
    by_cases h : x = c
    · exact (mem x).mpr (.inr h)
    · exact (mem x).mpr (.inl (j1 x h1 (by omega)))
  have k3 : g' = 0 ∨ g' - 1 ∉ P ++ [c] := by
    rcases Nat.eq_zero_or_pos g' with h | h
    · exact .inl h
    · right
      intro z
      rcases (mem _).mp z with z | z
      · exact (j2.resolve_left (by omega)) z
      · omega
  have k8 : c + 1 = 0 ∨ c + 1 - 1 ∈ P ++ [c] := .inr ((mem _).mpr (.inr rfl))
  by_cases op : last = some ((c : Int) - 1)
  · -- a run goes on
    obtain ⟨l1, done, bodies, l2, l3⟩ := i6 _ op
    have hb : b = c := by omega
    have hg := j4 hb
    subst hg hb l2
    have r := l3.step hN
    have e : rStep (done ++ [bodies], last) (frAt st n N (S.map (·.1)) b) = (done ++ [bodies ++ [(N.drop (b * n)).take n]], some (b : Int)) := by
      unfold rStep
      rw [if_pos ⟨op, by simp⟩]
      simp [frAt]
    rw [e]
    refine ⟨g', b + 1, k1, k2, k3, by omega, ?_, ?_, by simp, k8⟩
    · simp only [List.map_append, List.flatten_append, List.map_cons, List.map_nil, List.flatten_cons, List.flatten_nil, List.append_nil] at i5 ⊢
      rw [ts, ← i5, l3.told, r.told, List.append_assoc]
      congr 1
      have srt : (nix 0 S).Pairwise fun x y => En x.2 < En y.2 := (nix_pw (k := 0) good.srt).imp fun {x y} h => by
        have : y.2.1 + (y.2.2.length + 3) = En y.2 := rfl
        omega
      unfold toldG
      rw [filter_split (e := fun x => En x.2) (m := b * n) srt, List.map_append]
      congr 2
      · apply List.filter_congr
        intro x _
        rw [Bool.eq_iff_iff]
        simp only [Bool.and_eq_true, decide_eq_true_eq, s1]
        omega
      · apply List.filter_congr
        intro x _
        rw [Bool.eq_iff_iff]
        simp only [Bool.and_eq_true, decide_eq_true_eq]
        omega
    · intro l hl
      cases hl
      exact ⟨by omega, done, _, rfl, r⟩
  · -- none does
    have no : ∀ x ∈ S, ¬ (g' * n ≤ x.1 ∧ x.1 < c * n) := by
      by_cases hb : b = c
      · have hl : last = none := by
          cases last with
          | none => rfl
          | some l =>
            have := (i6 l rfl).1
            exact (op (by rw [show l = (c : Int) - 1 by omega])).elim
        rw [j4 hb, ← hb]
        exact i7 hl
      · rw [j5 hb]
        intro x _ h
        omega
    cases hf : firstAt n (S.map (·.1)) c with
    | some i =>
      have r := RunSt.init good hN hf j3 no
      have e : rStep (fd, last) (frAt st n N (S.map (·.1)) c) = (fd ++ [[((N.drop (c * n)).take n).drop i.toNat]], some (c : Int)) := by
        unfold rStep
        rw [if_neg (fun z => op z.1)]
        simp [frAt, hf]
      rw [e]
      refine ⟨g', c + 1, k1, k2, k3, by omega, ?_, ?_, by simp, k8⟩
      · simp only [List.map_append, List.flatten_append, List.map_cons, List.map_nil, List.flatten_cons, List.flatten_nil, List.append_nil]
        rw [ts, ← i5, r.told]
        congr 1
        unfold toldG
        congr 1
        apply List.filter_congr
        intro x hx
        have := no _ (nix_mem hx)
        have ee : En x.2 = x.2.1 + (x.2.2.length + 3) := rfl
        rw [Bool.eq_iff_iff]
        simp only [Bool.and_eq_true, decide_eq_true_eq]
        omega
      · intro l hl
        cases hl
        exact ⟨by omega, fd, _, rfl, r⟩
    | none =>
      have e : rStep (fd, last) (frAt st n N (S.map (·.1)) c) = (fd, none) := by
        unfold rStep
        rw [if_neg (fun z => op z.1)]
        simp [frAt, hf]
      rw [e]
      have fn := first_no hf
      have no2 : ∀ x ∈ S, ¬ (g' * n ≤ x.1 ∧ x.1 < (c + 1) * n) := fun x hx => by
        have q1 := no x hx
        have q2 := fn x.1 (List.mem_map_of_mem hx)
        omega
      refine ⟨g', c + 1, k1, k2, k3, by omega, ?_, by simp, fun _ => no2, k8⟩
      simp only
      rw [ts, ← i5, List.filter_eq_nil_iff.mpr, List.map_nil, List.append_nil]
      intro x hx
      have := no2 _ (nix_mem hx)
      have ee : En x.2 = x.2.1 + (x.2.2.length + 3) := rfl
      simp
      omega
theorem J.all {st : Int} {n : Nat} {N : List Int} {S : List (Nat × List Int)} (hn : 0 < n) (good : Good n 0 0 N S) : ∀ (cs P : List Nat) (a : Rst), J n N S P a → (P ++ cs).Pairwise (· < ·) → (∀ c ∈ cs, (c + 1) * n ≤ N.length) → J n N S (P ++ cs) ((cs.map (frAt st n N (S.map (·.1)))).foldl rStep a)
  | [], P, a, j, _, _ => by simpa using j
  | c :: cs, P, a, j, h, hN => by
    have h' : (P ++ [c] ++ cs).Pairwise (· < ·) := by rw [List.append_assoc]; exact h
    have := J.all (st := st) hn good cs (P ++ [c]) _ (j.step (st := st) hn good (fun x hx => (List.pairwise_append.mp h).2.2 x hx c (by simp)) (hN c (by simp))) h' fun x hx => hN x (by simp [hx])
    rw [List.append_assoc] at this
    exact this
/-- what runs of some frames tell: the tellings that lie in them -/
theorem runs_told {st : Int} {n : Nat} {N : List Int} {S : List (Nat × List Int)} (hn : 0 < n) (good : Good n 0 0 N S) {cs : List Nat} (h : cs.Pairwise (· < ·)) (hN : ∀ c ∈ cs, (c + 1) * n ≤ N.length) : ((((cs.map (frAt st n N (S.map (·.1)))).foldl rStep ([], none)).1).map toldIn).flatten = toldP n S cs := by
  obtain ⟨g, b, _, _, _, _, h5, _⟩ := (J.all (st := st) hn good cs [] ([], none) (J.nil hn) h hN).ex
  exact h5
/-! ### put together -/
theorem putT_new {α : Type} : ∀ {l : List (Int × α)} {k : Int} {x : α}, k ∉ l.map (·.1) → putT l k x = l ++ [(k, x)]
  | [], k, x, _ => rfl
  | (g, y) :: l, k, x, h => by
    rw [List.map_cons, List.mem_cons, not_or] at h
    unfold putT
    rw [if_neg (fun z => h.1 z.symm), putT_new h.2]
    rfl
theorem putAll_new {α : Type} : ∀ {m l : List (Int × α)}, ((l ++ m).map (·.1)).Nodup → putAll l m = l ++ m
  | [], l, _ => by simp [putAll]
  | (k, x) :: m, l, h => by
    have e : putAll l ((k, x) :: m) = putAll (putT l k x) m := rfl
    have hk : k ∉ l.map (·.1) := by
      rw [List.map_append, List.nodup_append] at h
      intro z
      exact h.2.2 k z k (by simp) rfl
    rw [e, putT_new hk, putAll_new (by rw [List.append_assoc]; exact h), List.append_assoc]
    rfl
def knT (rs : List (List (List Int))) : List (Int × List Int) := rs.foldl (fun kn bs => putAll kn (putAll [] (toldIn bs))) []
theorem knT_flat {rs : List (List (List Int))} (h : ((rs.map toldIn).flatten.map (·.1)).Nodup) : knT rs = (rs.map toldIn).flatten := by
  have key : ∀ (rs : List (List (List Int))) (l : List (Int × List Int)), ((l ++ (rs.map toldIn).flatten).map (·.1)).Nodup → rs.foldl (fun kn bs => putAll kn (putAll [] (toldIn bs))) l = l ++ (rs.map toldIn).flatten := by
    intro rs
    induction rs with
    | nil => intro l _; simp
    | cons bs rs ih =>
      intro l h
      rw [List.map_cons, List.flatten_cons, ← List.append_assoc] at h
      have h1 : ((l ++ toldIn bs).map (·.1)).Nodup := by rw [List.map_append] at h; exact (List.nodup_append.mp h).1
      have h2 : ((toldIn bs).map (·.1)).Nodup := by rw [List.map_append] at h1; exact (List.nodup_append.mp h1).2.1
      rw [List.foldl_cons, putAll_new (l := []) (by simpa using h2), List.nil_append, putAll_new h1, ih _ h, List.map_cons, List.flatten_cons, List.append_assoc]
  have := key rs [] (by simpa using h)
  simpa [knT] using this
theorem toldP_up (n : Nat) (S : List (Nat × List Int)) (P : List Nat) : ((toldP n S P).map (·.1)).Pairwise (· < ·) := by
  have key : ∀ (k : Nat) (S : List (Nat × List Int)), (nix k S).Pairwise (fun x y => x.1 < y.1) ∧ ∀ x ∈ nix k S, k ≤ x.1 := by
    intro k S
    induction S generalizing k with
    | nil => exact ⟨.nil, by intro x h; cases h⟩
    | cons y S ih =>
      obtain ⟨i1, i2⟩ := ih (k + 1)
      rw [nix, List.pairwise_cons]
      refine ⟨⟨fun x hx => ?_, i1⟩, fun x hx => ?_⟩
      · have := i2 x hx; simp only; omega
      · rcases List.mem_cons.mp hx with rfl | hx
        · simp
        · have := i2 x hx; omega
  unfold toldP
  rw [List.map_map, List.pairwise_map]
  exact ((key 0 S).1.filter _).imp fun {x y} h => by show (x.1 : Int) < (y.1 : Int); omega
inductive Row
  | gap (lo hi : Int)
  | told (k : Int) (t : List Int)
deriving DecidableEq
def rowsW : Int → List (Int × List Int) → List Row
  | _, [] => []
  | due, (k, t) :: r => (if due < k then [Row.gap due (k - 1)] else []) ++ Row.told k t :: rowsW (k + 1) r
theorem up_nd {L : List Int} (h : L.Pairwise (· < ·)) : L.Nodup := h.imp fun h z => by omega
theorem getT_ends {α : Type} : ∀ {l : List (Int × α)} {k : Int} {x : α}, (l.map (·.1)).Nodup → (k, x) ∈ l → getT l k = some x
  | [], k, x, _, h => by cases h
  | (g, y) :: l, k, x, nd, h => by
    rw [List.map_cons, List.nodup_cons] at nd
    unfold getT
    rcases List.mem_cons.mp h with e | h
    · cases e; rw [if_pos rfl]
    · rw [if_neg, getT_ends nd.2 h]
      intro e
      subst e
      exact nd.1 (List.mem_map_of_mem (f := (·.1)) h)
theorem getT_keys {α : Type} {l : List (Int × α)} (nd : (l.map (·.1)).Nodup) : (l.map (·.1)).filterMap (fun k => (getT l k).map fun x => (k, x)) = l := by
  have key : ∀ m : List (Int × α), (∀ p ∈ m, p ∈ l) → (m.map (·.1)).filterMap (fun k => (getT l k).map fun x => (k, x)) = m := by
    intro m
    induction m with
    | nil => intro _; rfl
    | cons p m ih =>
      intro h
      rw [List.map_cons, List.filterMap_cons_some (by rw [getT_ends nd (h p (by simp))]; rfl), ih fun q hq => h q (by simp [hq])]
  exact key l fun _ h => h
end
end Dy.Pm

/-! rows_of as a typed function. -/
namespace Dy.Pm
open PySem L2 Dy
noncomputable section
def Row.d : Row → D
  | .gap lo hi => .tup [.str "gap", .int lo, .int hi]
  | .told k t => .tup [.str "told", .int k, tD t]
theorem imm_Row (r : Row) : imm r.d = true := by cases r <;> simp [Row.d, imm, immL, imm_tD']
def rowsIn (fs : List Fm) : List Row := rowsW 0 ((isort ((knT (runs fs)).map (·.1))).filterMap fun k => (getT (knT (runs fs)) k).map fun x => (k, x))
theorem kn_step_nd {kn : List (Int × List Int)} (h : (kn.map (·.1)).Nodup) (m : List (Int × List Int)) : ((putAll kn m).map (·.1)).Nodup := nd_all m h
theorem toldin_len (bs : List (List Int)) : (toldIn bs).length ≤ tot bs := by
  have key : ∀ (bs : List (List Int)) (a : List (Int × List Int) × List Int), (bs.foldl tStep a).1.length ≤ a.1.length + a.2.length + tot bs := by
    intro bs
    induction bs with
    | nil => intro a; show a.1.length ≤ a.1.length + a.2.length + 0; omega
    | cons b bs ih =>
      intro a
      have h1 := ih (tStep a b)
      have h2 := tStep_len a b
      have e : tot (b :: bs) = b.length + tot bs := by unfold tot; rw [List.map_cons, List.sum_cons]
      rw [List.foldl_cons, e]; omega
  have := key bs ([], [])
  simpa [toldIn] using this
/-- the walk over runs -/
theorem kn_ev (x : Sl) : ∀ (rs : List (List (List Int))) (kn : List (Int × List Int)), (kn.map (·.1)).Nodup → kn.length + (rs.map tot).sum ≤ 90000 →
    forL (lendSl 2) L_rows_in_0 (rs.map bD) [x, .own (dmap tD kn), .no, .no, .no, .no] = .nx [x, .own (dmap tD (rs.foldl (fun kn bs => putAll kn (putAll [] (toldIn bs))) kn)), .no, .no, .no, .no]
  | [], kn, _, _ => rfl
  | bs :: rs, kn, nd, hl => by
    rw [List.map_cons, List.sum_cons] at hl
    have tl := toldin_len bs
    have pl := len_all (toldIn bs) []
    simp only [List.length_nil, Nat.zero_add] at pl
    have ql := len_all (putAll [] (toldIn bs)) kn
    have t := pfn_run (n := 1) (m := 4) (as := [.val (bD bs)]) (Fn := F_told_in) rfl rfl rfl (toldin_ev bs (by omega)) rfl
    have d := dict_ev tD imm_tD' (toldIn bs)
    have u := upd_ev tD imm_tD' (l := kn) (m := putAll [] (toldIn bs)) nd (by omega)
    have ih := kn_ev x rs (putAll kn (putAll [] (toldIn bs))) (nd_all _ nd) (by omega)
    have ib : imm (bD bs) = false := rfl
    have bd : L_rows_in_0 [x, .own (dmap tD kn), .bor (bD bs), .no, .no, .no] = .nx [x, .own (dmap tD (putAll kn (putAll [] (toldIn bs)))), .no, .no, .no, .no] := by
      have ty : tyOkD "dict" (dmap tD kn) = true := rfl
      unfold L_rows_in_0
      simp only [nl1, nl2, nl3, nl4, nc2, nc3, nc4, ix20, ix21, ix30, ix31, ix32, eq_self, isi_ii, isi_ib, isi_is, isi_itl, isi_ntl, isi_tt, isN_n, isN_i, tup2, z_eqI, z_neI, si0, si1, si2, tn0, tn1, tn2, tn3, List.nil_append, List.cons_append, sSeq, sSet, sIf, sRet, sItem, sDrop, sNil, eN, eI, tP, p2, p1, fV, fC, psC, psN, eaC, eaN, e1, e2, pBl, pAnd, pOr, pNot, pIf, eIf, on1_, on2_, List.getElem?_cons_zero, List.getElem?_cons_succ, List.set_cons_zero, List.set_cons_succ, Option.bind_some, Option.map_some, Sl.val, Sl.isInn, z_ixL, z_ixT, at0, at1, at2, at3, r_of, r_bind, r_thn, s_nx, s_ret, z_nx, z_asB, z_len, z_lenT, z_addI, z_mulR, z_mulL, z_sub, z_lt, z_le, z_gt, z_ge, z_mod, z_div, z_max2, z_min2, setSl, updP, modP, valAt, getP, setP, setV, pIdx, pRoot, z_ixN, z_setI, List.length_map, List.length_cons, List.length_nil, if_true, if_false, Bool.false_eq_true, Bool.not_true, Bool.not_false, decide_true, decide_false, sUnp, ast_t, setAll, sPar, sPar3, stp_l, stp_t, g1_l, g1_t, s1_l, s1_t, Nat.reduceBEq, asq_t, asq_l, sFor, iE, iBor, iLock, unlk, id_eq, z_lst0, imm, immL, sClr, m_nx, m_ret, m_exc, m_brk, m_ct, s_exc, s_brk, s_ct, c_nil, c_cons, clr1, e2v, e2p, sFldD, pFld, fP, eMethP, eMethR, List.contains_nil, List.contains_cons, Bool.or_false, fnR, mkc, okAr, okLe, arN, arL, bk, valO, qN, qV, qI, qL, gV, gI, gL, rP, eCall, ofP, eMut, tyok_l, tyok_dk, tyok_dt, ofM, eMake, mkR, pI, eMv, List.append_nil, r_thnx, eDisp, pCall, pMeth, lnd, List.length_append, List.length_replicate, List.replicate, Bool.and_true, Bool.true_and, Bool.and_self, beq_self_eq_true, List.all_nil, List.all_cons, ite_seq, ite_map, ite_bind, ite_thn, t, d, u, ty]
    rw [List.map_cons, forL]
    simp only [lendSl, List.getElem?_cons_succ, List.getElem?_cons_zero, Sl.isInn, Bool.false_eq_true, if_false, ib, List.set_cons_succ, List.set_cons_zero, bd, ih, List.foldl_cons]
theorem kn_len : ∀ (rs : List (List (List Int))) (kn : List (Int × List Int)), (rs.foldl (fun kn bs => putAll kn (putAll [] (toldIn bs))) kn).length ≤ kn.length + (rs.map tot).sum
  | [], kn => Nat.le_refl _
  | bs :: rs, kn => by
    have h1 := kn_len rs (putAll kn (putAll [] (toldIn bs)))
    have h2 := len_all (putAll [] (toldIn bs)) kn
    have h3 := len_all (toldIn bs) []
    have h4 := toldin_len bs
    simp only [List.length_nil] at h3
    rw [List.map_cons, List.sum_cons, List.foldl_cons]
    omega
/-- the walk over known tellings -/
theorem rw_ev (x : Sl) (kn : List (Int × List Int)) : ∀ (l : List (Int × List Int)) (acc : List Row) (due : Int), (∀ p ∈ l, getT kn p.1 = some p.2) → acc.length + 2 * l.length ≤ 900000 →
    ∃ s5 : Int, forL (lendSl 5) L_rows_in_2 (l.map fun p => D.int p.1) [x, .own (dmap tD kn), .no, .own (.lst (acc.map Row.d)), .own (.int due), .no] = .nx [x, .own (dmap tD kn), .no, .own (.lst ((acc ++ rowsW due l).map Row.d)), .own (.int s5), .no]
  | [], acc, due, _, _ => ⟨_, by rw [rowsW, List.append_nil]; rfl⟩
  | (k, t) :: l, acc, due, hk, hl => by
    rw [List.length_cons] at hl
    have fx := fix_ev tD (hk (k, t) (by simp))
    simp only at fx
    have ik : ∀ i : Int, imm (.int i) = true := fun _ => rfl
    have tg : ∀ a b : Int, fTup [.str "gap", .int a, .int b] = some (Row.gap a b).d := fun a b => rfl
    have tt : fTup [.str "told", .int k, tD t] = some (Row.told k t).d := by
      rw [z_fTup (by simp [imm, immL, imm_tD']) (by simp)]; rfl
    have bd : L_rows_in_2 [x, .own (dmap tD kn), .no, .own (.lst (acc.map Row.d)), .own (.int due), .own (.int k)] = .nx [x, .own (dmap tD kn), .no, .own (.lst ((acc ++ ((if due < k then [Row.gap due (k - 1)] else []) ++ [Row.told k t])).map Row.d)), .own (.int (k + 1)), .no] := by
      unfold L_rows_in_2
      by_cases c : due < k
      · have a1 := z_appM (f := Row.d) (xs := acc) (x := .gap due (k - 1)) (by omega)
        have a2 := z_appM (f := Row.d) (xs := acc ++ [.gap due (k - 1)]) (x := .told k t) (by rw [List.length_append, List.length_singleton]; omega)
        rw [if_pos c]
        simp only [nl1, nl2, nl3, nl4, nc2, nc3, nc4, ix20, ix21, ix30, ix31, ix32, eq_self, isi_ii, isi_ib, isi_is, isi_itl, isi_ntl, isi_tt, isN_n, isN_i, tup2, z_eqI, z_neI, si0, si1, si2, tn0, tn1, tn2, tn3, List.nil_append, List.cons_append, sSeq, sSet, sIf, sRet, sItem, sDrop, sNil, eN, eI, tP, p2, p1, fV, fC, psC, psN, eaC, eaN, e1, e2, pBl, pAnd, pOr, pNot, pIf, eIf, on1_, on2_, List.getElem?_cons_zero, List.getElem?_cons_succ, List.set_cons_zero, List.set_cons_succ, Option.bind_some, Option.map_some, Sl.val, Sl.isInn, z_ixL, z_ixT, at0, at1, at2, at3, r_of, r_bind, r_thn, s_nx, s_ret, z_nx, z_asB, z_len, z_lenT, z_addI, z_mulR, z_mulL, z_sub, z_lt, z_le, z_gt, z_ge, z_mod, z_div, z_max2, z_min2, setSl, updP, modP, valAt, getP, setP, setV, pIdx, pRoot, z_ixN, z_setI, List.length_map, List.length_cons, List.length_nil, if_true, if_false, Bool.false_eq_true, Bool.not_true, Bool.not_false, decide_true, decide_false, sUnp, ast_t, setAll, sPar, sPar3, stp_l, stp_t, g1_l, g1_t, s1_l, s1_t, Nat.reduceBEq, asq_t, asq_l, sFor, iE, iBor, iLock, unlk, id_eq, z_lst0, imm, immL, sClr, m_nx, m_ret, m_exc, m_brk, m_ct, s_exc, s_brk, s_ct, c_nil, c_cons, clr1, e2v, e2p, sFldD, pFld, fP, eMethP, eMethR, List.contains_nil, List.contains_cons, Bool.or_false, fnR, mkc, okAr, okLe, arN, arL, bk, valO, qN, qV, qI, qL, gV, gI, gL, rP, eCall, ofP, eMut, tyok_l, tyok_dk, tyok_dt, ofM, eMake, mkR, pI, eMv, List.append_nil, r_thnx, eDisp, pCall, pMeth, lnd, List.length_append, List.length_replicate, List.replicate, Bool.and_true, Bool.true_and, Bool.and_self, beq_self_eq_true, List.all_nil, List.all_cons, ite_seq, ite_map, ite_bind, ite_thn, c, fx, tg, tt, a1, a2, List.append_assoc, List.singleton_append]
      · have a2 := z_appM (f := Row.d) (xs := acc) (x := .told k t) (by omega)
        rw [if_neg c]
        simp only [nl1, nl2, nl3, nl4, nc2, nc3, nc4, ix20, ix21, ix30, ix31, ix32, eq_self, isi_ii, isi_ib, isi_is, isi_itl, isi_ntl, isi_tt, isN_n, isN_i, tup2, z_eqI, z_neI, si0, si1, si2, tn0, tn1, tn2, tn3, List.nil_append, List.cons_append, sSeq, sSet, sIf, sRet, sItem, sDrop, sNil, eN, eI, tP, p2, p1, fV, fC, psC, psN, eaC, eaN, e1, e2, pBl, pAnd, pOr, pNot, pIf, eIf, on1_, on2_, List.getElem?_cons_zero, List.getElem?_cons_succ, List.set_cons_zero, List.set_cons_succ, Option.bind_some, Option.map_some, Sl.val, Sl.isInn, z_ixL, z_ixT, at0, at1, at2, at3, r_of, r_bind, r_thn, s_nx, s_ret, z_nx, z_asB, z_len, z_lenT, z_addI, z_mulR, z_mulL, z_sub, z_lt, z_le, z_gt, z_ge, z_mod, z_div, z_max2, z_min2, setSl, updP, modP, valAt, getP, setP, setV, pIdx, pRoot, z_ixN, z_setI, List.length_map, List.length_cons, List.length_nil, if_true, if_false, Bool.false_eq_true, Bool.not_true, Bool.not_false, decide_true, decide_false, sUnp, ast_t, setAll, sPar, sPar3, stp_l, stp_t, g1_l, g1_t, s1_l, s1_t, Nat.reduceBEq, asq_t, asq_l, sFor, iE, iBor, iLock, unlk, id_eq, z_lst0, imm, immL, sClr, m_nx, m_ret, m_exc, m_brk, m_ct, s_exc, s_brk, s_ct, c_nil, c_cons, clr1, e2v, e2p, sFldD, pFld, fP, eMethP, eMethR, List.contains_nil, List.contains_cons, Bool.or_false, fnR, mkc, okAr, okLe, arN, arL, bk, valO, qN, qV, qI, qL, gV, gI, gL, rP, eCall, ofP, eMut, tyok_l, tyok_dk, tyok_dt, ofM, eMake, mkR, pI, eMv, List.append_nil, r_thnx, eDisp, pCall, pMeth, lnd, List.length_append, List.length_replicate, List.replicate, Bool.and_true, Bool.true_and, Bool.and_self, beq_self_eq_true, List.all_nil, List.all_cons, ite_seq, ite_map, ite_bind, ite_thn, c, fx, tg, tt, a2]
    obtain ⟨s5, ih⟩ := rw_ev x kn l (acc ++ ((if due < k then [Row.gap due (k - 1)] else []) ++ [Row.told k t])) (k + 1) (fun p hp => hk p (by simp [hp])) (by
      rw [List.length_append, List.length_append]; split <;> simp <;> omega)
    refine ⟨s5, ?_⟩
    rw [List.map_cons, forL]
    simp only [lendSl, List.getElem?_cons_succ, List.getElem?_cons_zero, Sl.isInn, Bool.false_eq_true, if_false, imm, if_true, List.set_cons_succ, List.set_cons_zero, bd, ih]
    rw [rowsW, List.append_assoc, List.append_assoc]
    rfl
theorem rowsin_ev (fs : List Fm) (hi : ∀ f ∈ fs, ∀ i, f.fi = some i → 0 ≤ i) (hl : fs.length ≤ 50000) (ht : ((runs fs).map tot).sum ≤ 90000) :
    F_rows_in [.bor (.lst (fs.map Fm.d)), .no, .no, .no, .no, .no] = .ret (.lst ((rowsIn fs).map Row.d)) [.bor (.lst (fs.map Fm.d)), .no, .no, .no, .no, .no] := by
  have r := pfn_run (n := 1) (m := 8) (as := [.val (.lst (fs.map Fm.d))]) (Fn := F_runs_of) rfl rfl rfl (runs_ev fs hi hl) rfl
  have k := kn_ev (.bor (.lst (fs.map Fm.d))) (runs fs) [] (by simp) (by simpa using ht)
  have e0 : dmap tD [] = .dk [] [] := rfl
  rw [e0] at k
  have kd : (runs fs).foldl (fun kn bs => putAll kn (putAll [] (toldIn bs))) [] = knT (runs fs) := rfl
  rw [kd] at k
  have nd : ((knT (runs fs)).map (·.1)).Nodup := by
    have key : ∀ (rs : List (List (List Int))) (kn : List (Int × List Int)), (kn.map (·.1)).Nodup → ((rs.foldl (fun kn bs => putAll kn (putAll [] (toldIn bs))) kn).map (·.1)).Nodup := by
      intro rs
      induction rs with
      | nil => intro kn h; exact h
      | cons bs rs ih => intro kn h; exact ih _ (nd_all _ h)
    exact key _ _ (by simp)
  have q1 : S_rows_in_1 [.bor (.lst (fs.map Fm.d)), .own (.dk [] []), .no, .no, .no, .no] = .nx [.bor (.lst (fs.map Fm.d)), .own (dmap tD (knT (runs fs))), .no, .no, .no, .no] := by
    unfold S_rows_in_1
    simp only [nl1, nl2, nl3, nl4, nc2, nc3, nc4, ix20, ix21, ix30, ix31, ix32, eq_self, isi_ii, isi_ib, isi_is, isi_itl, isi_ntl, isi_tt, isN_n, isN_i, tup2, z_eqI, z_neI, si0, si1, si2, tn0, tn1, tn2, tn3, List.nil_append, List.cons_append, sSeq, sSet, sIf, sRet, sItem, sDrop, sNil, eN, eI, tP, p2, p1, fV, fC, psC, psN, eaC, eaN, e1, e2, pBl, pAnd, pOr, pNot, pIf, eIf, on1_, on2_, List.getElem?_cons_zero, List.getElem?_cons_succ, List.set_cons_zero, List.set_cons_succ, Option.bind_some, Option.map_some, Sl.val, Sl.isInn, z_ixL, z_ixT, at0, at1, at2, at3, r_of, r_bind, r_thn, s_nx, s_ret, z_nx, z_asB, z_len, z_lenT, z_addI, z_mulR, z_mulL, z_sub, z_lt, z_le, z_gt, z_ge, z_mod, z_div, z_max2, z_min2, setSl, updP, modP, valAt, getP, setP, setV, pIdx, pRoot, z_ixN, z_setI, List.length_map, List.length_cons, List.length_nil, if_true, if_false, Bool.false_eq_true, Bool.not_true, Bool.not_false, decide_true, decide_false, sUnp, ast_t, setAll, sPar, sPar3, stp_l, stp_t, g1_l, g1_t, s1_l, s1_t, Nat.reduceBEq, asq_t, asq_l, sFor, iE, iBor, iLock, unlk, id_eq, z_lst0, imm, immL, sClr, m_nx, m_ret, m_exc, m_brk, m_ct, s_exc, s_brk, s_ct, c_nil, c_cons, clr1, e2v, e2p, sFldD, pFld, fP, eMethP, eMethR, List.contains_nil, List.contains_cons, Bool.or_false, fnR, mkc, okAr, okLe, arN, arL, bk, valO, qN, qV, qI, qL, gV, gI, gL, rP, eCall, ofP, eMut, tyok_l, tyok_dk, tyok_dt, ofM, eMake, mkR, pI, eMv, List.append_nil, r_thnx, eDisp, pCall, pMeth, lnd, List.length_append, List.length_replicate, List.replicate, Bool.and_true, Bool.true_and, Bool.and_self, beq_self_eq_true, List.all_nil, List.all_cons, ite_seq, ite_map, ite_bind, ite_thn, r, k]
  have kl : (knT (runs fs)).length ≤ 90000 := by
    have := kn_len (runs fs) []
    rw [kd] at this
    simp only [List.length_nil] at this
    omega
  have ri : rowsIn fs = rowsW 0 ((isort ((knT (runs fs)).map (·.1))).filterMap fun k => (getT (knT (runs fs)) k).map fun x => (k, x)) := rfl
  generalize knT (runs fs) = kn at *
  have so := sortd_ev tD kn
  -- the keys, risen
  have key : ∀ ks : List Int, (∀ y ∈ ks, y ∈ kn.map (·.1)) → (ks.filterMap fun y => (getT kn y).map fun z => (y, z)).map (·.1) = ks ∧ ∀ p ∈ ks.filterMap fun y => (getT kn y).map fun z => (y, z), getT kn p.1 = some p.2 := by
    intro ks
    induction ks with
    | nil => intro _; exact ⟨rfl, fun f hf => by cases hf⟩
    | cons y ks ih =>
      intro h
      obtain ⟨z, e⟩ := getT_some (h y (by simp))
      obtain ⟨i1, i2⟩ := ih fun w hw => h w (by simp [hw])
      rw [List.filterMap_cons_some (by rw [e]; rfl)]
      refine ⟨by rw [List.map_cons, i1], fun p hp => ?_⟩
      rcases List.mem_cons.mp hp with rfl | hp
      · exact e
      · exact i2 p hp
  obtain ⟨k1, k2⟩ := key (isort (kn.map (·.1))) fun y hy => (isort_perm _).mem_iff.mp hy
  have fl : ((isort (kn.map (·.1))).filterMap fun y => (getT kn y).map fun z => (y, z)).length = kn.length := by
    have := congrArg List.length k1
    rw [List.length_map, (isort_perm _).length_eq, List.length_map] at this
    exact this
  obtain ⟨s5, w⟩ := rw_ev (.bor (.lst (fs.map Fm.d))) kn _ [] 0 k2 (by rw [fl]; simp; omega)
  rw [List.nil_append, List.map_nil] at w
  have e5 : (((isort (kn.map (·.1))).filterMap fun y => (getT kn y).map fun z => (y, z)).map fun p => D.int p.1) = (isort (kn.map (·.1))).map D.int := by
    conv => rhs; rw [← k1]
    rw [List.map_map]; rfl
  rw [e5] at w
  have q2 : S_rows_in_3 [.bor (.lst (fs.map Fm.d)), .own (dmap tD kn), .no, .own (.lst []), .own (.int 0), .no] = .nx [.bor (.lst (fs.map Fm.d)), .own (dmap tD kn), .no, .own (.lst ((rowsIn fs).map Row.d)), .no, .no] := by
    unfold S_rows_in_3
    simp only [nl1, nl2, nl3, nl4, nc2, nc3, nc4, ix20, ix21, ix30, ix31, ix32, eq_self, isi_ii, isi_ib, isi_is, isi_itl, isi_ntl, isi_tt, isN_n, isN_i, tup2, z_eqI, z_neI, si0, si1, si2, tn0, tn1, tn2, tn3, List.nil_append, List.cons_append, sSeq, sSet, sIf, sRet, sItem, sDrop, sNil, eN, eI, tP, p2, p1, fV, fC, psC, psN, eaC, eaN, e1, e2, pBl, pAnd, pOr, pNot, pIf, eIf, on1_, on2_, List.getElem?_cons_zero, List.getElem?_cons_succ, List.set_cons_zero, List.set_cons_succ, Option.bind_some, Option.map_some, Sl.val, Sl.isInn, z_ixL, z_ixT, at0, at1, at2, at3, r_of, r_bind, r_thn, s_nx, s_ret, z_nx, z_asB, z_len, z_lenT, z_addI, z_mulR, z_mulL, z_sub, z_lt, z_le, z_gt, z_ge, z_mod, z_div, z_max2, z_min2, setSl, updP, modP, valAt, getP, setP, setV, pIdx, pRoot, z_ixN, z_setI, List.length_map, List.length_cons, List.length_nil, if_true, if_false, Bool.false_eq_true, Bool.not_true, Bool.not_false, decide_true, decide_false, sUnp, ast_t, setAll, sPar, sPar3, stp_l, stp_t, g1_l, g1_t, s1_l, s1_t, Nat.reduceBEq, asq_t, asq_l, sFor, iE, iBor, iLock, unlk, id_eq, z_lst0, imm, immL, sClr, m_nx, m_ret, m_exc, m_brk, m_ct, s_exc, s_brk, s_ct, c_nil, c_cons, clr1, e2v, e2p, sFldD, pFld, fP, eMethP, eMethR, List.contains_nil, List.contains_cons, Bool.or_false, fnR, mkc, okAr, okLe, arN, arL, bk, valO, qN, qV, qI, qL, gV, gI, gL, rP, eCall, ofP, eMut, tyok_l, tyok_dk, tyok_dt, ofM, eMake, mkR, pI, eMv, List.append_nil, r_thnx, eDisp, pCall, pMeth, lnd, List.length_append, List.length_replicate, List.replicate, Bool.and_true, Bool.true_and, Bool.and_self, beq_self_eq_true, List.all_nil, List.all_cons, ite_seq, ite_map, ite_bind, ite_thn, so, w, ri]
  unfold F_rows_in
  simp only [nl1, nl2, nl3, nl4, nc2, nc3, nc4, ix20, ix21, ix30, ix31, ix32, eq_self, isi_ii, isi_ib, isi_is, isi_itl, isi_ntl, isi_tt, isN_n, isN_i, tup2, z_eqI, z_neI, si0, si1, si2, tn0, tn1, tn2, tn3, List.nil_append, List.cons_append, sSeq, sSet, sIf, sRet, sItem, sDrop, sNil, eN, eI, tP, p2, p1, fV, fC, psC, psN, eaC, eaN, e1, e2, pBl, pAnd, pOr, pNot, pIf, eIf, on1_, on2_, List.getElem?_cons_zero, List.getElem?_cons_succ, List.set_cons_zero, List.set_cons_succ, Option.bind_some, Option.map_some, Sl.val, Sl.isInn, z_ixL, z_ixT, at0, at1, at2, at3, r_of, r_bind, r_thn, s_nx, s_ret, z_nx, z_asB, z_len, z_lenT, z_addI, z_mulR, z_mulL, z_sub, z_lt, z_le, z_gt, z_ge, z_mod, z_div, z_max2, z_min2, setSl, updP, modP, valAt, getP, setP, setV, pIdx, pRoot, z_ixN, z_setI, List.length_map, List.length_cons, List.length_nil, if_true, if_false, Bool.false_eq_true, Bool.not_true, Bool.not_false, decide_true, decide_false, sUnp, ast_t, setAll, sPar, sPar3, stp_l, stp_t, g1_l, g1_t, s1_l, s1_t, Nat.reduceBEq, asq_t, asq_l, sFor, iE, iBor, iLock, unlk, id_eq, z_lst0, imm, immL, sClr, m_nx, m_ret, m_exc, m_brk, m_ct, s_exc, s_brk, s_ct, c_nil, c_cons, clr1, e2v, e2p, sFldD, pFld, fP, eMethP, eMethR, List.contains_nil, List.contains_cons, Bool.or_false, fnR, mkc, okAr, okLe, arN, arL, bk, valO, qN, qV, qI, qL, gV, gI, gL, rP, eCall, ofP, eMut, tyok_l, tyok_dk, tyok_dt, ofM, eMake, mkR, pI, eMv, List.append_nil, r_thnx, eDisp, pCall, pMeth, lnd, List.length_append, List.length_replicate, List.replicate, Bool.and_true, Bool.true_and, Bool.and_self, beq_self_eq_true, List.all_nil, List.all_cons, ite_seq, ite_map, ite_bind, ite_thn, ↓q1, ↓q2]
theorem at_map {α : Type} (f : α → D) {l : List α} {i : Nat} (h : i < l.length) : atI (l.map f) (i : Int) = some (f l[i]) := by
  rw [z_at (by omega) (by rw [List.length_map]; omega), Int.toNat_natCast, List.getElem?_map, List.getElem?_eq_getElem h]; rfl
/-! ### what is refused isn't here -/
structure OkF (sz : Int) (f : Fm) : Prop where
  st : 0 ≤ f.st ∧ f.st ≤ 3
  ct : 0 ≤ f.ct ∧ f.ct ≤ 9999
  fi : ∀ i, f.fi = some i → 0 ≤ i ∧ i ≤ sz - 1
  len : (f.body.length : Int) = sz
  b : ∀ x ∈ f.body, 0 ≤ x ∧ x ≤ 255
theorem isframe_ev {f : Fm} {sz : Int} (h : OkF sz f) (hs : sz ≤ 1000) : F_is_frame [.bor f.d, .bor (.int sz), .no, .no, .no, .no] = .ret (.bl true) [.bor f.d, .bor (.int sz), .no, .no, .no, .no] := by
  have ty : fIsi f.d (.op (.ty "tuple")) = some (.bl true) := rfl
  have l4 : fLen f.d = some (.int 4) := rfl
  have nu := pfn_run (n := 3) (m := 1) (as := [.val (tD f.body), .val (.int sz), .val (.int sz)]) (Fn := F_are_numbers) rfl rfl rfl (nums_ev f.body sz sz (by have := h.len; omega)) rfl
  rw [all_ok h.b, h.len] at nu
  simp only [Int.le_refl, decide_true, Bool.and_self] at nu
  have h1 := h.st.1
  have h2 : f.st ≤ 4 - 1 := by have := h.st.2; omega
  have h3 := h.ct.1
  have h4 := h.ct.2
  have im : imm (tD f.body) = true := imm_tD' f.body
  have ie := imm_eO f.fi
  have ne4 : fNe (.int 4) (.int 4) = some (.bl false) := by rw [z_neI]; rfl
  have hfi := h.fi
  rw [F_parts] at ty l4 ⊢
  revert ty l4 ie hfi
  generalize f.fi = o
  intro ty l4 ie hfi
  unfold F_is_frame
  cases o with
  | none =>
    have isn : fIsN .non .non = some (.bl true) := rfl
    simp only [eO] at ty l4 ie ⊢
    simp only [nl1, nl2, nl3, nl4, nc2, nc3, nc4, ix20, ix21, ix30, ix31, ix32, eq_self, isi_ii, isi_ib, isi_is, isi_itl, isi_ntl, isi_tt, isN_n, isN_i, tup2, z_eqI, z_neI, si0, si1, si2, tn0, tn1, tn2, tn3, List.nil_append, List.cons_append, sSeq, sSet, sIf, sRet, sItem, sDrop, sNil, eN, eI, tP, p2, p1, fV, fC, psC, psN, eaC, eaN, e1, e2, pBl, pAnd, pOr, pNot, pIf, eIf, on1_, on2_, List.getElem?_cons_zero, List.getElem?_cons_succ, List.set_cons_zero, List.set_cons_succ, Option.bind_some, Option.map_some, Sl.val, Sl.isInn, z_ixL, z_ixT, at0, at1, at2, at3, r_of, r_bind, r_thn, s_nx, s_ret, z_nx, z_asB, z_len, z_lenT, z_addI, z_mulR, z_mulL, z_sub, z_lt, z_le, z_gt, z_ge, z_mod, z_div, z_max2, z_min2, setSl, updP, modP, valAt, getP, setP, setV, pIdx, pRoot, z_ixN, z_setI, List.length_map, List.length_cons, List.length_nil, if_true, if_false, Bool.false_eq_true, Bool.not_true, Bool.not_false, decide_true, decide_false, sUnp, ast_t, setAll, sPar, sPar3, stp_l, stp_t, g1_l, g1_t, s1_l, s1_t, Nat.reduceBEq, asq_t, asq_l, sFor, iE, iBor, iLock, unlk, id_eq, z_lst0, imm, immL, sClr, m_nx, m_ret, m_exc, m_brk, m_ct, s_exc, s_brk, s_ct, c_nil, c_cons, clr1, e2v, e2p, sFldD, pFld, fP, eMethP, eMethR, List.contains_nil, List.contains_cons, Bool.or_false, fnR, mkc, okAr, okLe, arN, arL, bk, valO, qN, qV, qI, qL, gV, gI, gL, rP, eCall, ofP, eMut, tyok_l, tyok_dk, tyok_dt, ofM, eMake, mkR, pI, eMv, List.append_nil, r_thnx, eDisp, pCall, pMeth, lnd, List.length_append, List.length_replicate, List.replicate, Bool.and_true, Bool.true_and, Bool.and_self, beq_self_eq_true, List.all_nil, List.all_cons, ite_seq, ite_map, ite_bind, ite_thn, ty, l4, ne4, im, ie, isnum_p, h1, h2, h3, h4, isn, nu]
  | some i =>
    obtain ⟨h5, h6⟩ := hfi i rfl
    have isn : fIsN (.int i) .non = some (.bl false) := rfl
    simp only [eO] at ty l4 ie ⊢
    simp only [nl1, nl2, nl3, nl4, nc2, nc3, nc4, ix20, ix21, ix30, ix31, ix32, eq_self, isi_ii, isi_ib, isi_is, isi_itl, isi_ntl, isi_tt, isN_n, isN_i, tup2, z_eqI, z_neI, si0, si1, si2, tn0, tn1, tn2, tn3, List.nil_append, List.cons_append, sSeq, sSet, sIf, sRet, sItem, sDrop, sNil, eN, eI, tP, p2, p1, fV, fC, psC, psN, eaC, eaN, e1, e2, pBl, pAnd, pOr, pNot, pIf, eIf, on1_, on2_, List.getElem?_cons_zero, List.getElem?_cons_succ, List.set_cons_zero, List.set_cons_succ, Option.bind_some, Option.map_some, Sl.val, Sl.isInn, z_ixL, z_ixT, at0, at1, at2, at3, r_of, r_bind, r_thn, s_nx, s_ret, z_nx, z_asB, z_len, z_lenT, z_addI, z_mulR, z_mulL, z_sub, z_lt, z_le, z_gt, z_ge, z_mod, z_div, z_max2, z_min2, setSl, updP, modP, valAt, getP, setP, setV, pIdx, pRoot, z_ixN, z_setI, List.length_map, List.length_cons, List.length_nil, if_true, if_false, Bool.false_eq_true, Bool.not_true, Bool.not_false, decide_true, decide_false, sUnp, ast_t, setAll, sPar, sPar3, stp_l, stp_t, g1_l, g1_t, s1_l, s1_t, Nat.reduceBEq, asq_t, asq_l, sFor, iE, iBor, iLock, unlk, id_eq, z_lst0, imm, immL, sClr, m_nx, m_ret, m_exc, m_brk, m_ct, s_exc, s_brk, s_ct, c_nil, c_cons, clr1, e2v, e2p, sFldD, pFld, fP, eMethP, eMethR, List.contains_nil, List.contains_cons, Bool.or_false, fnR, mkc, okAr, okLe, arN, arL, bk, valO, qN, qV, qI, qL, gV, gI, gL, rP, eCall, ofP, eMut, tyok_l, tyok_dk, tyok_dt, ofM, eMake, mkR, pI, eMv, List.append_nil, r_thnx, eDisp, pCall, pMeth, lnd, List.length_append, List.length_replicate, List.replicate, Bool.and_true, Bool.true_and, Bool.and_self, beq_self_eq_true, List.all_nil, List.all_cons, ite_seq, ite_map, ite_bind, ite_thn, ty, l4, ne4, im, ie, isnum_p, h1, h2, h3, h4, h5, h6, isn, nu]
theorem eqD_Fself (f : Fm) : fNe f.d f.d = some (.bl false) := z_neS (shp_F 58 f)
theorem shp_kkF (f : Fm) : fIx f.d (.int 0) = some (.int f.st) ∧ fIx f.d (.int 1) = some (.int f.ct) := by
  rw [F_parts]; exact ⟨by rw [z_ixT, at0], by rw [z_ixT, at1]⟩
/-- frames of one stream, each count's told alike -/
structure OkFs (sz : Int) (fs : List Fm) : Prop where
  ok : ∀ f ∈ fs, OkF sz f
  one : ∀ f ∈ fs, ∀ g ∈ fs, f.st = g.st
  same : ∀ f ∈ fs, ∀ g ∈ fs, f.ct = g.ct → f = g
theorem needframes_ev {fs : List Fm} {sz : Int} (h : OkFs sz fs) (hs : sz ≤ 1000) (hl : fs.length ≤ 90000) : F_need_frames [.bor (.lst (fs.map Fm.d)), .bor (.int sz), .no, .no, .no] = .nx [.bor (.lst (fs.map Fm.d)), .bor (.int sz), .no, .no, .no] := by
  obtain ⟨kn, f1, _⟩ := for_rng (S := fun kn : List (Int × Fm) => [.bor (.lst (fs.map Fm.d)), .bor (.int sz), .own (dmap Fm.d kn), .no, .no]) (P := fun i kn => (kn.map (·.1)).Nodup ∧ kn.length ≤ i ∧ ∀ p ∈ kn, p.2 ∈ fs ∧ p.1 = p.2.ct) (st := lendSl 3) (body := L_need_frames_0) (lo := 0) (n := fs.length)
    (fun i kn hi ⟨nd, kl, km⟩ => by
      have hf : fs[i] ∈ fs := List.getElem_mem hi
      have h0' : fs[0]'(by omega) ∈ fs := List.getElem_mem _
      generalize ef : fs[i] = f at hf
      generalize ef0 : fs[0]'(by omega) = f0 at h0'
      have ix := at_map Fm.d hi
      have ix0 := at_map Fm.d (l := fs) (i := 0) (by omega)
      rw [ef] at ix
      rw [ef0] at ix0
      rw [show ((0 : Nat) : Int) = 0 from rfl] at ix0
      have isf := pfn_run (n := 2) (m := 4) (as := [.val f.d, .val (.int sz)]) (Fn := F_is_frame) rfl rfl rfl (isframe_ev (h.ok f hf) hs) rfl
      obtain ⟨g0, g1⟩ := shp_kkF f
      obtain ⟨g2, _⟩ := shp_kkF f0
      have se := h.one f hf f0 h0'
      have ne0 : fNe (.int f.st) (.int f0.st) = some (.bl false) := by rw [z_neI, se]; simp
      have dg := dget_ev Fm.d kn f.ct
      have im := imm_F f
      have sd := setd_ev Fm.d nd (by omega) f.ct f
      have gd : (((getT kn f.ct).map Fm.d).getD f.d) = f.d := by
        cases e : getT kn f.ct with
        | none => rfl
        | some g =>
          obtain ⟨m1, m2⟩ := km _ (getT_mem e)
          simp only at m1 m2
          rw [h.same f hf g m1 m2]; rfl
      have nn := eqD_Fself f
      refine ⟨_, putT kn f.ct f, rfl, ?_, nd_put nd _ _, by have := len_put kn f.ct f; omega, fun p hp => ?_⟩
      · have e0i : (0 : Int) + (i : Int) = i := by omega
        simp only [e0i]
        unfold L_need_frames_0
        simp only [nl1, nl2, nl3, nl4, nc2, nc3, nc4, ix20, ix21, ix30, ix31, ix32, eq_self, isi_ii, isi_ib, isi_is, isi_itl, isi_ntl, isi_tt, isN_n, isN_i, tup2, z_eqI, z_neI, si0, si1, si2, tn0, tn1, tn2, tn3, List.nil_append, List.cons_append, sSeq, sSet, sIf, sRet, sItem, sDrop, sNil, eN, eI, tP, p2, p1, fV, fC, psC, psN, eaC, eaN, e1, e2, pBl, pAnd, pOr, pNot, pIf, eIf, on1_, on2_, List.getElem?_cons_zero, List.getElem?_cons_succ, List.set_cons_zero, List.set_cons_succ, Option.bind_some, Option.map_some, Sl.val, Sl.isInn, z_ixL, z_ixT, at0, at1, at2, at3, r_of, r_bind, r_thn, s_nx, s_ret, z_nx, z_asB, z_len, z_lenT, z_addI, z_mulR, z_mulL, z_sub, z_lt, z_le, z_gt, z_ge, z_mod, z_div, z_max2, z_min2, setSl, updP, modP, valAt, getP, setP, setV, pIdx, pRoot, z_ixN, z_setI, List.length_map, List.length_cons, List.length_nil, if_true, if_false, Bool.false_eq_true, Bool.not_true, Bool.not_false, decide_true, decide_false, sUnp, ast_t, setAll, sPar, sPar3, stp_l, stp_t, g1_l, g1_t, s1_l, s1_t, Nat.reduceBEq, asq_t, asq_l, sFor, iE, iBor, iLock, unlk, id_eq, z_lst0, imm, immL, sClr, m_nx, m_ret, m_exc, m_brk, m_ct, s_exc, s_brk, s_ct, c_nil, c_cons, clr1, e2v, e2p, sFldD, pFld, fP, eMethP, eMethR, List.contains_nil, List.contains_cons, Bool.or_false, fnR, mkc, okAr, okLe, arN, arL, bk, valO, qN, qV, qI, qL, gV, gI, gL, rP, eCall, ofP, eMut, tyok_l, tyok_dk, tyok_dt, ofM, eMake, mkR, pI, eMv, List.append_nil, r_thnx, eDisp, pCall, pMeth, lnd, List.length_append, List.length_replicate, List.replicate, Bool.and_true, Bool.true_and, Bool.and_self, beq_self_eq_true, List.all_nil, List.all_cons, ite_seq, ite_map, ite_bind, ite_thn, ix, ix0, isf, g0, g1, g2, ne0, pGet2, dg, gd, nn, im, sd]
      · rcases put_mem hp with rfl | hp
        · exact ⟨hf, rfl⟩
        · exact km p hp) (a := []) ⟨by simp, by simp, by intro p hp; cases hp⟩
  have r1 := iR1_n (n := fs.length) (by omega)
  have ln : fLen (.lst (fs.map Fm.d)) = some (.int (fs.length : Int)) := by show some (D.int ((fs.map Fm.d).length : Nat)) = _; rw [List.length_map]
  have e0 : dmap Fm.d [] = .dk [] [] := rfl
  rw [e0] at f1
  have q : S_need_frames_1 [.bor (.lst (fs.map Fm.d)), .bor (.int sz), .own (.dk [] []), .no, .no] = .nx [.bor (.lst (fs.map Fm.d)), .bor (.int sz), .own (dmap Fm.d kn), .no, .no] := by
    unfold S_need_frames_1
    simp only [nl1, nl2, nl3, nl4, nc2, nc3, nc4, ix20, ix21, ix30, ix31, ix32, eq_self, isi_ii, isi_ib, isi_is, isi_itl, isi_ntl, isi_tt, isN_n, isN_i, tup2, z_eqI, z_neI, si0, si1, si2, tn0, tn1, tn2, tn3, List.nil_append, List.cons_append, sSeq, sSet, sIf, sRet, sItem, sDrop, sNil, eN, eI, tP, p2, p1, fV, fC, psC, psN, eaC, eaN, e1, e2, pBl, pAnd, pOr, pNot, pIf, eIf, on1_, on2_, List.getElem?_cons_zero, List.getElem?_cons_succ, List.set_cons_zero, List.set_cons_succ, Option.bind_some, Option.map_some, Sl.val, Sl.isInn, z_ixL, z_ixT, at0, at1, at2, at3, r_of, r_bind, r_thn, s_nx, s_ret, z_nx, z_asB, z_len, z_lenT, z_addI, z_mulR, z_mulL, z_sub, z_lt, z_le, z_gt, z_ge, z_mod, z_div, z_max2, z_min2, setSl, updP, modP, valAt, getP, setP, setV, pIdx, pRoot, z_ixN, z_setI, List.length_map, List.length_cons, List.length_nil, if_true, if_false, Bool.false_eq_true, Bool.not_true, Bool.not_false, decide_true, decide_false, sUnp, ast_t, setAll, sPar, sPar3, stp_l, stp_t, g1_l, g1_t, s1_l, s1_t, Nat.reduceBEq, asq_t, asq_l, sFor, iE, iBor, iLock, unlk, id_eq, z_lst0, imm, immL, sClr, m_nx, m_ret, m_exc, m_brk, m_ct, s_exc, s_brk, s_ct, c_nil, c_cons, clr1, e2v, e2p, sFldD, pFld, fP, eMethP, eMethR, List.contains_nil, List.contains_cons, Bool.or_false, fnR, mkc, okAr, okLe, arN, arL, bk, valO, qN, qV, qI, qL, gV, gI, gL, rP, eCall, ofP, eMut, tyok_l, tyok_dk, tyok_dt, ofM, eMake, mkR, pI, eMv, List.append_nil, r_thnx, eDisp, pCall, pMeth, lnd, List.length_append, List.length_replicate, List.replicate, Bool.and_true, Bool.true_and, Bool.and_self, beq_self_eq_true, List.all_nil, List.all_cons, ite_seq, ite_map, ite_bind, ite_thn, ln, r1, f1]
  unfold F_need_frames
  simp only [nl1, nl2, nl3, nl4, nc2, nc3, nc4, ix20, ix21, ix30, ix31, ix32, eq_self, isi_ii, isi_ib, isi_is, isi_itl, isi_ntl, isi_tt, isN_n, isN_i, tup2, z_eqI, z_neI, si0, si1, si2, tn0, tn1, tn2, tn3, List.nil_append, List.cons_append, sSeq, sSet, sIf, sRet, sItem, sDrop, sNil, eN, eI, tP, p2, p1, fV, fC, psC, psN, eaC, eaN, e1, e2, pBl, pAnd, pOr, pNot, pIf, eIf, on1_, on2_, List.getElem?_cons_zero, List.getElem?_cons_succ, List.set_cons_zero, List.set_cons_succ, Option.bind_some, Option.map_some, Sl.val, Sl.isInn, z_ixL, z_ixT, at0, at1, at2, at3, r_of, r_bind, r_thn, s_nx, s_ret, z_nx, z_asB, z_len, z_lenT, z_addI, z_mulR, z_mulL, z_sub, z_lt, z_le, z_gt, z_ge, z_mod, z_div, z_max2, z_min2, setSl, updP, modP, valAt, getP, setP, setV, pIdx, pRoot, z_ixN, z_setI, List.length_map, List.length_cons, List.length_nil, if_true, if_false, Bool.false_eq_true, Bool.not_true, Bool.not_false, decide_true, decide_false, sUnp, ast_t, setAll, sPar, sPar3, stp_l, stp_t, g1_l, g1_t, s1_l, s1_t, Nat.reduceBEq, asq_t, asq_l, sFor, iE, iBor, iLock, unlk, id_eq, z_lst0, imm, immL, sClr, m_nx, m_ret, m_exc, m_brk, m_ct, s_exc, s_brk, s_ct, c_nil, c_cons, clr1, e2v, e2p, sFldD, pFld, fP, eMethP, eMethR, List.contains_nil, List.contains_cons, Bool.or_false, fnR, mkc, okAr, okLe, arN, arL, bk, valO, qN, qV, qI, qL, gV, gI, gL, rP, eCall, ofP, eMut, tyok_l, tyok_dk, tyok_dt, ofM, eMake, mkR, pI, eMv, List.append_nil, r_thnx, eDisp, pCall, pMeth, lnd, List.length_append, List.length_replicate, List.replicate, Bool.and_true, Bool.true_and, Bool.and_self, beq_self_eq_true, List.all_nil, List.all_cons, ite_seq, ite_map, ite_bind, ite_thn, ↓q]
theorem rStep_tot (a : Rst) (f : Fm) : ((rStep a f).1.map tot).sum ≤ (a.1.map tot).sum + f.body.length := by
  obtain ⟨fd, last⟩ := a
  unfold rStep
  simp only
  split
  · rcases List.eq_nil_or_concat fd with rfl | ⟨ini, r, rfl⟩
    · simp [tot]
    · rw [List.concat_eq_append]
      simp only [List.dropLast_concat, List.getLast?_concat, Option.getD_some, List.map_append, List.sum_append, List.map_cons, List.map_nil, List.sum_cons, List.sum_nil, tot]
      omega
  · split
    · simp only [List.map_append, List.sum_append, List.map_cons, List.map_nil, List.sum_cons, List.sum_nil, tot, List.length_drop]
      omega
    · simp
theorem runs_tot {fs : List Fm} {sz : Int} (h : ∀ f ∈ fs, (f.body.length : Int) = sz) (hs : 0 ≤ sz ∧ sz ≤ 24) : ((runs fs).map tot).sum ≤ 24 * fs.length := by
  have key : ∀ (l : List Fm) (a : Rst), (∀ f ∈ l, f ∈ fs) → ((l.foldl rStep a).1.map tot).sum ≤ (a.1.map tot).sum + 24 * l.length := by
    intro l
    induction l with
    | nil => intro a _; simp
    | cons f l ih =>
      intro a hl
      have h1 := ih (rStep a f) fun g hg => hl g (by simp [hg])
      have h2 := rStep_tot a f
      have h3 := h f (hl f (by simp))
      rw [List.foldl_cons, List.length_cons]
      omega
  have := key (sfr fs) ([], none) fun f hf => ((sfr_ct fs).2 f hf).2
  have l := sfr_len fs
  simp only [List.map_nil, List.sum_nil] at this
  unfold runs
  omega
theorem rowsof_ev {fs : List Fm} {sz : Int} (h : OkFs sz fs) (hs : 8 ≤ sz ∧ sz ≤ 24) (hl : fs.length ≤ 3700) :
    F_rows_of [.bor (.lst (fs.map Fm.d)), .bor (.int sz)] = .ret (.lst ((rowsIn fs).map Row.d)) [.bor (.lst (fs.map Fm.d)), .bor (.int sz)] := by
  have n1 := nsize_ev hs.1 hs.2
  have n2 := needframes_ev h (by omega) (by omega)
  have rt := runs_tot (fun f hf => (h.ok f hf).len) (sz := sz) (by omega)
  have r := pfn_run (n := 1) (m := 5) (as := [.val (.lst (fs.map Fm.d))]) (Fn := F_rows_in) rfl rfl rfl (rowsin_ev fs (fun f hf i e => ((h.ok f hf).fi i e).1) (by omega) (by omega)) rfl
  unfold F_rows_of
  simp only [nl1, nl2, nl3, nl4, nc2, nc3, nc4, ix20, ix21, ix30, ix31, ix32, eq_self, isi_ii, isi_ib, isi_is, isi_itl, isi_ntl, isi_tt, isN_n, isN_i, tup2, z_eqI, z_neI, si0, si1, si2, tn0, tn1, tn2, tn3, List.nil_append, List.cons_append, sSeq, sSet, sIf, sRet, sItem, sDrop, sNil, eN, eI, tP, p2, p1, fV, fC, psC, psN, eaC, eaN, e1, e2, pBl, pAnd, pOr, pNot, pIf, eIf, on1_, on2_, List.getElem?_cons_zero, List.getElem?_cons_succ, List.set_cons_zero, List.set_cons_succ, Option.bind_some, Option.map_some, Sl.val, Sl.isInn, z_ixL, z_ixT, at0, at1, at2, at3, r_of, r_bind, r_thn, s_nx, s_ret, z_nx, z_asB, z_len, z_lenT, z_addI, z_mulR, z_mulL, z_sub, z_lt, z_le, z_gt, z_ge, z_mod, z_div, z_max2, z_min2, setSl, updP, modP, valAt, getP, setP, setV, pIdx, pRoot, z_ixN, z_setI, List.length_map, List.length_cons, List.length_nil, if_true, if_false, Bool.false_eq_true, Bool.not_true, Bool.not_false, decide_true, decide_false, sUnp, ast_t, setAll, sPar, sPar3, stp_l, stp_t, g1_l, g1_t, s1_l, s1_t, Nat.reduceBEq, asq_t, asq_l, sFor, iE, iBor, iLock, unlk, id_eq, z_lst0, imm, immL, sClr, m_nx, m_ret, m_exc, m_brk, m_ct, s_exc, s_brk, s_ct, c_nil, c_cons, clr1, e2v, e2p, sFldD, pFld, fP, eMethP, eMethR, List.contains_nil, List.contains_cons, Bool.or_false, fnR, mkc, okAr, okLe, arN, arL, bk, valO, qN, qV, qI, qL, gV, gI, gL, rP, eCall, ofP, eMut, tyok_l, tyok_dk, tyok_dt, ofM, eMake, mkR, pI, eMv, List.append_nil, r_thnx, eDisp, pCall, pMeth, lnd, List.length_append, List.length_replicate, List.replicate, Bool.and_true, Bool.true_and, Bool.and_self, beq_self_eq_true, List.all_nil, List.all_cons, ite_seq, ite_map, ite_bind, ite_thn, n1, n2, r]
/-! ### rows of frames of a good stream -/
theorem lt_up {L M : List Int} (h1 : L.Nodup) (hM : M.Pairwise (· < ·)) (e : ∀ x, x ∈ L ↔ x ∈ M) : isort L = M := by
  have p : (isort L).Perm M := (isort_perm L).trans ((List.perm_ext_iff_of_nodup h1 (up_nd hM)).mpr e)
  exact up_one p (isort_up L) (hM.imp fun h => by omega)
/-- a frame of the stream -/
def IsF (st : Int) (n : Nat) (N : List Int) (S : List (Nat × List Int)) (f : Fm) : Prop := ∃ c : Nat, (c + 1) * n ≤ N.length ∧ f = frAt st n N (S.map (·.1)) c
theorem sfr_fr {st : Int} {n : Nat} {N : List Int} {S : List (Nat × List Int)} {fs : List Fm} (hf : ∀ f ∈ fs, IsF st n N S f) {cs : List Nat} (up : cs.Pairwise (· < ·)) (hc : ∀ c : Nat, c ∈ cs ↔ (c : Int) ∈ fs.map Fm.ct) :
    sfr fs = cs.map (frAt st n N (S.map (·.1))) := by
  obtain ⟨s1, s2⟩ := sfr_ct fs
  have nd : ((knw fs).map (·.1)).Nodup := nd_all _ (by simp)
  have mem : ∀ x, x ∈ (knw fs).map (·.1) ↔ x ∈ fs.map Fm.ct := fun x => by
    have key : ∀ (m l : List (Int × Fm)), x ∈ (putAll l m).map (·.1) ↔ x ∈ l.map (·.1) ∨ x ∈ m.map (·.1) := by
      intro m
      induction m with
      | nil => intro l; simp [putAll]
      | cons p m ih =>
        intro l
        have e : putAll l (p :: m) = putAll (putT l p.1 p.2) m := rfl
        rw [e, ih, keys_put]
        split
        · rename_i hp
          rw [List.map_cons, List.mem_cons]
          constructor
          · rintro (z | z)
            · exact .inl z
            · exact .inr (.inr z)
          · rintro (z | z | z)
            · exact .inl z
            · subst z; exact .inl hp
            · exact .inr z
        · rw [List.mem_append, List.mem_singleton, List.map_cons, List.mem_cons, or_assoc]
    have := key (fs.map fun f => (f.ct, f)) []
    rw [List.map_map] at this
    simpa [knw] using this
  have e1 : isort ((knw fs).map (·.1)) = cs.map fun c : Nat => (c : Int) := by
    refine lt_up nd (by rw [List.pairwise_map]; exact up.imp fun h => by omega) fun x => ?_
    rw [mem]
    constructor
    · intro hx
      obtain ⟨f, hf1, hf2⟩ := List.mem_map.mp hx
      obtain ⟨c, _, rfl⟩ := hf f hf1
      have e : x = (c : Int) := hf2.symm
      rw [e] at hx ⊢
      exact List.mem_map_of_mem (f := fun c : Nat => (c : Int)) ((hc c).mpr hx)
    · intro hx
      obtain ⟨c, hc1, rfl⟩ := List.mem_map.mp hx
      exact (hc c).mp hc1
  rw [e1] at s1
  have s3 : (sfr fs).map (fun f => frAt st n N (S.map (·.1)) f.ct.toNat) = sfr fs := by
    have : (sfr fs).map (fun f => frAt st n N (S.map (·.1)) f.ct.toNat) = (sfr fs).map id := List.map_congr_left fun f h => by
      obtain ⟨c, _, rfl⟩ := hf f (s2 f h).2
      show frAt st n N (S.map (·.1)) ((c : Int)).toNat = _
      rw [Int.toNat_natCast]; rfl
    rw [this, List.map_id]
  have s4 := congrArg (fun l : List Int => l.map fun x => frAt st n N (S.map (·.1)) x.toNat) s1
  simp only [List.map_map] at s4
  rw [← s3]
  refine Eq.trans ?_ (s4.trans ?_)
  · rfl
  · apply List.map_congr_left
    intro c _
    show frAt st n N (S.map (·.1)) ((c : Int)).toNat = _
    rw [Int.toNat_natCast]
/-- rows of frames of a good stream: of the tellings that lie in them -/
theorem rowsIn_good {st : Int} {n : Nat} {N : List Int} {S : List (Nat × List Int)} (hn : 0 < n) (good : Good n 0 0 N S) {fs : List Fm} (hf : ∀ f ∈ fs, IsF st n N S f) {cs : List Nat} (up : cs.Pairwise (· < ·)) (hc : ∀ c : Nat, c ∈ cs ↔ (c : Int) ∈ fs.map Fm.ct) :
    rowsIn fs = rowsW 0 (toldP n S cs) := by
  have hN : ∀ c ∈ cs, (c + 1) * n ≤ N.length := fun c h => by
    obtain ⟨f, h1, h2⟩ := List.mem_map.mp ((hc c).mp h)
    obtain ⟨c', h3, rfl⟩ := hf f h1
    have : (c' : Int) = (c : Int) := h2
    rw [show c = c' by omega]; exact h3
  have r := runs_told (st := st) hn good up hN
  rw [← sfr_fr hf up hc] at r
  have up2 := toldP_up n S cs
  have nd := up_nd up2
  rw [← r] at nd
  have k : knT (runs fs) = toldP n S cs := (knT_flat nd).trans r
  have srt : isort ((toldP n S cs).map (·.1)) = (toldP n S cs).map (·.1) := lt_up (up_nd up2) up2 fun x => Iff.rfl
  unfold rowsIn
  rw [k, srt, getT_keys (up_nd up2)]
end
end Dy.Pm

/-! Frames of tellings are a good stream's. -/
namespace Dy.Pm
open PySem L2 Dy
noncomputable section
theorem ok_gap : PyData.strOk (Str.ofString "gap") = true := by decide +kernel
theorem ok_told : PyData.strOk (Str.ofString "told") = true := by decide +kernel
theorem shp_Row (n : Nat) (r : Row) : shp (n + 2) r.d = true := by
  cases r with
  | gap lo hi => simp only [Row.d, shp_tup, List.all_cons, List.all_nil, shp_int, shp_str, ok_gap, Bool.and_self]
  | told k t => simp only [Row.d, tD, shp_tup, List.all_cons, List.all_nil, shp_int, shp_ints, shp_str, ok_told, Bool.and_self]
theorem layS_cons (s : Ls) (t : List Int) (ts : List (List Int)) : layS s (t :: ts) = layS (s.lay t) ts := rfl
theorem layS_good {n : Nat} : ∀ (ts : List (List Int)) {s : Ls}, (∀ t ∈ ts, OkT t) → Good n 0 0 s.N s.S → Good n 0 0 (layS s ts).N (layS s ts).S
  | [], _, _, g => g
  | t :: ts, s, hk, g => by
    rw [layS_cons]
    refine layS_good ts (fun x hx => hk x (by simp [hx])) ?_
    have := g.lay t (hk t (by simp)).l1
    rw [Nat.zero_add, Nat.zero_add] at this
    exact this
theorem layS_len : ∀ (ts : List (List Int)) (s : Ls), (layS s ts).N.length = s.N.length + (ts.map fun t => t.length + 3).sum ∧ (layS s ts).S.map (·.2) = s.S.map (·.2) ++ ts ∧ (layS s ts).sz = s.sz
  | [], s => ⟨rfl, by simp [layS], rfl⟩
  | t :: ts, s => by
    obtain ⟨a, b, c⟩ := layS_len ts (s.lay t)
    rw [layS_cons, a, b, c]
    refine ⟨?_, ?_, rfl⟩
    · show (s.N ++ cells _ t).length + _ = _
      rw [List.length_append, cells_len, List.map_cons, List.sum_cons]; omega
    · show (s.S ++ [_]).map (fun p : Nat × List Int => p.2) ++ ts = _
      rw [List.map_append, List.append_assoc]; rfl
theorem tsum_le {ts : List (List Int)} (h : ∀ t ∈ ts, OkT t) : (ts.map fun t => t.length + 3).sum ≤ 23 * ts.length := by
  induction ts with
  | nil => simp
  | cons t ts ih =>
    have := (h t (by simp)).l2
    have := ih fun x hx => h x (by simp [hx])
    rw [List.map_cons, List.sum_cons, List.length_cons]; omega
theorem layS_bd : ∀ (ts : List (List Int)) {s : Ls}, (∀ t ∈ ts, OkT t) → (∀ x ∈ s.N, 0 ≤ x ∧ x ≤ 255) → s.S.length + ts.length ≤ 65000 → ∀ x ∈ (layS s ts).N, 0 ≤ x ∧ x ≤ 255
  | [], s, _, h, _ => h
  | t :: ts, s, hk, h, hl => by
    rw [List.length_cons] at hl
    rw [layS_cons]
    have ht := hk t (by simp)
    refine layS_bd ts (fun x hx => hk x (by simp [hx])) (fun x hx => ?_) (by show (s.S ++ [_]).length + _ ≤ _; rw [List.length_append, List.length_singleton]; omega)
    have hx' : x ∈ s.N ++ cells s.S.length t := hx
    rcases List.mem_append.mp hx' with hx' | hx'
    · exact h x hx'
    · have := ht.l2
      unfold cells at hx'
      rw [show (256 : Int) = ((256 : Nat) : Int) from rfl, fdiv_nat, fmod_nat] at hx'
      simp only [List.cons_append, List.nil_append, List.mem_cons] at hx'
      rcases hx' with rfl | rfl | rfl | hx'
      · omega
      · omega
      · omega
      · exact ht.b x hx'
/-- the row of a stream that is told and filled up -/
def fullS (n : Nat) (ts : List (List Int)) : Ls := (layS (Ls.new n) ts).fill
theorem rest_lt {n : Nat} (hn : 0 < n) (s : Ls) (hs : s.sz = n) : s.rest = ((s.N.length % n : Nat) : Int) := by
  unfold Ls.rest; rw [hs, fmod_nat]
structure Full (n : Nat) (ts : List (List Int)) : Prop where
  good : Good n 0 0 (fullS n ts).N (fullS n ts).S
  N : (fullS n ts).N = (layS (Ls.new n) ts).N ++ List.replicate ((n - (layS (Ls.new n) ts).N.length % n) % n) 0
  len : (fullS n ts).N.length = (fullS n ts).N.length / n * n
  bd : ∀ x ∈ (fullS n ts).N, 0 ≤ x ∧ x ≤ 255
  S : (fullS n ts).S.map (·.2) = ts
  le : (fullS n ts).N.length ≤ 23 * ts.length + n
  fr : ∀ st, framesOf st n ts = (List.range ((fullS n ts).N.length / n)).map (frAt st n (fullS n ts).N ((fullS n ts).S.map (·.1)))
theorem full {n : Nat} (hn : 0 < n) (ts : List (List Int)) (hk : ∀ t ∈ ts, OkT t) (hl : ts.length ≤ 60000) : Full n ts := by
  obtain ⟨l1, l2, l3⟩ := layS_len ts (Ls.new n)
  have l3 : (layS (Ls.new n) ts).sz = n := l3
  have l1 : (layS (Ls.new n) ts).N.length = (ts.map fun t => t.length + 3).sum := by rw [l1]; simp [Ls.new]
  have g := layS_good (n := n) ts (s := Ls.new n) hk (.nil 0 0)
  have hb := layS_bd ts (s := Ls.new n) hk (by simp [Ls.new]) (by simp [Ls.new]; omega)
  have tl := tsum_le hk
  have hr := rest_lt hn _ l3
  have ml := Nat.mod_lt (layS (Ls.new n) ts).N.length hn
  have dm := Nat.div_add_mod (layS (Ls.new n) ts).N.length n
  have e : (fullS n ts).N = (layS (Ls.new n) ts).N ++ List.replicate ((n - (layS (Ls.new n) ts).N.length % n) % n) 0 := by
    have e1 : (fullS n ts).N = (layS (Ls.new n) ts).N ++ (if 0 < (layS (Ls.new n) ts).rest then List.replicate ((layS (Ls.new n) ts).sz - (layS (Ls.new n) ts).rest).toNat 0 else []) := rfl
    rw [e1, l3]
    generalize (layS (Ls.new n) ts).N.length = M at *
    generalize (layS (Ls.new n) ts).rest = r at *
    congr 1
    by_cases c : M % n = 0
    · rw [hr, c, if_neg (by simp), Nat.sub_zero, Nat.mod_self]; rfl
    · rw [if_pos (by omega), hr, Nat.mod_eq_of_lt (by omega : n - M % n < n)]
      congr 1
      omega
  have eS : (fullS n ts).S = (layS (Ls.new n) ts).S := rfl
  have len : (fullS n ts).N.length % n = 0 := by
    rw [e, List.length_append, List.length_replicate]
    by_cases c : (layS (Ls.new n) ts).N.length % n = 0
    · rw [c, Nat.sub_zero, Nat.mod_self, Nat.add_zero, c]
    · rw [Nat.mod_eq_of_lt (by omega : n - (layS (Ls.new n) ts).N.length % n < n)]
      have : (layS (Ls.new n) ts).N.length + (n - (layS (Ls.new n) ts).N.length % n) = n * ((layS (Ls.new n) ts).N.length / n + 1) := by rw [Nat.mul_add]; omega
      rw [this, Nat.mul_mod_right]
  refine ⟨?_, e, ?_, ?_, ?_, ?_, fun st => ?_⟩
  · rw [e, eS]
    refine g.pad _ (Nat.mod_lt _ hn) ?_
    have := len
    rw [e, List.length_append, List.length_replicate] at this
    rw [Nat.zero_add]
    exact .inr this
  · have := Nat.div_add_mod (fullS n ts).N.length n
    rw [len, Nat.mul_comm] at this
    omega
  · intro x hx
    rw [e] at hx
    rcases List.mem_append.mp hx with hx | hx
    · exact hb x hx
    · rw [List.mem_replicate] at hx; rw [hx.2]; omega
  · rw [eS, l2]; rfl
  · have := Nat.mod_lt (n - (layS (Ls.new n) ts).N.length % n) hn
    rw [e, List.length_append, List.length_replicate]; omega
  · rw [framesOf_cut hn]
    apply List.map_congr_left
    intro c _
    exact ((Tie.all ts (Tie.new (st := st) hn)).fill).frame c
theorem frAt_ok {st : Int} {n : Nat} {N : List Int} {S : List Nat} {c : Nat} (hst : 0 ≤ st ∧ st ≤ 3) (hb : ∀ x ∈ N, 0 ≤ x ∧ x ≤ 255) (hc : c ≤ 9999) (hN : (c + 1) * n ≤ N.length) : OkF n (frAt st n N S c) := by
  have e : (c + 1) * n = c * n + n := by rw [Nat.add_mul, Nat.one_mul]
  refine ⟨hst, by show 0 ≤ (c : Int) ∧ (c : Int) ≤ 9999; omega, fun i hi => ?_, ?_, fun x hx => hb x (List.mem_of_mem_drop (List.mem_of_mem_take hx))⟩
  · have hi : (S.find? (inFr n c)).map (fun p : Nat => (p : Int) - (c * n : Nat)) = some i := hi
    rw [Option.map_eq_some_iff] at hi
    obtain ⟨p, hp, rfl⟩ := hi
    have := List.find?_some hp
    simp only [inFr, Bool.and_eq_true, decide_eq_true_eq] at this
    omega
  · show (((N.drop (c * n)).take n).length : Int) = n
    rw [List.length_take, List.length_drop]; omega
theorem okFs_good {st : Int} {n : Nat} {N : List Int} {S : List (Nat × List Int)} {fs : List Fm} (hst : 0 ≤ st ∧ st ≤ 3) (hb : ∀ x ∈ N, 0 ≤ x ∧ x ≤ 255) (hn : 0 < n) (hN : N.length ≤ 10000 * n) (hf : ∀ f ∈ fs, IsF st n N S f) : OkFs n fs := by
  refine ⟨fun f h => ?_, fun f h g k => ?_, fun f h g k e => ?_⟩
  · obtain ⟨c, h1, rfl⟩ := hf f h
    have : (c + 1) * n ≤ 10000 * n := by omega
    have := Nat.le_of_mul_le_mul_right this hn
    exact frAt_ok hst hb (by omega) h1
  · obtain ⟨c, h1, rfl⟩ := hf f h
    obtain ⟨d, h2, rfl⟩ := hf g k
    rfl
  · obtain ⟨c, h1, rfl⟩ := hf f h
    obtain ⟨d, h2, rfl⟩ := hf g k
    have : (c : Int) = (d : Int) := e
    rw [show c = d by omega]
/-- tellings with their numbers -/
def ixT : Nat → List (List Int) → List (Int × List Int)
  | _, [] => []
  | k, t :: ts => ((k : Int), t) :: ixT (k + 1) ts
theorem nix_ixT : ∀ (k : Nat) (S : List (Nat × List Int)), (nix k S).map out = ixT k (S.map (·.2))
  | k, [] => rfl
  | k, x :: S => by rw [nix, List.map_cons, nix_ixT (k + 1) S]; rfl
/-- of all frames all is told -/
theorem toldP_all {n : Nat} {N : List Int} {S : List (Nat × List Int)} (hn : 0 < n) (good : Good n 0 0 N S) {cs : List Nat} (h : ∀ c, c * n < N.length → c ∈ cs) : toldP n S cs = ixT 0 (S.map (·.2)) := by
  unfold toldP
  rw [← nix_ixT, List.filter_eq_self.mpr]
  intro x hx
  rw [spanB_iff hn]
  intro c h1 h2
  have := good.le x.2 (nix_mem hx)
  refine h c ?_
  unfold En at h2
  omega
theorem mem_frames {st : Int} {n F : Nat} {N : List Int} {S : List Nat} (c : Nat) : c ∈ List.range F ↔ (c : Int) ∈ ((List.range F).map (frAt st n N S)).map Fm.ct := by
  rw [List.map_map, List.mem_map]
  constructor
  · intro h; exact ⟨c, h, rfl⟩
  · rintro ⟨d, h, e⟩
    have : (d : Int) = (c : Int) := e
    rw [show c = d by omega]; exact h
theorem range_up (n : Nat) : (List.range n).Pairwise (· < ·) := List.pairwise_lt_range
theorem Full.isF {n : Nat} {ts : List (List Int)} (F : Full n ts) (st : Int) : ∀ f ∈ framesOf st n ts, IsF st n (fullS n ts).N (fullS n ts).S f := by
  intro f hf
  rw [F.fr] at hf
  obtain ⟨c, hc, rfl⟩ := List.mem_map.mp hf
  rw [List.mem_range] at hc
  refine ⟨c, ?_, rfl⟩
  rw [F.len]
  exact Nat.mul_le_mul_right n hc
theorem Full.rows {n : Nat} {ts : List (List Int)} (hn : 0 < n) (F : Full n ts) (st : Int) : rowsIn (framesOf st n ts) = rowsW 0 (ixT 0 ts) := by
  rw [rowsIn_good hn F.good (F.isF st) (range_up ((fullS n ts).N.length / n)) (by rw [F.fr]; exact mem_frames), toldP_all hn F.good, F.S]
  intro c hc
  rw [F.len] at hc
  rw [List.mem_range]
  exact Nat.lt_of_mul_lt_mul_right hc
end
end Dy.Pm

/-! The laws' own rows. -/
namespace Dy.Pm
open PySem L2 Dy
noncomputable section
theorem inI (n : Bool) (a : Int) (l : List Int) : fIn n (.int a) (.lst (l.map D.int)) = some (.bl (if n then !decide (a ∈ l) else decide (a ∈ l))) := by
  have h1 : dep (.lst (l.map D.int)) ≤ 60 := shp_dep (n := 60) (by rw [shp_lst]; exact shp_ints _ _)
  have h2 : dep (.int a) ≤ 60 := shp_dep (n := 60) (shp_int _ _)
  simp only [fIn, orF, fInL, asLst, Option.bind_some]
  rw [if_pos ⟨h2, h1⟩, any_map eqD_int]
  cases n <;> rfl
theorem toldP_congr {n : Nat} {S : List (Nat × List Int)} {P Q : List Nat} (h : ∀ c, c ∈ P ↔ c ∈ Q) : toldP n S P = toldP n S Q := by
  unfold toldP
  congr 1
  apply List.filter_congr
  intro x _
  unfold spanB
  congr 1
  funext c
  simp only [h]
/-- of the tellings from k on -/
def toldK (n k : Nat) (S : List (Nat × List Int)) (P : List Nat) : List (Int × List Int) := ((nix k S).filter fun x => spanB n P x.2).map out
theorem toldK_cons (n k : Nat) (x : Nat × List Int) (S : List (Nat × List Int)) (P : List Nat) : toldK n k (x :: S) P = (if spanB n P x = true then [((k : Int), x.2)] else []) ++ toldK n (k + 1) S P := by
  unfold toldK
  rw [nix, List.filter_cons]
  by_cases c : spanB n P x = true
  · rw [if_pos c, if_pos (show spanB n P (x.1, x.2) = true from c)]; rfl
  · rw [if_neg c, if_neg (show ¬ spanB n P (x.1, x.2) = true from c)]; rfl
theorem spanL {n : Nat} {P : List Nat} {x : Nat × List Int} (h : 0 < n) : ((List.range ((x.1 + x.2.length + 2) / n + 1 - x.1 / n)).filter fun i => !decide (((x.1 / n + i : Nat) : Int) ∈ P.map fun c : Nat => (c : Int))).isEmpty = spanB n P x := by
  rw [Bool.eq_iff_iff, List.isEmpty_iff, List.filter_eq_nil_iff, spanB_iff h]
  have mem : ∀ c : Nat, (c : Int) ∈ P.map (fun c : Nat => (c : Int)) ↔ c ∈ P := fun c => by
    rw [List.mem_map]
    constructor
    · rintro ⟨d, hd, e⟩
      have : (d : Int) = (c : Int) := e
      rw [show c = d by omega]; exact hd
    · intro hc; exact ⟨c, hc, rfl⟩
  constructor
  · intro q c h1 h2
    have h3 : c ≤ (x.1 + x.2.length + 2) / n := by rw [Nat.le_div_iff_mul_le h]; unfold En at h2; omega
    have h4 : x.1 / n < c + 1 := by rw [Nat.div_lt_iff_lt_mul h]; exact h1
    have := q (c - x.1 / n) (by rw [List.mem_range]; omega)
    simp only [show x.1 / n + (c - x.1 / n) = c by omega, mem] at this
    simpa using this
  · intro q i hi
    rw [List.mem_range] at hi
    simp only [mem]
    have h2 : (x.1 / n + i) * n ≤ x.1 + x.2.length + 2 := by rw [← Nat.le_div_iff_mul_le h]; omega
    have := q (x.1 / n + i) (by rw [← Nat.div_lt_iff_lt_mul h]; omega) (by unfold En; omega)
    simp [this]
theorem lrow_ev (s : Ls) {n : Nat} (hn : 0 < n ∧ n ≤ 24) (hs : s.sz = n) (P : List Nat) (k : Nat) (hk : k < s.S.length) (hS : ∀ x ∈ s.S, x.1 ≤ 100000 ∧ x.2.length ≤ 1000) (acc : List Row) (ha : acc.length ≤ 200000) (due : Int) :
    ∃ acc' due', L__law_rows_3 [.bor s.d, .bor (.lst ((P.map fun c : Nat => (c : Int)).map D.int)), .own (.lst (acc.map Row.d)), .own (.int due), .own (.int k), .no, .no, .no, .no, .no] = .nx [.bor s.d, .bor (.lst ((P.map fun c : Nat => (c : Int)).map D.int)), .own (.lst (acc'.map Row.d)), .own (.int due'), .no, .no, .no, .no, .no, .no] ∧
      acc'.length ≤ acc.length + 2 ∧ ∀ r, acc' ++ rowsW due' r = acc ++ rowsW due ((if spanB n P s.S[k] = true then [((k : Int), s.S[k].2)] else []) ++ r) := by
  have hx := hS s.S[k] (List.getElem_mem hk)
  have ix := at_map eS hk
  generalize s.S[k] = x at *
  obtain ⟨p, t⟩ := x
  simp only at hx
  have sp := spanL (P := P) (x := (p, t)) hn.1
  simp only at sp
  have ie : imm (eS (p, t)) = true := imm_eS _
  have n0 : (n : Int) ≠ 0 := by omega
  have nb : (n : Int).natAbs < 1073741824 := by omega
  have d1 : (p : Int).fdiv n = ((p / n : Nat) : Int) := fdiv_nat p n
  have d2 : ((p : Int) + 2 + (t.length : Int)).fdiv n = (((p + t.length + 2) / n : Nat) : Int) := by
    rw [show (p : Int) + 2 + (t.length : Int) = ((p + t.length + 2 : Nat) : Int) by push_cast; omega, fdiv_nat]
  have dl : p / n ≤ 100000 := Nat.le_trans (Nat.div_le_self _ _) hx.1
  have dh : (p + t.length + 2) / n ≤ 101002 := Nat.le_trans (Nat.div_le_self _ _) (by omega)
  generalize p / n = A at *
  generalize (p + t.length + 2) / n = B at *
  have r2 := iR2_i (m := (A : Int)) (n := (B : Int) + 1) (by omega) (by omega) (by omega) (by omega)
  have rn : ((B : Int) + 1 - (A : Int)).toNat = B + 1 - A := by omega
  rw [rn, rng_map] at r2
  have cm : C__law_rows_2 [.bor s.d, .bor (.lst ((P.map fun c : Nat => (c : Int)).map D.int)), .own (.lst (acc.map Row.d)), .own (.int due), .own (.int k), .own (.int p), .own (tD t), .own (.int (A : Int)), .own (.int (B : Int)), .no] = some (.lst ((((List.range (B + 1 - A)).filter fun i => !decide (((A + i : Nat) : Int) ∈ P.map fun c : Nat => (c : Int))).map fun i : Nat => ((A + i : Nat) : Int)).map D.int)) := by
    unfold C__law_rows_2
    rw [pcmp_run (s0 := [.bor s.d, .bor (.lst ((P.map fun c : Nat => (c : Int)).map D.int)), .own (.lst (acc.map Row.d)), .own (.int due), .own (.int k), .own (.int p), .own (tD t), .own (.int (A : Int)), .own (.int (B : Int)), .no])
      (fun i : Nat => D.int ((A : Int) + i)) (fun i : Nat => !decide (((A + i : Nat) : Int) ∈ P.map fun c : Nat => (c : Int))) (fun i : Nat => D.int ((A + i : Nat) : Int)) (List.range (B + 1 - A)) (by simp only [nl1, nl2, nl3, nl4, nc2, nc3, nc4, ix20, ix21, ix30, ix31, ix32, eq_self, isi_ii, isi_ib, isi_is, isi_itl, isi_ntl, isi_tt, isN_n, isN_i, tup2, z_eqI, z_neI, si0, si1, si2, tn0, tn1, tn2, tn3, List.nil_append, List.cons_append, sSeq, sSet, sIf, sRet, sItem, sDrop, sNil, eN, eI, tP, p2, p1, fV, fC, psC, psN, eaC, eaN, e1, e2, pBl, pAnd, pOr, pNot, pIf, eIf, on1_, on2_, List.getElem?_cons_zero, List.getElem?_cons_succ, List.set_cons_zero, List.set_cons_succ, Option.bind_some, Option.map_some, Sl.val, Sl.isInn, z_ixL, z_ixT, at0, at1, at2, at3, r_of, r_bind, r_thn, s_nx, s_ret, z_nx, z_asB, z_len, z_lenT, z_addI, z_mulR, z_mulL, z_sub, z_lt, z_le, z_gt, z_ge, z_mod, z_div, z_max2, z_min2, setSl, updP, modP, valAt, getP, setP, setV, pIdx, pRoot, z_ixN, z_setI, List.length_map, List.length_cons, List.length_nil, if_true, if_false, Bool.false_eq_true, Bool.not_true, Bool.not_false, decide_true, decide_false, sUnp, ast_t, setAll, sPar, sPar3, stp_l, stp_t, g1_l, g1_t, s1_l, s1_t, Nat.reduceBEq, asq_t, asq_l, sFor, iE, iBor, iLock, unlk, id_eq, z_lst0, imm, immL, sClr, m_nx, m_ret, m_exc, m_brk, m_ct, s_exc, s_brk, s_ct, c_nil, c_cons, clr1, e2v, e2p, sFldD, pFld, fP, eMethP, eMethR, List.contains_nil, List.contains_cons, Bool.or_false, fnR, mkc, okAr, okLe, arN, arL, bk, valO, qN, qV, qI, qL, gV, gI, gL, rP, eCall, ofP, eMut, tyok_l, tyok_dk, tyok_dt, ofM, eMake, mkR, pI, eMv, List.append_nil, r_thnx, eDisp, pCall, pMeth, lnd, List.length_append, List.length_replicate, List.replicate, Bool.and_true, Bool.true_and, Bool.and_self, beq_self_eq_true, List.all_nil, List.all_cons, ite_seq, ite_map, ite_bind, ite_thn, r2]) (imm_mapL (fun _ => rfl) _) (by rw [List.length_range]; omega) rfl fun i _ => ?_]
    · rw [List.map_map]; rfl
    · have ei : (A : Int) + (i : Int) = ((A + i : Nat) : Int) := by omega
      rw [ei]
      refine ⟨_, rfl, ?_, fun _ => ⟨rfl, rfl⟩⟩
      unfold T__law_rows_0
      simp only [nl1, nl2, nl3, nl4, nc2, nc3, nc4, ix20, ix21, ix30, ix31, ix32, eq_self, isi_ii, isi_ib, isi_is, isi_itl, isi_ntl, isi_tt, isN_n, isN_i, tup2, z_eqI, z_neI, si0, si1, si2, tn0, tn1, tn2, tn3, List.nil_append, List.cons_append, sSeq, sSet, sIf, sRet, sItem, sDrop, sNil, eN, eI, tP, p2, p1, fV, fC, psC, psN, eaC, eaN, e1, e2, pBl, pAnd, pOr, pNot, pIf, eIf, on1_, on2_, List.getElem?_cons_zero, List.getElem?_cons_succ, List.set_cons_zero, List.set_cons_succ, Option.bind_some, Option.map_some, Sl.val, Sl.isInn, z_ixL, z_ixT, at0, at1, at2, at3, r_of, r_bind, r_thn, s_nx, s_ret, z_nx, z_asB, z_len, z_lenT, z_addI, z_mulR, z_mulL, z_sub, z_lt, z_le, z_gt, z_ge, z_mod, z_div, z_max2, z_min2, setSl, updP, modP, valAt, getP, setP, setV, pIdx, pRoot, z_ixN, z_setI, List.length_map, List.length_cons, List.length_nil, if_true, if_false, Bool.false_eq_true, Bool.not_true, Bool.not_false, decide_true, decide_false, sUnp, ast_t, setAll, sPar, sPar3, stp_l, stp_t, g1_l, g1_t, s1_l, s1_t, Nat.reduceBEq, asq_t, asq_l, sFor, iE, iBor, iLock, unlk, id_eq, z_lst0, imm, immL, sClr, m_nx, m_ret, m_exc, m_brk, m_ct, s_exc, s_brk, s_ct, c_nil, c_cons, clr1, e2v, e2p, sFldD, pFld, fP, eMethP, eMethR, List.contains_nil, List.contains_cons, Bool.or_false, fnR, mkc, okAr, okLe, arN, arL, bk, valO, qN, qV, qI, qL, gV, gI, gL, rP, eCall, ofP, eMut, tyok_l, tyok_dk, tyok_dt, ofM, eMake, mkR, pI, eMv, List.append_nil, r_thnx, eDisp, pCall, pMeth, lnd, List.length_append, List.length_replicate, List.replicate, Bool.and_true, Bool.true_and, Bool.and_self, beq_self_eq_true, List.all_nil, List.all_cons, ite_seq, ite_map, ite_bind, ite_thn, inI]
  have emp : ∀ L : List Nat, ((L.map fun i : Nat => ((A + i : Nat) : Int)).map D.int).isEmpty = L.isEmpty := fun L => by cases L <;> rfl
  generalize (List.range (B + 1 - A)).filter (fun i => !decide (((A + i : Nat) : Int) ∈ P.map fun c : Nat => (c : Int))) = L at *
  have c1 := z_eNil (ds := (L.map fun i : Nat => ((A + i : Nat) : Int)).map D.int) (shp_ints _ _)
  rw [emp, sp] at c1
  have eSd : eS (p, t) = .tup [.int p, tD t] := rfl
  have it : imm (tD t) = true := imm_tD t
  have tg : ∀ a b : Int, fTup [.str "gap", .int a, .int b] = some (Row.gap a b).d := fun a b => rfl
  have tt : fTup [.str "told", .int k, tD t] = some (Row.told k t).d := by
    rw [z_fTup (by simp [imm, immL, imm_tD]) (by simp)]; rfl
  rw [eSd] at ix
  cases b : spanB n P (p, t) with
  | false =>
    refine ⟨acc, due, ?_, by omega, fun r => by simp⟩
    rw [b] at c1
    unfold L__law_rows_3
    simp (disch := first | assumption | omega) only [nl1, nl2, nl3, nl4, nc2, nc3, nc4, ix20, ix21, ix30, ix31, ix32, eq_self, isi_ii, isi_ib, isi_is, isi_itl, isi_ntl, isi_tt, isN_n, isN_i, tup2, z_eqI, z_neI, si0, si1, si2, tn0, tn1, tn2, tn3, List.nil_append, List.cons_append, sSeq, sSet, sIf, sRet, sItem, sDrop, sNil, eN, eI, tP, p2, p1, fV, fC, psC, psN, eaC, eaN, e1, e2, pBl, pAnd, pOr, pNot, pIf, eIf, on1_, on2_, List.getElem?_cons_zero, List.getElem?_cons_succ, List.set_cons_zero, List.set_cons_succ, Option.bind_some, Option.map_some, Sl.val, Sl.isInn, z_ixL, z_ixT, at0, at1, at2, at3, r_of, r_bind, r_thn, s_nx, s_ret, z_nx, z_asB, z_len, z_lenT, z_addI, z_mulR, z_mulL, z_sub, z_lt, z_le, z_gt, z_ge, z_mod, z_div, z_max2, z_min2, setSl, updP, modP, valAt, getP, setP, setV, pIdx, pRoot, z_ixN, z_setI, List.length_map, List.length_cons, List.length_nil, if_true, if_false, Bool.false_eq_true, Bool.not_true, Bool.not_false, decide_true, decide_false, sUnp, ast_t, setAll, sPar, sPar3, stp_l, stp_t, g1_l, g1_t, s1_l, s1_t, Nat.reduceBEq, asq_t, asq_l, sFor, iE, iBor, iLock, unlk, id_eq, z_lst0, imm, immL, sClr, m_nx, m_ret, m_exc, m_brk, m_ct, s_exc, s_brk, s_ct, c_nil, c_cons, clr1, e2v, e2p, sFldD, pFld, fP, eMethP, eMethR, List.contains_nil, List.contains_cons, Bool.or_false, fnR, mkc, okAr, okLe, arN, arL, bk, valO, qN, qV, qI, qL, gV, gI, gL, rP, eCall, ofP, eMut, tyok_l, tyok_dk, tyok_dt, ofM, eMake, mkR, pI, eMv, List.append_nil, r_thnx, eDisp, pCall, pMeth, lnd, List.length_append, List.length_replicate, List.replicate, Bool.and_true, Bool.true_and, Bool.and_self, beq_self_eq_true, List.all_nil, List.all_cons, ite_seq, ite_map, ite_bind, ite_thn, st_sz, st_S, ix, it, hs, d1, d2, len_tD, cm, c1]
  | true =>
    rw [b] at c1
    by_cases c : due < k
    · refine ⟨acc ++ [.gap due (k - 1)] ++ [.told k t], k + 1, ?_, by simp, fun r => by simp [rowsW, c]⟩
      have a1 := z_appM (f := Row.d) (xs := acc) (x := .gap due (k - 1)) (by omega)
      have a2 := z_appM (f := Row.d) (xs := acc ++ [.gap due (k - 1)]) (x := .told k t) (by rw [List.length_append, List.length_singleton]; omega)
      unfold L__law_rows_3
      simp (disch := first | assumption | omega) only [nl1, nl2, nl3, nl4, nc2, nc3, nc4, ix20, ix21, ix30, ix31, ix32, eq_self, isi_ii, isi_ib, isi_is, isi_itl, isi_ntl, isi_tt, isN_n, isN_i, tup2, z_eqI, z_neI, si0, si1, si2, tn0, tn1, tn2, tn3, List.nil_append, List.cons_append, sSeq, sSet, sIf, sRet, sItem, sDrop, sNil, eN, eI, tP, p2, p1, fV, fC, psC, psN, eaC, eaN, e1, e2, pBl, pAnd, pOr, pNot, pIf, eIf, on1_, on2_, List.getElem?_cons_zero, List.getElem?_cons_succ, List.set_cons_zero, List.set_cons_succ, Option.bind_some, Option.map_some, Sl.val, Sl.isInn, z_ixL, z_ixT, at0, at1, at2, at3, r_of, r_bind, r_thn, s_nx, s_ret, z_nx, z_asB, z_len, z_lenT, z_addI, z_mulR, z_mulL, z_sub, z_lt, z_le, z_gt, z_ge, z_mod, z_div, z_max2, z_min2, setSl, updP, modP, valAt, getP, setP, setV, pIdx, pRoot, z_ixN, z_setI, List.length_map, List.length_cons, List.length_nil, if_true, if_false, Bool.false_eq_true, Bool.not_true, Bool.not_false, decide_true, decide_false, sUnp, ast_t, setAll, sPar, sPar3, stp_l, stp_t, g1_l, g1_t, s1_l, s1_t, Nat.reduceBEq, asq_t, asq_l, sFor, iE, iBor, iLock, unlk, id_eq, z_lst0, imm, immL, sClr, m_nx, m_ret, m_exc, m_brk, m_ct, s_exc, s_brk, s_ct, c_nil, c_cons, clr1, e2v, e2p, sFldD, pFld, fP, eMethP, eMethR, List.contains_nil, List.contains_cons, Bool.or_false, fnR, mkc, okAr, okLe, arN, arL, bk, valO, qN, qV, qI, qL, gV, gI, gL, rP, eCall, ofP, eMut, tyok_l, tyok_dk, tyok_dt, ofM, eMake, mkR, pI, eMv, List.append_nil, r_thnx, eDisp, pCall, pMeth, lnd, List.length_append, List.length_replicate, List.replicate, Bool.and_true, Bool.true_and, Bool.and_self, beq_self_eq_true, List.all_nil, List.all_cons, ite_seq, ite_map, ite_bind, ite_thn, st_sz, st_S, ix, it, hs, d1, d2, len_tD, cm, c1, c, tg, tt, a1, a2]
    · refine ⟨acc ++ [.told k t], k + 1, ?_, by simp, fun r => by simp [rowsW, c]⟩
      have a2 := z_appM (f := Row.d) (xs := acc) (x := .told k t) (by omega)
      unfold L__law_rows_3
      simp (disch := first | assumption | omega) only [nl1, nl2, nl3, nl4, nc2, nc3, nc4, ix20, ix21, ix30, ix31, ix32, eq_self, isi_ii, isi_ib, isi_is, isi_itl, isi_ntl, isi_tt, isN_n, isN_i, tup2, z_eqI, z_neI, si0, si1, si2, tn0, tn1, tn2, tn3, List.nil_append, List.cons_append, sSeq, sSet, sIf, sRet, sItem, sDrop, sNil, eN, eI, tP, p2, p1, fV, fC, psC, psN, eaC, eaN, e1, e2, pBl, pAnd, pOr, pNot, pIf, eIf, on1_, on2_, List.getElem?_cons_zero, List.getElem?_cons_succ, List.set_cons_zero, List.set_cons_succ, Option.bind_some, Option.map_some, Sl.val, Sl.isInn, z_ixL, z_ixT, at0, at1, at2, at3, r_of, r_bind, r_thn, s_nx, s_ret, z_nx, z_asB, z_len, z_lenT, z_addI, z_mulR, z_mulL, z_sub, z_lt, z_le, z_gt, z_ge, z_mod, z_div, z_max2, z_min2, setSl, updP, modP, valAt, getP, setP, setV, pIdx, pRoot, z_ixN, z_setI, List.length_map, List.length_cons, List.length_nil, if_true, if_false, Bool.false_eq_true, Bool.not_true, Bool.not_false, decide_true, decide_false, sUnp, ast_t, setAll, sPar, sPar3, stp_l, stp_t, g1_l, g1_t, s1_l, s1_t, Nat.reduceBEq, asq_t, asq_l, sFor, iE, iBor, iLock, unlk, id_eq, z_lst0, imm, immL, sClr, m_nx, m_ret, m_exc, m_brk, m_ct, s_exc, s_brk, s_ct, c_nil, c_cons, clr1, e2v, e2p, sFldD, pFld, fP, eMethP, eMethR, List.contains_nil, List.contains_cons, Bool.or_false, fnR, mkc, okAr, okLe, arN, arL, bk, valO, qN, qV, qI, qL, gV, gI, gL, rP, eCall, ofP, eMut, tyok_l, tyok_dk, tyok_dt, ofM, eMake, mkR, pI, eMv, List.append_nil, r_thnx, eDisp, pCall, pMeth, lnd, List.length_append, List.length_replicate, List.replicate, Bool.and_true, Bool.true_and, Bool.and_self, beq_self_eq_true, List.all_nil, List.all_cons, ite_seq, ite_map, ite_bind, ite_thn, st_sz, st_S, ix, it, hs, d1, d2, len_tD, cm, c1, c, tg, tt, a2]
theorem lrows_ev (s : Ls) {n : Nat} (hn : 0 < n ∧ n ≤ 24) (hs : s.sz = n) (P : List Nat) (hl : s.S.length ≤ 100000) (hS : ∀ x ∈ s.S, x.1 ≤ 100000 ∧ x.2.length ≤ 1000) :
    F__law_rows [.bor s.d, .bor (.lst ((P.map fun c : Nat => (c : Int)).map D.int)), .no, .no, .no, .no, .no, .no, .no, .no] = .ret (.lst ((rowsW 0 (toldP n s.S P)).map Row.d)) [.bor s.d, .bor (.lst ((P.map fun c : Nat => (c : Int)).map D.int)), .no, .no, .no, .no, .no, .no, .no, .no] := by
  obtain ⟨a, f1, _, f2⟩ := for_rng (S := fun a : List Row × Int => [.bor s.d, .bor (.lst ((P.map fun c : Nat => (c : Int)).map D.int)), .own (.lst (a.1.map Row.d)), .own (.int a.2), .no, .no, .no, .no, .no, .no])
    (P := fun i a => a.1.length ≤ 2 * i ∧ a.1 ++ rowsW a.2 (toldK n i (s.S.drop i) P) = rowsW 0 (toldP n s.S P)) (st := lendSl 4) (body := L__law_rows_3) (lo := 0) (n := s.S.length)
    (fun i a hi ⟨h1, h2⟩ => by
      obtain ⟨acc', due', q1, q2, q3⟩ := lrow_ev s hn hs P i hi hS a.1 (by omega) a.2
      refine ⟨_, (acc', due'), rfl, ?_, by simp only; omega, ?_⟩
      · rw [Int.zero_add]; exact q1
      · rw [q3, ← h2, List.drop_eq_getElem_cons hi, toldK_cons]) (a := ([], 0)) ⟨by simp, by rw [List.nil_append, List.drop_zero]; rfl⟩
  rw [List.drop_eq_nil_of_le (Nat.le_refl _)] at f2
  have f2 : a.1 = rowsW 0 (toldP n s.S P) := by simpa [toldK, nix, rowsW] using f2
  rw [f2] at f1
  have r1 := iR1_n (n := s.S.length) (by omega)
  have ln : fLen (.lst (s.S.map eS)) = some (.int (s.S.length : Int)) := by show some (D.int ((s.S.map eS).length : Nat)) = _; rw [List.length_map]
  have q : S__law_rows_4 [.bor s.d, .bor (.lst ((P.map fun c : Nat => (c : Int)).map D.int)), .own (.lst []), .own (.int 0), .no, .no, .no, .no, .no, .no] = .nx [.bor s.d, .bor (.lst ((P.map fun c : Nat => (c : Int)).map D.int)), .own (.lst ((rowsW 0 (toldP n s.S P)).map Row.d)), .no, .no, .no, .no, .no, .no, .no] := by
    unfold S__law_rows_4
    simp only [List.map_nil] at f1
    simp only [nl1, nl2, nl3, nl4, nc2, nc3, nc4, ix20, ix21, ix30, ix31, ix32, eq_self, isi_ii, isi_ib, isi_is, isi_itl, isi_ntl, isi_tt, isN_n, isN_i, tup2, z_eqI, z_neI, si0, si1, si2, tn0, tn1, tn2, tn3, List.nil_append, List.cons_append, sSeq, sSet, sIf, sRet, sItem, sDrop, sNil, eN, eI, tP, p2, p1, fV, fC, psC, psN, eaC, eaN, e1, e2, pBl, pAnd, pOr, pNot, pIf, eIf, on1_, on2_, List.getElem?_cons_zero, List.getElem?_cons_succ, List.set_cons_zero, List.set_cons_succ, Option.bind_some, Option.map_some, Sl.val, Sl.isInn, z_ixL, z_ixT, at0, at1, at2, at3, r_of, r_bind, r_thn, s_nx, s_ret, z_nx, z_asB, z_len, z_lenT, z_addI, z_mulR, z_mulL, z_sub, z_lt, z_le, z_gt, z_ge, z_mod, z_div, z_max2, z_min2, setSl, updP, modP, valAt, getP, setP, setV, pIdx, pRoot, z_ixN, z_setI, List.length_map, List.length_cons, List.length_nil, if_true, if_false, Bool.false_eq_true, Bool.not_true, Bool.not_false, decide_true, decide_false, sUnp, ast_t, setAll, sPar, sPar3, stp_l, stp_t, g1_l, g1_t, s1_l, s1_t, Nat.reduceBEq, asq_t, asq_l, sFor, iE, iBor, iLock, unlk, id_eq, z_lst0, imm, immL, sClr, m_nx, m_ret, m_exc, m_brk, m_ct, s_exc, s_brk, s_ct, c_nil, c_cons, clr1, e2v, e2p, sFldD, pFld, fP, eMethP, eMethR, List.contains_nil, List.contains_cons, Bool.or_false, fnR, mkc, okAr, okLe, arN, arL, bk, valO, qN, qV, qI, qL, gV, gI, gL, rP, eCall, ofP, eMut, tyok_l, tyok_dk, tyok_dt, ofM, eMake, mkR, pI, eMv, List.append_nil, r_thnx, eDisp, pCall, pMeth, lnd, List.length_append, List.length_replicate, List.replicate, Bool.and_true, Bool.true_and, Bool.and_self, beq_self_eq_true, List.all_nil, List.all_cons, ite_seq, ite_map, ite_bind, ite_thn, st_S, ln, r1, f1]
  have g2 : gTupD [.lst [], .int 0] = some (.tup [.lst [], .int 0]) := rfl
  unfold F__law_rows
  simp only [nl1, nl2, nl3, nl4, nc2, nc3, nc4, ix20, ix21, ix30, ix31, ix32, eq_self, isi_ii, isi_ib, isi_is, isi_itl, isi_ntl, isi_tt, isN_n, isN_i, tup2, z_eqI, z_neI, si0, si1, si2, tn0, tn1, tn2, tn3, List.nil_append, List.cons_append, sSeq, sSet, sIf, sRet, sItem, sDrop, sNil, eN, eI, tP, p2, p1, fV, fC, psC, psN, eaC, eaN, e1, e2, pBl, pAnd, pOr, pNot, pIf, eIf, on1_, on2_, List.getElem?_cons_zero, List.getElem?_cons_succ, List.set_cons_zero, List.set_cons_succ, Option.bind_some, Option.map_some, Sl.val, Sl.isInn, z_ixL, z_ixT, at0, at1, at2, at3, r_of, r_bind, r_thn, s_nx, s_ret, z_nx, z_asB, z_len, z_lenT, z_addI, z_mulR, z_mulL, z_sub, z_lt, z_le, z_gt, z_ge, z_mod, z_div, z_max2, z_min2, setSl, updP, modP, valAt, getP, setP, setV, pIdx, pRoot, z_ixN, z_setI, List.length_map, List.length_cons, List.length_nil, if_true, if_false, Bool.false_eq_true, Bool.not_true, Bool.not_false, decide_true, decide_false, sUnp, ast_t, setAll, sPar, sPar3, stp_l, stp_t, g1_l, g1_t, s1_l, s1_t, Nat.reduceBEq, asq_t, asq_l, sFor, iE, iBor, iLock, unlk, id_eq, z_lst0, imm, immL, sClr, m_nx, m_ret, m_exc, m_brk, m_ct, s_exc, s_brk, s_ct, c_nil, c_cons, clr1, e2v, e2p, sFldD, pFld, fP, eMethP, eMethR, List.contains_nil, List.contains_cons, Bool.or_false, fnR, mkc, okAr, okLe, arN, arL, bk, valO, qN, qV, qI, qL, gV, gI, gL, rP, eCall, ofP, eMut, tyok_l, tyok_dk, tyok_dt, ofM, eMake, mkR, pI, eMv, List.append_nil, r_thnx, eDisp, pCall, pMeth, lnd, List.length_append, List.length_replicate, List.replicate, Bool.and_true, Bool.true_and, Bool.and_self, beq_self_eq_true, List.all_nil, List.all_cons, ite_seq, ite_map, ite_bind, ite_thn, g2, ↓q]
/-- all told, in order -/
theorem rowsW_ixT : ∀ (k : Nat) (ts : List (List Int)), rowsW k (ixT k ts) = (ixT k ts).map fun p => Row.told p.1 p.2
  | k, [] => rfl
  | k, t :: ts => by
    have ih := rowsW_ixT (k + 1) ts
    rw [ixT, rowsW, if_neg (by omega), List.map_cons]
    have e : ((k : Int) + 1) = ((k + 1 : Nat) : Int) := by omega
    rw [e, ih]; rfl
theorem ixT_map : ∀ (k : Nat) (ts : List (List Int)), ixT k ts = (List.range ts.length).map fun i => (((k + i : Nat) : Int), ts.getD i [])
  | k, [] => rfl
  | k, t :: ts => by
    rw [ixT, ixT_map (k + 1) ts, List.length_cons, List.range_succ_eq_map, List.map_cons, List.map_map]
    congr 1
    apply List.map_congr_left
    intro i _
    simp only [Function.comp, Nat.succ_eq_add_one, List.getD_cons_succ]
    rw [show k + 1 + i = k + (i + 1) by omega]
def isTold : Row → Bool
  | .told _ _ => true
  | .gap _ _ => false
theorem told_rowsW : ∀ (due : Int) (l : List (Int × List Int)), (rowsW due l).filter isTold = l.map fun p => Row.told p.1 p.2
  | _, [] => rfl
  | due, (k, t) :: r => by
    have ih := told_rowsW (k + 1) r
    rw [rowsW, List.filter_append, List.filter_cons_of_pos rfl, ih, List.map_cons]
    by_cases c : due < k
    · rw [if_pos c]; rfl
    · rw [if_neg c]; rfl
theorem toldP_mono {n : Nat} {S : List (Nat × List Int)} {P Q : List Nat} (hn : 0 < n) (h : ∀ c ∈ P, c ∈ Q) : ∀ p ∈ toldP n S P, p ∈ toldP n S Q := by
  intro p hp
  unfold toldP at *
  obtain ⟨x, hx, rfl⟩ := List.mem_map.mp hp
  rw [List.mem_filter] at hx
  refine List.mem_map_of_mem (List.mem_filter.mpr ⟨hx.1, ?_⟩)
  have := hx.2
  rw [spanB_iff hn] at this ⊢
  exact fun c a b => h c (this c a b)
theorem rows_len (due : Int) (l : List (Int × List Int)) : (rowsW due l).length ≤ 2 * l.length := by
  induction l generalizing due with
  | nil => simp [rowsW]
  | cons p l ih =>
    obtain ⟨k, t⟩ := p
    have := ih (k + 1)
    rw [rowsW, List.length_append, List.length_cons, List.length_cons]
    split <;> simp <;> omega
theorem toldP_len (n : Nat) (S : List (Nat × List Int)) (P : List Nat) : (toldP n S P).length ≤ S.length := by
  have key : ∀ (k : Nat) (S : List (Nat × List Int)), (nix k S).length = S.length := by
    intro k S
    induction S generalizing k with
    | nil => rfl
    | cons x S ih => rw [nix, List.length_cons, ih, List.length_cons]
  unfold toldP
  rw [List.length_map]
  exact Nat.le_trans (List.length_filter_le _ _) (by rw [key]; omega)
theorem eqD_str (a b : Str) : eqD (.str a) (.str b) = decide (a = b) := by
  simp only [eqD]; by_cases h : a = b <;> simp [h]
theorem eqD_tD (a b : List Int) : eqD (tD a) (tD b) = decide (a = b) := by
  unfold tD
  rw [eqD, eqDs_map eqD_int]
theorem eqD_Row (a b : Row) : eqD a.d b.d = decide (a = b) := by
  have n1 : ¬ (Str.ofString "gap") = (Str.ofString "told") := by decide +kernel
  have n2 : ¬ (Str.ofString "told") = (Str.ofString "gap") := by decide +kernel
  cases a with
  | gap i j =>
    cases b with
    | gap k l =>
      simp only [Row.d, eqD, eqDs, eqD_str, eqD_int, decide_true, Bool.true_and, Bool.and_true]
      by_cases h1 : i = k <;> by_cases h2 : j = l <;> simp [h1, h2]
    | told k l => simp only [Row.d, eqD, eqDs, eqD_str, n1, decide_false, Bool.false_and]; simp [n1]
  | told i j =>
    cases b with
    | gap k l => simp only [Row.d, eqD, eqDs, eqD_str, n2, decide_false, Bool.false_and]; simp [n2]
    | told k l =>
      simp only [Row.d, eqD, eqDs, eqD_str, eqD_int, eqD_tD, decide_true, Bool.true_and, Bool.and_true]
      by_cases h1 : i = k <;> by_cases h2 : j = l <;> simp [h1, h2]
theorem in_Row (n : Bool) (a : Row) (l : List Row) : fIn n a.d (.lst (l.map Row.d)) = some (.bl (if n then !decide (a ∈ l) else decide (a ∈ l))) := by
  have h1 : dep a.d ≤ 60 := shp_dep (shp_Row 58 a)
  have h2 : dep (.lst (l.map Row.d)) ≤ 60 := shp_dep (n := 60) (by rw [shp_lst]; exact shp_map (shp_Row 57) l)
  simp only [fIn, orF, fInL, asLst, Option.bind_some]
  rw [if_pos ⟨h1, h2⟩, any_map eqD_Row]
  cases n <;> rfl
theorem rows_ne (a b : List Row) : fNe (.lst (a.map Row.d)) (.lst (b.map Row.d)) = some (.bl (!decide (a = b))) := by
  rw [z_ne (by rw [shp_lst]; exact shp_map (shp_Row 57) _) (by rw [shp_lst]; exact shp_map (shp_Row 57) _), eqD, eqDs_map eqD_Row]
theorem row0 (r : Row) : fIx r.d (.int 0) = some (.str (if isTold r then "told" else "gap")) := by
  cases r <;> simp only [Row.d] <;> rw [z_ixT, at0] <;> rfl
theorem row0_told (r : Row) : (fIx r.d (.int 0)).bind (fun x => fEq x (.str "told")) = some (.bl (isTold r)) := by
  rw [row0, Option.bind_some, z_eq (by rw [shp_str]; cases isTold r; exact ok_gap; exact ok_told) (by rw [shp_str]; exact ok_told), eqD_str]
  cases r with
  | gap a b =>
    have : ¬ (Str.ofString "gap") = (Str.ofString "told") := by decide +kernel
    simp only [isTold, Bool.false_eq_true, if_false, this, decide_false]
  | told a b => simp only [isTold, if_true, decide_true]
theorem wid_Row {r : Row} (h : ∀ k t, r = .told k t → t.length ≤ 1000000) : wid r.d = true := by
  cases r with
  | gap a b => rfl
  | told k t =>
    have := h k t rfl
    simp only [Row.d, tD, wid, widL, List.length_cons, List.length_nil, List.length_map]
    rw [widL_map (fun _ _ => rfl)]
    simp; exact this
def cts (fs : List Fm) : List Nat := fs.map fun f => f.ct.toNat
/-- rows of any frames of a good stream -/
theorem rowsIn_any {st : Int} {n : Nat} {N : List Int} {S : List (Nat × List Int)} (hn : 0 < n) (good : Good n 0 0 N S) {fs : List Fm} (hf : ∀ f ∈ fs, IsF st n N S f) : rowsIn fs = rowsW 0 (toldP n S (cts fs)) := by
  have mem : ∀ c : Nat, c ∈ cts fs ↔ (c : Int) ∈ fs.map Fm.ct := fun c => by
    unfold cts
    rw [List.mem_map, List.mem_map]
    constructor
    · rintro ⟨f, h, rfl⟩
      obtain ⟨d, _, rfl⟩ := hf f h
      exact ⟨_, h, by show (d : Int) = (((d : Int).toNat : Nat) : Int); omega⟩
    · rintro ⟨f, h, e⟩
      exact ⟨f, h, by omega⟩
  have up : ((List.range (N.length + 1)).filter fun c => decide (c ∈ cts fs)).Pairwise (· < ·) := List.Pairwise.filter _ List.pairwise_lt_range
  have mc : ∀ c : Nat, c ∈ (List.range (N.length + 1)).filter (fun c => decide (c ∈ cts fs)) ↔ c ∈ cts fs := fun c => by
    rw [List.mem_filter, List.mem_range, decide_eq_true_eq]
    constructor
    · exact fun h => h.2
    · intro h
      refine ⟨?_, h⟩
      obtain ⟨f, h1, h2⟩ := List.mem_map.mp ((mem c).mp h)
      obtain ⟨d, h3, rfl⟩ := hf f h1
      have e : (d : Int) = (c : Int) := h2
      have := Nat.le_mul_of_pos_right (d + 1) hn
      omega
  rw [rowsIn_good hn good hf up fun c => (mc c).trans (mem c)]
  congr 1
  exact toldP_congr mc
theorem cts_ints {fs : List Fm} (h : ∀ f ∈ fs, 0 ≤ f.ct) : ((cts fs).map fun c : Nat => (c : Int)).map D.int = fs.map fun f => D.int f.ct := by
  unfold cts
  rw [List.map_map, List.map_map]
  apply List.map_congr_left
  intro f hf
  have := h f hf
  simp only [Function.comp]
  rw [show ((f.ct.toNat : Nat) : Int) = f.ct by omega]
theorem isF_ct {st : Int} {n : Nat} {N : List Int} {S : List (Nat × List Int)} {f : Fm} (h : IsF st n N S f) : 0 ≤ f.ct := by
  obtain ⟨c, _, rfl⟩ := h
  show 0 ≤ (c : Int)
  omega
end
end Dy.Pm

namespace K03
open PySem PyProof.Rows L2 Dy Dy.Pm
noncomputable section
def top (i : Nat) : Stmt := PySem.Challenge.pw_skyframes_k03_whole_told_and_gaps.main.body.getD i (.Pass ⟨0, 0, 0, 0⟩)
structure Tx (K : PySem.W.Frag) (mg : Str → Option Value) (C : Nat → Addr) : Prop where
  z_bool : mg "bool" = none
  z_dict : mg "dict" = none
  z_int : mg "int" = none
  z_isinstance : mg "isinstance" = none
  z_len : mg "len" = none
  z_list : mg "list" = none
  z_max : mg "max" = none
  z_range : mg "range" = none
  z_sorted : mg "sorted" = none
  z_str : mg "str" = none
  z_tuple : mg "tuple" = none
  c_HEAD : ∃ t, mg "HEAD" = some (.int 3 t)
  c_LEAST_SIZE : ∃ t, mg "LEAST_SIZE" = some (.int 8 t)
  c_MOST_COUNT : ∃ t, mg "MOST_COUNT" = some (.int 9999 t)
  c_MOST_DATA : ∃ t, mg "MOST_DATA" = some (.int 20 t)
  c_MOST_NUMBER : ∃ t, mg "MOST_NUMBER" = some (.int 255 t)
  c_MOST_SIZE : ∃ t, mg "MOST_SIZE" = some (.int 24 t)
  c_STREAMS : ∃ t, mg "STREAMS" = some (.int 4 t)
  x_BadData : ExAt K mg (C 8) "BadData"
  x_BadSize : ExAt K mg (C 5) "BadSize"
  x_BadStream : ExAt K mg (C 7) "BadStream"
  cl : ∀ c, c < 5 → Cls K (C c)
  na_count : ∀ c, c < 5 → NoAttr K (C c) "count"
  na_first : ∀ c, c < 5 → NoAttr K (C c) "first"
  na_open_body : ∀ c, c < 5 → NoAttr K (C c) "open_body"
  na_seq : ∀ c, c < 5 → NoAttr K (C c) "seq"
  na_size : ∀ c, c < 5 → NoAttr K (C c) "size"
  na_stream : ∀ c, c < 5 → NoAttr K (C c) "stream"
section
variable {P : Program} {w : World} {K : PySem.W.Frag} {mg : Str → Option Value} {base : Heap} {C : Nat → Addr}
abbrev s_is_number : Stmt := top 14
abbrev N_is_number : List Str := ["part", "low", "high"]
abbrev P_is_number : List Str := ["part", "low", "high"]
theorem sc_is_number : FnScope N_is_number P_is_number (defScope s_is_number) := ⟨rfl, rfl, rfl, by decide +kernel, rfl, by decide +kernel, by decide +kernel⟩
theorem ok_is_number (T : Tx K mg C) {f : Addr} {fd : FuncData} (F : FunD K "is_number" "is_number" (defArgs s_is_number) (defBody s_is_number) (defScope s_is_number) [] [] f fd) : FnOk P w K mg base (L2.CX P w) 1 f fd P_is_number (spD K C N_is_number P_is_number.length F_is_number) := by
  refine def_ok (k := 0) F sc_is_number ?_
  intro cdv A outer s H E W hr tk
  have ND := sc_is_number.nd
  refine ⟨_, (pss_one (ps_ret (pe_and (pe_callB (show CallR _ _ (rIsiA K) from call_isiA) (by rfl) T.z_isinstance (by decide +kernel) (pa_cons (pv 0) (pa_cons (pe_bltn (v := .ty "int") (by rfl) T.z_int (by decide +kernel) rfl) pa_nil))) (pe_and (pe_not (pe_callB (show CallR _ _ (rIsiA K) from call_isiA) (by rfl) T.z_isinstance (by decide +kernel) (pa_cons (pv 0) (pa_cons (pe_bltn (v := .ty "bool") (by rfl) T.z_bool (by decide +kernel) rfl) pa_nil)))) (pe_one (pe_chain op_le op_le (pv 1) (pv 0) (pv 2))))))), ?s⟩
  case s => exact (ss_ret (SimF.e (sf_andV (SimF.p (sf_call cs_isi (sps_cons (sp_var 0) (sps_cons (SimF.p (sf_c _)) sps_nil)))) (SimF.p (sf_andV (SimF.p (sf_notV (SimF.p (sf_call cs_isi (sps_cons (sp_var 0) (sps_cons (SimF.p (sf_c _)) sps_nil)))))) (SimF.p (sf_chain os_le os_le (sp_var 1) (sp_var 0) (sp_var 2))))))))
abbrev s_Layer_init : Stmt := inClass (top 22) 0
abbrev N_Layer_init : List Str := ["self", "stream", "size"]
abbrev P_Layer_init : List Str := ["self", "stream", "size"]
theorem sc_Layer_init : FnScope N_Layer_init P_Layer_init (defScope s_Layer_init) := ⟨rfl, rfl, rfl, by decide +kernel, rfl, by decide +kernel, by decide +kernel⟩
theorem ok_Layer_init (T : Tx K mg C) {f : Addr} {fd : FuncData} (F : FunD K "__init__" "Layer.__init__" (defArgs s_Layer_init) (defBody s_Layer_init) (defScope s_Layer_init) [] [] f fd) : FnOk P w K mg base (L2.CX P w) 1 f fd P_Layer_init (spD K C N_Layer_init P_Layer_init.length F_Layer_init) := by
  refine def_ok (k := 0) F sc_Layer_init ?_
  intro cdv A outer s H E W hr tk
  have ND := sc_Layer_init.nd
  refine ⟨_, (pss_cons (ps_fldK K (pv 0) (pv 1))
  (pss_cons (ps_fldK K (pv 0) (pv 2))
  (pss_cons (ps_fldK K (pv 0) pe_int)
  (pss_cons (ps_fldK K (pv 0) pe_int)
  (pss_cons (ps_fldK K (pv 0) (pe_lst pa_nil))
  (pss_one (ps_fldK K (pv 0) pe_non))))))), ?s⟩
  case s => exact (ss_seq (ss_fld (SimP.e (sp_var 1)) (lp_var 0) T.cl T.na_stream)
  (ss_seq (ss_fld (SimP.e (sp_var 2)) (lp_var 0) T.cl T.na_size)
  (ss_seq (ss_fld (SimF.e (sf_c _)) (lp_var 0) T.cl T.na_seq)
  (ss_seq (ss_fld (SimF.e (sf_c _)) (lp_var 0) T.cl T.na_count)
  (ss_seq (ss_fld (SimF.e (sf_lst sps_nil)) (lp_var 0) T.cl T.na_open_body)
  (ss_fld (SimF.e (sf_c _)) (lp_var 0) T.cl T.na_first))))))
abbrev s_Layer_made : Stmt := inClass (top 22) 2
abbrev N_Layer_made : List Str := ["self", "frame"]
abbrev P_Layer_made : List Str := ["self"]
theorem sc_Layer_made : FnScope N_Layer_made P_Layer_made (defScope s_Layer_made) := ⟨rfl, rfl, rfl, by decide +kernel, rfl, by decide +kernel, by decide +kernel⟩
theorem ok_Layer_made (T : Tx K mg C) {f : Addr} {fd : FuncData} (F : FunD K "made" "Layer.made" (defArgs s_Layer_made) (defBody s_Layer_made) (defScope s_Layer_made) [] [] f fd) : FnOk P w K mg base (L2.CX P w) 1 f fd P_Layer_made (spD K C N_Layer_made P_Layer_made.length F_Layer_made) := by
  refine def_ok (k := 0) F sc_Layer_made ?_
  intro cdv A outer s H E W hr tk
  have ND := sc_Layer_made.nd
  refine ⟨_, (pss_cons (ps_set (i := 1) ND rfl (by first | exact Or.inl rfl | exact Or.inr rfl) (pe_tup (pa_cons (pe_fldK K (pv 0) (by rfl)) (pa_cons (pe_fldK K (pv 0) (by rfl)) (pa_cons (pe_fldK K (pv 0) (by rfl)) (pa_cons (pe_callTy (show CallR _ _ (rTupA K) from call_tuple_of) (by rfl) T.z_tuple (by decide +kernel) (pa_cons (pe_fldK K (pv 0) (by rfl)) pa_nil)) pa_nil))))))
  (pss_cons (ps_fldK K (pv 0) (pe_op (show OpR _ _ (rAddA K) from op_addA) (pe_fldK K (pv 0) (by rfl)) pe_int))
  (pss_cons (ps_fldK K (pv 0) (pe_lst pa_nil))
  (pss_cons (ps_fldK K (pv 0) pe_non)
  (pss_one (ps_ret (pv 1))))))), ?s⟩
  case s => exact (ss_clr [1] (ss_seq (ss_set (SimF.e (sf_tup (sps_cons (sp_lp (lp_fld (lp_var 0) T.cl T.na_stream)) (sps_cons (sp_lp (lp_fld (lp_var 0) T.cl T.na_count)) (sps_cons (sp_lp (lp_fld (lp_var 0) T.cl T.na_first)) (sps_cons (SimF.p (sf_call cs_tuple (sps_cons (sp_lp (lp_fld (lp_var 0) T.cl T.na_open_body)) sps_nil))) sps_nil)))))))
  (ss_seq (ss_fld (SimF.e (sf_op os_add (sp_lp (lp_fld (lp_var 0) T.cl T.na_count)) (SimF.p (sf_c _)))) (lp_var 0) T.cl T.na_count)
  (ss_seq (ss_fld (SimF.e (sf_lst sps_nil)) (lp_var 0) T.cl T.na_open_body)
  (ss_seq (ss_fld (SimF.e (sf_c _)) (lp_var 0) T.cl T.na_first)
  (ss_ret (SimP.e (sp_var 1))))))))
abbrev s_told_in : Stmt := top 24
abbrev N_told_in : List Str := ["body", "found", "left", "numbers", "end"]
abbrev P_told_in : List Str := ["body"]
theorem sc_told_in : FnScope N_told_in P_told_in (defScope s_told_in) := ⟨rfl, rfl, rfl, by decide +kernel, rfl, by decide +kernel, by decide +kernel⟩
theorem ok_told_in (T : Tx K mg C) {f : Addr} {fd : FuncData} (F : FunD K "told_in" "told_in" (defArgs s_told_in) (defBody s_told_in) (defScope s_told_in) [] [] f fd) : FnOk P w K mg base (L2.CX P w) 1 f fd P_told_in (spD K C N_told_in P_told_in.length F_told_in) := by
  refine def_ok (k := 0) F sc_told_in ?_
  intro cdv A outer s H E W hr tk
  have ND := sc_told_in.nd
  refine ⟨_, (pss_cons (ps_set (i := 1) ND rfl (by first | exact Or.inl rfl | exact Or.inr rfl) (pe_lst pa_nil))
  (pss_cons (ps_set (i := 2) ND rfl (by first | exact Or.inl rfl | exact Or.inr rfl) (pe_lst pa_nil))
  (pss_cons (ps_for (passes_of rfl) rfl (pi_seq (pv 0)) (pg_name (i := 3) ND rfl (by first | exact Or.inl rfl | exact Or.inr rfl)) (pss_cons (ps_set (i := 2) ND rfl (by first | exact Or.inl rfl | exact Or.inr rfl) (pe_op (show OpR _ _ (rAddA K) from op_addA) (pv 2) (pe_callTy (show CallR _ _ (rListA K) from call_listA rfl) (by rfl) T.z_list (by decide +kernel) (pa_cons (pv 3) pa_nil))))
  (pss_cons (ps_while (passes_of rfl) (PW.pt (pw_and (pt_cmpR op_ge (pe_callB (show CallR _ _ (fun xs H Q => ∃ x n, xs = [x] ∧ LenV K x H n ∧ Q (.int n) H) from call_len) (by rfl) T.z_len PySem.boot_len (pa_cons (pv 2) pa_nil)) (pe_gint (by rfl) T.c_HEAD) (nomark _)) (pw_and (pt_cmpR op_gt (pe_ix (show IxR _ (rIxA K) from ix_any (u1 hr)) (pv 2) pe_int (by intro _ _; rfl)) pe_int (nomark _)) (pw_and1 (pt_cmpR op_ge (pe_callB (show CallR _ _ (fun xs H Q => ∃ x n, xs = [x] ∧ LenV K x H n ∧ Q (.int n) H) from call_len) (by rfl) T.z_len PySem.boot_len (pa_cons (pv 2) pa_nil)) (pe_op (show OpR _ _ (rAddA K) from op_addA) (pe_gint (by rfl) T.c_HEAD) (pe_ix (show IxR _ (rIxA K) from ix_any (u1 hr)) (pv 2) pe_int (by intro _ _; rfl))) (nomark _)))))) (pss_cons (ps_set (i := 4) ND rfl (by first | exact Or.inl rfl | exact Or.inr rfl) (pe_op (show OpR _ _ (rAddA K) from op_addA) (pe_gint (by rfl) T.c_HEAD) (pe_ix (show IxR _ (rIxA K) from ix_any (u1 hr)) (pv 2) pe_int (by intro _ _; rfl))))
  (pss_cons (ps_expr (pe_bm PySem.F.plainAttrs_list PySem.F.slot_list_append PySem.F.type_list_append mt_append (pv 1) (pa_cons (pe_tup (pa_cons (pe_op (show OpR _ _ (rAddA K) from op_addA) (pe_op (show OpR _ _ (rMulA K) from op_mulA) (pe_ix (show IxR _ (rIxA K) from ix_any (u1 hr)) (pv 2) pe_int (by intro _ _; rfl)) pe_int) (pe_ix (show IxR _ (rIxA K) from ix_any (u1 hr)) (pv 2) pe_int (by intro _ _; rfl))) (pa_cons (pe_callTy (show CallR _ _ (rTupA K) from call_tuple_of) (by rfl) T.z_tuple (by decide +kernel) (pa_cons (pe_slice (show SlR _ (rSl K) from sl_any) (pv 2) (po_some (pe_gint (by rfl) T.c_HEAD)) (po_some (pv 4))) pa_nil)) pa_nil))) pa_nil)))
  (pss_one (ps_set (i := 2) ND rfl (by first | exact Or.inl rfl | exact Or.inr rfl) (pe_slice (show SlR _ (rSl K) from sl_any) (pv 2) (po_some (pv 4)) po_none))))))
  (pss_one (ps_if (PW.pt (pw_and (pt_cmpR (show OpR _ _ (rNeD K) from op_neD (u64 hr)) (pv 2) (pe_lst pa_nil) (nomark _)) (pw_and1 (pt_cmpR (show OpR _ _ (rEqD K) from op_eqD (u64 hr)) (pe_ix (show IxR _ (rIxA K) from ix_any (u1 hr)) (pv 2) pe_int (by intro _ _; rfl)) pe_int (nomark _))))) (pss_one (ps_set (i := 2) ND rfl (by first | exact Or.inl rfl | exact Or.inr rfl) (pe_lst pa_nil))) pss_nil)))))
  (pss_one (ps_ret (pv 1)))))), ?s⟩
  case s => exact (ss_clr [1, 2, 3, 4] (ss_seq (ss_set (SimF.e (sf_lst sps_nil)))
  (ss_seq (ss_set (SimF.e (sf_lst sps_nil)))
  (ss_seq (ss_clr [2, 3, 4] (ss_for (si_bor 0) (sg_name 3) (ss_clr [3, 4] (ss_seq (ss_set (SimF.e (sf_op os_add (sp_var 2) (SimF.p (sf_call cs_list (sps_cons (sp_var 3) sps_nil))))))
  (ss_seq (ss_clr [4] (ss_while WN (SimPT.e (spt_and (spt_test (SimF.p (sf_op os_ge (SimF.p (sf_call cs_len (sps_cons (sp_var 2) sps_nil))) (SimF.p (sf_c _))))) (spt_and (spt_test (SimF.p (sf_op os_gt (sp_op op_ix (sp_var 2) (SimF.p (sf_c _))) (SimF.p (sf_c _))))) (spt_test (SimF.p (sf_op os_ge (SimF.p (sf_call cs_len (sps_cons (sp_var 2) sps_nil))) (SimF.p (sf_op os_add (SimF.p (sf_c _)) (sp_op op_ix (sp_var 2) (SimF.p (sf_c _))))))))))) (ss_clr [4] (ss_seq (ss_set (SimF.e (sf_op os_add (SimF.p (sf_c _)) (sp_op op_ix (sp_var 2) (SimF.p (sf_c _))))))
  (ss_seq (ss_expr (se_mut ms_append (sea_cons (SimF.e (sf_tup (sps_cons (SimF.p (sf_op os_add (SimF.p (sf_op os_mul (sp_op op_ix (sp_var 2) (SimF.p (sf_c _))) (SimF.p (sf_c _)))) (sp_op op_ix (sp_var 2) (SimF.p (sf_c _))))) (sps_cons (SimF.p (sf_call cs_tuple (sps_cons (SimF.p (sf_sl ss_sl (sp_var 2) (so_some (SimF.p (sf_c _))) (so_some (sp_var 4)))) sps_nil))) sps_nil)))) sea_nil)))
  (ss_set (SimF.e (sf_sl ss_sl (sp_var 2) (so_some (sp_var 4)) so_none))))))))
  (ss_if (SimPT.e (spt_and (spt_test (SimF.p (sf_op os_ne (sp_var 2) (SimF.p (sf_lst sps_nil))))) (spt_test (SimF.p (sf_op os_eq (sp_op op_ix (sp_var 2) (SimF.p (sf_c _))) (SimF.p (sf_c _))))))) (ss_set (SimF.e (sf_lst sps_nil))) ss_nil))))))
  (ss_ret (se_mv 1))))))
abbrev s_runs_of : Stmt := top 25
abbrev N_runs_of : List Str := ["frames", "known", "found", "last", "count", "stream", "first", "body", "frame"]
abbrev P_runs_of : List Str := ["frames"]
theorem sc_runs_of : FnScope N_runs_of P_runs_of (defScope s_runs_of) := ⟨rfl, rfl, rfl, by decide +kernel, rfl, by decide +kernel, by decide +kernel⟩
theorem ok_runs_of (T : Tx K mg C) {f : Addr} {fd : FuncData} (F : FunD K "runs_of" "runs_of" (defArgs s_runs_of) (defBody s_runs_of) (defScope s_runs_of) [] [] f fd) : FnOk P w K mg base (L2.CX P w) 1 f fd P_runs_of (spD K C N_runs_of P_runs_of.length F_runs_of) := by
  refine def_ok (k := 0) F sc_runs_of ?_
  intro cdv A outer s H E W hr tk
  have ND := sc_runs_of.nd
  refine ⟨_, (pss_cons (ps_set (i := 1) ND rfl (by first | exact Or.inl rfl | exact Or.inr rfl) (pe_callTy (show CallR _ _ (rDictP K) from call_dictP rfl) (by rfl) T.z_dict (by decide +kernel) (pa_cons (pe_lc rfl ND (pi_seq (pv 0)) (blkOk_by (own := [("frame", 8)]) (by rfl)) (fun _ _ _ _ _ => (pg_name (i := 8) ND rfl (by first | exact Or.inl rfl | exact Or.inr rfl))) (fun _ _ _ _ _ => pts_nil) (fun _ _ _ _ _ => (pe_tup (pa_cons (pe_ix (show IxR _ (rIxA K) from ix_any (u1 hr)) (pv 8) pe_int (by intro _ _; rfl)) (pa_cons (pv 8) pa_nil))))) pa_nil)))
  (pss_cons (ps_set (i := 2) ND rfl (by first | exact Or.inl rfl | exact Or.inr rfl) (pe_lst pa_nil))
  (pss_cons (ps_set (i := 3) ND rfl (by first | exact Or.inl rfl | exact Or.inr rfl) pe_non)
  (pss_cons (ps_for (passes_of rfl) rfl (pi_seq (pe_callB (show CallR _ _ rSortedDA from call_sortedDA rfl) (by rfl) T.z_sorted (by decide +kernel) (pa_cons (pv 1) pa_nil))) (pg_name (i := 4) ND rfl (by first | exact Or.inl rfl | exact Or.inr rfl)) (pss_cons (ps_asg (pe_ix (show IxR _ (rIxA K) from ix_any (u1 hr)) (pv 1) (pv 4) (by intro _ _; rfl)) (show PG _ _ (gTup K 4 _) from pg_tup rfl (pgs_cons (pg_name (i := 5) ND rfl (by first | exact Or.inl rfl | exact Or.inr rfl)) (pgs_cons (pg_name (i := 4) ND rfl (by first | exact Or.inl rfl | exact Or.inr rfl)) (pgs_cons (pg_name (i := 6) ND rfl (by first | exact Or.inl rfl | exact Or.inr rfl)) (pgs_cons (pg_name (i := 7) ND rfl (by first | exact Or.inl rfl | exact Or.inr rfl)) pgs_nil))))))
  (pss_cons (ps_if (PW.pt (pw_and (pt_cmpR op_notN (pv 3) pe_non (nomark _)) (pw_and (pt_cmpR (show OpR _ _ (rEqD K) from op_eqD (u64 hr)) (pv 3) (pe_op op_sub (pv 4) pe_int) (nomark _)) (pw_and1 (pt_cmpR (show OpR _ _ (rNeD K) from op_neD (u64 hr)) (pv 2) (pe_lst pa_nil) (nomark _)))))) (pss_one (ps_expr (pe_bm PySem.F.plainAttrs_list PySem.F.slot_list_append PySem.F.type_list_append mt_append (pe_ix (show IxR _ (rIxA K) from ix_any (u1 hr)) (pv 2) (pe_un un_neg pe_int) (by intro _ _; rfl)) (pa_cons (pv 7) pa_nil)))) (pss_one (ps_if (pt_cmpR op_notN (pv 6) pe_non (nomark _)) (pss_cons (ps_expr (pe_bm PySem.F.plainAttrs_list PySem.F.slot_list_append PySem.F.type_list_append mt_append (pv 2) (pa_cons (pe_lst (pa_cons (pe_slice (show SlR _ (rSl K) from sl_any) (pv 7) (po_some (pv 6)) po_none) pa_nil)) pa_nil)))
  (pss_cons (ps_set (i := 3) ND rfl (by first | exact Or.inl rfl | exact Or.inr rfl) (pv 4))
  (pss_one ps_continue))) pss_nil)))
  (pss_one (ps_set (i := 3) ND rfl (by first | exact Or.inl rfl | exact Or.inr rfl) (pe_ifExp (PW.pt (pw_and (pt_cmpR (show OpR _ _ (rNeD K) from op_neD (u64 hr)) (pv 2) (pe_lst pa_nil) (nomark _)) (pw_and1 (pt_cmpR (show OpR _ _ (rEqD K) from op_eqD (u64 hr)) (pv 3) (pe_op op_sub (pv 4) pe_int) (nomark _))))) (pv 4) pe_non))))))
  (pss_one (ps_ret (pv 2))))))), ?s⟩
  case s => exact (ss_clr [1, 2, 3, 4, 5, 6, 7] (ss_seq (ss_set (SimF.e (sf_call cs_dictP (sps_cons (SimF.p (sf_cmp (sip_seq (sp_var 0)) (sg_name 8) spt_yes (SimF.p (sf_tup (sps_cons (sp_op op_ix (sp_var 8) (SimF.p (sf_c _))) (sps_cons (sp_var 8) sps_nil)))))) sps_nil))))
  (ss_seq (ss_set (SimF.e (sf_lst sps_nil)))
  (ss_seq (ss_set (SimF.e (sf_c _)))
  (ss_seq (ss_clr [3, 4, 5, 6, 7] (ss_for (si_seq (SimF.e (sf_call cs_sortedD (sps_cons (sp_var 1) sps_nil)))) (sg_name 4) (ss_clr [4, 5, 6, 7] (ss_seq (ss_unp (is := [5, 4, 6, 7]) (SimP.e (sp_op op_ix (sp_var 1) (sp_var 4))))
  (ss_seq (ss_if (SimPT.e (spt_and (spt_test (SimF.p (sf_op os_notN (sp_var 3) (SimF.p (sf_c _))))) (spt_and (spt_test (SimF.p (sf_op os_eq (sp_var 3) (SimF.p (sf_op os_sub (sp_var 4) (SimF.p (sf_c _))))))) (spt_test (SimF.p (sf_op os_ne (sp_var 2) (SimF.p (sf_lst sps_nil)))))))) (ss_expr (se_mutP ms_append (lp_idx (lp_var 2) (SimF.p (sf_un us_neg (SimF.p (sf_c _))))) (sfa_cons (SimP.f (sp_var 7)) sfa_nil))) (ss_if (SimPT.e (spt_test (SimF.p (sf_op os_notN (sp_var 6) (SimF.p (sf_c _)))))) (ss_seq (ss_expr (se_mut ms_append (sea_cons (se_lst (sea_cons (SimF.e (sf_sl ss_sl (sp_var 7) (so_some (sp_var 6)) so_none)) sea_nil)) sea_nil)))
  (ss_seq (ss_set (SimP.e (sp_var 4)))
  ss_cont)) ss_nil))
  (ss_set (SimP.e (sp_if (spt_and (spt_test (SimF.p (sf_op os_ne (sp_var 2) (SimF.p (sf_lst sps_nil))))) (spt_test (SimF.p (sf_op os_eq (sp_var 3) (SimF.p (sf_op os_sub (sp_var 4) (SimF.p (sf_c _)))))))) (sp_var 4) (SimF.p (sf_c _))))))))))
  (ss_ret (se_mv 2)))))))
abbrev s__law_mix : Stmt := top 29
abbrev N__law_mix : List Str := ["_law_script", "_law_seed", "_law_mixed", "_law_cell"]
abbrev P__law_mix : List Str := ["_law_script", "_law_seed"]
theorem sc__law_mix : FnScope N__law_mix P__law_mix (defScope s__law_mix) := ⟨rfl, rfl, rfl, by decide +kernel, rfl, by decide +kernel, by decide +kernel⟩
theorem ok__law_mix (T : Tx K mg C) {f : Addr} {fd : FuncData} (F : FunD K "_law_mix" "_law_mix" (defArgs s__law_mix) (defBody s__law_mix) (defScope s__law_mix) [] [] f fd) : FnOk P w K mg base (L2.CX P w) 1 f fd P__law_mix (spD K C N__law_mix P__law_mix.length F__law_mix) := by
  refine def_ok (k := 0) F sc__law_mix ?_
  intro cdv A outer s H E W hr tk
  have ND := sc__law_mix.nd
  refine ⟨_, (pss_cons (ps_set (i := 2) ND rfl (by first | exact Or.inl rfl | exact Or.inr rfl) (pv 1))
  (pss_cons (ps_for (passes_of rfl) rfl (pi_seq (pv 0)) (pg_name (i := 3) ND rfl (by first | exact Or.inl rfl | exact Or.inr rfl)) (pss_one (ps_set (i := 2) ND rfl (by first | exact Or.inl rfl | exact Or.inr rfl) (pe_op op_modN (pe_op (show OpR _ _ (rAddA K) from op_addA) (pe_op (show OpR _ _ (rAddA K) from op_addA) (pe_op (show OpR _ _ (rMulA K) from op_mulA) (pv 2) pe_int) (pe_op op_modN (pv 3) pe_int)) pe_int) pe_int))))
  (pss_one (ps_ret (pe_lst (pa_cons (pv 2) (pa_cons (pe_callTy (show CallR _ _ (rListA K) from call_listA rfl) (by rfl) T.z_list (by decide +kernel) (pa_cons (pv 0) pa_nil)) (pa_cons pe_int pa_nil)))))))), ?s⟩
  case s => exact (ss_clr [2, 3] (ss_seq (ss_set (SimP.e (sp_var 1)))
  (ss_seq (ss_clr [3] (ss_for (si_bor 0) (sg_name 3) (ss_clr [3] (ss_set (SimF.e (sf_op os_mod (SimF.p (sf_op os_add (SimF.p (sf_op os_add (SimF.p (sf_op os_mul (sp_var 2) (SimF.p (sf_c _)))) (SimF.p (sf_op os_mod (sp_var 3) (SimF.p (sf_c _)))))) (SimF.p (sf_c _)))) (SimF.p (sf_c _))))))))
  (ss_ret (se_lst (sea_cons (SimP.e (sp_var 2)) (sea_cons (SimF.e (sf_call cs_list (sps_cons (sp_var 0) sps_nil))) (sea_cons (SimF.e (sf_c _)) sea_nil))))))))
abbrev s__law_next : Stmt := top 30
abbrev N__law_next : List Str := ["_law_h", "_law_many_here", "_law_at", "_law_cell"]
abbrev P__law_next : List Str := ["_law_h", "_law_many_here"]
theorem sc__law_next : FnScope N__law_next P__law_next (defScope s__law_next) := ⟨rfl, rfl, rfl, by decide +kernel, rfl, by decide +kernel, by decide +kernel⟩
theorem ok__law_next (T : Tx K mg C) {f : Addr} {fd : FuncData} (F : FunD K "_law_next" "_law_next" (defArgs s__law_next) (defBody s__law_next) (defScope s__law_next) [] [] f fd) : FnOk P w K mg base (L2.CX P w) 1 f fd P__law_next (spD K C N__law_next P__law_next.length F__law_next) := by
  refine def_ok (k := 0) F sc__law_next ?_
  intro cdv A outer s H E W hr tk
  have ND := sc__law_next.nd
  refine ⟨_, (pss_cons (ps_set (i := 2) ND rfl (by first | exact Or.inl rfl | exact Or.inr rfl) (pe_op op_modN (pe_ix (show IxR _ (rIxA K) from ix_any (u1 hr)) (pv 0) pe_int (by intro _ _; rfl)) (pe_callB (show CallR _ _ (rMaxA K) from call_maxA rfl) (by rfl) T.z_max PyProof.Rows.boot_max (pa_cons pe_int (pa_cons (pe_callB (show CallR _ _ (fun xs H Q => ∃ x n, xs = [x] ∧ LenV K x H n ∧ Q (.int n) H) from call_len) (by rfl) T.z_len PySem.boot_len (pa_cons (pe_ix (show IxR _ (rIxA K) from ix_any (u1 hr)) (pv 0) pe_int (by intro _ _; rfl)) pa_nil)) pa_nil)))))
  (pss_cons (ps_set (i := 3) ND rfl (by first | exact Or.inl rfl | exact Or.inr rfl) (pe_ifExp (pt_cmpR (show OpR _ _ (rNeD K) from op_neD (u64 hr)) (pe_ix (show IxR _ (rIxA K) from ix_any (u1 hr)) (pv 0) pe_int (by intro _ _; rfl)) (pe_lst pa_nil) (nomark _)) (pe_ix (show IxR _ (rIxA K) from ix_any (u1 hr)) (pe_ix (show IxR _ (rIxA K) from ix_any (u1 hr)) (pv 0) pe_int (by intro _ _; rfl)) (pv 2) (by intro _ _; rfl)) pe_int))
  (pss_cons (ps_if (pt_cmpR op_ge (pv 3) (pe_op op_pow pe_int pe_int) (nomark _)) (pss_cons (ps_asg (pe_op op_fdivN (pv 3) (pv 1)) (pg_sub (pe_ix (show IxR _ (rIxA K) from ix_any (u1 hr)) (pv 0) pe_int (by intro _ _; rfl)) (pv 2) set_list))
  (pss_one (ps_ret (pe_op op_modN (pv 3) (pv 1))))) pss_nil)
  (pss_cons (ps_asg (pe_op op_modN (pe_op (show OpR _ _ (rAddA K) from op_addA) (pe_op (show OpR _ _ (rAddA K) from op_addA) (pe_op (show OpR _ _ (rMulA K) from op_mulA) (pe_ix (show IxR _ (rIxA K) from ix_any (u1 hr)) (pv 0) pe_int (by intro _ _; rfl)) pe_int) (pe_op (show OpR _ _ (rMulA K) from op_mulA) (pv 3) pe_int)) pe_int) pe_int) (pg_sub (pv 0) pe_int set_list))
  (pss_cons (ps_asg (pe_op (show OpR _ _ (rAddA K) from op_addA) (pe_ix (show IxR _ (rIxA K) from ix_any (u1 hr)) (pv 0) pe_int (by intro _ _; rfl)) pe_int) (pg_sub (pv 0) pe_int set_list))
  (pss_one (ps_ret (pe_op op_modN (pe_op op_fdivN (pe_ix (show IxR _ (rIxA K) from ix_any (u1 hr)) (pv 0) pe_int (by intro _ _; rfl)) pe_int) (pv 1))))))))), ?s⟩
  case s => exact (ss_clr [2, 3] (ss_seq (ss_set (SimF.e (sf_op os_mod (sp_op op_ix (sp_var 0) (SimF.p (sf_c _))) (SimF.p (sf_call cs_max (sps_cons (SimF.p (sf_c _)) (sps_cons (SimF.p (sf_call cs_len (sps_cons (sp_op op_ix (sp_var 0) (SimF.p (sf_c _))) sps_nil))) sps_nil)))))))
  (ss_seq (ss_set (SimP.e (sp_if (spt_test (SimF.p (sf_op os_ne (sp_op op_ix (sp_var 0) (SimF.p (sf_c _))) (SimF.p (sf_lst sps_nil))))) (sp_op op_ix (sp_op op_ix (sp_var 0) (SimF.p (sf_c _))) (sp_var 2)) (SimF.p (sf_c _)))))
  (ss_seq (ss_if (SimPT.e (spt_test (SimF.p (sf_op os_ge (sp_var 3) (SimF.p (sf_op os_pow (SimF.p (sf_c _)) (SimF.p (sf_c _)))))))) (ss_seq (ss_item sts_list (SimF.e (sf_op os_div (sp_var 3) (sp_var 1))) (lp_idx (lp_var 0) (SimF.p (sf_c _))) (sp_var 2))
  (ss_ret (SimF.e (sf_op os_mod (sp_var 3) (sp_var 1))))) ss_nil)
  (ss_seq (ss_item sts_list (SimF.e (sf_op os_mod (SimF.p (sf_op os_add (SimF.p (sf_op os_add (SimF.p (sf_op os_mul (sp_op op_ix (sp_var 0) (SimF.p (sf_c _))) (SimF.p (sf_c _)))) (SimF.p (sf_op os_mul (sp_var 3) (SimF.p (sf_c _)))))) (SimF.p (sf_c _)))) (SimF.p (sf_c _)))) (lp_var 0) (SimF.p (sf_c _)))
  (ss_seq (ss_item sts_list (SimF.e (sf_op os_add (sp_op op_ix (sp_var 0) (SimF.p (sf_c _))) (SimF.p (sf_c _)))) (lp_var 0) (SimF.p (sf_c _)))
  (ss_ret (SimF.e (sf_op os_mod (SimF.p (sf_op os_div (sp_op op_ix (sp_var 0) (SimF.p (sf_c _))) (SimF.p (sf_c _)))) (sp_var 1))))))))))
abbrev s__law_fresh : Stmt := top 33
abbrev N__law_fresh : List Str := ["_law_size"]
abbrev P__law_fresh : List Str := ["_law_size"]
theorem sc__law_fresh : FnScope N__law_fresh P__law_fresh (defScope s__law_fresh) := ⟨rfl, rfl, rfl, by decide +kernel, rfl, by decide +kernel, by decide +kernel⟩
theorem ok__law_fresh (T : Tx K mg C) {f : Addr} {fd : FuncData} (F : FunD K "_law_fresh" "_law_fresh" (defArgs s__law_fresh) (defBody s__law_fresh) (defScope s__law_fresh) [] [] f fd) : FnOk P w K mg base (L2.CX P w) 1 f fd P__law_fresh (spD K C N__law_fresh P__law_fresh.length F__law_fresh) := by
  refine def_ok (k := 0) F sc__law_fresh ?_
  intro cdv A outer s H E W hr tk
  have ND := sc__law_fresh.nd
  refine ⟨_, (pss_one (ps_ret (pe_disp (pps_cons pe_str (pv 0) (pps_cons pe_str (pe_lst pa_nil) (pps_cons pe_str (pe_lst pa_nil) pps_nil))) (by rfl) (by rfl) (fun z => by cases z) (by decide)))), ?s⟩
  case s => exact (ss_ret (se_disp (.cons (.inr "size") (SimP.e (sp_var 0)) (.cons (.inr "numbers") (SimF.e (sf_lst sps_nil)) (.cons (.inr "starts") (SimF.e (sf_lst sps_nil)) .nil))) (by decide) (by decide)))
abbrev s__law_lay : Stmt := top 34
abbrev N__law_lay : List Str := ["_law_s", "_law_data_here", "_law_seq"]
abbrev P__law_lay : List Str := ["_law_s", "_law_data_here"]
theorem sc__law_lay : FnScope N__law_lay P__law_lay (defScope s__law_lay) := ⟨rfl, rfl, rfl, by decide +kernel, rfl, by decide +kernel, by decide +kernel⟩
theorem ok__law_lay (T : Tx K mg C) {f : Addr} {fd : FuncData} (F : FunD K "_law_lay" "_law_lay" (defArgs s__law_lay) (defBody s__law_lay) (defScope s__law_lay) [] [] f fd) : FnOk P w K mg base (L2.CX P w) 1 f fd P__law_lay (spD K C N__law_lay P__law_lay.length F__law_lay) := by
  refine def_ok (k := 0) F sc__law_lay ?_
  intro cdv A outer s H E W hr tk
  have ND := sc__law_lay.nd
  refine ⟨_, (pss_cons (ps_set (i := 2) ND rfl (by first | exact Or.inl rfl | exact Or.inr rfl) (pe_callB (show CallR _ _ (fun xs H Q => ∃ x n, xs = [x] ∧ LenV K x H n ∧ Q (.int n) H) from call_len) (by rfl) T.z_len PySem.boot_len (pa_cons (pe_ix (show IxR _ (rIxA K) from ix_any (u1 hr)) (pv 0) pe_str (by intro _ _; rfl)) pa_nil)))
  (pss_cons (ps_expr (pe_bm PySem.F.plainAttrs_list PySem.F.slot_list_append PySem.F.type_list_append mt_append (pe_ix (show IxR _ (rIxA K) from ix_any (u1 hr)) (pv 0) pe_str (by intro _ _; rfl)) (pa_cons (pe_tup (pa_cons (pe_callB (show CallR _ _ (fun xs H Q => ∃ x n, xs = [x] ∧ LenV K x H n ∧ Q (.int n) H) from call_len) (by rfl) T.z_len PySem.boot_len (pa_cons (pe_ix (show IxR _ (rIxA K) from ix_any (u1 hr)) (pv 0) pe_str (by intro _ _; rfl)) pa_nil)) (pa_cons (pv 1) pa_nil))) pa_nil)))
  (pss_cons (ps_expr (pe_bm PySem.F.plainAttrs_list PySem.F.slot_list_extend PySem.F.type_list_extend mt_extend (pe_ix (show IxR _ (rIxA K) from ix_any (u1 hr)) (pv 0) pe_str (by intro _ _; rfl)) (pa_cons (pe_op (show OpR _ _ (rAddA K) from op_addA) (pe_lst (pa_cons (pe_callB (show CallR _ _ (fun xs H Q => ∃ x n, xs = [x] ∧ LenV K x H n ∧ Q (.int n) H) from call_len) (by rfl) T.z_len PySem.boot_len (pa_cons (pv 1) pa_nil)) (pa_cons (pe_op op_fdivN (pv 2) pe_int) (pa_cons (pe_op op_modN (pv 2) pe_int) pa_nil)))) (pe_callTy (show CallR _ _ (rListA K) from call_listA rfl) (by rfl) T.z_list (by decide +kernel) (pa_cons (pv 1) pa_nil))) pa_nil)))
  (pss_one (ps_ret (pv 2)))))), ?s⟩
  case s => exact (ss_clr [2] (ss_seq (ss_set (SimF.e (sf_call cs_len (sps_cons (sp_op op_ix (sp_var 0) (SimF.p (sf_c _))) sps_nil))))
  (ss_seq (ss_expr (se_mutP ms_append (lp_idx (lp_var 0) (SimF.p (sf_c _))) (sfa_cons (sf_tup (sps_cons (SimF.p (sf_call cs_len (sps_cons (sp_op op_ix (sp_var 0) (SimF.p (sf_c _))) sps_nil))) (sps_cons (sp_var 1) sps_nil))) sfa_nil)))
  (ss_seq (ss_expr (se_mutP ms_extend (lp_idx (lp_var 0) (SimF.p (sf_c _))) (sfa_cons (sf_op os_add (SimF.p (sf_lst (sps_cons (SimF.p (sf_call cs_len (sps_cons (sp_var 1) sps_nil))) (sps_cons (SimF.p (sf_op os_div (sp_var 2) (SimF.p (sf_c _)))) (sps_cons (SimF.p (sf_op os_mod (sp_var 2) (SimF.p (sf_c _)))) sps_nil))))) (SimF.p (sf_call cs_list (sps_cons (sp_var 1) sps_nil)))) sfa_nil)))
  (ss_ret (SimP.e (sp_var 2)))))))
abbrev s__law_rows : Stmt := top 38
abbrev N__law_rows : List Str := ["_law_s", "_law_counts", "_law_found", "_law_due", "_law_seq", "_law_start", "_law_data_here", "_law_low", "_law_high", "_law_count"]
abbrev P__law_rows : List Str := ["_law_s", "_law_counts"]
theorem sc__law_rows : FnScope N__law_rows P__law_rows (defScope s__law_rows) := ⟨rfl, rfl, rfl, by decide +kernel, rfl, by decide +kernel, by decide +kernel⟩
theorem ok__law_rows (T : Tx K mg C) {f : Addr} {fd : FuncData} (F : FunD K "_law_rows" "_law_rows" (defArgs s__law_rows) (defBody s__law_rows) (defScope s__law_rows) [] [] f fd) : FnOk P w K mg base (L2.CX P w) 1 f fd P__law_rows (spD K C N__law_rows P__law_rows.length F__law_rows) := by
  refine def_ok (k := 0) F sc__law_rows ?_
  intro cdv A outer s H E W hr tk
  have ND := sc__law_rows.nd
  refine ⟨_, (pss_cons (ps_par (i := 2) (j := 3) rfl ND rfl rfl (by decide) rfl rfl (pa_cons (pe_lst pa_nil) (pa_cons pe_int pa_nil)) rfl)
  (pss_cons (ps_for (passes_of rfl) rfl (pi_range1 (by rfl) T.z_range (pa_cons (pe_callB (show CallR _ _ (fun xs H Q => ∃ x n, xs = [x] ∧ LenV K x H n ∧ Q (.int n) H) from call_len) (by rfl) T.z_len PySem.boot_len (pa_cons (pe_ix (show IxR _ (rIxA K) from ix_any (u1 hr)) (pv 0) pe_str (by intro _ _; rfl)) pa_nil)) pa_nil)) (pg_name (i := 4) ND rfl (by first | exact Or.inl rfl | exact Or.inr rfl)) (pss_cons (ps_asg (pe_ix (show IxR _ (rIxA K) from ix_any (u1 hr)) (pe_ix (show IxR _ (rIxA K) from ix_any (u1 hr)) (pv 0) pe_str (by intro _ _; rfl)) (pv 4) (by intro _ _; rfl)) (show PG _ _ (gTup K 2 _) from pg_tup rfl (pgs_cons (pg_name (i := 5) ND rfl (by first | exact Or.inl rfl | exact Or.inr rfl)) (pgs_cons (pg_name (i := 6) ND rfl (by first | exact Or.inl rfl | exact Or.inr rfl)) pgs_nil))))
  (pss_cons (ps_par (i := 7) (j := 8) rfl ND rfl rfl (by decide) rfl rfl (pa_cons (pe_op op_fdivN (pv 5) (pe_ix (show IxR _ (rIxA K) from ix_any (u1 hr)) (pv 0) pe_str (by intro _ _; rfl))) (pa_cons (pe_op op_fdivN (pe_op (show OpR _ _ (rAddA K) from op_addA) (pe_op (show OpR _ _ (rAddA K) from op_addA) (pv 5) pe_int) (pe_callB (show CallR _ _ (fun xs H Q => ∃ x n, xs = [x] ∧ LenV K x H n ∧ Q (.int n) H) from call_len) (by rfl) T.z_len PySem.boot_len (pa_cons (pv 6) pa_nil))) (pe_ix (show IxR _ (rIxA K) from ix_any (u1 hr)) (pv 0) pe_str (by intro _ _; rfl))) pa_nil)) rfl)
  (pss_one (ps_if (pt_cmpR (show OpR _ _ (rEqD K) from op_eqD (u64 hr)) (pe_lc rfl ND (pi_range2 (by rfl) T.z_range (pa_cons (pv 7) (pa_cons (pe_op (show OpR _ _ (rAddA K) from op_addA) (pv 8) pe_int) pa_nil))) (blkOk_by (own := [("_law_count", 9)]) (by rfl)) (fun _ _ _ _ _ => (pg_name (i := 9) ND rfl (by first | exact Or.inl rfl | exact Or.inr rfl))) (fun _ _ _ _ _ => pts_one (pt_cmpR (show OpR _ _ (rNInA K) from op_ninA (u65 hr)) (pv 9) (pv 1) rfl)) (fun _ _ _ _ _ => (pv 9))) (pe_lst pa_nil) (nomark _)) (pss_cons (ps_if (pt_cmpR op_gt (pv 4) (pv 3) (nomark _)) (pss_one (ps_expr (pe_bm PySem.F.plainAttrs_list PySem.F.slot_list_append PySem.F.type_list_append mt_append (pv 2) (pa_cons (pe_tup (pa_cons pe_str (pa_cons (pv 3) (pa_cons (pe_op op_sub (pv 4) pe_int) pa_nil)))) pa_nil)))) pss_nil)
  (pss_cons (ps_expr (pe_bm PySem.F.plainAttrs_list PySem.F.slot_list_append PySem.F.type_list_append mt_append (pv 2) (pa_cons (pe_tup (pa_cons pe_str (pa_cons (pv 4) (pa_cons (pv 6) pa_nil)))) pa_nil)))
  (pss_one (ps_set (i := 3) ND rfl (by first | exact Or.inl rfl | exact Or.inr rfl) (pe_op (show OpR _ _ (rAddA K) from op_addA) (pv 4) pe_int))))) pss_nil)))))
  (pss_one (ps_ret (pv 2))))), ?s⟩
  case s => exact (ss_clr [2, 3, 4, 5, 6, 7, 8] (ss_seq (ss_par (sea_cons (SimF.e (sf_lst sps_nil)) (sea_cons (SimF.e (sf_c _)) sea_nil)))
  (ss_seq (ss_clr [3, 4, 5, 6, 7, 8] (ss_for (si_r1 (sea_cons (SimF.e (sf_call cs_len (sps_cons (sp_op op_ix (sp_var 0) (SimF.p (sf_c _))) sps_nil))) sea_nil)) (sg_name 4) (ss_clr [4, 5, 6, 7, 8] (ss_seq (ss_unp (is := [5, 6]) (SimP.e (sp_op op_ix (sp_op op_ix (sp_var 0) (SimF.p (sf_c _))) (sp_var 4))))
  (ss_seq (ss_par (sea_cons (SimF.e (sf_op os_div (sp_var 5) (sp_op op_ix (sp_var 0) (SimF.p (sf_c _))))) (sea_cons (SimF.e (sf_op os_div (SimF.p (sf_op os_add (SimF.p (sf_op os_add (sp_var 5) (SimF.p (sf_c _)))) (SimF.p (sf_call cs_len (sps_cons (sp_var 6) sps_nil))))) (sp_op op_ix (sp_var 0) (SimF.p (sf_c _))))) sea_nil)))
  (ss_if (SimPT.e (spt_test (SimF.p (sf_op os_eq (SimF.p (sf_cmp (sip_r2 (sps_cons (sp_var 7) (sps_cons (SimF.p (sf_op os_add (sp_var 8) (SimF.p (sf_c _)))) sps_nil))) (sg_name 9) (spt_test (SimF.p (sf_op os_nin (sp_var 9) (sp_var 1)))) (sp_var 9))) (SimF.p (sf_lst sps_nil)))))) (ss_seq (ss_if (SimPT.e (spt_test (SimF.p (sf_op os_gt (sp_var 4) (sp_var 3))))) (ss_expr (se_mut ms_append (sea_cons (SimF.e (sf_tup (sps_cons (SimF.p (sf_c _)) (sps_cons (sp_var 3) (sps_cons (SimF.p (sf_op os_sub (sp_var 4) (SimF.p (sf_c _)))) sps_nil))))) sea_nil))) ss_nil)
  (ss_seq (ss_expr (se_mut ms_append (sea_cons (SimF.e (sf_tup (sps_cons (SimF.p (sf_c _)) (sps_cons (sp_var 4) (sps_cons (sp_var 6) sps_nil))))) sea_nil)))
  (ss_set (SimF.e (sf_op os_add (sp_var 4) (SimF.p (sf_c _))))))) ss_nil))))))
  (ss_ret (se_mv 2)))))
abbrev s_need_size : Stmt := top 15
abbrev N_need_size : List Str := ["size"]
abbrev P_need_size : List Str := ["size"]
theorem sc_need_size : FnScope N_need_size P_need_size (defScope s_need_size) := ⟨rfl, rfl, rfl, by decide +kernel, rfl, by decide +kernel, by decide +kernel⟩
theorem ok_need_size (T : Tx K mg C) {f : Addr} {fd : FuncData} (F : FunD K "need_size" "need_size" (defArgs s_need_size) (defBody s_need_size) (defScope s_need_size) [] [] f fd) {f_is_number : Addr} {fd_is_number : FuncData} (A_is_number : FnAt P w K mg base C 1 f_is_number fd_is_number "is_number" N_is_number P_is_number F_is_number) : FnOk P w K mg base (L2.CX P w) 2 f fd P_need_size (spD K C N_need_size P_need_size.length F_need_size) := by
  refine def_ok (k := 1) F sc_need_size ?_
  intro cdv A outer s H E W hr tk
  have ND := sc_need_size.nd
  refine ⟨_, (pss_one (ps_if (pt_not (pt_val (pe_fn A_is_number hr tk (pa_cons (pv 0) (pa_cons (pe_gint (by rfl) T.c_LEAST_SIZE) (pa_cons (pe_gint (by rfl) T.c_MOST_SIZE) pa_nil)))))) (pss_one (ps_rs T.x_BadSize tk)) pss_nil)), ?s⟩
  case s => exact (ss_if (SimPT.e (spt_not (spt_b (SimF.p (sf_fn (srp_len (lp_var 0) (srp_val (sf_c _) (srp_val (sf_c _) srp_nil))) rfl))))) (ss_raise 5) ss_nil)
abbrev s_need_stream : Stmt := top 16
abbrev N_need_stream : List Str := ["stream"]
abbrev P_need_stream : List Str := ["stream"]
theorem sc_need_stream : FnScope N_need_stream P_need_stream (defScope s_need_stream) := ⟨rfl, rfl, rfl, by decide +kernel, rfl, by decide +kernel, by decide +kernel⟩
theorem ok_need_stream (T : Tx K mg C) {f : Addr} {fd : FuncData} (F : FunD K "need_stream" "need_stream" (defArgs s_need_stream) (defBody s_need_stream) (defScope s_need_stream) [] [] f fd) {f_is_number : Addr} {fd_is_number : FuncData} (A_is_number : FnAt P w K mg base C 1 f_is_number fd_is_number "is_number" N_is_number P_is_number F_is_number) : FnOk P w K mg base (L2.CX P w) 2 f fd P_need_stream (spD K C N_need_stream P_need_stream.length F_need_stream) := by
  refine def_ok (k := 1) F sc_need_stream ?_
  intro cdv A outer s H E W hr tk
  have ND := sc_need_stream.nd
  refine ⟨_, (pss_one (ps_if (pt_not (pt_val (pe_fn A_is_number hr tk (pa_cons (pv 0) (pa_cons pe_int (pa_cons (pe_op op_sub (pe_gint (by rfl) T.c_STREAMS) pe_int) pa_nil)))))) (pss_one (ps_rs T.x_BadStream tk)) pss_nil)), ?s⟩
  case s => exact (ss_if (SimPT.e (spt_not (spt_b (SimF.p (sf_fn (srp_len (lp_var 0) (srp_val (sf_c _) (srp_val (sf_op os_sub (SimF.p (sf_c _)) (SimF.p (sf_c _))) srp_nil))) rfl))))) (ss_raise 7) ss_nil)
abbrev s_are_numbers : Stmt := top 17
abbrev N_are_numbers : List Str := ["data", "least", "most", "one"]
abbrev P_are_numbers : List Str := ["data", "least", "most"]
theorem sc_are_numbers : FnScope N_are_numbers P_are_numbers (defScope s_are_numbers) := ⟨rfl, rfl, rfl, by decide +kernel, rfl, by decide +kernel, by decide +kernel⟩
theorem ok_are_numbers (T : Tx K mg C) {f : Addr} {fd : FuncData} (F : FunD K "are_numbers" "are_numbers" (defArgs s_are_numbers) (defBody s_are_numbers) (defScope s_are_numbers) [] [] f fd) {f_is_number : Addr} {fd_is_number : FuncData} (A_is_number : FnAt P w K mg base C 1 f_is_number fd_is_number "is_number" N_is_number P_is_number F_is_number) : FnOk P w K mg base (L2.CX P w) 2 f fd P_are_numbers (spD K C N_are_numbers P_are_numbers.length F_are_numbers) := by
  refine def_ok (k := 1) F sc_are_numbers ?_
  intro cdv A outer s H E W hr tk
  have ND := sc_are_numbers.nd
  refine ⟨_, (pss_cons (ps_if (PW.pt (pw_or (pt_not (pt_val (pe_callB (show CallR _ _ (rIsiA K) from call_isiA) (by rfl) T.z_isinstance (by decide +kernel) (pa_cons (pv 0) (pa_cons (pe_bltn (v := .ty "tuple") (by rfl) T.z_tuple (by decide +kernel) rfl) pa_nil))))) (pw_or1 (pt_not (pt_chain op_le op_le (pv 1) (pe_callB (show CallR _ _ (fun xs H Q => ∃ x n, xs = [x] ∧ LenV K x H n ∧ Q (.int n) H) from call_len) (by rfl) T.z_len PySem.boot_len (pa_cons (pv 0) pa_nil)) (pv 2)))))) (pss_one (ps_ret pe_bl)) pss_nil)
  (pss_one (ps_ret (pe_cmpR (show OpR _ _ (rEqD K) from op_eqD (u64 hr)) (pe_lc rfl ND (pi_seq (pv 0)) (blkOk_by (own := [("one", 3)]) (by rfl)) (fun _ _ _ _ _ => (pg_name (i := 3) ND rfl (by first | exact Or.inl rfl | exact Or.inr rfl))) (fun _ _ _ _ _ => pts_one (pt_not (pt_val (pe_fn A_is_number hr takes0 (pa_cons (pv 3) (pa_cons pe_int (pa_cons (pe_gint (by rfl) T.c_MOST_NUMBER) pa_nil))))))) (fun _ _ _ _ _ => (pv 3))) (pe_lst pa_nil) (nomark _))))), ?s⟩
  case s => exact (ss_seq (ss_if (SimPT.e (spt_or (spt_not (spt_b (SimF.p (sf_call cs_isi (sps_cons (sp_var 0) (sps_cons (SimF.p (sf_c _)) sps_nil)))))) (spt_not (spt_test (SimF.p (sf_chain os_le os_le (sp_var 1) (SimF.p (sf_call cs_len (sps_cons (sp_var 0) sps_nil))) (sp_var 2))))))) (ss_ret (SimF.e (sf_c _))) ss_nil)
  (ss_ret (SimF.e (sf_op os_eq (SimF.p (sf_cmp (sip_seq (sp_var 0)) (sg_name 3) (spt_not (spt_b (SimF.p (sf_fn (srp_len (lp_var 3) (srp_val (sf_c _) (srp_val (sf_c _) srp_nil))) rfl)))) (sp_var 3))) (SimF.p (sf_lst sps_nil))))))
abbrev s_Layer_lay : Stmt := inClass (top 22) 1
abbrev N_Layer_lay : List Str := ["self", "data", "found", "number"]
abbrev P_Layer_lay : List Str := ["self", "data"]
theorem sc_Layer_lay : FnScope N_Layer_lay P_Layer_lay (defScope s_Layer_lay) := ⟨rfl, rfl, rfl, by decide +kernel, rfl, by decide +kernel, by decide +kernel⟩
theorem ok_Layer_lay (T : Tx K mg C) {f : Addr} {fd : FuncData} (F : FunD K "lay" "Layer.lay" (defArgs s_Layer_lay) (defBody s_Layer_lay) (defScope s_Layer_lay) [] [] f fd) {f_Layer_made : Addr} {fd_Layer_made : FuncData} (A_Layer_made : MtAt P w K mg base C 1 f_Layer_made fd_Layer_made 0 "made" N_Layer_made P_Layer_made F_Layer_made) : FnOk P w K mg base (L2.CX P w) 2 f fd P_Layer_lay (spD K C N_Layer_lay P_Layer_lay.length F_Layer_lay) := by
  refine def_ok (k := 1) F sc_Layer_lay ?_
  intro cdv A outer s H E W hr tk
  have ND := sc_Layer_lay.nd
  refine ⟨_, (pss_cons (ps_set (i := 2) ND rfl (by first | exact Or.inl rfl | exact Or.inr rfl) (pe_lst pa_nil))
  (pss_cons (ps_if (pt_cmpR op_isN (pe_fldK K (pv 0) (by rfl)) pe_non (nomark _)) (pss_one (ps_fldK K (pv 0) (pe_callB (show CallR _ _ (fun xs H Q => ∃ x n, xs = [x] ∧ LenV K x H n ∧ Q (.int n) H) from call_len) (by rfl) T.z_len PySem.boot_len (pa_cons (pe_fldK K (pv 0) (by rfl)) pa_nil)))) pss_nil)
  (pss_cons (ps_for (passes_of rfl) rfl (pi_seq (pe_op (show OpR _ _ (rAddA K) from op_addA) (pe_tup (pa_cons (pe_callB (show CallR _ _ (fun xs H Q => ∃ x n, xs = [x] ∧ LenV K x H n ∧ Q (.int n) H) from call_len) (by rfl) T.z_len PySem.boot_len (pa_cons (pv 1) pa_nil)) (pa_cons (pe_op op_fdivN (pe_fldK K (pv 0) (by rfl)) pe_int) (pa_cons (pe_op op_modN (pe_fldK K (pv 0) (by rfl)) pe_int) pa_nil)))) (pv 1))) (pg_name (i := 3) ND rfl (by first | exact Or.inl rfl | exact Or.inr rfl)) (pss_cons (ps_expr (pe_bm PySem.F.plainAttrs_list PySem.F.slot_list_append PySem.F.type_list_append mt_append (pe_fldK K (pv 0) (by rfl)) (pa_cons (pv 3) pa_nil)))
  (pss_one (ps_if (pt_cmpR (show OpR _ _ (rEqD K) from op_eqD (u64 hr)) (pe_callB (show CallR _ _ (fun xs H Q => ∃ x n, xs = [x] ∧ LenV K x H n ∧ Q (.int n) H) from call_len) (by rfl) T.z_len PySem.boot_len (pa_cons (pe_fldK K (pv 0) (by rfl)) pa_nil)) (pe_fldK K (pv 0) (by rfl)) (nomark _)) (pss_one (ps_expr (pe_bm PySem.F.plainAttrs_list PySem.F.slot_list_append PySem.F.type_list_append mt_append (pv 2) (pa_cons (pe_mt0 A_Layer_made hr tk (pv 0)) pa_nil)))) pss_nil))))
  (pss_cons (ps_fldK K (pv 0) (pe_op (show OpR _ _ (rAddA K) from op_addA) (pe_fldK K (pv 0) (by rfl)) pe_int))
  (pss_one (ps_ret (pv 2))))))), ?s⟩
  case s => exact (ss_clr [2, 3] (ss_seq (ss_set (SimF.e (sf_lst sps_nil)))
  (ss_seq (ss_if (SimPT.e (spt_test (SimF.p (sf_op os_isN (sp_lp (lp_fld (lp_var 0) T.cl T.na_first)) (SimF.p (sf_c _)))))) (ss_fld (SimF.e (sf_call cs_len (sps_cons (sp_lp (lp_fld (lp_var 0) T.cl T.na_open_body)) sps_nil))) (lp_var 0) T.cl T.na_first) ss_nil)
  (ss_seq (ss_clr [3] (ss_for (si_seq (SimF.e (sf_op os_add (SimF.p (sf_tup (sps_cons (SimF.p (sf_call cs_len (sps_cons (sp_var 1) sps_nil))) (sps_cons (SimF.p (sf_op os_div (sp_lp (lp_fld (lp_var 0) T.cl T.na_seq)) (SimF.p (sf_c _)))) (sps_cons (SimF.p (sf_op os_mod (sp_lp (lp_fld (lp_var 0) T.cl T.na_seq)) (SimF.p (sf_c _)))) sps_nil))))) (sp_var 1)))) (sg_name 3) (ss_clr [3] (ss_seq (ss_expr (se_mutP ms_append (lp_fld (lp_var 0) T.cl T.na_open_body) (sfa_cons (SimP.f (sp_var 3)) sfa_nil)))
  (ss_if (SimPT.e (spt_test (SimF.p (sf_op os_eq (SimF.p (sf_call cs_len (sps_cons (sp_lp (lp_fld (lp_var 0) T.cl T.na_open_body)) sps_nil))) (sp_lp (lp_fld (lp_var 0) T.cl T.na_size)))))) (ss_expr (se_mut ms_append (sea_cons (se_methP (f := Ar.inn) (.inl rfl) (lp_var 0) srp_nil rfl) sea_nil))) ss_nil)))))
  (ss_seq (ss_fld (SimF.e (sf_op os_add (sp_lp (lp_fld (lp_var 0) T.cl T.na_seq)) (SimF.p (sf_c _)))) (lp_var 0) T.cl T.na_seq)
  (ss_ret (se_mv 2)))))))
abbrev s_Layer_filled : Stmt := inClass (top 22) 3
abbrev N_Layer_filled : List Str := ["self"]
abbrev P_Layer_filled : List Str := ["self"]
theorem sc_Layer_filled : FnScope N_Layer_filled P_Layer_filled (defScope s_Layer_filled) := ⟨rfl, rfl, rfl, by decide +kernel, rfl, by decide +kernel, by decide +kernel⟩
theorem ok_Layer_filled (T : Tx K mg C) {f : Addr} {fd : FuncData} (F : FunD K "filled" "Layer.filled" (defArgs s_Layer_filled) (defBody s_Layer_filled) (defScope s_Layer_filled) [] [] f fd) {f_Layer_made : Addr} {fd_Layer_made : FuncData} (A_Layer_made : MtAt P w K mg base C 1 f_Layer_made fd_Layer_made 0 "made" N_Layer_made P_Layer_made F_Layer_made) : FnOk P w K mg base (L2.CX P w) 2 f fd P_Layer_filled (spD K C N_Layer_filled P_Layer_filled.length F_Layer_filled) := by
  refine def_ok (k := 1) F sc_Layer_filled ?_
  intro cdv A outer s H E W hr tk
  have ND := sc_Layer_filled.nd
  refine ⟨_, (pss_cons (ps_if (pt_cmpR (show OpR _ _ (rEqD K) from op_eqD (u64 hr)) (pe_fldK K (pv 0) (by rfl)) (pe_lst pa_nil) (nomark _)) (pss_one (ps_ret (pe_lst pa_nil))) pss_nil)
  (pss_cons (ps_expr (pe_bm PySem.F.plainAttrs_list PySem.F.slot_list_extend PySem.F.type_list_extend mt_extend (pe_fldK K (pv 0) (by rfl)) (pa_cons (pe_op (show OpR _ _ (rMulA K) from op_mulA) (pe_lst (pa_cons pe_int pa_nil)) (pe_op op_sub (pe_fldK K (pv 0) (by rfl)) (pe_callB (show CallR _ _ (fun xs H Q => ∃ x n, xs = [x] ∧ LenV K x H n ∧ Q (.int n) H) from call_len) (by rfl) T.z_len PySem.boot_len (pa_cons (pe_fldK K (pv 0) (by rfl)) pa_nil)))) pa_nil)))
  (pss_one (ps_ret (pe_lst (pa_cons (pe_mt0 A_Layer_made hr tk (pv 0)) pa_nil)))))), ?s⟩
  case s => exact (ss_seq (ss_if (SimPT.e (spt_test (SimF.p (sf_op os_eq (sp_lp (lp_fld (lp_var 0) T.cl T.na_open_body)) (SimF.p (sf_lst sps_nil)))))) (ss_ret (SimF.e (sf_lst sps_nil))) ss_nil)
  (ss_seq (ss_expr (se_mutP ms_extend (lp_fld (lp_var 0) T.cl T.na_open_body) (sfa_cons (sf_op os_mul (SimF.p (sf_lst (sps_cons (SimF.p (sf_c _)) sps_nil))) (SimF.p (sf_op os_sub (sp_lp (lp_fld (lp_var 0) T.cl T.na_size)) (SimF.p (sf_call cs_len (sps_cons (sp_lp (lp_fld (lp_var 0) T.cl T.na_open_body)) sps_nil)))))) sfa_nil)))
  (ss_ret (se_lst (sea_cons (se_methP (f := Ar.inn) (.inl rfl) (lp_var 0) srp_nil rfl) sea_nil)))))
abbrev s_rows_in : Stmt := top 27
abbrev N_rows_in : List Str := ["frames", "known", "bodies", "found", "due", "number"]
abbrev P_rows_in : List Str := ["frames"]
theorem sc_rows_in : FnScope N_rows_in P_rows_in (defScope s_rows_in) := ⟨rfl, rfl, rfl, by decide +kernel, rfl, by decide +kernel, by decide +kernel⟩
theorem ok_rows_in (T : Tx K mg C) {f : Addr} {fd : FuncData} (F : FunD K "rows_in" "rows_in" (defArgs s_rows_in) (defBody s_rows_in) (defScope s_rows_in) [] [] f fd) {f_runs_of : Addr} {fd_runs_of : FuncData} (A_runs_of : FnAt P w K mg base C 1 f_runs_of fd_runs_of "runs_of" N_runs_of P_runs_of F_runs_of) {f_told_in : Addr} {fd_told_in : FuncData} (A_told_in : FnAt P w K mg base C 1 f_told_in fd_told_in "told_in" N_told_in P_told_in F_told_in) : FnOk P w K mg base (L2.CX P w) 2 f fd P_rows_in (spD K C N_rows_in P_rows_in.length F_rows_in) := by
  refine def_ok (k := 1) F sc_rows_in ?_
  intro cdv A outer s H E W hr tk
  have ND := sc_rows_in.nd
  refine ⟨_, (pss_cons (ps_set (i := 1) ND rfl (by first | exact Or.inl rfl | exact Or.inr rfl) pe_dnewK)
  (pss_cons (ps_for (passes_of rfl) rfl (pi_seq (pe_fn A_runs_of hr tk (pa_cons (pv 0) pa_nil))) (pg_name (i := 2) ND rfl (by first | exact Or.inl rfl | exact Or.inr rfl)) (pss_one (ps_expr (pe_bm PySem.F.plainAttrs_dict PySem.F.slot_dict_update PySem.F.type_dict_update mt_updD (pv 1) (pa_cons (pe_callTy (show CallR _ _ (rDictP K) from call_dictP rfl) (by rfl) T.z_dict (by decide +kernel) (pa_cons (pe_fn A_told_in hr tk (pa_cons (pv 2) pa_nil)) pa_nil)) pa_nil)))))
  (pss_cons (ps_set (i := 3) ND rfl (by first | exact Or.inl rfl | exact Or.inr rfl) (pe_lst pa_nil))
  (pss_cons (ps_set (i := 4) ND rfl (by first | exact Or.inl rfl | exact Or.inr rfl) pe_int)
  (pss_cons (ps_for (passes_of rfl) rfl (pi_seq (pe_callB (show CallR _ _ rSortedDA from call_sortedDA rfl) (by rfl) T.z_sorted (by decide +kernel) (pa_cons (pv 1) pa_nil))) (pg_name (i := 5) ND rfl (by first | exact Or.inl rfl | exact Or.inr rfl)) (pss_cons (ps_if (pt_cmpR op_gt (pv 5) (pv 4) (nomark _)) (pss_one (ps_expr (pe_bm PySem.F.plainAttrs_list PySem.F.slot_list_append PySem.F.type_list_append mt_append (pv 3) (pa_cons (pe_tup (pa_cons pe_str (pa_cons (pv 4) (pa_cons (pe_op op_sub (pv 5) pe_int) pa_nil)))) pa_nil)))) pss_nil)
  (pss_cons (ps_expr (pe_bm PySem.F.plainAttrs_list PySem.F.slot_list_append PySem.F.type_list_append mt_append (pv 3) (pa_cons (pe_tup (pa_cons pe_str (pa_cons (pv 5) (pa_cons (pe_ix (show IxR _ (rIxA K) from ix_any (u1 hr)) (pv 1) (pv 5) (by intro _ _; rfl)) pa_nil)))) pa_nil)))
  (pss_one (ps_set (i := 4) ND rfl (by first | exact Or.inl rfl | exact Or.inr rfl) (pe_op (show OpR _ _ (rAddA K) from op_addA) (pv 5) pe_int))))))
  (pss_one (ps_ret (pv 3)))))))), ?s⟩
  case s => exact (ss_clr [1, 2, 3, 4, 5] (ss_seq (ss_set (SimF.e sf_dnewK))
  (ss_seq (ss_clr [2] (ss_for (si_seq (SimF.e (sf_fn (srp_len (lp_var 0) srp_nil) rfl))) (sg_name 2) (ss_clr [2] (ss_expr (se_mut ms_updD (sea_cons (SimF.e (sf_call cs_dictP (sps_cons (SimF.p (sf_fn (srp_len (lp_var 2) srp_nil) rfl)) sps_nil))) sea_nil))))))
  (ss_seq (ss_set (SimF.e (sf_lst sps_nil)))
  (ss_seq (ss_set (SimF.e (sf_c _)))
  (ss_seq (ss_clr [4, 5] (ss_for (si_seq (SimF.e (sf_call cs_sortedD (sps_cons (sp_var 1) sps_nil)))) (sg_name 5) (ss_clr [5] (ss_seq (ss_if (SimPT.e (spt_test (SimF.p (sf_op os_gt (sp_var 5) (sp_var 4))))) (ss_expr (se_mut ms_append (sea_cons (SimF.e (sf_tup (sps_cons (SimF.p (sf_c _)) (sps_cons (sp_var 4) (sps_cons (SimF.p (sf_op os_sub (sp_var 5) (SimF.p (sf_c _)))) sps_nil))))) sea_nil))) ss_nil)
  (ss_seq (ss_expr (se_mut ms_append (sea_cons (SimF.e (sf_tup (sps_cons (SimF.p (sf_c _)) (sps_cons (sp_var 5) (sps_cons (sp_op op_ix (sp_var 1) (sp_var 5)) sps_nil))))) sea_nil)))
  (ss_set (SimF.e (sf_op os_add (sp_var 5) (SimF.p (sf_c _))))))))))
  (ss_ret (se_mv 3))))))))
abbrev s__law_data : Stmt := top 32
abbrev N__law_data : List Str := ["_law_h", "_law_many_here", "_law_k"]
abbrev P__law_data : List Str := ["_law_h"]
theorem sc__law_data : FnScope N__law_data P__law_data (defScope s__law_data) := ⟨rfl, rfl, rfl, by decide +kernel, rfl, by decide +kernel, by decide +kernel⟩
theorem ok__law_data (T : Tx K mg C) {f : Addr} {fd : FuncData} (F : FunD K "_law_data" "_law_data" (defArgs s__law_data) (defBody s__law_data) (defScope s__law_data) [] [] f fd) {f__law_next : Addr} {fd__law_next : FuncData} (A__law_next : FnAt P w K mg base C 1 f__law_next fd__law_next "_law_next" N__law_next P__law_next F__law_next) : FnOk P w K mg base (L2.CX P w) 2 f fd P__law_data (spD K C N__law_data P__law_data.length F__law_data) := by
  refine def_ok (k := 1) F sc__law_data ?_
  intro cdv A outer s H E W hr tk
  have ND := sc__law_data.nd
  refine ⟨_, (pss_cons (ps_set (i := 1) ND rfl (by first | exact Or.inl rfl | exact Or.inr rfl) (pe_ix (show IxR _ (rIxA K) from ix_any (u1 hr)) (pe_lst (pa_cons pe_int (pa_cons (pe_op (show OpR _ _ (rAddA K) from op_addA) pe_int (pe_fn A__law_next hr tk (pa_cons (pv 0) (pa_cons pe_int pa_nil)))) (pa_cons (pe_op (show OpR _ _ (rAddA K) from op_addA) pe_int (pe_fn A__law_next hr tk (pa_cons (pv 0) (pa_cons pe_int pa_nil)))) (pa_cons pe_int pa_nil))))) (pe_fn A__law_next hr tk (pa_cons (pv 0) (pa_cons pe_int pa_nil))) (by intro _ _; rfl)))
  (pss_one (ps_ret (pe_callTy (show CallR _ _ (rTupA K) from call_tuple_of) (by rfl) T.z_tuple (by decide +kernel) (pa_cons (pe_lc rfl ND (pi_range1 (by rfl) T.z_range (pa_cons (pv 1) pa_nil)) (blkOk_by (own := [("_law_k", 2)]) (by rfl)) (fun _ _ _ _ _ => (pg_name (i := 2) ND rfl (by first | exact Or.inl rfl | exact Or.inr rfl))) (fun _ _ _ _ _ => pts_nil) (fun _ _ _ _ _ => (pe_fn A__law_next hr takes0 (pa_cons (pv 0) (pa_cons (pe_ix (show IxR _ (rIxA K) from ix_any (u1 hr)) (pe_lst (pa_cons pe_int (pa_cons pe_int pa_nil))) (pe_fn A__law_next hr takes0 (pa_cons (pv 0) (pa_cons pe_int pa_nil))) (by intro _ _; rfl)) pa_nil))))) pa_nil))))), ?s⟩
  case s => exact (ss_clr [1] (ss_seq (ss_set (se_opP op_ix (se_lst (sea_cons (SimF.e (sf_c _)) (sea_cons (se_op os_add (SimF.e (sf_c _)) (se_fn (SimRP.r (srp_inn (lp_var 0) (srp_val (sf_c _) srp_nil))) rfl)) (sea_cons (se_op os_add (SimF.e (sf_c _)) (se_fn (SimRP.r (srp_inn (lp_var 0) (srp_val (sf_c _) srp_nil))) rfl)) (sea_cons (SimF.e (sf_c _)) sea_nil))))) (se_fn (SimRP.r (srp_inn (lp_var 0) (srp_val (sf_c _) srp_nil))) rfl)))
  (ss_ret (se_call cs_tuple (sea_cons (se_cmp (si_r1 (sea_cons (SimP.e (sp_var 1)) sea_nil)) (sg_name 2) st_yes (se_fn (sr_inn 0 (sr_val (se_opP op_ix (SimF.e (sf_lst (sps_cons (SimF.p (sf_c _)) (sps_cons (SimF.p (sf_c _)) sps_nil)))) (se_fn (SimRP.r (srp_inn (lp_var 0) (srp_val (sf_c _) srp_nil))) rfl)) (SimRP.r srp_nil))) rfl)) sea_nil)))))
abbrev s_need_data : Stmt := top 18
abbrev N_need_data : List Str := ["data"]
abbrev P_need_data : List Str := ["data"]
theorem sc_need_data : FnScope N_need_data P_need_data (defScope s_need_data) := ⟨rfl, rfl, rfl, by decide +kernel, rfl, by decide +kernel, by decide +kernel⟩
theorem ok_need_data (T : Tx K mg C) {f : Addr} {fd : FuncData} (F : FunD K "need_data" "need_data" (defArgs s_need_data) (defBody s_need_data) (defScope s_need_data) [] [] f fd) {f_are_numbers : Addr} {fd_are_numbers : FuncData} (A_are_numbers : FnAt P w K mg base C 2 f_are_numbers fd_are_numbers "are_numbers" N_are_numbers P_are_numbers F_are_numbers) : FnOk P w K mg base (L2.CX P w) 3 f fd P_need_data (spD K C N_need_data P_need_data.length F_need_data) := by
  refine def_ok (k := 2) F sc_need_data ?_
  intro cdv A outer s H E W hr tk
  have ND := sc_need_data.nd
  refine ⟨_, (pss_one (ps_if (pt_not (pt_val (pe_fn A_are_numbers hr tk (pa_cons (pv 0) (pa_cons pe_int (pa_cons (pe_gint (by rfl) T.c_MOST_DATA) pa_nil)))))) (pss_one (ps_rs T.x_BadData tk)) pss_nil)), ?s⟩
  case s => exact (ss_if (SimPT.e (spt_not (spt_b (SimF.p (sf_fn (srp_len (lp_var 0) (srp_val (sf_c _) (srp_val (sf_c _) srp_nil))) rfl))))) (ss_raise 8) ss_nil)
abbrev s_is_frame : Stmt := top 19
abbrev N_is_frame : List Str := ["frame", "size", "stream", "count", "first", "body"]
abbrev P_is_frame : List Str := ["frame", "size"]
theorem sc_is_frame : FnScope N_is_frame P_is_frame (defScope s_is_frame) := ⟨rfl, rfl, rfl, by decide +kernel, rfl, by decide +kernel, by decide +kernel⟩
theorem ok_is_frame (T : Tx K mg C) {f : Addr} {fd : FuncData} (F : FunD K "is_frame" "is_frame" (defArgs s_is_frame) (defBody s_is_frame) (defScope s_is_frame) [] [] f fd) {f_is_number : Addr} {fd_is_number : FuncData} (A_is_number : FnAt P w K mg base C 1 f_is_number fd_is_number "is_number" N_is_number P_is_number F_is_number) {f_are_numbers : Addr} {fd_are_numbers : FuncData} (A_are_numbers : FnAt P w K mg base C 2 f_are_numbers fd_are_numbers "are_numbers" N_are_numbers P_are_numbers F_are_numbers) : FnOk P w K mg base (L2.CX P w) 3 f fd P_is_frame (spD K C N_is_frame P_is_frame.length F_is_frame) := by
  refine def_ok (k := 2) F sc_is_frame ?_
  intro cdv A outer s H E W hr tk
  have ND := sc_is_frame.nd
  refine ⟨_, (pss_cons (ps_if (PW.pt (pw_or (pt_not (pt_val (pe_callB (show CallR _ _ (rIsiA K) from call_isiA) (by rfl) T.z_isinstance (by decide +kernel) (pa_cons (pv 0) (pa_cons (pe_bltn (v := .ty "tuple") (by rfl) T.z_tuple (by decide +kernel) rfl) pa_nil))))) (pw_or1 (pt_cmpR (show OpR _ _ (rNeD K) from op_neD (u64 hr)) (pe_callB (show CallR _ _ (fun xs H Q => ∃ x n, xs = [x] ∧ LenV K x H n ∧ Q (.int n) H) from call_len) (by rfl) T.z_len PySem.boot_len (pa_cons (pv 0) pa_nil)) pe_int (nomark _))))) (pss_one (ps_ret pe_bl)) pss_nil)
  (pss_cons (ps_asg (pv 0) (show PG _ _ (gTup K 4 _) from pg_tup rfl (pgs_cons (pg_name (i := 2) ND rfl (by first | exact Or.inl rfl | exact Or.inr rfl)) (pgs_cons (pg_name (i := 3) ND rfl (by first | exact Or.inl rfl | exact Or.inr rfl)) (pgs_cons (pg_name (i := 4) ND rfl (by first | exact Or.inl rfl | exact Or.inr rfl)) (pgs_cons (pg_name (i := 5) ND rfl (by first | exact Or.inl rfl | exact Or.inr rfl)) pgs_nil))))))
  (pss_cons (ps_if (PW.pt (pw_or (pt_not (pt_val (pe_fn A_is_number hr tk (pa_cons (pv 2) (pa_cons pe_int (pa_cons (pe_op op_sub (pe_gint (by rfl) T.c_STREAMS) pe_int) pa_nil)))))) (pw_or1 (pt_not (pt_val (pe_fn A_is_number hr tk (pa_cons (pv 3) (pa_cons pe_int (pa_cons (pe_gint (by rfl) T.c_MOST_COUNT) pa_nil))))))))) (pss_one (ps_ret pe_bl)) pss_nil)
  (pss_one (ps_ret (pe_and (pe_or (pe_cmpR op_isN (pv 4) pe_non (nomark _)) (pe_one (pe_fn A_is_number hr tk (pa_cons (pv 4) (pa_cons pe_int (pa_cons (pe_op op_sub (pv 1) pe_int) pa_nil)))))) (pe_one (pe_fn A_are_numbers hr tk (pa_cons (pv 5) (pa_cons (pv 1) (pa_cons (pv 1) pa_nil))))))))))), ?s⟩
  case s => exact (ss_clr [2, 3, 4, 5] (ss_seq (ss_if (SimPT.e (spt_or (spt_not (spt_b (SimF.p (sf_call cs_isi (sps_cons (sp_var 0) (sps_cons (SimF.p (sf_c _)) sps_nil)))))) (spt_test (SimF.p (sf_op os_ne (SimF.p (sf_call cs_len (sps_cons (sp_var 0) sps_nil))) (SimF.p (sf_c _))))))) (ss_ret (SimF.e (sf_c _))) ss_nil)
  (ss_seq (ss_unp (is := [2, 3, 4, 5]) (SimP.e (sp_var 0)))
  (ss_seq (ss_if (SimPT.e (spt_or (spt_not (spt_b (SimF.p (sf_fn (srp_len (lp_var 2) (srp_val (sf_c _) (srp_val (sf_op os_sub (SimF.p (sf_c _)) (SimF.p (sf_c _))) srp_nil))) rfl)))) (spt_not (spt_b (SimF.p (sf_fn (srp_len (lp_var 3) (srp_val (sf_c _) (srp_val (sf_c _) srp_nil))) rfl)))))) (ss_ret (SimF.e (sf_c _))) ss_nil)
  (ss_ret (SimF.e (sf_andV (SimF.p (sf_orV (SimF.p (sf_op os_isN (sp_var 4) (SimF.p (sf_c _)))) (SimF.p (sf_fn (srp_len (lp_var 4) (srp_val (sf_c _) (srp_val (sf_op os_sub (sp_var 1) (SimF.p (sf_c _))) srp_nil))) rfl)))) (SimF.p (sf_fn (srp_len (lp_var 5) (srp_len (lp_var 1) (srp_len (lp_var 1) srp_nil))) rfl)))))))))
abbrev s_need_frames : Stmt := top 20
abbrev N_need_frames : List Str := ["frames", "size", "bodies", "at", "frame"]
abbrev P_need_frames : List Str := ["frames", "size"]
theorem sc_need_frames : FnScope N_need_frames P_need_frames (defScope s_need_frames) := ⟨rfl, rfl, rfl, by decide +kernel, rfl, by decide +kernel, by decide +kernel⟩
theorem ok_need_frames (T : Tx K mg C) {f : Addr} {fd : FuncData} (F : FunD K "need_frames" "need_frames" (defArgs s_need_frames) (defBody s_need_frames) (defScope s_need_frames) [] [] f fd) {f_is_frame : Addr} {fd_is_frame : FuncData} (A_is_frame : FnAt P w K mg base C 3 f_is_frame fd_is_frame "is_frame" N_is_frame P_is_frame F_is_frame) : FnOk P w K mg base (L2.CX P w) 4 f fd P_need_frames (spD K C N_need_frames P_need_frames.length F_need_frames) := by
  refine def_ok (k := 3) F sc_need_frames ?_
  intro cdv A outer s H E W hr tk
  have ND := sc_need_frames.nd
  refine ⟨_, (pss_cons (ps_set (i := 2) ND rfl (by first | exact Or.inl rfl | exact Or.inr rfl) pe_dnewK)
  (pss_one (ps_for (passes_of rfl) rfl (pi_range1 (by rfl) T.z_range (pa_cons (pe_callB (show CallR _ _ (fun xs H Q => ∃ x n, xs = [x] ∧ LenV K x H n ∧ Q (.int n) H) from call_len) (by rfl) T.z_len PySem.boot_len (pa_cons (pv 0) pa_nil)) pa_nil)) (pg_name (i := 3) ND rfl (by first | exact Or.inl rfl | exact Or.inr rfl)) (pss_cons (ps_set (i := 4) ND rfl (by first | exact Or.inl rfl | exact Or.inr rfl) (pe_ix (show IxR _ (rIxA K) from ix_any (u1 hr)) (pv 0) (pv 3) (by intro _ _; rfl)))
  (pss_cons (ps_if (PW.pt (pw_or (pt_not (pt_val (pe_fn A_is_frame hr tk (pa_cons (pv 4) (pa_cons (pv 1) pa_nil))))) (pw_or (pt_cmpR (show OpR _ _ (rNeD K) from op_neD (u64 hr)) (pe_ix (show IxR _ (rIxA K) from ix_any (u1 hr)) (pv 4) pe_int (by intro _ _; rfl)) (pe_ix (show IxR _ (rIxA K) from ix_any (u1 hr)) (pe_ix (show IxR _ (rIxA K) from ix_any (u1 hr)) (pv 0) pe_int (by intro _ _; rfl)) pe_int (by intro _ _; rfl)) (nomark _)) (pw_or1 (pt_cmpR (show OpR _ _ (rNeD K) from op_neD (u64 hr)) (pe_dget2 (u1 hr) (pv 2) (pe_ix (show IxR _ (rIxA K) from ix_any (u1 hr)) (pv 4) pe_int (by intro _ _; rfl)) (pv 4) ⟨rfl, rfl, rfl, rfl⟩) (pv 4) (nomark _)))))) (pss_one ps_never) pss_nil)
  (pss_one (ps_dputK (u1 hr) (pv 2) (pe_ix (show IxR _ (rIxA K) from ix_any (u1 hr)) (pv 4) pe_int (by intro _ _; rfl)) (pv 4)))))))), ?s⟩
  case s => exact (ss_clr [2, 3, 4] (ss_seq (ss_set (SimF.e sf_dnewK))
  (ss_clr [3, 4] (ss_for (si_r1 (sea_cons (SimF.e (sf_call cs_len (sps_cons (sp_var 0) sps_nil))) sea_nil)) (sg_name 3) (ss_clr [3, 4] (ss_seq (ss_set (SimP.e (sp_op op_ix (sp_var 0) (sp_var 3))))
  (ss_seq (ss_if (SimPT.e (spt_or (spt_not (spt_b (SimF.p (sf_fn (srp_len (lp_var 4) (srp_len (lp_var 1) srp_nil)) rfl)))) (spt_or (spt_test (SimF.p (sf_op os_ne (sp_op op_ix (sp_var 4) (SimF.p (sf_c _))) (sp_op op_ix (sp_op op_ix (sp_var 0) (SimF.p (sf_c _))) (SimF.p (sf_c _)))))) (spt_test (SimF.p (sf_op os_ne (sp_get2 (sp_var 2) (sp_op op_ix (sp_var 4) (SimF.p (sf_c _))) (sp_var 4)) (sp_var 4))))))) ss_never ss_nil)
  (ss_item sts_dict (SimP.e (sp_var 4)) (lp_var 2) (sp_op op_ix (sp_var 4) (SimF.p (sf_c _)))))))))))
abbrev s_frames_of : Stmt := top 23
abbrev N_frames_of : List Str := ["stream", "tellings", "size", "data", "layer", "found"]
abbrev P_frames_of : List Str := ["stream", "tellings", "size"]
theorem sc_frames_of : FnScope N_frames_of P_frames_of (defScope s_frames_of) := ⟨rfl, rfl, rfl, by decide +kernel, rfl, by decide +kernel, by decide +kernel⟩
theorem ok_frames_of (T : Tx K mg C) {f : Addr} {fd : FuncData} (F : FunD K "frames_of" "frames_of" (defArgs s_frames_of) (defBody s_frames_of) (defScope s_frames_of) [] [] f fd) {f_need_stream : Addr} {fd_need_stream : FuncData} (A_need_stream : FnAt P w K mg base C 2 f_need_stream fd_need_stream "need_stream" N_need_stream P_need_stream F_need_stream) {f_need_data : Addr} {fd_need_data : FuncData} (A_need_data : FnAt P w K mg base C 3 f_need_data fd_need_data "need_data" N_need_data P_need_data F_need_data) {f_need_size : Addr} {fd_need_size : FuncData} (A_need_size : FnAt P w K mg base C 2 f_need_size fd_need_size "need_size" N_need_size P_need_size F_need_size) {f_Layer_init : Addr} {fd_Layer_init : FuncData} (A_Layer_init : MkAt P w K mg base C 1 f_Layer_init fd_Layer_init 0 "Layer" N_Layer_init P_Layer_init F_Layer_init) {f_Layer_lay : Addr} {fd_Layer_lay : FuncData} (A_Layer_lay : MtAt P w K mg base C 2 f_Layer_lay fd_Layer_lay 0 "lay" N_Layer_lay P_Layer_lay F_Layer_lay) {f_Layer_filled : Addr} {fd_Layer_filled : FuncData} (A_Layer_filled : MtAt P w K mg base C 2 f_Layer_filled fd_Layer_filled 0 "filled" N_Layer_filled P_Layer_filled F_Layer_filled) : FnOk P w K mg base (L2.CX P w) 4 f fd P_frames_of (spD K C N_frames_of P_frames_of.length F_frames_of) := by
  refine def_ok (k := 3) F sc_frames_of ?_
  intro cdv A outer s H E W hr tk
  have ND := sc_frames_of.nd
  refine ⟨_, (pss_cons (ps_expr (pe_fn A_need_stream hr tk (pa_cons (pv 0) pa_nil)))
  (pss_cons (ps_for (passes_of rfl) rfl (pi_seq (pv 1)) (pg_name (i := 3) ND rfl (by first | exact Or.inl rfl | exact Or.inr rfl)) (pss_one (ps_expr (pe_fn A_need_data hr tk (pa_cons (pv 3) pa_nil)))))
  (pss_cons (ps_expr (pe_fn A_need_size hr tk (pa_cons (pv 2) pa_nil)))
  (pss_cons (ps_set (i := 4) ND rfl (by first | exact Or.inl rfl | exact Or.inr rfl) (pe_mk A_Layer_init hr tk (pa_cons (pv 0) (pa_cons (pv 2) pa_nil))))
  (pss_cons (ps_set (i := 5) ND rfl (by first | exact Or.inl rfl | exact Or.inr rfl) (pe_lst pa_nil))
  (pss_cons (ps_for (passes_of rfl) rfl (pi_seq (pv 1)) (pg_name (i := 3) ND rfl (by first | exact Or.inl rfl | exact Or.inr rfl)) (pss_one (ps_expr (pe_bm PySem.F.plainAttrs_list PySem.F.slot_list_extend PySem.F.type_list_extend mt_extend (pv 5) (pa_cons (pe_mt A_Layer_lay hr tk (pv 4) (pa_cons (pv 3) pa_nil)) pa_nil)))))
  (pss_one (ps_ret (pe_op (show OpR _ _ (rAddA K) from op_addA) (pv 5) (pe_mt0 A_Layer_filled hr tk (pv 4))))))))))), ?s⟩
  case s => exact (ss_clr [3, 4, 5] (ss_seq (ss_expr (se_fn (SimRP.r (srp_len (lp_var 0) srp_nil)) rfl))
  (ss_seq (ss_clr [3] (ss_for (si_bor 1) (sg_name 3) (ss_clr [3] (ss_expr (se_fn (SimRP.r (srp_len (lp_var 3) srp_nil)) rfl)))))
  (ss_seq (ss_expr (se_fn (SimRP.r (srp_len (lp_var 2) srp_nil)) rfl))
  (ss_seq (ss_set (se_make (SimRP.r (srp_len (lp_var 0) (srp_len (lp_var 2) srp_nil))) rfl))
  (ss_seq (ss_set (SimF.e (sf_lst sps_nil)))
  (ss_seq (ss_clr [3] (ss_for (si_bor 1) (sg_name 3) (ss_clr [3] (ss_expr (se_mut ms_extend (sea_cons (se_methP (f := Ar.inn) (.inl rfl) (lp_var 4) (srp_len (lp_var 3) srp_nil) rfl) sea_nil))))))
  (ss_ret (se_opV 5 os_add (se_methP (f := Ar.inn) (.inl rfl) (lp_var 4) srp_nil rfl))))))))))
abbrev s_rows_of : Stmt := top 26
abbrev N_rows_of : List Str := ["frames", "size"]
abbrev P_rows_of : List Str := ["frames", "size"]
theorem sc_rows_of : FnScope N_rows_of P_rows_of (defScope s_rows_of) := ⟨rfl, rfl, rfl, by decide +kernel, rfl, by decide +kernel, by decide +kernel⟩
theorem ok_rows_of (T : Tx K mg C) {f : Addr} {fd : FuncData} (F : FunD K "rows_of" "rows_of" (defArgs s_rows_of) (defBody s_rows_of) (defScope s_rows_of) [] [] f fd) {f_need_size : Addr} {fd_need_size : FuncData} (A_need_size : FnAt P w K mg base C 2 f_need_size fd_need_size "need_size" N_need_size P_need_size F_need_size) {f_need_frames : Addr} {fd_need_frames : FuncData} (A_need_frames : FnAt P w K mg base C 4 f_need_frames fd_need_frames "need_frames" N_need_frames P_need_frames F_need_frames) {f_rows_in : Addr} {fd_rows_in : FuncData} (A_rows_in : FnAt P w K mg base C 2 f_rows_in fd_rows_in "rows_in" N_rows_in P_rows_in F_rows_in) : FnOk P w K mg base (L2.CX P w) 5 f fd P_rows_of (spD K C N_rows_of P_rows_of.length F_rows_of) := by
  refine def_ok (k := 4) F sc_rows_of ?_
  intro cdv A outer s H E W hr tk
  have ND := sc_rows_of.nd
  refine ⟨_, (pss_cons (ps_expr (pe_fn A_need_size hr tk (pa_cons (pv 1) pa_nil)))
  (pss_cons (ps_expr (pe_fn A_need_frames hr tk (pa_cons (pv 0) (pa_cons (pv 1) pa_nil))))
  (pss_one (ps_ret (pe_fn A_rows_in hr tk (pa_cons (pv 0) pa_nil)))))), ?s⟩
  case s => exact (ss_seq (ss_expr (se_fn (SimRP.r (srp_len (lp_var 1) srp_nil)) rfl))
  (ss_seq (ss_expr (se_fn (SimRP.r (srp_len (lp_var 0) (srp_len (lp_var 1) srp_nil))) rfl))
  (ss_ret (SimF.e (sf_fn (srp_len (lp_var 0) srp_nil) rfl)))))
abbrev s__law_alike : Stmt := top 31
abbrev N__law_alike : List Str := ["_law_found", "_law_due", "_law_k"]
abbrev P__law_alike : List Str := ["_law_found", "_law_due"]
theorem sc__law_alike : FnScope N__law_alike P__law_alike (defScope s__law_alike) := ⟨rfl, rfl, rfl, by decide +kernel, rfl, by decide +kernel, by decide +kernel⟩
theorem okb__law_alike (T : Tx K mg C) {f : Addr} {fd : FuncData} (F : FunD K "_law_alike" "_law_alike" (defArgs s__law_alike) (defBody s__law_alike) (defScope s__law_alike) [] [] f fd) {k : Nat} (hk : 1 ≤ k) {rec : SS → RS} (A_self : FnAt P w K mg base C k f fd "_law_alike" N__law_alike P__law_alike rec) : FnOk P w K mg base (L2.CX P w) (k + 1) f fd P__law_alike (spD K C N__law_alike P__law_alike.length (B__law_alike rec)) := by
  refine def_ok (k := k) F sc__law_alike ?_
  intro cdv A outer s H E W hr tk
  have ND := sc__law_alike.nd
  refine ⟨_, (pss_cons (ps_if (pt_val (pe_callB (show CallR _ _ (rIsiA K) from call_isiA) (by rfl) T.z_isinstance (by decide +kernel) (pa_cons (pv 1) (pa_cons (pe_tup (pa_cons (pe_bltn (v := .ty "tuple") (by rfl) T.z_tuple (by decide +kernel) rfl) (pa_cons (pe_bltn (v := .ty "list") (by rfl) T.z_list (by decide +kernel) rfl) pa_nil))) pa_nil)))) (pss_cons (ps_if (PW.pt (pw_or (pt_not (pt_val (pe_callB (show CallR _ _ (rIsiA K) from call_isiA) (by rfl) T.z_isinstance (by decide +kernel) (pa_cons (pv 0) (pa_cons (pe_tup (pa_cons (pe_bltn (v := .ty "tuple") (by rfl) T.z_tuple (by decide +kernel) rfl) (pa_cons (pe_bltn (v := .ty "list") (by rfl) T.z_list (by decide +kernel) rfl) pa_nil))) pa_nil))))) (pw_or1 (pt_cmpR (show OpR _ _ (rNeD K) from op_neD (u64 hr)) (pe_callB (show CallR _ _ (rIsiA K) from call_isiA) (by rfl) T.z_isinstance (by decide +kernel) (pa_cons (pv 0) (pa_cons (pe_bltn (v := .ty "list") (by rfl) T.z_list (by decide +kernel) rfl) pa_nil))) (pe_callB (show CallR _ _ (rIsiA K) from call_isiA) (by rfl) T.z_isinstance (by decide +kernel) (pa_cons (pv 1) (pa_cons (pe_bltn (v := .ty "list") (by rfl) T.z_list (by decide +kernel) rfl) pa_nil))) (nomark _))))) (pss_one (ps_ret pe_bl)) pss_nil)
  (pss_cons (ps_if (pt_cmpR (show OpR _ _ (rNeD K) from op_neD (u64 hr)) (pe_callB (show CallR _ _ (fun xs H Q => ∃ x n, xs = [x] ∧ LenV K x H n ∧ Q (.int n) H) from call_len) (by rfl) T.z_len PySem.boot_len (pa_cons (pv 0) pa_nil)) (pe_callB (show CallR _ _ (fun xs H Q => ∃ x n, xs = [x] ∧ LenV K x H n ∧ Q (.int n) H) from call_len) (by rfl) T.z_len PySem.boot_len (pa_cons (pv 1) pa_nil)) (nomark _)) (pss_one (ps_ret pe_bl)) pss_nil)
  (pss_one (ps_ret (pe_cmpR (show OpR _ _ (rEqD K) from op_eqD (u64 hr)) (pe_lc rfl ND (pi_range1 (by rfl) T.z_range (pa_cons (pe_callB (show CallR _ _ (fun xs H Q => ∃ x n, xs = [x] ∧ LenV K x H n ∧ Q (.int n) H) from call_len) (by rfl) T.z_len PySem.boot_len (pa_cons (pv 1) pa_nil)) pa_nil)) (blkOk_by (own := [("_law_k", 2)]) (by rfl)) (fun _ _ _ _ _ => (pg_name (i := 2) ND rfl (by first | exact Or.inl rfl | exact Or.inr rfl))) (fun _ _ _ _ _ => pts_one (pt_not (pt_val (pe_fn A_self hr takes0 (pa_cons (pe_ix (show IxR _ (rIxA K) from ix_any (u1 hr)) (pv 0) (pv 2) (by intro _ _; rfl)) (pa_cons (pe_ix (show IxR _ (rIxA K) from ix_any (u1 hr)) (pv 1) (pv 2) (by intro _ _; rfl)) pa_nil)))))) (fun _ _ _ _ _ => (pv 2))) (pe_lst pa_nil) (nomark _)))))) pss_nil)
  (pss_cons (ps_if (pt_cmpR op_isN (pv 1) pe_non (nomark _)) (pss_one (ps_ret (pe_cmpR op_isN (pv 0) pe_non (nomark _)))) pss_nil)
  (pss_cons (ps_if (pt_val (pe_callB (show CallR _ _ (rIsiA K) from call_isiA) (by rfl) T.z_isinstance (by decide +kernel) (pa_cons (pv 1) (pa_cons (pe_bltn (v := .ty "str") (by rfl) T.z_str (by decide +kernel) rfl) pa_nil)))) (pss_one (ps_ret (pe_and (pe_callB (show CallR _ _ (rIsiA K) from call_isiA) (by rfl) T.z_isinstance (by decide +kernel) (pa_cons (pv 0) (pa_cons (pe_bltn (v := .ty "str") (by rfl) T.z_str (by decide +kernel) rfl) pa_nil))) (pe_one (pe_cmpR (show OpR _ _ (rEqD K) from op_eqD (u64 hr)) (pv 0) (pv 1) (nomark _)))))) pss_nil)
  (pss_cons (ps_if (PW.pt (pw_or (pt_val (pe_callB (show CallR _ _ (rIsiA K) from call_isiA) (by rfl) T.z_isinstance (by decide +kernel) (pa_cons (pv 1) (pa_cons (pe_bltn (v := .ty "bool") (by rfl) T.z_bool (by decide +kernel) rfl) pa_nil)))) (pw_or1 (pt_val (pe_callB (show CallR _ _ (rIsiA K) from call_isiA) (by rfl) T.z_isinstance (by decide +kernel) (pa_cons (pv 0) (pa_cons (pe_bltn (v := .ty "bool") (by rfl) T.z_bool (by decide +kernel) rfl) pa_nil))))))) (pss_one (ps_ret (pe_and (pe_callB (show CallR _ _ (rIsiA K) from call_isiA) (by rfl) T.z_isinstance (by decide +kernel) (pa_cons (pv 1) (pa_cons (pe_bltn (v := .ty "bool") (by rfl) T.z_bool (by decide +kernel) rfl) pa_nil))) (pe_and (pe_callB (show CallR _ _ (rIsiA K) from call_isiA) (by rfl) T.z_isinstance (by decide +kernel) (pa_cons (pv 0) (pa_cons (pe_bltn (v := .ty "bool") (by rfl) T.z_bool (by decide +kernel) rfl) pa_nil))) (pe_one (pe_cmpR (show OpR _ _ (rEqD K) from op_eqD (u64 hr)) (pv 0) (pv 1) (nomark _))))))) pss_nil)
  (pss_one (ps_ret (pe_and (pe_callB (show CallR _ _ (rIsiA K) from call_isiA) (by rfl) T.z_isinstance (by decide +kernel) (pa_cons (pv 0) (pa_cons (pe_bltn (v := .ty "int") (by rfl) T.z_int (by decide +kernel) rfl) pa_nil))) (pe_one (pe_cmpR (show OpR _ _ (rEqD K) from op_eqD (u64 hr)) (pv 0) (pv 1) (nomark _)))))))))), ?s⟩
  case s => exact (ss_seq (ss_if (SimPT.e (spt_b (SimF.p (sf_call cs_isi (sps_cons (sp_var 1) (sps_cons (SimF.p (sf_tup (sps_cons (SimF.p (sf_c _)) (sps_cons (SimF.p (sf_c _)) sps_nil)))) sps_nil)))))) (ss_seq (ss_if (SimPT.e (spt_or (spt_not (spt_b (SimF.p (sf_call cs_isi (sps_cons (sp_var 0) (sps_cons (SimF.p (sf_tup (sps_cons (SimF.p (sf_c _)) (sps_cons (SimF.p (sf_c _)) sps_nil)))) sps_nil)))))) (spt_test (SimF.p (sf_op os_ne (SimF.p (sf_call cs_isi (sps_cons (sp_var 0) (sps_cons (SimF.p (sf_c _)) sps_nil)))) (SimF.p (sf_call cs_isi (sps_cons (sp_var 1) (sps_cons (SimF.p (sf_c _)) sps_nil))))))))) (ss_ret (SimF.e (sf_c _))) ss_nil)
  (ss_seq (ss_if (SimPT.e (spt_test (SimF.p (sf_op os_ne (SimF.p (sf_call cs_len (sps_cons (sp_var 0) sps_nil))) (SimF.p (sf_call cs_len (sps_cons (sp_var 1) sps_nil))))))) (ss_ret (SimF.e (sf_c _))) ss_nil)
  (ss_ret (SimF.e (sf_op os_eq (SimF.p (sf_cmp (sip_r1 (sps_cons (SimF.p (sf_call cs_len (sps_cons (sp_var 1) sps_nil))) sps_nil)) (sg_name 2) (spt_not (spt_b (SimF.p (sf_fn (srp_len (lp_idx (lp_var 0) (sp_var 2)) (srp_len (lp_idx (lp_var 1) (sp_var 2)) srp_nil)) rfl)))) (sp_var 2))) (SimF.p (sf_lst sps_nil))))))) ss_nil)
  (ss_seq (ss_if (SimPT.e (spt_test (SimF.p (sf_op os_isN (sp_var 1) (SimF.p (sf_c _)))))) (ss_ret (SimF.e (sf_op os_isN (sp_var 0) (SimF.p (sf_c _))))) ss_nil)
  (ss_seq (ss_if (SimPT.e (spt_b (SimF.p (sf_call cs_isi (sps_cons (sp_var 1) (sps_cons (SimF.p (sf_c _)) sps_nil)))))) (ss_ret (SimF.e (sf_andV (SimF.p (sf_call cs_isi (sps_cons (sp_var 0) (sps_cons (SimF.p (sf_c _)) sps_nil)))) (SimF.p (sf_op os_eq (sp_var 0) (sp_var 1)))))) ss_nil)
  (ss_seq (ss_if (SimPT.e (spt_or (spt_b (SimF.p (sf_call cs_isi (sps_cons (sp_var 1) (sps_cons (SimF.p (sf_c _)) sps_nil))))) (spt_b (SimF.p (sf_call cs_isi (sps_cons (sp_var 0) (sps_cons (SimF.p (sf_c _)) sps_nil))))))) (ss_ret (SimF.e (sf_andV (SimF.p (sf_call cs_isi (sps_cons (sp_var 1) (sps_cons (SimF.p (sf_c _)) sps_nil)))) (SimF.p (sf_andV (SimF.p (sf_call cs_isi (sps_cons (sp_var 0) (sps_cons (SimF.p (sf_c _)) sps_nil)))) (SimF.p (sf_op os_eq (sp_var 0) (sp_var 1)))))))) ss_nil)
  (ss_ret (SimF.e (sf_andV (SimF.p (sf_call cs_isi (sps_cons (sp_var 0) (sps_cons (SimF.p (sf_c _)) sps_nil)))) (SimF.p (sf_op os_eq (sp_var 0) (sp_var 1))))))))))
theorem okn__law_alike (T : Tx K mg C) {f : Addr} {fd : FuncData} (F : FunD K "_law_alike" "_law_alike" (defArgs s__law_alike) (defBody s__law_alike) (defScope s__law_alike) [] [] f fd) (gl : mg "_law_alike" = some (.ref f)) (bd : Binds K fd P__law_alike []) : ∀ n, FnOk P w K mg base (L2.CX P w) (1 + n) f fd P__law_alike (spD K C N__law_alike P__law_alike.length (F__law_alike n))
  | 0 => fn_stuck
  | n + 1 => okb__law_alike T F  (k := 1 + n) (by omega) ⟨okn__law_alike T F gl bd  n, gl, F.kp, bd⟩
theorem ok__law_alike (T : Tx K mg C) {f : Addr} {fd : FuncData} (F : FunD K "_law_alike" "_law_alike" (defArgs s__law_alike) (defBody s__law_alike) (defScope s__law_alike) [] [] f fd) (gl : mg "_law_alike" = some (.ref f)) (bd : Binds K fd P__law_alike []) : FnOk P w K mg base (L2.CX P w) 13 f fd P__law_alike (spD K C N__law_alike P__law_alike.length (F__law_alike 12)) := okn__law_alike T F gl bd  12
abbrev s_law : Stmt := top 39
abbrev N_law : List Str := ["_law_script", "_law_h", "_law_turn", "_law_size", "_law_stream", "_law_many_here", "_law_tellings", "_law_frames", "_law_s", "_law_data_here", "_law_out", "_law_some", "_law_more", "_law_handed", "_law_kept", "_law_due", "_law_found", "_law_one", "_law_told", "_law_k", "_law_frame_here", "_law_row"]
abbrev P_law : List Str := ["_law_script"]
def E_law_0 : SS → R D := (eCall 1 2 F__law_data (rP (qI 1 pRoot qN)))
def C_law_1 : SS → R D := (eCmp [19] id (e1 iR1 (eaC (eI (fV 5)) eaN)) (lendSl 19) (tP fun _ => some true) E_law_0)
def E_law_2 : SS → Option D := (p1 fTup (psC (fC (.str "told")) (psC (fV 19) (psC (p2 fIx (fV 6) (fV 19)) psN))))
def C_law_3 : SS → Option D := (pCmp [19] (p1 iR1 (psC (fV 5) psN)) (lendSl 19) (fun _ => some true) E_law_2)
def L_law_4 : SS → RS := (sClr [9] (sDrop (eCall 2 1 F__law_lay (rP (qI 8 pRoot (qL 9 pRoot qN))))))
def S_law_5 : SS → RS := (sClr [9] (sFor [9] (unlk 6) (iLock 6) (lendSl 9) L_law_4))
def T_law_6 : SS → R Bool := (e1 asB (e2p fGt (eCall 2 2 F__law_next (rP (qI 1 pRoot (qL 10 pRoot qN)))) (fC (.int 0))))
def E_law_7 : SS → R D := (eI (fV 20))
def C_law_8 : SS → R D := (eCmp [20] (unlk 7) (iLock 7) (lendSl 20) T_law_6 E_law_7)
def E_law_9 : SS → R D := (e2x 11 (eCall 2 2 F__law_next (rP (qI 1 pRoot (qV (p1 (on1 fLen) (psC (fV 11) psN)) qN)))))
def C_law_10 : SS → R D := (eCmp [19] id (e1 iR1 (eaC (e2p fMul (eCall 2 2 F__law_next (rP (qI 1 pRoot (qV (fC (.int 5)) qN)))) (p1 (on1 fInt) (psC (p2 fNe (fV 11) (p1 fLst psN)) psN))) eaN)) (lendSl 19) (tP fun _ => some true) E_law_9)
def E_law_11 : SS → R D := (eMut 12 pRoot "list" fPopAt (eaC (eCall 2 2 F__law_next (rP (qI 1 pRoot (qV (p1 (on1 fLen) (psC (fV 12) psN)) qN)))) eaN))
def C_law_12 : SS → R D := (eCmp [19] id (e1 iR1 (eaC (eN (p1 (on1 fLen) (psC (fV 12) psN))) eaN)) (lendSl 19) (tP fun _ => some true) E_law_11)
def E_law_13 : SS → Option D := (p2 fIx (fV 20) (fC (.int 1)))
def C_law_14 : SS → Option D := (pCmp [20] (iP (fV 11)) (lendSl 20) (fun _ => some true) E_law_13)
def T_law_15 : SS → R Bool := (tP (p1 asB (p2 fEq (p2 fIx (fV 21) (fC (.int 0))) (fC (.str "told")))))
def E_law_16 : SS → R D := (eI (fV 21))
def C_law_17 : SS → R D := (eCmp [21] id (iE (eCall 2 0 F_rows_of (rP (qV (p2 fAdd (fV 11) (p1 fLst (psC (fV 17) psN))) (qL 3 pRoot qN))))) (lendSl 21) T_law_15 E_law_16)
def T_law_18 : SS → Option Bool := (pAnd (p1 asB (p2 fEq (p2 fIx (fV 21) (fC (.int 0))) (fC (.str "told")))) (p1 asB (p2 (fIn true) (fV 21) (fV 18))))
def E_law_19 : SS → Option D := (fV 21)
def C_law_20 : SS → Option D := (pCmp [21] (iP (fV 15)) (lendSl 21) T_law_18 E_law_19)
def L_law_21 : SS → RS := (sClr [2, 3, 4, 5, 6, 7, 8, 9, 10, 11, 12, 13, 14, 15, 16, 17, 18] (sSeq (sPar 3 4 (eaC (e2 fAdd (eN (fC (.int 8))) (eCall 2 2 F__law_next (rP (qI 1 pRoot (qV (fC (.int 17)) qN))))) (eaC (eCall 2 2 F__law_next (rP (qI 1 pRoot (qV (fC (.int 4)) qN)))) eaN)))
  (sSeq (sSet 5 (eIf (e1 asB (e2p fGt (eCall 2 2 F__law_next (rP (qI 1 pRoot (qV (fC (.int 9)) qN)))) (fC (.int 0)))) (eCall 2 2 F__law_next (gI 1 (gV (e2 fIx (eN (p1 fLst (psC (fC (.int 9)) (psC (fC (.int 61)) psN)))) (eCall 2 2 F__law_next (rP (qI 1 pRoot (qV (fC (.int 2)) qN))))) (rP qN)))) (eN (fC (.int 300)))))
  (sSeq (sSet 6 C_law_1)
  (sSeq (sSet 7 (eCall 3 3 F_frames_of (rP (qL 4 pRoot (qL 6 pRoot (qL 3 pRoot qN))))))
  (sSeq (sIf (e1 asB (e2p fNe (eCall 2 0 F_rows_of (rP (qL 7 pRoot (qL 3 pRoot qN)))) C_law_3)) (sRet (eN (fC (.bl false)))) sNil)
  (sSeq (sSet 8 (eN (pCall 1 0 F__law_fresh (qL 3 pRoot qN))))
  (sSeq S_law_5
  (sSeq (sSet 10 (e2 fIx (eN (p1 fLst (psC (fC (.int 2)) (psC (fC (.int 4)) (psC (fC (.int 12)) psN))))) (eCall 2 2 F__law_next (rP (qI 1 pRoot (qV (fC (.int 3)) qN))))))
  (sSeq (sSet 11 C_law_8)
  (sSeq (sSet 12 (e2v fAdd 11 C_law_10))
  (sSeq (sSet 13 C_law_12)
  (sSeq (sSet 14 (eN (p1 (on1 fList) (psC (fV 13) psN))))
  (sSeq (sSet 15 (eN (pCall 2 8 F__law_rows (qL 8 pRoot (qV C_law_14 qN)))))
  (sSeq (sSet 16 (eCall 2 0 F_rows_of (rP (qL 13 pRoot (qL 3 pRoot qN)))))
  (sSeq (sIf (rOr' (tP (pNot (p1 asB (pCall 2 1 (F__law_alike 12) (qL 16 pRoot (qL 15 pRoot qN)))))) (rOr' (tP (p1 asB (p2 fNe (fV 13) (fV 14)))) (e1 asB (e2p fNe (eCall 2 0 F_rows_of (rP (qL 11 pRoot (qL 3 pRoot qN)))) (fV 15))))) (sRet (eN (fC (.bl false)))) sNil)
  (sSeq (sDrop (eMut 16 pRoot "list" fAppend (eaC (eN (p1 fTup psN)) eaN)))
  (sClr [17, 18] (sIf (tP (p1 asB (p2 fNe (fV 7) (p1 fLst psN)))) (sSeq (sSet 17 (e2x 7 (eCall 2 2 F__law_next (rP (qI 1 pRoot (qV (p1 (on1 fLen) (psC (fV 7) psN)) qN))))))
  (sSeq (sSet 18 C_law_17)
  (sIf (tP (p1 asB (p2 fNe C_law_20 (p1 fLst psN)))) (sRet (eN (fC (.bl false)))) sNil))) sNil)))))))))))))))))))
def S_law_22 : SS → RS := (sClr [2, 3, 4, 5, 6, 7, 8, 9, 10, 11, 12, 13, 14, 15, 16, 17, 18] (sFor [2] id (e1 iR1 (eaC (eN (fC (.int 4))) eaN)) (lendSl 2) L_law_21))
def F_law : SS → RS := (sClr [1, 2, 3, 4, 5, 6, 7, 8, 9, 10, 11, 12, 13, 14, 15, 16, 17, 18] (sSeq (sSet 1 (eN (pCall 2 2 F__law_mix (qL 0 pRoot (qV (fC (.int 7)) qN)))))
  (sSeq S_law_22
  (sRet (eN (fC (.bl true)))))))
theorem sc_law : FnScope N_law P_law (defScope s_law) := ⟨rfl, rfl, rfl, by decide +kernel, rfl, by decide +kernel, by decide +kernel⟩
theorem ok_law (T : Tx K mg C) {f : Addr} {fd : FuncData} (F : FunD K "law" "law" (defArgs s_law) (defBody s_law) (defScope s_law) [] [] f fd) {f__law_mix : Addr} {fd__law_mix : FuncData} (A__law_mix : FnAt P w K mg base C 1 f__law_mix fd__law_mix "_law_mix" N__law_mix P__law_mix F__law_mix) {f__law_next : Addr} {fd__law_next : FuncData} (A__law_next : FnAt P w K mg base C 1 f__law_next fd__law_next "_law_next" N__law_next P__law_next F__law_next) {f__law_data : Addr} {fd__law_data : FuncData} (A__law_data : FnAt P w K mg base C 2 f__law_data fd__law_data "_law_data" N__law_data P__law_data F__law_data) {f_frames_of : Addr} {fd_frames_of : FuncData} (A_frames_of : FnAt P w K mg base C 4 f_frames_of fd_frames_of "frames_of" N_frames_of P_frames_of F_frames_of) {f_rows_of : Addr} {fd_rows_of : FuncData} (A_rows_of : FnAt P w K mg base C 5 f_rows_of fd_rows_of "rows_of" N_rows_of P_rows_of F_rows_of) {f__law_fresh : Addr} {fd__law_fresh : FuncData} (A__law_fresh : FnAt P w K mg base C 1 f__law_fresh fd__law_fresh "_law_fresh" N__law_fresh P__law_fresh F__law_fresh) {f__law_lay : Addr} {fd__law_lay : FuncData} (A__law_lay : FnAt P w K mg base C 1 f__law_lay fd__law_lay "_law_lay" N__law_lay P__law_lay F__law_lay) {f__law_rows : Addr} {fd__law_rows : FuncData} (A__law_rows : FnAt P w K mg base C 1 f__law_rows fd__law_rows "_law_rows" N__law_rows P__law_rows F__law_rows) {f__law_alike : Addr} {fd__law_alike : FuncData} (A__law_alike : FnAt P w K mg base C 13 f__law_alike fd__law_alike "_law_alike" N__law_alike P__law_alike (F__law_alike 12)) : FnOk P w K mg base (L2.CX P w) 14 f fd P_law (spD K C N_law P_law.length F_law) := by
  refine def_ok (k := 13) F sc_law ?_
  intro cdv A outer s H E W hr tk
  have ND := sc_law.nd
  refine ⟨_, (pss_cons (ps_set (i := 1) ND rfl (by first | exact Or.inl rfl | exact Or.inr rfl) (pe_fn A__law_mix hr tk (pa_cons (pv 0) (pa_cons pe_int pa_nil))))
  (pss_cons (ps_for (passes_of rfl) rfl (pi_range1 (by rfl) T.z_range (pa_cons pe_int pa_nil)) (pg_name (i := 2) ND rfl (by first | exact Or.inl rfl | exact Or.inr rfl)) (pss_cons (ps_par (i := 3) (j := 4) rfl ND rfl rfl (by decide) rfl rfl (pa_cons (pe_op (show OpR _ _ (rAddA K) from op_addA) pe_int (pe_fn A__law_next hr tk (pa_cons (pv 1) (pa_cons pe_int pa_nil)))) (pa_cons (pe_fn A__law_next hr tk (pa_cons (pv 1) (pa_cons pe_int pa_nil))) pa_nil)) rfl)
  (pss_cons (ps_set (i := 5) ND rfl (by first | exact Or.inl rfl | exact Or.inr rfl) (pe_ifExp (pt_cmpR op_gt (pe_fn A__law_next hr tk (pa_cons (pv 1) (pa_cons pe_int pa_nil))) pe_int (nomark _)) (pe_fn A__law_next hr tk (pa_cons (pv 1) (pa_cons (pe_ix (show IxR _ (rIxA K) from ix_any (u1 hr)) (pe_lst (pa_cons pe_int (pa_cons pe_int pa_nil))) (pe_fn A__law_next hr tk (pa_cons (pv 1) (pa_cons pe_int pa_nil))) (by intro _ _; rfl)) pa_nil))) pe_int))
  (pss_cons (ps_set (i := 6) ND rfl (by first | exact Or.inl rfl | exact Or.inr rfl) (pe_lc rfl ND (pi_range1 (by rfl) T.z_range (pa_cons (pv 5) pa_nil)) (blkOk_by (own := [("_law_k", 19)]) (by rfl)) (fun _ _ _ _ _ => (pg_name (i := 19) ND rfl (by first | exact Or.inl rfl | exact Or.inr rfl))) (fun _ _ _ _ _ => pts_nil) (fun _ _ _ _ _ => (pe_fn A__law_data hr takes0 (pa_cons (pv 1) pa_nil)))))
  (pss_cons (ps_set (i := 7) ND rfl (by first | exact Or.inl rfl | exact Or.inr rfl) (pe_fn A_frames_of hr tk (pa_cons (pv 4) (pa_cons (pv 6) (pa_cons (pv 3) pa_nil)))))
  (pss_cons (ps_if (pt_cmpR (show OpR _ _ (rNeD K) from op_neD (u64 hr)) (pe_fn A_rows_of hr tk (pa_cons (pv 7) (pa_cons (pv 3) pa_nil))) (pe_lc rfl ND (pi_range1 (by rfl) T.z_range (pa_cons (pv 5) pa_nil)) (blkOk_by (own := [("_law_k", 19)]) (by rfl)) (fun _ _ _ _ _ => (pg_name (i := 19) ND rfl (by first | exact Or.inl rfl | exact Or.inr rfl))) (fun _ _ _ _ _ => pts_nil) (fun _ _ _ _ _ => (pe_tup (pa_cons pe_str (pa_cons (pv 19) (pa_cons (pe_ix (show IxR _ (rIxA K) from ix_any (u1 hr)) (pv 6) (pv 19) (by intro _ _; rfl)) pa_nil)))))) (nomark _)) (pss_one (ps_ret pe_bl)) pss_nil)
  (pss_cons (ps_set (i := 8) ND rfl (by first | exact Or.inl rfl | exact Or.inr rfl) (pe_fn A__law_fresh hr tk (pa_cons (pv 3) pa_nil)))
  (pss_cons (ps_for (passes_of rfl) rfl (pi_seq (pv 6)) (pg_name (i := 9) ND rfl (by first | exact Or.inl rfl | exact Or.inr rfl)) (pss_one (ps_expr (pe_fn A__law_lay hr tk (pa_cons (pv 8) (pa_cons (pv 9) pa_nil))))))
  (pss_cons (ps_set (i := 10) ND rfl (by first | exact Or.inl rfl | exact Or.inr rfl) (pe_ix (show IxR _ (rIxA K) from ix_any (u1 hr)) (pe_lst (pa_cons pe_int (pa_cons pe_int (pa_cons pe_int pa_nil)))) (pe_fn A__law_next hr tk (pa_cons (pv 1) (pa_cons pe_int pa_nil))) (by intro _ _; rfl)))
  (pss_cons (ps_set (i := 11) ND rfl (by first | exact Or.inl rfl | exact Or.inr rfl) (pe_lc rfl ND (pi_seq (pv 7)) (blkOk_by (own := [("_law_frame_here", 20)]) (by rfl)) (fun _ _ _ _ _ => (pg_name (i := 20) ND rfl (by first | exact Or.inl rfl | exact Or.inr rfl))) (fun _ _ _ _ _ => pts_one (pt_cmpR op_gt (pe_fn A__law_next hr takes0 (pa_cons (pv 1) (pa_cons (pv 10) pa_nil))) pe_int (nomark _))) (fun _ _ _ _ _ => (pv 20))))
  (pss_cons (ps_set (i := 12) ND rfl (by first | exact Or.inl rfl | exact Or.inr rfl) (pe_op (show OpR _ _ (rAddA K) from op_addA) (pv 11) (pe_lc rfl ND (pi_range1 (by rfl) T.z_range (pa_cons (pe_op (show OpR _ _ (rMulA K) from op_mulA) (pe_fn A__law_next hr tk (pa_cons (pv 1) (pa_cons pe_int pa_nil))) (pe_callTy call_intA (by rfl) T.z_int (by decide +kernel) (pa_cons (pe_cmpR (show OpR _ _ (rNeD K) from op_neD (u64 hr)) (pv 11) (pe_lst pa_nil) (nomark _)) pa_nil))) pa_nil)) (blkOk_by (own := [("_law_k", 19)]) (by rfl)) (fun _ _ _ _ _ => (pg_name (i := 19) ND rfl (by first | exact Or.inl rfl | exact Or.inr rfl))) (fun _ _ _ _ _ => pts_nil) (fun _ _ _ _ _ => (pe_ix (show IxR _ (rIxA K) from ix_any (u1 hr)) (pv 11) (pe_fn A__law_next hr takes0 (pa_cons (pv 1) (pa_cons (pe_callB (show CallR _ _ (fun xs H Q => ∃ x n, xs = [x] ∧ LenV K x H n ∧ Q (.int n) H) from call_len) (by rfl) T.z_len PySem.boot_len (pa_cons (pv 11) pa_nil)) pa_nil))) (by intro _ _; rfl))))))
  (pss_cons (ps_setLc (i := 13) rfl ND rfl rfl (sw_true rfl rfl rfl rfl) (pi_range1 (by rfl) T.z_range (pa_cons (pe_callB (show CallR _ _ (fun xs H Q => ∃ x n, xs = [x] ∧ LenV K x H n ∧ Q (.int n) H) from call_len) (by rfl) T.z_len PySem.boot_len (pa_cons (pv 12) pa_nil)) pa_nil)) (blkOk_by (own := [("_law_k", 19)]) (by rfl)) (fun _ _ _ _ _ => (pg_name (i := 19) ND rfl (by first | exact Or.inl rfl | exact Or.inr rfl))) (fun _ _ _ _ _ => pts_nil) (fun _ _ _ _ _ => (show PE _ _ (tBM K _ _ _ _) from pe_bm PySem.F.plainAttrs_list PySem.F.slot_list_pop PySem.F.type_list_pop mt_popAt (pv 12) (pa_cons (pe_fn A__law_next hr takes0 (pa_cons (pv 1) (pa_cons (pe_callB (show CallR _ _ (fun xs H Q => ∃ x n, xs = [x] ∧ LenV K x H n ∧ Q (.int n) H) from call_len) (by rfl) T.z_len PySem.boot_len (pa_cons (pv 12) pa_nil)) pa_nil))) pa_nil))))
  (pss_cons (ps_set (i := 14) ND rfl (by first | exact Or.inl rfl | exact Or.inr rfl) (pe_callTy (show CallR _ _ (rListA K) from call_listA rfl) (by rfl) T.z_list (by decide +kernel) (pa_cons (pv 13) pa_nil)))
  (pss_cons (ps_set (i := 15) ND rfl (by first | exact Or.inl rfl | exact Or.inr rfl) (pe_fn A__law_rows hr tk (pa_cons (pv 8) (pa_cons (pe_lc rfl ND (pi_seq (pv 11)) (blkOk_by (own := [("_law_frame_here", 20)]) (by rfl)) (fun _ _ _ _ _ => (pg_name (i := 20) ND rfl (by first | exact Or.inl rfl | exact Or.inr rfl))) (fun _ _ _ _ _ => pts_nil) (fun _ _ _ _ _ => (pe_ix (show IxR _ (rIxA K) from ix_any (u1 hr)) (pv 20) pe_int (by intro _ _; rfl)))) pa_nil))))
  (pss_cons (ps_set (i := 16) ND rfl (by first | exact Or.inl rfl | exact Or.inr rfl) (pe_fn A_rows_of hr tk (pa_cons (pv 13) (pa_cons (pv 3) pa_nil))))
  (pss_cons (ps_if (PW.pt (pw_or (pt_not (pt_val (pe_fn A__law_alike hr tk (pa_cons (pv 16) (pa_cons (pv 15) pa_nil))))) (pw_or (pt_cmpR (show OpR _ _ (rNeD K) from op_neD (u64 hr)) (pv 13) (pv 14) (nomark _)) (pw_or1 (pt_cmpR (show OpR _ _ (rNeD K) from op_neD (u64 hr)) (pe_fn A_rows_of hr tk (pa_cons (pv 11) (pa_cons (pv 3) pa_nil))) (pv 15) (nomark _)))))) (pss_one (ps_ret pe_bl)) pss_nil)
  (pss_cons (ps_expr (pe_bm PySem.F.plainAttrs_list PySem.F.slot_list_append PySem.F.type_list_append mt_append (pv 16) (pa_cons (pe_tup pa_nil) pa_nil)))
  (pss_one (ps_if (pt_cmpR (show OpR _ _ (rNeD K) from op_neD (u64 hr)) (pv 7) (pe_lst pa_nil) (nomark _)) (pss_cons (ps_set (i := 17) ND rfl (by first | exact Or.inl rfl | exact Or.inr rfl) (pe_ix (show IxR _ (rIxA K) from ix_any (u1 hr)) (pv 7) (pe_fn A__law_next hr tk (pa_cons (pv 1) (pa_cons (pe_callB (show CallR _ _ (fun xs H Q => ∃ x n, xs = [x] ∧ LenV K x H n ∧ Q (.int n) H) from call_len) (by rfl) T.z_len PySem.boot_len (pa_cons (pv 7) pa_nil)) pa_nil))) (by intro _ _; rfl)))
  (pss_cons (ps_set (i := 18) ND rfl (by first | exact Or.inl rfl | exact Or.inr rfl) (pe_lc rfl ND (pi_seq (pe_fn A_rows_of hr tk (pa_cons (pe_op (show OpR _ _ (rAddA K) from op_addA) (pv 11) (pe_lst (pa_cons (pv 17) pa_nil))) (pa_cons (pv 3) pa_nil)))) (blkOk_by (own := [("_law_row", 21)]) (by rfl)) (fun _ _ _ _ _ => (pg_name (i := 21) ND rfl (by first | exact Or.inl rfl | exact Or.inr rfl))) (fun _ _ _ _ _ => pts_one (pt_cmpR (show OpR _ _ (rEqD K) from op_eqD (u64 hr)) (pe_ix (show IxR _ (rIxA K) from ix_any (u1 hr)) (pv 21) pe_int (by intro _ _; rfl)) pe_str (nomark _))) (fun _ _ _ _ _ => (pv 21))))
  (pss_one (ps_if (pt_cmpR (show OpR _ _ (rNeD K) from op_neD (u64 hr)) (pe_lc rfl ND (pi_seq (pv 15)) (blkOk_by (own := [("_law_row", 21)]) (by rfl)) (fun _ _ _ _ _ => (pg_name (i := 21) ND rfl (by first | exact Or.inl rfl | exact Or.inr rfl))) (fun _ _ _ _ _ => pts_one (PW.pt (pw_and (pt_cmpR (show OpR _ _ (rEqD K) from op_eqD (u64 hr)) (pe_ix (show IxR _ (rIxA K) from ix_any (u1 hr)) (pv 21) pe_int (by intro _ _; rfl)) pe_str (nomark _)) (pw_and1 (pt_cmpR (show OpR _ _ (rNInA K) from op_ninA (u65 hr)) (pv 21) (pv 18) rfl))))) (fun _ _ _ _ _ => (pv 21))) (pe_lst pa_nil) (nomark _)) (pss_one (ps_ret pe_bl)) pss_nil)))) pss_nil)))))))))))))))))))
  (pss_one (ps_ret pe_bl)))), ?s⟩
  case s => exact (ss_clr [1, 2, 3, 4, 5, 6, 7, 8, 9, 10, 11, 12, 13, 14, 15, 16, 17, 18] (ss_seq (ss_set (SimF.e (sf_fn (srp_len (lp_var 0) (srp_val (sf_c _) srp_nil)) rfl)))
  (ss_seq (ss_clr [2, 3, 4, 5, 6, 7, 8, 9, 10, 11, 12, 13, 14, 15, 16, 17, 18] (ss_for (si_r1 (sea_cons (SimF.e (sf_c _)) sea_nil)) (sg_name 2) (ss_clr [2, 3, 4, 5, 6, 7, 8, 9, 10, 11, 12, 13, 14, 15, 16, 17, 18] (ss_seq (ss_par (sea_cons (se_op os_add (SimF.e (sf_c _)) (se_fn (SimRP.r (srp_inn (lp_var 1) (srp_val (sf_c _) srp_nil))) rfl)) (sea_cons (se_fn (SimRP.r (srp_inn (lp_var 1) (srp_val (sf_c _) srp_nil))) rfl) sea_nil)))
  (ss_seq (ss_set (se_if (st_test (se_opR os_gt (se_fn (SimRP.r (srp_inn (lp_var 1) (srp_val (sf_c _) srp_nil))) rfl) (SimF.p (sf_c _)))) (se_fn (sr_inn 1 (sr_val (se_opP op_ix (SimF.e (sf_lst (sps_cons (SimF.p (sf_c _)) (sps_cons (SimF.p (sf_c _)) sps_nil)))) (se_fn (SimRP.r (srp_inn (lp_var 1) (srp_val (sf_c _) srp_nil))) rfl)) (SimRP.r srp_nil))) rfl) (SimF.e (sf_c _))))
  (ss_seq (ss_set (se_cmp (si_r1 (sea_cons (SimP.e (sp_var 5)) sea_nil)) (sg_name 19) st_yes (se_fn (SimRP.r (srp_inn (lp_var 1) srp_nil)) rfl)))
  (ss_seq (ss_set (se_fn (SimRP.r (srp_len (lp_var 4) (srp_len (lp_var 6) (srp_len (lp_var 3) srp_nil)))) rfl))
  (ss_seq (ss_if (st_test (se_opR os_ne (se_fn (SimRP.r (srp_len (lp_var 7) (srp_len (lp_var 3) srp_nil))) rfl) (SimF.p (sf_cmp (sip_r1 (sps_cons (sp_var 5) sps_nil)) (sg_name 19) spt_yes (SimF.p (sf_tup (sps_cons (SimF.p (sf_c _)) (sps_cons (sp_var 19) (sps_cons (sp_op op_ix (sp_var 6) (sp_var 19)) sps_nil))))))))) (ss_ret (SimF.e (sf_c _))) ss_nil)
  (ss_seq (ss_set (SimF.e (sf_fn (srp_len (lp_var 3) srp_nil) rfl)))
  (ss_seq (ss_clr [9] (ss_for (si_lock 6) (sg_name 9) (ss_clr [9] (ss_expr (se_fn (SimRP.r (srp_inn (lp_var 8) (srp_len (lp_var 9) srp_nil))) rfl)))))
  (ss_seq (ss_set (se_opP op_ix (SimF.e (sf_lst (sps_cons (SimF.p (sf_c _)) (sps_cons (SimF.p (sf_c _)) (sps_cons (SimF.p (sf_c _)) sps_nil))))) (se_fn (SimRP.r (srp_inn (lp_var 1) (srp_val (sf_c _) srp_nil))) rfl)))
  (ss_seq (ss_set (se_cmp (si_lock 7) (sg_name 20) (st_test (se_opR os_gt (se_fn (SimRP.r (srp_inn (lp_var 1) (srp_len (lp_var 10) srp_nil))) rfl) (SimF.p (sf_c _)))) (SimP.e (sp_var 20))))
  (ss_seq (ss_set (se_opV 11 os_add (se_cmp (si_r1 (sea_cons (se_opR os_mul (se_fn (SimRP.r (srp_inn (lp_var 1) (srp_val (sf_c _) srp_nil))) rfl) (SimF.p (sf_call cs_int (sps_cons (SimF.p (sf_op os_ne (sp_var 11) (SimF.p (sf_lst sps_nil)))) sps_nil)))) sea_nil)) (sg_name 19) st_yes (se_ixV 11 (se_fn (SimRP.r (srp_inn (lp_var 1) (srp_val (sf_call cs_len (sps_cons (sp_var 11) sps_nil)) srp_nil))) rfl)))))
  (ss_seq (ss_set (se_cmp (si_r1 (sea_cons (SimF.e (sf_call cs_len (sps_cons (sp_var 12) sps_nil))) sea_nil)) (sg_name 19) st_yes (se_mut ms_popAt (sea_cons (se_fn (SimRP.r (srp_inn (lp_var 1) (srp_val (sf_call cs_len (sps_cons (sp_var 12) sps_nil)) srp_nil))) rfl) sea_nil))))
  (ss_seq (ss_set (SimF.e (sf_call cs_list (sps_cons (sp_var 13) sps_nil))))
  (ss_seq (ss_set (SimF.e (sf_fn (srp_len (lp_var 8) (srp_val (sf_cmp (sip_seq (sp_var 11)) (sg_name 20) spt_yes (sp_op op_ix (sp_var 20) (SimF.p (sf_c _)))) srp_nil)) rfl)))
  (ss_seq (ss_set (se_fn (SimRP.r (srp_len (lp_var 13) (srp_len (lp_var 3) srp_nil))) rfl))
  (ss_seq (ss_if (st_or (SimPT.e (spt_not (spt_b (SimF.p (sf_fn (srp_len (lp_var 16) (srp_len (lp_var 15) srp_nil)) rfl))))) (st_or (SimPT.e (spt_test (SimF.p (sf_op os_ne (sp_var 13) (sp_var 14))))) (st_test (se_opR os_ne (se_fn (SimRP.r (srp_len (lp_var 11) (srp_len (lp_var 3) srp_nil))) rfl) (sp_var 15))))) (ss_ret (SimF.e (sf_c _))) ss_nil)
  (ss_seq (ss_expr (se_mut ms_append (sea_cons (SimF.e (sf_tup sps_nil)) sea_nil)))
  (ss_clr [17, 18] (ss_if (SimPT.e (spt_test (SimF.p (sf_op os_ne (sp_var 7) (SimF.p (sf_lst sps_nil)))))) (ss_seq (ss_set (se_ixV 7 (se_fn (SimRP.r (srp_inn (lp_var 1) (srp_val (sf_call cs_len (sps_cons (sp_var 7) sps_nil)) srp_nil))) rfl)))
  (ss_seq (ss_set (se_cmp (si_seq (se_fn (SimRP.r (srp_val (sf_op os_add (sp_var 11) (SimF.p (sf_lst (sps_cons (sp_var 17) sps_nil)))) (srp_len (lp_var 3) srp_nil))) rfl)) (sg_name 21) (SimPT.e (spt_test (SimF.p (sf_op os_eq (sp_op op_ix (sp_var 21) (SimF.p (sf_c _))) (SimF.p (sf_c _)))))) (SimP.e (sp_var 21))))
  (ss_if (SimPT.e (spt_test (SimF.p (sf_op os_ne (SimF.p (sf_cmp (sip_seq (sp_var 15)) (sg_name 21) (spt_and (spt_test (SimF.p (sf_op os_eq (sp_op op_ix (sp_var 21) (SimF.p (sf_c _))) (SimF.p (sf_c _))))) (spt_test (SimF.p (sf_op os_nin (sp_var 21) (sp_var 18))))) (sp_var 21))) (SimF.p (sf_lst sps_nil)))))) (ss_ret (SimF.e (sf_c _))) ss_nil))) ss_nil)))))))))))))))))))))
  (ss_ret (SimF.e (sf_c _))))))
end
end
end K03

namespace K03
open PySem L2 Dy Dy.Pm
noncomputable section
abbrev S1 (scr : Sl) (h : Hs) (x2 x3 x4 x5 x6 x7 x8 x9 x10 x11 x12 x13 x14 x15 x16 x17 x18 x19 x20 x21 : Sl) : SS := [scr, .own h.d, x2, x3, x4, x5, x6, x7, x8, x9, x10, x11, x12, x13, x14, x15, x16, x17, x18, x19, x20, x21]
theorem many_ev (scr : Sl) (h : Hs) (r : SS) : ∃ (n : Int) (h' : Hs), 0 ≤ n ∧ n ≤ 300 ∧
    eIf (e1 asB (e2p fGt (eCall 2 2 F__law_next (rP (qI 1 pRoot (qV (fC (.int 9)) qN)))) (fC (.int 0)))) (eCall 2 2 F__law_next (gI 1 (gV (e2 fIx (eN (p1 fLst (psC (fC (.int 9)) (psC (fC (.int 61)) psN)))) (eCall 2 2 F__law_next (rP (qI 1 pRoot (qV (fC (.int 2)) qN))))) (rP qN)))) (eN (fC (.int 300))) (scr :: .own h.d :: r) = .ok (.int n) (scr :: .own h'.d :: r) := by
  by_cases c : 0 < h.v 9
  · have b1 := v_bd (h := h.s 9) (m := 2) (by omega)
    have b2 := pk2_r (l := 9) (u := 61) (v := (h.s 9).v 2) (x := 9) (y := 61) (by omega) (by omega)
    have b3 := v_bd (h := (h.s 9).s 2) (m := pk2 ((h.s 9).v 2) 9 61) (by omega)
    refine ⟨((h.s 9).s 2).v (pk2 ((h.s 9).v 2) 9 61), ((h.s 9).s 2).s (pk2 ((h.s 9).v 2) 9 61), by omega, by omega, ?_⟩
    simp (disch := first | assumption | omega) only [nl1, nl2, nl3, nl4, nc2, nc3, nc4, ix20, ix21, ix30, ix31, ix32, eq_self, isi_ii, isi_ib, isi_is, isi_itl, isi_ntl, isi_tt, isN_n, isN_i, tup2, z_eqI, z_neI, si0, si1, si2, tn0, tn1, tn2, tn3, List.nil_append, List.cons_append, sSeq, sSet, sIf, sRet, sItem, sDrop, sNil, eN, eI, tP, p2, p1, fV, fC, psC, psN, eaC, eaN, e1, e2, pBl, pAnd, pOr, pNot, pIf, eIf, on1_, on2_, List.getElem?_cons_zero, List.getElem?_cons_succ, List.set_cons_zero, List.set_cons_succ, Option.bind_some, Option.map_some, Sl.val, Sl.isInn, z_ixL, z_ixT, at0, at1, at2, at3, r_of, r_bind, r_thn, s_nx, s_ret, z_nx, z_asB, z_len, z_lenT, z_addI, z_mulR, z_mulL, z_sub, z_lt, z_le, z_gt, z_ge, z_mod, z_div, z_max2, z_min2, setSl, updP, modP, valAt, getP, setP, setV, pIdx, pRoot, z_ixN, z_setI, List.length_map, List.length_cons, List.length_nil, if_true, if_false, Bool.false_eq_true, Bool.not_true, Bool.not_false, decide_true, decide_false, sUnp, ast_t, setAll, sPar, sPar3, stp_l, stp_t, g1_l, g1_t, s1_l, s1_t, Nat.reduceBEq, asq_t, asq_l, sFor, iE, iBor, iLock, unlk, id_eq, z_lst0, imm, immL, sClr, m_nx, m_ret, m_exc, m_brk, m_ct, s_exc, s_brk, s_ct, c_nil, c_cons, clr1, e2v, e2p, sFldD, pFld, fP, eMethP, eMethR, List.contains_nil, List.contains_cons, Bool.or_false, fnR, mkc, okAr, okLe, arN, arL, bk, valO, qN, qV, qI, qL, gV, gI, gL, rP, eCall, ofP, eMut, tyok_l, tyok_dk, tyok_dt, ofM, eMake, mkR, pI, eMv, List.append_nil, r_thnx, eDisp, pCall, pMeth, lnd, List.length_append, List.length_replicate, List.replicate, Bool.and_true, Bool.true_and, Bool.and_self, beq_self_eq_true, List.all_nil, List.all_cons, ite_seq, ite_map, ite_bind, ite_thn, z_l2, next_ev, z_pk2, c]
  · refine ⟨300, h.s 9, by omega, by omega, ?_⟩
    simp (disch := first | assumption | omega) only [nl1, nl2, nl3, nl4, nc2, nc3, nc4, ix20, ix21, ix30, ix31, ix32, eq_self, isi_ii, isi_ib, isi_is, isi_itl, isi_ntl, isi_tt, isN_n, isN_i, tup2, z_eqI, z_neI, si0, si1, si2, tn0, tn1, tn2, tn3, List.nil_append, List.cons_append, sSeq, sSet, sIf, sRet, sItem, sDrop, sNil, eN, eI, tP, p2, p1, fV, fC, psC, psN, eaC, eaN, e1, e2, pBl, pAnd, pOr, pNot, pIf, eIf, on1_, on2_, List.getElem?_cons_zero, List.getElem?_cons_succ, List.set_cons_zero, List.set_cons_succ, Option.bind_some, Option.map_some, Sl.val, Sl.isInn, z_ixL, z_ixT, at0, at1, at2, at3, r_of, r_bind, r_thn, s_nx, s_ret, z_nx, z_asB, z_len, z_lenT, z_addI, z_mulR, z_mulL, z_sub, z_lt, z_le, z_gt, z_ge, z_mod, z_div, z_max2, z_min2, setSl, updP, modP, valAt, getP, setP, setV, pIdx, pRoot, z_ixN, z_setI, List.length_map, List.length_cons, List.length_nil, if_true, if_false, Bool.false_eq_true, Bool.not_true, Bool.not_false, decide_true, decide_false, sUnp, ast_t, setAll, sPar, sPar3, stp_l, stp_t, g1_l, g1_t, s1_l, s1_t, Nat.reduceBEq, asq_t, asq_l, sFor, iE, iBor, iLock, unlk, id_eq, z_lst0, imm, immL, sClr, m_nx, m_ret, m_exc, m_brk, m_ct, s_exc, s_brk, s_ct, c_nil, c_cons, clr1, e2v, e2p, sFldD, pFld, fP, eMethP, eMethR, List.contains_nil, List.contains_cons, Bool.or_false, fnR, mkc, okAr, okLe, arN, arL, bk, valO, qN, qV, qI, qL, gV, gI, gL, rP, eCall, ofP, eMut, tyok_l, tyok_dk, tyok_dt, ofM, eMake, mkR, pI, eMv, List.append_nil, r_thnx, eDisp, pCall, pMeth, lnd, List.length_append, List.length_replicate, List.replicate, Bool.and_true, Bool.true_and, Bool.and_self, beq_self_eq_true, List.all_nil, List.all_cons, ite_seq, ite_map, ite_bind, ite_thn, z_l2, next_ev, z_pk2, c]
theorem tellings_ev (scr : Sl) (h : Hs) (x2 x3 x4 : Sl) {n : Int} (h0 : 0 ≤ n) (h1 : n ≤ 1000) : ∃ (ts : List (List Int)) (h' : Hs), ts.length = n.toNat ∧ (∀ t ∈ ts, OkT t) ∧
    C_law_1 (S1 scr h x2 x3 x4 (.own (.int n)) .no .no .no .no .no .no .no .no .no .no .no .no .no .no .no .no) = .ok (.lst (ts.map tD)) (S1 scr h' x2 x3 x4 (.own (.int n)) .no .no .no .no .no .no .no .no .no .no .no .no .no .no .no .no) := by
  obtain ⟨ts, h', c1, c2, c3⟩ := cmp_ex (f := fun i : Nat => D.int (0 + i)) (g := tD) (S := fun h : Hs => S1 scr h x2 x3 x4 (.own (.int n)) .no .no .no .no .no .no .no .no .no .no .no .no .no .no .no .no) (P := fun _ ts _ => ∀ t ∈ ts, OkT t) (vs := [19]) (st := lendSl 19) (te := E_law_0)
    (fun k ks acc h hp => by
      obtain ⟨t, h', ht, q⟩ := data_ev h
      refine ⟨S1 scr h x2 x3 x4 (.own (.int n)) .no .no .no .no .no .no .no .no .no .no .no .no .no (.own (.int (0 + (k : Int)))) .no .no, t, S1 scr h' x2 x3 x4 (.own (.int n)) .no .no .no .no .no .no .no .no .no .no .no .no .no (.own (.int (0 + (k : Int)))) .no .no, h', rfl, ?_, rfl, fun x hx => ?_⟩
      · unfold E_law_0
        simp only [nl1, nl2, nl3, nl4, nc2, nc3, nc4, ix20, ix21, ix30, ix31, ix32, eq_self, isi_ii, isi_ib, isi_is, isi_itl, isi_ntl, isi_tt, isN_n, isN_i, tup2, z_eqI, z_neI, si0, si1, si2, tn0, tn1, tn2, tn3, List.nil_append, List.cons_append, sSeq, sSet, sIf, sRet, sItem, sDrop, sNil, eN, eI, tP, p2, p1, fV, fC, psC, psN, eaC, eaN, e1, e2, pBl, pAnd, pOr, pNot, pIf, eIf, on1_, on2_, List.getElem?_cons_zero, List.getElem?_cons_succ, List.set_cons_zero, List.set_cons_succ, Option.bind_some, Option.map_some, Sl.val, Sl.isInn, z_ixL, z_ixT, at0, at1, at2, at3, r_of, r_bind, r_thn, s_nx, s_ret, z_nx, z_asB, z_len, z_lenT, z_addI, z_mulR, z_mulL, z_sub, z_lt, z_le, z_gt, z_ge, z_mod, z_div, z_max2, z_min2, setSl, updP, modP, valAt, getP, setP, setV, pIdx, pRoot, z_ixN, z_setI, List.length_map, List.length_cons, List.length_nil, if_true, if_false, Bool.false_eq_true, Bool.not_true, Bool.not_false, decide_true, decide_false, sUnp, ast_t, setAll, sPar, sPar3, stp_l, stp_t, g1_l, g1_t, s1_l, s1_t, Nat.reduceBEq, asq_t, asq_l, sFor, iE, iBor, iLock, unlk, id_eq, z_lst0, imm, immL, sClr, m_nx, m_ret, m_exc, m_brk, m_ct, s_exc, s_brk, s_ct, c_nil, c_cons, clr1, e2v, e2p, sFldD, pFld, fP, eMethP, eMethR, List.contains_nil, List.contains_cons, Bool.or_false, fnR, mkc, okAr, okLe, arN, arL, bk, valO, qN, qV, qI, qL, gV, gI, gL, rP, eCall, ofP, eMut, tyok_l, tyok_dk, tyok_dt, ofM, eMake, mkR, pI, eMv, List.append_nil, r_thnx, eDisp, pCall, pMeth, lnd, List.length_append, List.length_replicate, List.replicate, Bool.and_true, Bool.true_and, Bool.and_self, beq_self_eq_true, List.all_nil, List.all_cons, ite_seq, ite_map, ite_bind, ite_thn, q]
      · rcases List.mem_append.mp hx with hx | hx
        · exact hp x hx
        · simp at hx; subst hx; exact ht) (List.range n.toNat) [] h (by simp; omega) (by simp)
  have r1 := iR1_i (n := n) (by omega) (by omega)
  rw [rng_map] at r1
  refine ⟨ts, h', by rw [c3]; simp, c2, ?_⟩
  unfold C_law_1
  refine cmp_run (s1 := S1 scr h x2 x3 x4 (.own (.int n)) .no .no .no .no .no .no .no .no .no .no .no .no .no .no .no .no) (ds := (List.range n.toNat).map fun i : Nat => D.int (0 + i)) ?_ rfl c1
  simp only [nl1, nl2, nl3, nl4, nc2, nc3, nc4, ix20, ix21, ix30, ix31, ix32, eq_self, isi_ii, isi_ib, isi_is, isi_itl, isi_ntl, isi_tt, isN_n, isN_i, tup2, z_eqI, z_neI, si0, si1, si2, tn0, tn1, tn2, tn3, List.nil_append, List.cons_append, sSeq, sSet, sIf, sRet, sItem, sDrop, sNil, eN, eI, tP, p2, p1, fV, fC, psC, psN, eaC, eaN, e1, e2, pBl, pAnd, pOr, pNot, pIf, eIf, on1_, on2_, List.getElem?_cons_zero, List.getElem?_cons_succ, List.set_cons_zero, List.set_cons_succ, Option.bind_some, Option.map_some, Sl.val, Sl.isInn, z_ixL, z_ixT, at0, at1, at2, at3, r_of, r_bind, r_thn, s_nx, s_ret, z_nx, z_asB, z_len, z_lenT, z_addI, z_mulR, z_mulL, z_sub, z_lt, z_le, z_gt, z_ge, z_mod, z_div, z_max2, z_min2, setSl, updP, modP, valAt, getP, setP, setV, pIdx, pRoot, z_ixN, z_setI, List.length_map, List.length_cons, List.length_nil, if_true, if_false, Bool.false_eq_true, Bool.not_true, Bool.not_false, decide_true, decide_false, sUnp, ast_t, setAll, sPar, sPar3, stp_l, stp_t, g1_l, g1_t, s1_l, s1_t, Nat.reduceBEq, asq_t, asq_l, sFor, iE, iBor, iLock, unlk, id_eq, z_lst0, imm, immL, sClr, m_nx, m_ret, m_exc, m_brk, m_ct, s_exc, s_brk, s_ct, c_nil, c_cons, clr1, e2v, e2p, sFldD, pFld, fP, eMethP, eMethR, List.contains_nil, List.contains_cons, Bool.or_false, fnR, mkc, okAr, okLe, arN, arL, bk, valO, qN, qV, qI, qL, gV, gI, gL, rP, eCall, ofP, eMut, tyok_l, tyok_dk, tyok_dt, ofM, eMake, mkR, pI, eMv, List.append_nil, r_thnx, eDisp, pCall, pMeth, lnd, List.length_append, List.length_replicate, List.replicate, Bool.and_true, Bool.true_and, Bool.and_self, beq_self_eq_true, List.all_nil, List.all_cons, ite_seq, ite_map, ite_bind, ite_thn, r1]
def rTold (p : Int × List Int) : Row := .told p.1 p.2
theorem all_ev (scr x2 x3 x4 x7 : Sl) (h : Hs) (ts : List (List Int)) (hl : ts.length ≤ 1000) :
    C_law_3 (S1 scr h x2 x3 x4 (.own (.int ts.length)) (.own (.lst (ts.map tD))) x7 .no .no .no .no .no .no .no .no .no .no .no .no .no .no) = some (.lst (((ixT 0 ts).map rTold).map Row.d)) := by
  have r1 := iR1_n (n := ts.length) (by omega)
  rw [rng_map] at r1
  have := pcmp_map (vs := [19]) (it := p1 iR1 (psC (fV 5) psN)) (st := lendSl 19) (E := E_law_2) (s := S1 scr h x2 x3 x4 (.own (.int ts.length)) (.own (.lst (ts.map tD))) x7 .no .no .no .no .no .no .no .no .no .no .no .no .no .no) (s0 := S1 scr h x2 x3 x4 (.own (.int ts.length)) (.own (.lst (ts.map tD))) x7 .no .no .no .no .no .no .no .no .no .no .no .no .no .no)
    (fun i : Nat => D.int (0 + i)) (fun i => Row.d (.told i (ts.getD i []))) (List.range ts.length) (by simp only [nl1, nl2, nl3, nl4, nc2, nc3, nc4, ix20, ix21, ix30, ix31, ix32, eq_self, isi_ii, isi_ib, isi_is, isi_itl, isi_ntl, isi_tt, isN_n, isN_i, tup2, z_eqI, z_neI, si0, si1, si2, tn0, tn1, tn2, tn3, List.nil_append, List.cons_append, sSeq, sSet, sIf, sRet, sItem, sDrop, sNil, eN, eI, tP, p2, p1, fV, fC, psC, psN, eaC, eaN, e1, e2, pBl, pAnd, pOr, pNot, pIf, eIf, on1_, on2_, List.getElem?_cons_zero, List.getElem?_cons_succ, List.set_cons_zero, List.set_cons_succ, Option.bind_some, Option.map_some, Sl.val, Sl.isInn, z_ixL, z_ixT, at0, at1, at2, at3, r_of, r_bind, r_thn, s_nx, s_ret, z_nx, z_asB, z_len, z_lenT, z_addI, z_mulR, z_mulL, z_sub, z_lt, z_le, z_gt, z_ge, z_mod, z_div, z_max2, z_min2, setSl, updP, modP, valAt, getP, setP, setV, pIdx, pRoot, z_ixN, z_setI, List.length_map, List.length_cons, List.length_nil, if_true, if_false, Bool.false_eq_true, Bool.not_true, Bool.not_false, decide_true, decide_false, sUnp, ast_t, setAll, sPar, sPar3, stp_l, stp_t, g1_l, g1_t, s1_l, s1_t, Nat.reduceBEq, asq_t, asq_l, sFor, iE, iBor, iLock, unlk, id_eq, z_lst0, imm, immL, sClr, m_nx, m_ret, m_exc, m_brk, m_ct, s_exc, s_brk, s_ct, c_nil, c_cons, clr1, e2v, e2p, sFldD, pFld, fP, eMethP, eMethR, List.contains_nil, List.contains_cons, Bool.or_false, fnR, mkc, okAr, okLe, arN, arL, bk, valO, qN, qV, qI, qL, gV, gI, gL, rP, eCall, ofP, eMut, tyok_l, tyok_dk, tyok_dt, ofM, eMake, mkR, pI, eMv, List.append_nil, r_thnx, eDisp, pCall, pMeth, lnd, List.length_append, List.length_replicate, List.replicate, Bool.and_true, Bool.true_and, Bool.and_self, beq_self_eq_true, List.all_nil, List.all_cons, ite_seq, ite_map, ite_bind, ite_thn, r1]) (imm_mapL (fun _ => rfl) _) (by simp; omega) rfl fun i hi => by
      rw [List.mem_range] at hi
      have ix := at_map tD hi
      have e0 : (0 : Int) + (i : Int) = i := by omega
      have gd : ts.getD i [] = ts[i] := by rw [List.getD_eq_getElem?_getD, List.getElem?_eq_getElem hi]; rfl
      have tt : fTup [.str "told", .int i, tD ts[i]] = some (Row.told i ts[i]).d := by
        rw [z_fTup (by simp [imm, immL, imm_tD]) (by simp)]; rfl
      refine ⟨_, rfl, ?_, imm_Row _⟩
      rw [gd]
      unfold E_law_2
      simp only [nl1, nl2, nl3, nl4, nc2, nc3, nc4, ix20, ix21, ix30, ix31, ix32, eq_self, isi_ii, isi_ib, isi_is, isi_itl, isi_ntl, isi_tt, isN_n, isN_i, tup2, z_eqI, z_neI, si0, si1, si2, tn0, tn1, tn2, tn3, List.nil_append, List.cons_append, sSeq, sSet, sIf, sRet, sItem, sDrop, sNil, eN, eI, tP, p2, p1, fV, fC, psC, psN, eaC, eaN, e1, e2, pBl, pAnd, pOr, pNot, pIf, eIf, on1_, on2_, List.getElem?_cons_zero, List.getElem?_cons_succ, List.set_cons_zero, List.set_cons_succ, Option.bind_some, Option.map_some, Sl.val, Sl.isInn, z_ixL, z_ixT, at0, at1, at2, at3, r_of, r_bind, r_thn, s_nx, s_ret, z_nx, z_asB, z_len, z_lenT, z_addI, z_mulR, z_mulL, z_sub, z_lt, z_le, z_gt, z_ge, z_mod, z_div, z_max2, z_min2, setSl, updP, modP, valAt, getP, setP, setV, pIdx, pRoot, z_ixN, z_setI, List.length_map, List.length_cons, List.length_nil, if_true, if_false, Bool.false_eq_true, Bool.not_true, Bool.not_false, decide_true, decide_false, sUnp, ast_t, setAll, sPar, sPar3, stp_l, stp_t, g1_l, g1_t, s1_l, s1_t, Nat.reduceBEq, asq_t, asq_l, sFor, iE, iBor, iLock, unlk, id_eq, z_lst0, imm, immL, sClr, m_nx, m_ret, m_exc, m_brk, m_ct, s_exc, s_brk, s_ct, c_nil, c_cons, clr1, e2v, e2p, sFldD, pFld, fP, eMethP, eMethR, List.contains_nil, List.contains_cons, Bool.or_false, fnR, mkc, okAr, okLe, arN, arL, bk, valO, qN, qV, qI, qL, gV, gI, gL, rP, eCall, ofP, eMut, tyok_l, tyok_dk, tyok_dt, ofM, eMake, mkR, pI, eMv, List.append_nil, r_thnx, eDisp, pCall, pMeth, lnd, List.length_append, List.length_replicate, List.replicate, Bool.and_true, Bool.true_and, Bool.and_self, beq_self_eq_true, List.all_nil, List.all_cons, ite_seq, ite_map, ite_bind, ite_thn, e0, ix, tt]
  unfold C_law_3
  rw [this, ixT_map, List.map_map, List.map_map]
  simp only [Function.comp, rTold, Nat.zero_add]
  rfl
theorem lay_loop (scr x2 x3 x4 x5 x7 : Sl) (h : Hs) (ts : List (List Int)) (n : Int) (hk : ∀ t ∈ ts, OkT t) (hl : ts.length ≤ 1000) :
    S_law_5 (S1 scr h x2 x3 x4 x5 (.own (.lst (ts.map tD))) x7 (.own (Ls.new n).d) .no .no .no .no .no .no .no .no .no .no .no .no .no) = .nx (S1 scr h x2 x3 x4 x5 (.own (.lst (ts.map tD))) x7 (.own (layS (Ls.new n) ts).d) .no .no .no .no .no .no .no .no .no .no .no .no .no) := by
  obtain ⟨f1, _⟩ := for_fold (f := tD) (S := fun q : Ls => S1 scr h x2 x3 x4 x5 (.bor (.lst (ts.map tD))) x7 (.own q.d) .no .no .no .no .no .no .no .no .no .no .no .no .no) (g := Ls.lay) (P := fun r q => q.N.length + 23 * r.length ≤ 50000 ∧ q.S.length + r.length ≤ 50000 ∧ ∀ t ∈ r, OkT t) (st := lendSl 9) (body := L_law_4)
    (fun t r q ⟨b1, b2, b3⟩ => by
      have ht := b3 t (by simp)
      have := ht.l2
      rw [List.length_cons] at b1 b2
      have e := slay_ev q t (by omega) (by omega) (by omega)
      refine ⟨⟨S1 scr h x2 x3 x4 x5 (.bor (.lst (ts.map tD))) x7 (.own q.d) (.own (tD t)) .no .no .no .no .no .no .no .no .no .no .no .no, by simp [lendSl, Sl.isInn, imm_tD], ?_⟩, ?_, ?_, fun x hx => b3 x (by simp [hx])⟩
      · unfold L_law_4
        simp only [nl1, nl2, nl3, nl4, nc2, nc3, nc4, ix20, ix21, ix30, ix31, ix32, eq_self, isi_ii, isi_ib, isi_is, isi_itl, isi_ntl, isi_tt, isN_n, isN_i, tup2, z_eqI, z_neI, si0, si1, si2, tn0, tn1, tn2, tn3, List.nil_append, List.cons_append, sSeq, sSet, sIf, sRet, sItem, sDrop, sNil, eN, eI, tP, p2, p1, fV, fC, psC, psN, eaC, eaN, e1, e2, pBl, pAnd, pOr, pNot, pIf, eIf, on1_, on2_, List.getElem?_cons_zero, List.getElem?_cons_succ, List.set_cons_zero, List.set_cons_succ, Option.bind_some, Option.map_some, Sl.val, Sl.isInn, z_ixL, z_ixT, at0, at1, at2, at3, r_of, r_bind, r_thn, s_nx, s_ret, z_nx, z_asB, z_len, z_lenT, z_addI, z_mulR, z_mulL, z_sub, z_lt, z_le, z_gt, z_ge, z_mod, z_div, z_max2, z_min2, setSl, updP, modP, valAt, getP, setP, setV, pIdx, pRoot, z_ixN, z_setI, List.length_map, List.length_cons, List.length_nil, if_true, if_false, Bool.false_eq_true, Bool.not_true, Bool.not_false, decide_true, decide_false, sUnp, ast_t, setAll, sPar, sPar3, stp_l, stp_t, g1_l, g1_t, s1_l, s1_t, Nat.reduceBEq, asq_t, asq_l, sFor, iE, iBor, iLock, unlk, id_eq, z_lst0, imm, immL, sClr, m_nx, m_ret, m_exc, m_brk, m_ct, s_exc, s_brk, s_ct, c_nil, c_cons, clr1, e2v, e2p, sFldD, pFld, fP, eMethP, eMethR, List.contains_nil, List.contains_cons, Bool.or_false, fnR, mkc, okAr, okLe, arN, arL, bk, valO, qN, qV, qI, qL, gV, gI, gL, rP, eCall, ofP, eMut, tyok_l, tyok_dk, tyok_dt, ofM, eMake, mkR, pI, eMv, List.append_nil, r_thnx, eDisp, pCall, pMeth, lnd, List.length_append, List.length_replicate, List.replicate, Bool.and_true, Bool.true_and, Bool.and_self, beq_self_eq_true, List.all_nil, List.all_cons, ite_seq, ite_map, ite_bind, ite_thn, e]
      · show (q.N ++ cells _ t).length + _ ≤ _
        rw [List.length_append, cells_len]; omega
      · show (q.S ++ [_]).length + _ ≤ _
        rw [List.length_append, List.length_singleton]; omega) ts (Ls.new n) ⟨by simp [Ls.new]; omega, by simp [Ls.new]; omega, hk⟩
  unfold S_law_5
  simp only [nl1, nl2, nl3, nl4, nc2, nc3, nc4, ix20, ix21, ix30, ix31, ix32, eq_self, isi_ii, isi_ib, isi_is, isi_itl, isi_ntl, isi_tt, isN_n, isN_i, tup2, z_eqI, z_neI, si0, si1, si2, tn0, tn1, tn2, tn3, List.nil_append, List.cons_append, sSeq, sSet, sIf, sRet, sItem, sDrop, sNil, eN, eI, tP, p2, p1, fV, fC, psC, psN, eaC, eaN, e1, e2, pBl, pAnd, pOr, pNot, pIf, eIf, on1_, on2_, List.getElem?_cons_zero, List.getElem?_cons_succ, List.set_cons_zero, List.set_cons_succ, Option.bind_some, Option.map_some, Sl.val, Sl.isInn, z_ixL, z_ixT, at0, at1, at2, at3, r_of, r_bind, r_thn, s_nx, s_ret, z_nx, z_asB, z_len, z_lenT, z_addI, z_mulR, z_mulL, z_sub, z_lt, z_le, z_gt, z_ge, z_mod, z_div, z_max2, z_min2, setSl, updP, modP, valAt, getP, setP, setV, pIdx, pRoot, z_ixN, z_setI, List.length_map, List.length_cons, List.length_nil, if_true, if_false, Bool.false_eq_true, Bool.not_true, Bool.not_false, decide_true, decide_false, sUnp, ast_t, setAll, sPar, sPar3, stp_l, stp_t, g1_l, g1_t, s1_l, s1_t, Nat.reduceBEq, asq_t, asq_l, sFor, iE, iBor, iLock, unlk, id_eq, z_lst0, imm, immL, sClr, m_nx, m_ret, m_exc, m_brk, m_ct, s_exc, s_brk, s_ct, c_nil, c_cons, clr1, e2v, e2p, sFldD, pFld, fP, eMethP, eMethR, List.contains_nil, List.contains_cons, Bool.or_false, fnR, mkc, okAr, okLe, arN, arL, bk, valO, qN, qV, qI, qL, gV, gI, gL, rP, eCall, ofP, eMut, tyok_l, tyok_dk, tyok_dt, ofM, eMake, mkR, pI, eMv, List.append_nil, r_thnx, eDisp, pCall, pMeth, lnd, List.length_append, List.length_replicate, List.replicate, Bool.and_true, Bool.true_and, Bool.and_self, beq_self_eq_true, List.all_nil, List.all_cons, ite_seq, ite_map, ite_bind, ite_thn, f1]
  rfl
/-- some of the items, as drawn -/
theorem cmp_flt {α β : Type} {f : α → D} {S : β → SS} {vs : List Nat} {st : D → SS → Option SS} {tt : SS → R Bool} {te : SS → R D} (h : ∀ x a, ∃ s1 b s2 a', st (f x) (S a) = some s1 ∧ tt s1 = .ok b s2 ∧ te s2 = .ok (f x) s2 ∧ clrC vs s2 = some (S a')) :
    ∀ (xs : List α) (acc : List α) (a : β), acc.length + xs.length ≤ 1000000 → ∃ (acc' : List α) (a' : β), cmpL vs st tt te (xs.map f) (S a) (acc.map f) = .ok (acc'.map f) (S a') ∧ (∀ y ∈ acc', y ∈ acc ∨ y ∈ xs) ∧ acc'.length ≤ acc.length + xs.length
  | [], acc, a, _ => ⟨acc, a, rfl, fun y h => .inl h, by omega⟩
  | x :: xs, acc, a, hl => by
    rw [List.length_cons] at hl
    obtain ⟨s1, b, s2, a', e1', e2', e3', e4'⟩ := h x a
    cases b with
    | true =>
      obtain ⟨acc', a'', q1, q2, q3⟩ := cmp_flt h xs (acc ++ [x]) a' (by rw [List.length_append, List.length_singleton]; omega)
      rw [List.map_append] at q1
      refine ⟨acc', a'', ?_, fun y hy => ?_, by rw [List.length_append, List.length_singleton] at q3; rw [List.length_cons]; omega⟩
      · rw [List.map_cons, cmpL]
        simp only [e1', e2', e3', e4', if_true]
        rw [if_pos (by rw [List.length_map]; omega)]
        exact q1
      · rcases q2 y hy with z | z
        · rcases List.mem_append.mp z with z | z
          · exact .inl z
          · simp at z; subst z; exact .inr (by simp)
        · exact .inr (by simp [z])
    | false =>
      obtain ⟨acc', a'', q1, q2, q3⟩ := cmp_flt h xs acc a' (by omega)
      refine ⟨acc', a'', ?_, fun y hy => ?_, by rw [List.length_cons]; omega⟩
      · rw [List.map_cons, cmpL]
        simp only [e1', e2', e4', Bool.false_eq_true, if_false]
        exact q1
      · rcases q2 y hy with z | z
        · exact .inl z
        · exact .inr (by simp [z])
theorem some_ev (scr x2 x3 x4 x5 x6 x8 : Sl) (h : Hs) (fs : List Fm) (hl : fs.length ≤ 20000) (o : Int) (ho : 1 ≤ o ∧ o ≤ 100) : ∃ (sm : List Fm) (h' : Hs), (∀ f ∈ sm, f ∈ fs) ∧ sm.length ≤ fs.length ∧
    C_law_8 (S1 scr h x2 x3 x4 x5 x6 (.own (.lst (fs.map Fm.d))) x8 .no (.own (.int o)) .no .no .no .no .no .no .no .no .no .no .no) = .ok (.lst (sm.map Fm.d)) (S1 scr h' x2 x3 x4 x5 x6 (.own (.lst (fs.map Fm.d))) x8 .no (.own (.int o)) .no .no .no .no .no .no .no .no .no .no .no) := by
  obtain ⟨sm, h', q1, q2, q3⟩ := cmp_flt (f := Fm.d) (S := fun h : Hs => S1 scr h x2 x3 x4 x5 x6 (.bor (.lst (fs.map Fm.d))) x8 .no (.own (.int o)) .no .no .no .no .no .no .no .no .no .no .no) (vs := [20]) (st := lendSl 20) (tt := T_law_6) (te := E_law_7)
    (fun f h => by
      have im := imm_F f
      refine ⟨S1 scr h x2 x3 x4 x5 x6 (.bor (.lst (fs.map Fm.d))) x8 .no (.own (.int o)) .no .no .no .no .no .no .no .no .no (.own f.d) .no, decide (0 < h.v o), S1 scr (h.s o) x2 x3 x4 x5 x6 (.bor (.lst (fs.map Fm.d))) x8 .no (.own (.int o)) .no .no .no .no .no .no .no .no .no (.own f.d) .no, h.s o, by simp [lendSl, Sl.isInn, im], ?_, ?_, rfl⟩
      · unfold T_law_6
        simp (disch := first | assumption | omega) only [nl1, nl2, nl3, nl4, nc2, nc3, nc4, ix20, ix21, ix30, ix31, ix32, eq_self, isi_ii, isi_ib, isi_is, isi_itl, isi_ntl, isi_tt, isN_n, isN_i, tup2, z_eqI, z_neI, si0, si1, si2, tn0, tn1, tn2, tn3, List.nil_append, List.cons_append, sSeq, sSet, sIf, sRet, sItem, sDrop, sNil, eN, eI, tP, p2, p1, fV, fC, psC, psN, eaC, eaN, e1, e2, pBl, pAnd, pOr, pNot, pIf, eIf, on1_, on2_, List.getElem?_cons_zero, List.getElem?_cons_succ, List.set_cons_zero, List.set_cons_succ, Option.bind_some, Option.map_some, Sl.val, Sl.isInn, z_ixL, z_ixT, at0, at1, at2, at3, r_of, r_bind, r_thn, s_nx, s_ret, z_nx, z_asB, z_len, z_lenT, z_addI, z_mulR, z_mulL, z_sub, z_lt, z_le, z_gt, z_ge, z_mod, z_div, z_max2, z_min2, setSl, updP, modP, valAt, getP, setP, setV, pIdx, pRoot, z_ixN, z_setI, List.length_map, List.length_cons, List.length_nil, if_true, if_false, Bool.false_eq_true, Bool.not_true, Bool.not_false, decide_true, decide_false, sUnp, ast_t, setAll, sPar, sPar3, stp_l, stp_t, g1_l, g1_t, s1_l, s1_t, Nat.reduceBEq, asq_t, asq_l, sFor, iE, iBor, iLock, unlk, id_eq, z_lst0, imm, immL, sClr, m_nx, m_ret, m_exc, m_brk, m_ct, s_exc, s_brk, s_ct, c_nil, c_cons, clr1, e2v, e2p, sFldD, pFld, fP, eMethP, eMethR, List.contains_nil, List.contains_cons, Bool.or_false, fnR, mkc, okAr, okLe, arN, arL, bk, valO, qN, qV, qI, qL, gV, gI, gL, rP, eCall, ofP, eMut, tyok_l, tyok_dk, tyok_dt, ofM, eMake, mkR, pI, eMv, List.append_nil, r_thnx, eDisp, pCall, pMeth, lnd, List.length_append, List.length_replicate, List.replicate, Bool.and_true, Bool.true_and, Bool.and_self, beq_self_eq_true, List.all_nil, List.all_cons, ite_seq, ite_map, ite_bind, ite_thn, next_ev]
      · unfold E_law_7
        simp only [nl1, nl2, nl3, nl4, nc2, nc3, nc4, ix20, ix21, ix30, ix31, ix32, eq_self, isi_ii, isi_ib, isi_is, isi_itl, isi_ntl, isi_tt, isN_n, isN_i, tup2, z_eqI, z_neI, si0, si1, si2, tn0, tn1, tn2, tn3, List.nil_append, List.cons_append, sSeq, sSet, sIf, sRet, sItem, sDrop, sNil, eN, eI, tP, p2, p1, fV, fC, psC, psN, eaC, eaN, e1, e2, pBl, pAnd, pOr, pNot, pIf, eIf, on1_, on2_, List.getElem?_cons_zero, List.getElem?_cons_succ, List.set_cons_zero, List.set_cons_succ, Option.bind_some, Option.map_some, Sl.val, Sl.isInn, z_ixL, z_ixT, at0, at1, at2, at3, r_of, r_bind, r_thn, s_nx, s_ret, z_nx, z_asB, z_len, z_lenT, z_addI, z_mulR, z_mulL, z_sub, z_lt, z_le, z_gt, z_ge, z_mod, z_div, z_max2, z_min2, setSl, updP, modP, valAt, getP, setP, setV, pIdx, pRoot, z_ixN, z_setI, List.length_map, List.length_cons, List.length_nil, if_true, if_false, Bool.false_eq_true, Bool.not_true, Bool.not_false, decide_true, decide_false, sUnp, ast_t, setAll, sPar, sPar3, stp_l, stp_t, g1_l, g1_t, s1_l, s1_t, Nat.reduceBEq, asq_t, asq_l, sFor, iE, iBor, iLock, unlk, id_eq, z_lst0, imm, immL, sClr, m_nx, m_ret, m_exc, m_brk, m_ct, s_exc, s_brk, s_ct, c_nil, c_cons, clr1, e2v, e2p, sFldD, pFld, fP, eMethP, eMethR, List.contains_nil, List.contains_cons, Bool.or_false, fnR, mkc, okAr, okLe, arN, arL, bk, valO, qN, qV, qI, qL, gV, gI, gL, rP, eCall, ofP, eMut, tyok_l, tyok_dk, tyok_dt, ofM, eMake, mkR, pI, eMv, List.append_nil, r_thnx, eDisp, pCall, pMeth, lnd, List.length_append, List.length_replicate, List.replicate, Bool.and_true, Bool.true_and, Bool.and_self, beq_self_eq_true, List.all_nil, List.all_cons, ite_seq, ite_map, ite_bind, ite_thn, im]) fs [] h (by simp; omega)
  refine ⟨sm, h', fun f hf => (q2 f hf).resolve_left (by simp), by simpa using q3, ?_⟩
  unfold C_law_8
  rw [cmp_run (s1 := S1 scr h x2 x3 x4 x5 x6 (.bor (.lst (fs.map Fm.d))) x8 .no (.own (.int o)) .no .no .no .no .no .no .no .no .no .no .no) (s0 := S1 scr h x2 x3 x4 x5 x6 (.bor (.lst (fs.map Fm.d))) x8 .no (.own (.int o)) .no .no .no .no .no .no .no .no .no .no .no) (ds := fs.map Fm.d) ?_ rfl q1]
  · rfl
  · simp only [nl1, nl2, nl3, nl4, nc2, nc3, nc4, ix20, ix21, ix30, ix31, ix32, eq_self, isi_ii, isi_ib, isi_is, isi_itl, isi_ntl, isi_tt, isN_n, isN_i, tup2, z_eqI, z_neI, si0, si1, si2, tn0, tn1, tn2, tn3, List.nil_append, List.cons_append, sSeq, sSet, sIf, sRet, sItem, sDrop, sNil, eN, eI, tP, p2, p1, fV, fC, psC, psN, eaC, eaN, e1, e2, pBl, pAnd, pOr, pNot, pIf, eIf, on1_, on2_, List.getElem?_cons_zero, List.getElem?_cons_succ, List.set_cons_zero, List.set_cons_succ, Option.bind_some, Option.map_some, Sl.val, Sl.isInn, z_ixL, z_ixT, at0, at1, at2, at3, r_of, r_bind, r_thn, s_nx, s_ret, z_nx, z_asB, z_len, z_lenT, z_addI, z_mulR, z_mulL, z_sub, z_lt, z_le, z_gt, z_ge, z_mod, z_div, z_max2, z_min2, setSl, updP, modP, valAt, getP, setP, setV, pIdx, pRoot, z_ixN, z_setI, List.length_map, List.length_cons, List.length_nil, if_true, if_false, Bool.false_eq_true, Bool.not_true, Bool.not_false, decide_true, decide_false, sUnp, ast_t, setAll, sPar, sPar3, stp_l, stp_t, g1_l, g1_t, s1_l, s1_t, Nat.reduceBEq, asq_t, asq_l, sFor, iE, iBor, iLock, unlk, id_eq, z_lst0, imm, immL, sClr, m_nx, m_ret, m_exc, m_brk, m_ct, s_exc, s_brk, s_ct, c_nil, c_cons, clr1, e2v, e2p, sFldD, pFld, fP, eMethP, eMethR, List.contains_nil, List.contains_cons, Bool.or_false, fnR, mkc, okAr, okLe, arN, arL, bk, valO, qN, qV, qI, qL, gV, gI, gL, rP, eCall, ofP, eMut, tyok_l, tyok_dk, tyok_dt, ofM, eMake, mkR, pI, eMv, List.append_nil, r_thnx, eDisp, pCall, pMeth, lnd, List.length_append, List.length_replicate, List.replicate, Bool.and_true, Bool.true_and, Bool.and_self, beq_self_eq_true, List.all_nil, List.all_cons, ite_seq, ite_map, ite_bind, ite_thn]
theorem ne_Fs (fs : List Fm) : fNe (.lst (fs.map Fm.d)) (.lst []) = some (.bl (!fs.isEmpty)) := by
  have := z_nNil (ds := fs.map Fm.d) (shp_map (shp_F 57) _)
  rw [z_empty] at this
  exact this
theorem more_ev (scr x2 x3 x4 x5 x6 x7 x8 x10 : Sl) (h : Hs) (sm : List Fm) (hl : sm.length ≤ 20000) : ∃ (mr : List Fm) (h' : Hs), (∀ f ∈ mr, f ∈ sm) ∧ mr.length ≤ 4 ∧
    C_law_10 (S1 scr h x2 x3 x4 x5 x6 x7 x8 .no x10 (.own (.lst (sm.map Fm.d))) .no .no .no .no .no .no .no .no .no .no) = .ok (.lst (mr.map Fm.d)) (S1 scr h' x2 x3 x4 x5 x6 x7 x8 .no x10 (.own (.lst (sm.map Fm.d))) .no .no .no .no .no .no .no .no .no .no) := by
  have b1 := v_bd (h := h) (m := 5) (by omega)
  have ln : fLen (.lst (sm.map Fm.d)) = some (.int (sm.length : Int)) := by show some (D.int ((sm.map Fm.d).length : Nat)) = _; rw [List.length_map]
  have ne := ne_Fs sm
  have fi : fInt (.bl (!sm.isEmpty)) = some (.int (if sm.isEmpty then 0 else 1)) := by cases sm.isEmpty <;> rfl
  have u : -(2 ^ 64) < (if sm.isEmpty then (0 : Int) else 1) ∧ (if sm.isEmpty then (0 : Int) else 1) < 2 ^ 64 := by split <;> omega
  generalize hj : h.v 5 * (if sm.isEmpty then 0 else 1) = j
  have j0 : 0 ≤ j ∧ j ≤ 4 ∧ (0 < j → sm ≠ []) := by
    cases e : sm.isEmpty
    · rw [e] at hj
      simp only [Bool.false_eq_true, if_false] at hj
      exact ⟨by omega, by omega, fun _ z => by rw [z] at e; cases e⟩
    · rw [e] at hj
      simp only [if_true] at hj
      exact ⟨by omega, by omega, fun _ => by omega⟩
  obtain ⟨mr, h', c1, c2, c3⟩ := cmp_ex (f := fun i : Nat => D.int (0 + i)) (g := Fm.d) (S := fun h : Hs => S1 scr h x2 x3 x4 x5 x6 x7 x8 .no x10 (.own (.lst (sm.map Fm.d))) .no .no .no .no .no .no .no .no .no .no) (P := fun ks acc _ => (∀ f ∈ acc, f ∈ sm) ∧ (ks ≠ [] → sm ≠ [])) (vs := [19]) (st := lendSl 19) (te := E_law_9)
    (fun k ks acc h hp => by
      have n0 : sm ≠ [] := hp.2 (by simp)
      have l0 : 0 < sm.length := List.length_pos_iff.mpr n0
      have b := v_bd (h := h) (m := (sm.length : Int)) (by omega)
      have nx := next_ev h (m := (sm.length : Int)) (by omega) (by omega)
      generalize hv : h.v (sm.length : Int) = v at b
      rw [hv] at nx
      have hlt : v.toNat < sm.length := by omega
      have ix := at_map Fm.d hlt
      rw [show ((v.toNat : Nat) : Int) = v by omega] at ix
      have mm : sm[v.toNat] ∈ sm := List.getElem_mem hlt
      generalize sm[v.toNat] = g at ix mm
      have ig := imm_F g
      have il := imm_Fs sm
      refine ⟨S1 scr h x2 x3 x4 x5 x6 x7 x8 .no x10 (.own (.lst (sm.map Fm.d))) .no .no .no .no .no .no .no (.own (.int (0 + (k : Int)))) .no .no, g, S1 scr (h.s (sm.length : Int)) x2 x3 x4 x5 x6 x7 x8 .no x10 (.own (.lst (sm.map Fm.d))) .no .no .no .no .no .no .no (.own (.int (0 + (k : Int)))) .no .no, h.s (sm.length : Int), rfl, ?_, rfl, fun f hf => ?_, fun _ => n0⟩
      · unfold E_law_9
        simp only [nl1, nl2, nl3, nl4, nc2, nc3, nc4, ix20, ix21, ix30, ix31, ix32, eq_self, isi_ii, isi_ib, isi_is, isi_itl, isi_ntl, isi_tt, isN_n, isN_i, tup2, z_eqI, z_neI, si0, si1, si2, tn0, tn1, tn2, tn3, List.nil_append, List.cons_append, sSeq, sSet, sIf, sRet, sItem, sDrop, sNil, eN, eI, tP, p2, p1, fV, fC, psC, psN, eaC, eaN, e1, e2, pBl, pAnd, pOr, pNot, pIf, eIf, on1_, on2_, List.getElem?_cons_zero, List.getElem?_cons_succ, List.set_cons_zero, List.set_cons_succ, Option.bind_some, Option.map_some, Sl.val, Sl.isInn, z_ixL, z_ixT, at0, at1, at2, at3, r_of, r_bind, r_thn, s_nx, s_ret, z_nx, z_asB, z_len, z_lenT, z_addI, z_mulR, z_mulL, z_sub, z_lt, z_le, z_gt, z_ge, z_mod, z_div, z_max2, z_min2, setSl, updP, modP, valAt, getP, setP, setV, pIdx, pRoot, z_ixN, z_setI, List.length_map, List.length_cons, List.length_nil, if_true, if_false, Bool.false_eq_true, Bool.not_true, Bool.not_false, decide_true, decide_false, sUnp, ast_t, setAll, sPar, sPar3, stp_l, stp_t, g1_l, g1_t, s1_l, s1_t, Nat.reduceBEq, asq_t, asq_l, sFor, iE, iBor, iLock, unlk, id_eq, z_lst0, imm, immL, sClr, m_nx, m_ret, m_exc, m_brk, m_ct, s_exc, s_brk, s_ct, c_nil, c_cons, clr1, e2v, e2p, sFldD, pFld, fP, eMethP, eMethR, List.contains_nil, List.contains_cons, Bool.or_false, fnR, mkc, okAr, okLe, arN, arL, bk, valO, qN, qV, qI, qL, gV, gI, gL, rP, eCall, ofP, eMut, tyok_l, tyok_dk, tyok_dt, ofM, eMake, mkR, pI, eMv, List.append_nil, r_thnx, eDisp, pCall, pMeth, lnd, List.length_append, List.length_replicate, List.replicate, Bool.and_true, Bool.true_and, Bool.and_self, beq_self_eq_true, List.all_nil, List.all_cons, ite_seq, ite_map, ite_bind, ite_thn, e2x, impD, ln, nx, ix, ig]
      · rcases List.mem_append.mp hf with hf | hf
        · exact hp.1 f hf
        · simp at hf; subst hf; exact mm) (List.range j.toNat) [] (h.s 5) (by simp; omega) ⟨by simp, fun z => j0.2.2 (by
          rcases Int.lt_or_le 0 j with q | q
          · exact q
          · exact (z (by rw [show j.toNat = 0 by omega]; rfl)).elim)⟩
  have r1 := iR1_i (n := j) (by omega) (by omega)
  rw [rng_map] at r1
  refine ⟨mr, h', c2.1, by rw [c3]; simp; omega, ?_⟩
  unfold C_law_10
  refine cmp_run (s1 := S1 scr (h.s 5) x2 x3 x4 x5 x6 x7 x8 .no x10 (.own (.lst (sm.map Fm.d))) .no .no .no .no .no .no .no .no .no .no) (ds := (List.range j.toNat).map fun i : Nat => D.int (0 + i)) ?_ rfl c1
  simp (disch := first | assumption | omega) only [nl1, nl2, nl3, nl4, nc2, nc3, nc4, ix20, ix21, ix30, ix31, ix32, eq_self, isi_ii, isi_ib, isi_is, isi_itl, isi_ntl, isi_tt, isN_n, isN_i, tup2, z_eqI, z_neI, si0, si1, si2, tn0, tn1, tn2, tn3, List.nil_append, List.cons_append, sSeq, sSet, sIf, sRet, sItem, sDrop, sNil, eN, eI, tP, p2, p1, fV, fC, psC, psN, eaC, eaN, e1, e2, pBl, pAnd, pOr, pNot, pIf, eIf, on1_, on2_, List.getElem?_cons_zero, List.getElem?_cons_succ, List.set_cons_zero, List.set_cons_succ, Option.bind_some, Option.map_some, Sl.val, Sl.isInn, z_ixL, z_ixT, at0, at1, at2, at3, r_of, r_bind, r_thn, s_nx, s_ret, z_nx, z_asB, z_len, z_lenT, z_addI, z_mulR, z_mulL, z_sub, z_lt, z_le, z_gt, z_ge, z_mod, z_div, z_max2, z_min2, setSl, updP, modP, valAt, getP, setP, setV, pIdx, pRoot, z_ixN, z_setI, List.length_map, List.length_cons, List.length_nil, if_true, if_false, Bool.false_eq_true, Bool.not_true, Bool.not_false, decide_true, decide_false, sUnp, ast_t, setAll, sPar, sPar3, stp_l, stp_t, g1_l, g1_t, s1_l, s1_t, Nat.reduceBEq, asq_t, asq_l, sFor, iE, iBor, iLock, unlk, id_eq, z_lst0, imm, immL, sClr, m_nx, m_ret, m_exc, m_brk, m_ct, s_exc, s_brk, s_ct, c_nil, c_cons, clr1, e2v, e2p, sFldD, pFld, fP, eMethP, eMethR, List.contains_nil, List.contains_cons, Bool.or_false, fnR, mkc, okAr, okLe, arN, arL, bk, valO, qN, qV, qI, qL, gV, gI, gL, rP, eCall, ofP, eMut, tyok_l, tyok_dk, tyok_dt, ofM, eMake, mkR, pI, eMv, List.append_nil, r_thnx, eDisp, pCall, pMeth, lnd, List.length_append, List.length_replicate, List.replicate, Bool.and_true, Bool.true_and, Bool.and_self, beq_self_eq_true, List.all_nil, List.all_cons, ite_seq, ite_map, ite_bind, ite_thn, next_ev, ne, fi, z_mulR, hj, r1]
theorem len_Fs (fs : List Fm) : fLen (.lst (fs.map Fm.d)) = some (.int (fs.length : Int)) := by show some (D.int ((fs.map Fm.d).length : Nat)) = _; rw [List.length_map]
theorem map_erase {α β : Type} (f : α → β) : ∀ (l : List α) (i : Nat), (l.map f).eraseIdx i = (l.eraseIdx i).map f
  | [], i => by simp
  | x :: l, 0 => rfl
  | x :: l, i + 1 => by
    have := map_erase f l i
    simp only [List.map_cons, List.eraseIdx_cons_succ, this]
theorem erase_perm {α : Type} : ∀ {l : List α} {i : Nat} (h : i < l.length), (l[i] :: l.eraseIdx i).Perm l
  | [], i, h => by simp at h
  | x :: l, 0, h => .refl _
  | x :: l, i + 1, h => by
    have := erase_perm (l := l) (i := i) (by simpa using h)
    simp only [List.getElem_cons_succ, List.eraseIdx_cons_succ]
    exact (List.Perm.swap _ _ _).trans (this.cons x)
theorem handed_ev (scr x2 x3 x4 x5 x6 x7 x8 x10 x11 : Sl) (h : Hs) (mr : List Fm) (hl : mr.length ≤ 30000) : ∃ (hd : List Fm) (h' : Hs), hd.Perm mr ∧
    C_law_12 (S1 scr h x2 x3 x4 x5 x6 x7 x8 .no x10 x11 (.own (.lst (mr.map Fm.d))) .no .no .no .no .no .no .no .no .no) = .ok (.lst (hd.map Fm.d)) (S1 scr h' x2 x3 x4 x5 x6 x7 x8 .no x10 x11 (.own (.lst [])) .no .no .no .no .no .no .no .no .no) := by
  obtain ⟨hd, ⟨h', rm⟩, c1, c2, c3⟩ := cmp_ex (f := fun i : Nat => D.int (0 + i)) (g := Fm.d) (S := fun a : Hs × List Fm => S1 scr a.1 x2 x3 x4 x5 x6 x7 x8 .no x10 x11 (.own (.lst (a.2.map Fm.d))) .no .no .no .no .no .no .no .no .no) (P := fun ks acc a => (acc ++ a.2).Perm mr ∧ a.2.length = ks.length) (vs := [19]) (st := lendSl 19) (te := E_law_11)
    (fun k ks acc a hp => by
      obtain ⟨h, rm⟩ := a
      obtain ⟨p1', p2'⟩ := hp
      simp only at p1' p2'
      rw [List.length_cons] at p2'
      have ll := p1'.length_eq
      rw [List.length_append] at ll
      have b := v_bd (h := h) (m := (rm.length : Int)) (by omega)
      have nx := next_ev h (m := (rm.length : Int)) (by omega) (by omega)
      generalize hv : h.v (rm.length : Int) = v at b
      rw [hv] at nx
      have hlt : v.toNat < rm.length := by omega
      have ln := len_Fs rm
      have il := imm_Fs rm
      have gt : (rm.map Fm.d)[v.toNat]? = some (rm[v.toNat].d) := by rw [List.getElem?_map, List.getElem?_eq_getElem hlt]; rfl
      have er : (rm.map Fm.d).eraseIdx v.toNat = (rm.eraseIdx v.toNat).map Fm.d := map_erase _ _ _
      have pp : fPopAt (.lst (rm.map Fm.d)) [.int v] = some (rm[v.toNat].d, .lst ((rm.eraseIdx v.toNat).map Fm.d)) := by
        unfold fPopAt
        simp only
        rw [if_pos ⟨il, by omega, by rw [List.length_map]; omega, by rw [List.length_map]; omega⟩, gt, er]
        rfl
      have pm : (rm[v.toNat] :: rm.eraseIdx v.toNat).Perm rm := erase_perm hlt
      refine ⟨S1 scr h x2 x3 x4 x5 x6 x7 x8 .no x10 x11 (.own (.lst (rm.map Fm.d))) .no .no .no .no .no .no (.own (.int (0 + (k : Int)))) .no .no, rm[v.toNat], S1 scr (h.s (rm.length : Int)) x2 x3 x4 x5 x6 x7 x8 .no x10 x11 (.own (.lst ((rm.eraseIdx v.toNat).map Fm.d))) .no .no .no .no .no .no (.own (.int (0 + (k : Int)))) .no .no, (h.s (rm.length : Int), rm.eraseIdx v.toNat), rfl, ?_, rfl, ?_, ?_⟩
      · unfold E_law_11
        simp only [nl1, nl2, nl3, nl4, nc2, nc3, nc4, ix20, ix21, ix30, ix31, ix32, eq_self, isi_ii, isi_ib, isi_is, isi_itl, isi_ntl, isi_tt, isN_n, isN_i, tup2, z_eqI, z_neI, si0, si1, si2, tn0, tn1, tn2, tn3, List.nil_append, List.cons_append, sSeq, sSet, sIf, sRet, sItem, sDrop, sNil, eN, eI, tP, p2, p1, fV, fC, psC, psN, eaC, eaN, e1, e2, pBl, pAnd, pOr, pNot, pIf, eIf, on1_, on2_, List.getElem?_cons_zero, List.getElem?_cons_succ, List.set_cons_zero, List.set_cons_succ, Option.bind_some, Option.map_some, Sl.val, Sl.isInn, z_ixL, z_ixT, at0, at1, at2, at3, r_of, r_bind, r_thn, s_nx, s_ret, z_nx, z_asB, z_len, z_lenT, z_addI, z_mulR, z_mulL, z_sub, z_lt, z_le, z_gt, z_ge, z_mod, z_div, z_max2, z_min2, setSl, updP, modP, valAt, getP, setP, setV, pIdx, pRoot, z_ixN, z_setI, List.length_map, List.length_cons, List.length_nil, if_true, if_false, Bool.false_eq_true, Bool.not_true, Bool.not_false, decide_true, decide_false, sUnp, ast_t, setAll, sPar, sPar3, stp_l, stp_t, g1_l, g1_t, s1_l, s1_t, Nat.reduceBEq, asq_t, asq_l, sFor, iE, iBor, iLock, unlk, id_eq, z_lst0, imm, immL, sClr, m_nx, m_ret, m_exc, m_brk, m_ct, s_exc, s_brk, s_ct, c_nil, c_cons, clr1, e2v, e2p, sFldD, pFld, fP, eMethP, eMethR, List.contains_nil, List.contains_cons, Bool.or_false, fnR, mkc, okAr, okLe, arN, arL, bk, valO, qN, qV, qI, qL, gV, gI, gL, rP, eCall, ofP, eMut, tyok_l, tyok_dk, tyok_dt, ofM, eMake, mkR, pI, eMv, List.append_nil, r_thnx, eDisp, pCall, pMeth, lnd, List.length_append, List.length_replicate, List.replicate, Bool.and_true, Bool.true_and, Bool.and_self, beq_self_eq_true, List.all_nil, List.all_cons, ite_seq, ite_map, ite_bind, ite_thn, ln, nx, pp]
      · rw [List.append_assoc]
        exact (List.Perm.append_left acc pm).trans p1'
      · simp only
        rw [List.length_eraseIdx_of_lt hlt]; omega) (List.range mr.length) [] (h, mr) (by simp; omega) ⟨.refl _, by simp⟩
  obtain ⟨c4, c5⟩ := c2
  have e : rm = [] := List.eq_nil_of_length_eq_zero c5
  subst e
  rw [List.append_nil] at c4
  refine ⟨hd, h', c4, ?_⟩
  have ln := len_Fs mr
  have r1 := iR1_n (n := mr.length) (by omega)
  rw [rng_map] at r1
  unfold C_law_12
  refine cmp_run (s1 := S1 scr h x2 x3 x4 x5 x6 x7 x8 .no x10 x11 (.own (.lst (mr.map Fm.d))) .no .no .no .no .no .no .no .no .no) (ds := (List.range mr.length).map fun i : Nat => D.int (0 + i)) ?_ rfl c1
  simp only [nl1, nl2, nl3, nl4, nc2, nc3, nc4, ix20, ix21, ix30, ix31, ix32, eq_self, isi_ii, isi_ib, isi_is, isi_itl, isi_ntl, isi_tt, isN_n, isN_i, tup2, z_eqI, z_neI, si0, si1, si2, tn0, tn1, tn2, tn3, List.nil_append, List.cons_append, sSeq, sSet, sIf, sRet, sItem, sDrop, sNil, eN, eI, tP, p2, p1, fV, fC, psC, psN, eaC, eaN, e1, e2, pBl, pAnd, pOr, pNot, pIf, eIf, on1_, on2_, List.getElem?_cons_zero, List.getElem?_cons_succ, List.set_cons_zero, List.set_cons_succ, Option.bind_some, Option.map_some, Sl.val, Sl.isInn, z_ixL, z_ixT, at0, at1, at2, at3, r_of, r_bind, r_thn, s_nx, s_ret, z_nx, z_asB, z_len, z_lenT, z_addI, z_mulR, z_mulL, z_sub, z_lt, z_le, z_gt, z_ge, z_mod, z_div, z_max2, z_min2, setSl, updP, modP, valAt, getP, setP, setV, pIdx, pRoot, z_ixN, z_setI, List.length_map, List.length_cons, List.length_nil, if_true, if_false, Bool.false_eq_true, Bool.not_true, Bool.not_false, decide_true, decide_false, sUnp, ast_t, setAll, sPar, sPar3, stp_l, stp_t, g1_l, g1_t, s1_l, s1_t, Nat.reduceBEq, asq_t, asq_l, sFor, iE, iBor, iLock, unlk, id_eq, z_lst0, imm, immL, sClr, m_nx, m_ret, m_exc, m_brk, m_ct, s_exc, s_brk, s_ct, c_nil, c_cons, clr1, e2v, e2p, sFldD, pFld, fP, eMethP, eMethR, List.contains_nil, List.contains_cons, Bool.or_false, fnR, mkc, okAr, okLe, arN, arL, bk, valO, qN, qV, qI, qL, gV, gI, gL, rP, eCall, ofP, eMut, tyok_l, tyok_dk, tyok_dt, ofM, eMake, mkR, pI, eMv, List.append_nil, r_thnx, eDisp, pCall, pMeth, lnd, List.length_append, List.length_replicate, List.replicate, Bool.and_true, Bool.true_and, Bool.and_self, beq_self_eq_true, List.all_nil, List.all_cons, ite_seq, ite_map, ite_bind, ite_thn, ln, r1]
theorem counts_ev (scr x2 x3 x4 x5 x6 x7 x8 x10 x12 x13 x14 : Sl) (h : Hs) (sm : List Fm) (hl : sm.length ≤ 30000) :
    C_law_14 (S1 scr h x2 x3 x4 x5 x6 x7 x8 .no x10 (.own (.lst (sm.map Fm.d))) x12 x13 x14 .no .no .no .no .no .no .no) = some (.lst (sm.map fun f => D.int f.ct)) := by
  have := pcmp_map (vs := [20]) (it := iP (fV 11)) (st := lendSl 20) (E := E_law_13) (s := S1 scr h x2 x3 x4 x5 x6 x7 x8 .no x10 (.own (.lst (sm.map Fm.d))) x12 x13 x14 .no .no .no .no .no .no .no) (s0 := S1 scr h x2 x3 x4 x5 x6 x7 x8 .no x10 (.own (.lst (sm.map Fm.d))) x12 x13 x14 .no .no .no .no .no .no .no) Fm.d (fun f => D.int f.ct) sm rfl (imm_Fs _) (by omega) rfl fun f _ => by
      have im := imm_F f
      obtain ⟨_, g1⟩ := shp_kkF f
      refine ⟨S1 scr h x2 x3 x4 x5 x6 x7 x8 .no x10 (.own (.lst (sm.map Fm.d))) x12 x13 x14 .no .no .no .no .no (.own f.d) .no, by simp [lendSl, Sl.isInn, im], ?_, rfl⟩
      unfold E_law_13
      simp only [nl1, nl2, nl3, nl4, nc2, nc3, nc4, ix20, ix21, ix30, ix31, ix32, eq_self, isi_ii, isi_ib, isi_is, isi_itl, isi_ntl, isi_tt, isN_n, isN_i, tup2, z_eqI, z_neI, si0, si1, si2, tn0, tn1, tn2, tn3, List.nil_append, List.cons_append, sSeq, sSet, sIf, sRet, sItem, sDrop, sNil, eN, eI, tP, p2, p1, fV, fC, psC, psN, eaC, eaN, e1, e2, pBl, pAnd, pOr, pNot, pIf, eIf, on1_, on2_, List.getElem?_cons_zero, List.getElem?_cons_succ, List.set_cons_zero, List.set_cons_succ, Option.bind_some, Option.map_some, Sl.val, Sl.isInn, z_ixL, z_ixT, at0, at1, at2, at3, r_of, r_bind, r_thn, s_nx, s_ret, z_nx, z_asB, z_len, z_lenT, z_addI, z_mulR, z_mulL, z_sub, z_lt, z_le, z_gt, z_ge, z_mod, z_div, z_max2, z_min2, setSl, updP, modP, valAt, getP, setP, setV, pIdx, pRoot, z_ixN, z_setI, List.length_map, List.length_cons, List.length_nil, if_true, if_false, Bool.false_eq_true, Bool.not_true, Bool.not_false, decide_true, decide_false, sUnp, ast_t, setAll, sPar, sPar3, stp_l, stp_t, g1_l, g1_t, s1_l, s1_t, Nat.reduceBEq, asq_t, asq_l, sFor, iE, iBor, iLock, unlk, id_eq, z_lst0, imm, immL, sClr, m_nx, m_ret, m_exc, m_brk, m_ct, s_exc, s_brk, s_ct, c_nil, c_cons, clr1, e2v, e2p, sFldD, pFld, fP, eMethP, eMethR, List.contains_nil, List.contains_cons, Bool.or_false, fnR, mkc, okAr, okLe, arN, arL, bk, valO, qN, qV, qI, qL, gV, gI, gL, rP, eCall, ofP, eMut, tyok_l, tyok_dk, tyok_dt, ofM, eMake, mkR, pI, eMv, List.append_nil, r_thnx, eDisp, pCall, pMeth, lnd, List.length_append, List.length_replicate, List.replicate, Bool.and_true, Bool.true_and, Bool.and_self, beq_self_eq_true, List.all_nil, List.all_cons, ite_seq, ite_map, ite_bind, ite_thn, g1]
  unfold C_law_14
  rw [this]
theorem told_ev (scr x2 x4 x5 x6 x7 x8 x10 x12 x13 x14 x15 x16 : Sl) (h : Hs) (n : Int) (sm : List Fm) (one : Fm) (rs : List Row) (hr : rs.length ≤ 500000) (hl : sm.length ≤ 30000)
    (he : F_rows_of [.bor (.lst ((sm ++ [one]).map Fm.d)), .bor (.int n)] = .ret (.lst (rs.map Row.d)) [.bor (.lst ((sm ++ [one]).map Fm.d)), .bor (.int n)]) :
    C_law_17 (S1 scr h x2 (.own (.int n)) x4 x5 x6 x7 x8 .no x10 (.own (.lst (sm.map Fm.d))) x12 x13 x14 x15 x16 (.own one.d) .no .no .no .no) = .ok (.lst ((rs.filter isTold).map Row.d)) (S1 scr h x2 (.own (.int n)) x4 x5 x6 x7 x8 .no x10 (.own (.lst (sm.map Fm.d))) x12 x13 x14 x15 x16 (.own one.d) .no .no .no .no) := by
  have key : ∀ (rs acc : List Row), acc.length + rs.length ≤ 500000 → cmpL [21] (lendSl 21) T_law_15 E_law_16 (rs.map Row.d) (S1 scr h x2 (.own (.int n)) x4 x5 x6 x7 x8 .no x10 (.own (.lst (sm.map Fm.d))) x12 x13 x14 x15 x16 (.own one.d) .no .no .no .no) (acc.map Row.d) = .ok ((acc ++ rs.filter isTold).map Row.d) (S1 scr h x2 (.own (.int n)) x4 x5 x6 x7 x8 .no x10 (.own (.lst (sm.map Fm.d))) x12 x13 x14 x15 x16 (.own one.d) .no .no .no .no) := by
    intro rs
    induction rs with
    | nil => intro acc _; simp [cmpL]
    | cons r rs ih =>
      intro acc ha
      rw [List.length_cons] at ha
      have im := imm_Row r
      have r0 := row0_told r
      have st : lendSl 21 r.d (S1 scr h x2 (.own (.int n)) x4 x5 x6 x7 x8 .no x10 (.own (.lst (sm.map Fm.d))) x12 x13 x14 x15 x16 (.own one.d) .no .no .no .no) = some (S1 scr h x2 (.own (.int n)) x4 x5 x6 x7 x8 .no x10 (.own (.lst (sm.map Fm.d))) x12 x13 x14 x15 x16 (.own one.d) .no .no .no (.own r.d)) := by simp [lendSl, Sl.isInn, im]
      have tt : T_law_15 (S1 scr h x2 (.own (.int n)) x4 x5 x6 x7 x8 .no x10 (.own (.lst (sm.map Fm.d))) x12 x13 x14 x15 x16 (.own one.d) .no .no .no (.own r.d)) = .ok (isTold r) (S1 scr h x2 (.own (.int n)) x4 x5 x6 x7 x8 .no x10 (.own (.lst (sm.map Fm.d))) x12 x13 x14 x15 x16 (.own one.d) .no .no .no (.own r.d)) := by
        unfold T_law_15
        rw [row0, Option.bind_some] at r0
        have r1 := row0 r
        simp only [nl1, nl2, nl3, nl4, nc2, nc3, nc4, ix20, ix21, ix30, ix31, ix32, eq_self, isi_ii, isi_ib, isi_is, isi_itl, isi_ntl, isi_tt, isN_n, isN_i, tup2, z_eqI, z_neI, si0, si1, si2, tn0, tn1, tn2, tn3, List.nil_append, List.cons_append, sSeq, sSet, sIf, sRet, sItem, sDrop, sNil, eN, eI, tP, p2, p1, fV, fC, psC, psN, eaC, eaN, e1, e2, pBl, pAnd, pOr, pNot, pIf, eIf, on1_, on2_, List.getElem?_cons_zero, List.getElem?_cons_succ, List.set_cons_zero, List.set_cons_succ, Option.bind_some, Option.map_some, Sl.val, Sl.isInn, z_ixL, z_ixT, at0, at1, at2, at3, r_of, r_bind, r_thn, s_nx, s_ret, z_nx, z_asB, z_len, z_lenT, z_addI, z_mulR, z_mulL, z_sub, z_lt, z_le, z_gt, z_ge, z_mod, z_div, z_max2, z_min2, setSl, updP, modP, valAt, getP, setP, setV, pIdx, pRoot, z_ixN, z_setI, List.length_map, List.length_cons, List.length_nil, if_true, if_false, Bool.false_eq_true, Bool.not_true, Bool.not_false, decide_true, decide_false, sUnp, ast_t, setAll, sPar, sPar3, stp_l, stp_t, g1_l, g1_t, s1_l, s1_t, Nat.reduceBEq, asq_t, asq_l, sFor, iE, iBor, iLock, unlk, id_eq, z_lst0, imm, immL, sClr, m_nx, m_ret, m_exc, m_brk, m_ct, s_exc, s_brk, s_ct, c_nil, c_cons, clr1, e2v, e2p, sFldD, pFld, fP, eMethP, eMethR, List.contains_nil, List.contains_cons, Bool.or_false, fnR, mkc, okAr, okLe, arN, arL, bk, valO, qN, qV, qI, qL, gV, gI, gL, rP, eCall, ofP, eMut, tyok_l, tyok_dk, tyok_dt, ofM, eMake, mkR, pI, eMv, List.append_nil, r_thnx, eDisp, pCall, pMeth, lnd, List.length_append, List.length_replicate, List.replicate, Bool.and_true, Bool.true_and, Bool.and_self, beq_self_eq_true, List.all_nil, List.all_cons, ite_seq, ite_map, ite_bind, ite_thn, r1, r0]
      have te : E_law_16 (S1 scr h x2 (.own (.int n)) x4 x5 x6 x7 x8 .no x10 (.own (.lst (sm.map Fm.d))) x12 x13 x14 x15 x16 (.own one.d) .no .no .no (.own r.d)) = .ok r.d (S1 scr h x2 (.own (.int n)) x4 x5 x6 x7 x8 .no x10 (.own (.lst (sm.map Fm.d))) x12 x13 x14 x15 x16 (.own one.d) .no .no .no (.own r.d)) := by
        unfold E_law_16
        simp only [nl1, nl2, nl3, nl4, nc2, nc3, nc4, ix20, ix21, ix30, ix31, ix32, eq_self, isi_ii, isi_ib, isi_is, isi_itl, isi_ntl, isi_tt, isN_n, isN_i, tup2, z_eqI, z_neI, si0, si1, si2, tn0, tn1, tn2, tn3, List.nil_append, List.cons_append, sSeq, sSet, sIf, sRet, sItem, sDrop, sNil, eN, eI, tP, p2, p1, fV, fC, psC, psN, eaC, eaN, e1, e2, pBl, pAnd, pOr, pNot, pIf, eIf, on1_, on2_, List.getElem?_cons_zero, List.getElem?_cons_succ, List.set_cons_zero, List.set_cons_succ, Option.bind_some, Option.map_some, Sl.val, Sl.isInn, z_ixL, z_ixT, at0, at1, at2, at3, r_of, r_bind, r_thn, s_nx, s_ret, z_nx, z_asB, z_len, z_lenT, z_addI, z_mulR, z_mulL, z_sub, z_lt, z_le, z_gt, z_ge, z_mod, z_div, z_max2, z_min2, setSl, updP, modP, valAt, getP, setP, setV, pIdx, pRoot, z_ixN, z_setI, List.length_map, List.length_cons, List.length_nil, if_true, if_false, Bool.false_eq_true, Bool.not_true, Bool.not_false, decide_true, decide_false, sUnp, ast_t, setAll, sPar, sPar3, stp_l, stp_t, g1_l, g1_t, s1_l, s1_t, Nat.reduceBEq, asq_t, asq_l, sFor, iE, iBor, iLock, unlk, id_eq, z_lst0, imm, immL, sClr, m_nx, m_ret, m_exc, m_brk, m_ct, s_exc, s_brk, s_ct, c_nil, c_cons, clr1, e2v, e2p, sFldD, pFld, fP, eMethP, eMethR, List.contains_nil, List.contains_cons, Bool.or_false, fnR, mkc, okAr, okLe, arN, arL, bk, valO, qN, qV, qI, qL, gV, gI, gL, rP, eCall, ofP, eMut, tyok_l, tyok_dk, tyok_dt, ofM, eMake, mkR, pI, eMv, List.append_nil, r_thnx, eDisp, pCall, pMeth, lnd, List.length_append, List.length_replicate, List.replicate, Bool.and_true, Bool.true_and, Bool.and_self, beq_self_eq_true, List.all_nil, List.all_cons, ite_seq, ite_map, ite_bind, ite_thn, im]
      have cl : clrC [21] (S1 scr h x2 (.own (.int n)) x4 x5 x6 x7 x8 .no x10 (.own (.lst (sm.map Fm.d))) x12 x13 x14 x15 x16 (.own one.d) .no .no .no (.own r.d)) = some (S1 scr h x2 (.own (.int n)) x4 x5 x6 x7 x8 .no x10 (.own (.lst (sm.map Fm.d))) x12 x13 x14 x15 x16 (.own one.d) .no .no .no .no) := rfl
      rw [List.map_cons, cmpL]
      simp only [st, tt, te, cl]
      cases b : isTold r with
      | true =>
        have := ih (acc ++ [r]) (by rw [List.length_append, List.length_singleton]; omega)
        rw [List.map_append] at this
        rw [if_pos rfl, if_pos (by rw [List.length_map]; omega), List.filter_cons_of_pos b]
        simpa using this
      | false =>
        rw [if_neg (by simp), List.filter_cons_of_neg (by simp [b])]
        exact ih acc (by omega)
  have := key rs [] (by simpa using hr)
  rw [List.nil_append] at this
  have l1 : fLst [one.d] = some (.lst [one.d]) := by rw [z_fLst (by simp [immL, imm_F]) (by simp)]
  have ad := z_addL (a := sm.map Fm.d) (b := [one.d]) (imm_Fs _) (by simp [immL, imm_F]) (by simp; omega)
  have e : sm.map Fm.d ++ [one.d] = (sm ++ [one]).map Fm.d := by rw [List.map_append]; rfl
  rw [e] at ad
  have im := imm_F one
  unfold C_law_17
  refine cmp_run (s1 := S1 scr h x2 (.own (.int n)) x4 x5 x6 x7 x8 .no x10 (.own (.lst (sm.map Fm.d))) x12 x13 x14 x15 x16 (.own one.d) .no .no .no .no) ?_ rfl this
  simp only [nl1, nl2, nl3, nl4, nc2, nc3, nc4, ix20, ix21, ix30, ix31, ix32, eq_self, isi_ii, isi_ib, isi_is, isi_itl, isi_ntl, isi_tt, isN_n, isN_i, tup2, z_eqI, z_neI, si0, si1, si2, tn0, tn1, tn2, tn3, List.nil_append, List.cons_append, sSeq, sSet, sIf, sRet, sItem, sDrop, sNil, eN, eI, tP, p2, p1, fV, fC, psC, psN, eaC, eaN, e1, e2, pBl, pAnd, pOr, pNot, pIf, eIf, on1_, on2_, List.getElem?_cons_zero, List.getElem?_cons_succ, List.set_cons_zero, List.set_cons_succ, Option.bind_some, Option.map_some, Sl.val, Sl.isInn, z_ixL, z_ixT, at0, at1, at2, at3, r_of, r_bind, r_thn, s_nx, s_ret, z_nx, z_asB, z_len, z_lenT, z_addI, z_mulR, z_mulL, z_sub, z_lt, z_le, z_gt, z_ge, z_mod, z_div, z_max2, z_min2, setSl, updP, modP, valAt, getP, setP, setV, pIdx, pRoot, z_ixN, z_setI, List.length_map, List.length_cons, List.length_nil, if_true, if_false, Bool.false_eq_true, Bool.not_true, Bool.not_false, decide_true, decide_false, sUnp, ast_t, setAll, sPar, sPar3, stp_l, stp_t, g1_l, g1_t, s1_l, s1_t, Nat.reduceBEq, asq_t, asq_l, sFor, iE, iBor, iLock, unlk, id_eq, z_lst0, imm, immL, sClr, m_nx, m_ret, m_exc, m_brk, m_ct, s_exc, s_brk, s_ct, c_nil, c_cons, clr1, e2v, e2p, sFldD, pFld, fP, eMethP, eMethR, List.contains_nil, List.contains_cons, Bool.or_false, fnR, mkc, okAr, okLe, arN, arL, bk, valO, qN, qV, qI, qL, gV, gI, gL, rP, eCall, ofP, eMut, tyok_l, tyok_dk, tyok_dt, ofM, eMake, mkR, pI, eMv, List.append_nil, r_thnx, eDisp, pCall, pMeth, lnd, List.length_append, List.length_replicate, List.replicate, Bool.and_true, Bool.true_and, Bool.and_self, beq_self_eq_true, List.all_nil, List.all_cons, ite_seq, ite_map, ite_bind, ite_thn, l1, ad, he, im]
theorem less_ev (scr x2 x3 x4 x5 x6 x7 x8 x10 x11 x12 x13 x14 x16 x17 : Sl) (h : Hs) (due td : List Row) (hr : due.length ≤ 500000) (hs : ∀ r ∈ due, isTold r = true → r ∈ td) :
    C_law_20 (S1 scr h x2 x3 x4 x5 x6 x7 x8 .no x10 x11 x12 x13 x14 (.own (.lst (due.map Row.d))) x16 x17 (.own (.lst (td.map Row.d))) .no .no .no) = some (.lst []) := by
  have := pcmp_run (vs := [21]) (it := iP (fV 15)) (st := lendSl 21) (T := T_law_18) (E := E_law_19) (s := S1 scr h x2 x3 x4 x5 x6 x7 x8 .no x10 x11 x12 x13 x14 (.own (.lst (due.map Row.d))) x16 x17 (.own (.lst (td.map Row.d))) .no .no .no) (s0 := S1 scr h x2 x3 x4 x5 x6 x7 x8 .no x10 x11 x12 x13 x14 (.own (.lst (due.map Row.d))) x16 x17 (.own (.lst (td.map Row.d))) .no .no .no)
    Row.d (fun _ => false) Row.d due rfl (imm_mapL imm_Row _) (by omega) rfl fun r hrm => by
      have im := imm_Row r
      refine ⟨S1 scr h x2 x3 x4 x5 x6 x7 x8 .no x10 x11 x12 x13 x14 (.own (.lst (due.map Row.d))) x16 x17 (.own (.lst (td.map Row.d))) .no .no (.own r.d), by simp [lendSl, Sl.isInn, im], ?_, fun z => by cases z⟩
      have r0 := row0_told r
      rw [row0, Option.bind_some] at r0
      have r1 := row0 r
      have ni := in_Row true r td
      unfold T_law_18
      cases b : isTold r with
      | true =>
        rw [b] at r0 r1
        simp only [if_true] at r0
        have mm := hs r hrm b
        simp only [mm, decide_true, if_true, Bool.not_true] at ni
        simp only [nl1, nl2, nl3, nl4, nc2, nc3, nc4, ix20, ix21, ix30, ix31, ix32, eq_self, isi_ii, isi_ib, isi_is, isi_itl, isi_ntl, isi_tt, isN_n, isN_i, tup2, z_eqI, z_neI, si0, si1, si2, tn0, tn1, tn2, tn3, List.nil_append, List.cons_append, sSeq, sSet, sIf, sRet, sItem, sDrop, sNil, eN, eI, tP, p2, p1, fV, fC, psC, psN, eaC, eaN, e1, e2, pBl, pAnd, pOr, pNot, pIf, eIf, on1_, on2_, List.getElem?_cons_zero, List.getElem?_cons_succ, List.set_cons_zero, List.set_cons_succ, Option.bind_some, Option.map_some, Sl.val, Sl.isInn, z_ixL, z_ixT, at0, at1, at2, at3, r_of, r_bind, r_thn, s_nx, s_ret, z_nx, z_asB, z_len, z_lenT, z_addI, z_mulR, z_mulL, z_sub, z_lt, z_le, z_gt, z_ge, z_mod, z_div, z_max2, z_min2, setSl, updP, modP, valAt, getP, setP, setV, pIdx, pRoot, z_ixN, z_setI, List.length_map, List.length_cons, List.length_nil, if_true, if_false, Bool.false_eq_true, Bool.not_true, Bool.not_false, decide_true, decide_false, sUnp, ast_t, setAll, sPar, sPar3, stp_l, stp_t, g1_l, g1_t, s1_l, s1_t, Nat.reduceBEq, asq_t, asq_l, sFor, iE, iBor, iLock, unlk, id_eq, z_lst0, imm, immL, sClr, m_nx, m_ret, m_exc, m_brk, m_ct, s_exc, s_brk, s_ct, c_nil, c_cons, clr1, e2v, e2p, sFldD, pFld, fP, eMethP, eMethR, List.contains_nil, List.contains_cons, Bool.or_false, fnR, mkc, okAr, okLe, arN, arL, bk, valO, qN, qV, qI, qL, gV, gI, gL, rP, eCall, ofP, eMut, tyok_l, tyok_dk, tyok_dt, ofM, eMake, mkR, pI, eMv, List.append_nil, r_thnx, eDisp, pCall, pMeth, lnd, List.length_append, List.length_replicate, List.replicate, Bool.and_true, Bool.true_and, Bool.and_self, beq_self_eq_true, List.all_nil, List.all_cons, ite_seq, ite_map, ite_bind, ite_thn, r1, r0, ni]
      | false =>
        rw [b] at r0 r1
        simp only [Bool.false_eq_true, if_false] at r0
        simp only [nl1, nl2, nl3, nl4, nc2, nc3, nc4, ix20, ix21, ix30, ix31, ix32, eq_self, isi_ii, isi_ib, isi_is, isi_itl, isi_ntl, isi_tt, isN_n, isN_i, tup2, z_eqI, z_neI, si0, si1, si2, tn0, tn1, tn2, tn3, List.nil_append, List.cons_append, sSeq, sSet, sIf, sRet, sItem, sDrop, sNil, eN, eI, tP, p2, p1, fV, fC, psC, psN, eaC, eaN, e1, e2, pBl, pAnd, pOr, pNot, pIf, eIf, on1_, on2_, List.getElem?_cons_zero, List.getElem?_cons_succ, List.set_cons_zero, List.set_cons_succ, Option.bind_some, Option.map_some, Sl.val, Sl.isInn, z_ixL, z_ixT, at0, at1, at2, at3, r_of, r_bind, r_thn, s_nx, s_ret, z_nx, z_asB, z_len, z_lenT, z_addI, z_mulR, z_mulL, z_sub, z_lt, z_le, z_gt, z_ge, z_mod, z_div, z_max2, z_min2, setSl, updP, modP, valAt, getP, setP, setV, pIdx, pRoot, z_ixN, z_setI, List.length_map, List.length_cons, List.length_nil, if_true, if_false, Bool.false_eq_true, Bool.not_true, Bool.not_false, decide_true, decide_false, sUnp, ast_t, setAll, sPar, sPar3, stp_l, stp_t, g1_l, g1_t, s1_l, s1_t, Nat.reduceBEq, asq_t, asq_l, sFor, iE, iBor, iLock, unlk, id_eq, z_lst0, imm, immL, sClr, m_nx, m_ret, m_exc, m_brk, m_ct, s_exc, s_brk, s_ct, c_nil, c_cons, clr1, e2v, e2p, sFldD, pFld, fP, eMethP, eMethR, List.contains_nil, List.contains_cons, Bool.or_false, fnR, mkc, okAr, okLe, arN, arL, bk, valO, qN, qV, qI, qL, gV, gI, gL, rP, eCall, ofP, eMut, tyok_l, tyok_dk, tyok_dt, ofM, eMake, mkR, pI, eMv, List.append_nil, r_thnx, eDisp, pCall, pMeth, lnd, List.length_append, List.length_replicate, List.replicate, Bool.and_true, Bool.true_and, Bool.and_self, beq_self_eq_true, List.all_nil, List.all_cons, ite_seq, ite_map, ite_bind, ite_thn, r1, r0]
  unfold C_law_20
  rw [this, List.filter_eq_nil_iff.mpr (by simp)]
  rfl
theorem turn_ev (scr : Sl) (h : Hs) (k : Int) : ∃ h' : Hs, L_law_21 (S1 scr h (.own (.int k)) .no .no .no .no .no .no .no .no .no .no .no .no .no .no .no .no .no .no .no) = .nx (S1 scr h' .no .no .no .no .no .no .no .no .no .no .no .no .no .no .no .no .no .no .no .no) := by
  have b1 := v_bd (h := h) (m := 17) (by omega)
  have b2 := v_bd (h := h.s 17) (m := 4) (by omega)
  generalize hz : 8 + h.v 17 = z at *
  obtain ⟨n, rfl⟩ : ∃ n : Nat, z = n := ⟨z.toNat, by omega⟩
  generalize hst : (h.s 17).v 4 = st at b2
  obtain ⟨m, h2, m0, m1, q1⟩ := many_ev scr ((h.s 17).s 4) [.own (.int k), .own (.int n), .own (.int st), .no, .no, .no, .no, .no, .no, .no, .no, .no, .no, .no, .no, .no, .no, .no, .no, .no]
  obtain ⟨ts, h3, l1, l2, q2⟩ := tellings_ev scr h2 (.own (.int k)) (.own (.int n)) (.own (.int st)) m0 (by omega)
  have em : m = (ts.length : Int) := by omega
  subst em
  have n0 : 0 < n := by omega
  have FU := full n0 ts l2 (by omega)
  have fo1 := frames_of_ev (st := st) (sz := n) ts (by omega) (by omega) (by omega) l2
  have fl := framesOf_len (st := st) (sz := n) (ts := ts) (by omega) l2
  have fl2 : (framesOf st n ts).length ≤ 870 := by
    have le := FU.le
    have := congrArg List.length (FU.fr st)
    rw [List.length_map, List.length_range] at this
    rw [this]
    have : (fullS n ts).N.length / n ≤ (23 * 300 + n) / n := Nat.div_le_div_right (by omega)
    have : (23 * 300 + n) / n ≤ (23 * 300 + n) / 8 := Nat.div_le_div_left (by omega) (by omega)
    omega
  have isF := FU.isF st
  have leN := FU.le
  have okS : ∀ fs : List Fm, (∀ f ∈ fs, f ∈ framesOf st n ts) → OkFs n fs := fun fs h => okFs_good (by omega) FU.bd n0 (by omega) fun f hf => isF f (h f hf)
  have rE : ∀ fs : List Fm, (∀ f ∈ fs, f ∈ framesOf st n ts) → rowsIn fs = rowsW 0 (toldP n (fullS n ts).S (cts fs)) := fun fs h => rowsIn_any n0 FU.good fun f hf => isF f (h f hf)
  have ra : F_rows_of [.bor (.lst ((framesOf st n ts).map Fm.d)), .bor (.int n)] = .ret (.lst (((ixT 0 ts).map rTold).map Row.d)) [.bor (.lst ((framesOf st n ts).map Fm.d)), .bor (.int n)] := by
    have := rowsof_ev (okS _ fun f h => h) (by omega) (by omega)
    rw [FU.rows n0 st, show (0 : Int) = ((0 : Nat) : Int) from rfl, rowsW_ixT] at this
    exact this
  have q3 := all_ev scr (.own (.int k)) (.own (.int n)) (.own (.int st)) (.own (.lst ((framesOf st n ts).map Fm.d))) h3 ts (by omega)
  have fr := pfn_run (n := 1) (m := 0) (as := [.val (.int (n : Int))]) rfl rfl rfl (fresh_ev (n : Int)) rfl
  have q5 := lay_loop scr (.own (.int k)) (.own (.int n)) (.own (.int st)) (.own (.int ts.length)) (.own (.lst ((framesOf st n ts).map Fm.d))) h3 ts (n : Int) l2 (by omega)
  have b3 := v_bd (h := h3) (m := 3) (by omega)
  have b4 := pk3_r (l := 2) (u := 12) (v := h3.v 3) (x := 2) (y := 4) (z := 12) (by omega) (by omega) (by omega)
  generalize ho : pk3 (h3.v 3) 2 4 12 = o at b4
  obtain ⟨sm, h4, c1, c2, q6⟩ := some_ev scr (.own (.int k)) (.own (.int n)) (.own (.int st)) (.own (.int ts.length)) (.own (.lst (ts.map tD))) (.own (layS (Ls.new n) ts).d) (h3.s 3) (framesOf st n ts) (by omega) o (by omega)
  obtain ⟨mr, h5, c3, c4, q7⟩ := more_ev scr (.own (.int k)) (.own (.int n)) (.own (.int st)) (.own (.int ts.length)) (.own (.lst (ts.map tD))) (.own (.lst ((framesOf st n ts).map Fm.d))) (.own (layS (Ls.new n) ts).d) (.own (.int o)) h4 sm (by omega)
  have ad := z_addL (a := sm.map Fm.d) (b := mr.map Fm.d) (imm_Fs _) (imm_Fs _) (by rw [List.length_map, List.length_map]; omega)
  rw [← List.map_append] at ad
  obtain ⟨hd, h6, c5, q8⟩ := handed_ev scr (.own (.int k)) (.own (.int n)) (.own (.int st)) (.own (.int ts.length)) (.own (.lst (ts.map tD))) (.own (.lst ((framesOf st n ts).map Fm.d))) (.own (layS (Ls.new n) ts).d) (.own (.int o)) (.own (.lst (sm.map Fm.d))) h5 (sm ++ mr) (by rw [List.length_append]; omega)
  have c5l := c5.length_eq
  rw [List.length_append] at c5l
  have mm : ∀ f, f ∈ hd ↔ f ∈ sm := fun f => by
    rw [c5.mem_iff, List.mem_append]
    exact ⟨fun z => z.elim id (c3 f), .inl⟩
  have lsh := z_list (ds := hd.map Fm.d) (imm_Fs _)
  have q9 := counts_ev scr (.own (.int k)) (.own (.int n)) (.own (.int st)) (.own (.int ts.length)) (.own (.lst (ts.map tD))) (.own (.lst ((framesOf st n ts).map Fm.d))) (.own (layS (Ls.new n) ts).d) (.own (.int o)) (.own (.lst [])) (.own (.lst (hd.map Fm.d))) (.own (.lst (hd.map Fm.d))) h6 sm (by omega)
  rw [← cts_ints fun f hf => isF_ct (isF f (c1 f hf))] at q9
  have Ssz : (layS (Ls.new n) ts).sz = n := (layS_len ts (Ls.new n)).2.2
  have eS : (layS (Ls.new n) ts).S = (fullS n ts).S := rfl
  have lS : (fullS n ts).S.length = ts.length := by
    have := congrArg List.length FU.S
    rw [List.length_map] at this
    exact this
  have lr := pfn_run (n := 2) (m := 8) (as := [.val (layS (Ls.new n) ts).d, .val (.lst (((cts sm).map fun c : Nat => (c : Int)).map D.int))]) (Fn := F__law_rows) rfl rfl rfl (lrows_ev (layS (Ls.new n) ts) (n := n) (by omega) Ssz (cts sm) (by rw [eS, lS]; omega) (by
    rw [eS]
    intro x hx
    have := FU.good.le x hx
    have : x.2 ∈ ts := by rw [← FU.S]; exact List.mem_map_of_mem hx
    have := (l2 _ this).l2
    omega)) rfl
  rw [eS] at lr
  have hl1 := rows_len 0 (toldP n (fullS n ts).S (cts sm))
  have hl2 := toldP_len n (fullS n ts).S (cts sm)
  have rS := rE sm c1
  have rH := rE hd fun f hf => c1 f ((mm f).mp hf)
  rw [toldP_congr (n := n) (S := (fullS n ts).S) (P := cts hd) (Q := cts sm) (fun c => by
    unfold cts
    rw [List.mem_map, List.mem_map]
    exact ⟨fun ⟨f, a, b⟩ => ⟨f, (mm f).mp a, b⟩, fun ⟨f, a, b⟩ => ⟨f, (mm f).mpr a, b⟩⟩)] at rH
  have rh := rowsof_ev (okS hd fun f hf => c1 f ((mm f).mp hf)) (by omega) (by omega)
  have rs := rowsof_ev (okS sm c1) (by omega) (by omega)
  rw [rH] at rh
  rw [rS] at rs
  have one : ∀ f ∈ framesOf st n ts, F_rows_of [.bor (.lst ((sm ++ [f]).map Fm.d)), .bor (.int n)] = .ret (.lst ((rowsW 0 (toldP n (fullS n ts).S (cts (sm ++ [f])))).map Row.d)) [.bor (.lst ((sm ++ [f]).map Fm.d)), .bor (.int n)] := fun f hf => by
    have hm : ∀ g ∈ sm ++ [f], g ∈ framesOf st n ts := fun g hg => by
      rcases List.mem_append.mp hg with hg | hg
      · exact c1 g hg
      · simp at hg; subst hg; exact hf
    have := rowsof_ev (okS (sm ++ [f]) hm) (by omega) (by rw [List.length_append, List.length_singleton]; omega)
    rw [rE _ hm] at this
    exact this
  have keep : ∀ f, ∀ r ∈ rowsW 0 (toldP n (fullS n ts).S (cts sm)), isTold r = true → r ∈ (rowsW 0 (toldP n (fullS n ts).S (cts (sm ++ [f])))).filter isTold := fun f r hr ht => by
    have : r ∈ (rowsW 0 (toldP n (fullS n ts).S (cts sm))).filter isTold := List.mem_filter.mpr ⟨hr, ht⟩
    rw [told_rowsW] at this ⊢
    obtain ⟨p, hp, rfl⟩ := List.mem_map.mp this
    refine List.mem_map_of_mem (toldP_mono n0 (fun c hc => ?_) p hp)
    unfold cts at *
    rw [List.map_append]
    exact List.mem_append_left _ hc
  have rl : ∀ f, (rowsW 0 (toldP n (fullS n ts).S (cts (sm ++ [f])))).length ≤ 500000 := fun f => by
    have a1 := rows_len 0 (toldP n (fullS n ts).S (cts (sm ++ [f])))
    have a2 := toldP_len n (fullS n ts).S (cts (sm ++ [f]))
    omega
  have wr : wid (.lst ((rowsW 0 (toldP n (fullS n ts).S (cts sm))).map Row.d)) = true := by
    rw [wid_lst, ← widL_iff]
    refine ⟨by rw [List.length_map]; omega, widL_map fun r hr => wid_Row fun k t e => ?_⟩
    subst e
    have : Row.told k t ∈ (rowsW 0 (toldP n (fullS n ts).S (cts sm))).filter isTold := List.mem_filter.mpr ⟨hr, rfl⟩
    rw [told_rowsW] at this
    obtain ⟨p, hp, e⟩ := List.mem_map.mp this
    cases e
    unfold toldP at hp
    obtain ⟨x, hx, rfl⟩ := List.mem_map.mp hp
    have hx := nix_mem (List.mem_filter.mp hx).1
    have := FU.good.le x.2 hx
    show x.2.2.length ≤ _
    omega
  generalize hdue : rowsW 0 (toldP n (fullS n ts).S (cts sm)) = due at *
  have al := alike12 (d := .lst (due.map Row.d)) (by rw [shp_lst]; exact shp_map (shp_Row 8) _) wr
  have neR : ∀ rs : List Row, fNe (.lst (rs.map Row.d)) (.lst (rs.map Row.d)) = some (.bl false) := fun rs => by rw [rows_ne]; simp
  have neF : ∀ fs : List Fm, fNe (.lst (fs.map Fm.d)) (.lst (fs.map Fm.d)) = some (.bl false) := fun fs => z_neS (by rw [shp_lst]; exact shp_map (shp_F 57) _)
  have g2 : gTupD [.int (n : Int), .int st] = some (.tup [.int (n : Int), .int st]) := rfl
  have t0 : fTup [] = some (.tup []) := rfl
  have ap := z_app (ds := due.map Row.d) (d := .tup []) (by rw [List.length_map]; omega)
  have im0 : imm (.tup []) = true := rfl
  -- the last of them: one frame more
  have last : ∃ h7 : Hs, sClr [17, 18] (sIf (tP (p1 asB (p2 fNe (fV 7) (p1 fLst psN)))) (sSeq (sSet 17 (e2x 7 (eCall 2 2 F__law_next (rP (qI 1 pRoot (qV (p1 (on1 fLen) (psC (fV 7) psN)) qN))))))
      (sSeq (sSet 18 C_law_17)
      (sIf (tP (p1 asB (p2 fNe C_law_20 (p1 fLst psN)))) (sRet (eN (fC (.bl false)))) sNil))) sNil) (S1 scr h6 (.own (.int k)) (.own (.int n)) (.own (.int st)) (.own (.int ts.length)) (.own (.lst (ts.map tD))) (.own (.lst ((framesOf st n ts).map Fm.d))) (.own (layS (Ls.new n) ts).d) .no (.own (.int o)) (.own (.lst (sm.map Fm.d))) (.own (.lst [])) (.own (.lst (hd.map Fm.d))) (.own (.lst (hd.map Fm.d))) (.own (.lst (due.map Row.d))) (.own (.lst (due.map Row.d ++ [.tup []]))) .no .no .no .no .no) = .nx (S1 scr h7 (.own (.int k)) (.own (.int n)) (.own (.int st)) (.own (.int ts.length)) (.own (.lst (ts.map tD))) (.own (.lst ((framesOf st n ts).map Fm.d))) (.own (layS (Ls.new n) ts).d) .no (.own (.int o)) (.own (.lst (sm.map Fm.d))) (.own (.lst [])) (.own (.lst (hd.map Fm.d))) (.own (.lst (hd.map Fm.d))) (.own (.lst (due.map Row.d))) (.own (.lst (due.map Row.d ++ [.tup []]))) .no .no .no .no .no) := by
    have ne := ne_Fs (framesOf st n ts)
    by_cases c : framesOf st n ts = []
    · refine ⟨h6, clr_nx (s1 := S1 scr h6 (.own (.int k)) (.own (.int n)) (.own (.int st)) (.own (.int ts.length)) (.own (.lst (ts.map tD))) (.own (.lst ((framesOf st n ts).map Fm.d))) (.own (layS (Ls.new n) ts).d) .no (.own (.int o)) (.own (.lst (sm.map Fm.d))) (.own (.lst [])) (.own (.lst (hd.map Fm.d))) (.own (.lst (hd.map Fm.d))) (.own (.lst (due.map Row.d))) (.own (.lst (due.map Row.d ++ [.tup []]))) .no .no .no .no .no) ?_ (by simp only [nl1, nl2, nl3, nl4, nc2, nc3, nc4, ix20, ix21, ix30, ix31, ix32, eq_self, isi_ii, isi_ib, isi_is, isi_itl, isi_ntl, isi_tt, isN_n, isN_i, tup2, z_eqI, z_neI, si0, si1, si2, tn0, tn1, tn2, tn3, List.nil_append, List.cons_append, sSeq, sSet, sIf, sRet, sItem, sDrop, sNil, eN, eI, tP, p2, p1, fV, fC, psC, psN, eaC, eaN, e1, e2, pBl, pAnd, pOr, pNot, pIf, eIf, on1_, on2_, List.getElem?_cons_zero, List.getElem?_cons_succ, List.set_cons_zero, List.set_cons_succ, Option.bind_some, Option.map_some, Sl.val, Sl.isInn, z_ixL, z_ixT, at0, at1, at2, at3, r_of, r_bind, r_thn, s_nx, s_ret, z_nx, z_asB, z_len, z_lenT, z_addI, z_mulR, z_mulL, z_sub, z_lt, z_le, z_gt, z_ge, z_mod, z_div, z_max2, z_min2, setSl, updP, modP, valAt, getP, setP, setV, pIdx, pRoot, z_ixN, z_setI, List.length_map, List.length_cons, List.length_nil, if_true, if_false, Bool.false_eq_true, Bool.not_true, Bool.not_false, decide_true, decide_false, sUnp, ast_t, setAll, sPar, sPar3, stp_l, stp_t, g1_l, g1_t, s1_l, s1_t, Nat.reduceBEq, asq_t, asq_l, sFor, iE, iBor, iLock, unlk, id_eq, z_lst0, imm, immL, sClr, m_nx, m_ret, m_exc, m_brk, m_ct, s_exc, s_brk, s_ct, c_nil, c_cons, clr1, e2v, e2p, sFldD, pFld, fP, eMethP, eMethR, List.contains_nil, List.contains_cons, Bool.or_false, fnR, mkc, okAr, okLe, arN, arL, bk, valO, qN, qV, qI, qL, gV, gI, gL, rP, eCall, ofP, eMut, tyok_l, tyok_dk, tyok_dt, ofM, eMake, mkR, pI, eMv, List.append_nil, r_thnx, eDisp, pCall, pMeth, lnd, List.length_append, List.length_replicate, List.replicate, Bool.and_true, Bool.true_and, Bool.and_self, beq_self_eq_true, List.all_nil, List.all_cons, ite_seq, ite_map, ite_bind, ite_thn])⟩
      rw [show (framesOf st n ts).isEmpty = true by rw [c]; rfl] at ne
      simp only [nl1, nl2, nl3, nl4, nc2, nc3, nc4, ix20, ix21, ix30, ix31, ix32, eq_self, isi_ii, isi_ib, isi_is, isi_itl, isi_ntl, isi_tt, isN_n, isN_i, tup2, z_eqI, z_neI, si0, si1, si2, tn0, tn1, tn2, tn3, List.nil_append, List.cons_append, sSeq, sSet, sIf, sRet, sItem, sDrop, sNil, eN, eI, tP, p2, p1, fV, fC, psC, psN, eaC, eaN, e1, e2, pBl, pAnd, pOr, pNot, pIf, eIf, on1_, on2_, List.getElem?_cons_zero, List.getElem?_cons_succ, List.set_cons_zero, List.set_cons_succ, Option.bind_some, Option.map_some, Sl.val, Sl.isInn, z_ixL, z_ixT, at0, at1, at2, at3, r_of, r_bind, r_thn, s_nx, s_ret, z_nx, z_asB, z_len, z_lenT, z_addI, z_mulR, z_mulL, z_sub, z_lt, z_le, z_gt, z_ge, z_mod, z_div, z_max2, z_min2, setSl, updP, modP, valAt, getP, setP, setV, pIdx, pRoot, z_ixN, z_setI, List.length_map, List.length_cons, List.length_nil, if_true, if_false, Bool.false_eq_true, Bool.not_true, Bool.not_false, decide_true, decide_false, sUnp, ast_t, setAll, sPar, sPar3, stp_l, stp_t, g1_l, g1_t, s1_l, s1_t, Nat.reduceBEq, asq_t, asq_l, sFor, iE, iBor, iLock, unlk, id_eq, z_lst0, imm, immL, sClr, m_nx, m_ret, m_exc, m_brk, m_ct, s_exc, s_brk, s_ct, c_nil, c_cons, clr1, e2v, e2p, sFldD, pFld, fP, eMethP, eMethR, List.contains_nil, List.contains_cons, Bool.or_false, fnR, mkc, okAr, okLe, arN, arL, bk, valO, qN, qV, qI, qL, gV, gI, gL, rP, eCall, ofP, eMut, tyok_l, tyok_dk, tyok_dt, ofM, eMake, mkR, pI, eMv, List.append_nil, r_thnx, eDisp, pCall, pMeth, lnd, List.length_append, List.length_replicate, List.replicate, Bool.and_true, Bool.true_and, Bool.and_self, beq_self_eq_true, List.all_nil, List.all_cons, ite_seq, ite_map, ite_bind, ite_thn, ne]
    · rw [show (framesOf st n ts).isEmpty = false by simpa using c] at ne
      have l0 : 0 < (framesOf st n ts).length := List.length_pos_iff.mpr c
      have b := v_bd (h := h6) (m := ((framesOf st n ts).length : Int)) (by omega)
      have nx := next_ev h6 (m := ((framesOf st n ts).length : Int)) (by omega) (by omega)
      generalize hv : h6.v ((framesOf st n ts).length : Int) = v at b
      rw [hv] at nx
      have hlt : v.toNat < (framesOf st n ts).length := by omega
      have ix := at_map Fm.d hlt
      rw [show ((v.toNat : Nat) : Int) = v by omega] at ix
      have mf : (framesOf st n ts)[v.toNat] ∈ framesOf st n ts := List.getElem_mem hlt
      generalize (framesOf st n ts)[v.toNat] = g at ix mf
      have ig := imm_F g
      have ln := len_Fs (framesOf st n ts)
      refine ⟨h6.s ((framesOf st n ts).length : Int), clr_nx (s1 := S1 scr (h6.s ((framesOf st n ts).length : Int)) (.own (.int k)) (.own (.int n)) (.own (.int st)) (.own (.int ts.length)) (.own (.lst (ts.map tD))) (.own (.lst ((framesOf st n ts).map Fm.d))) (.own (layS (Ls.new n) ts).d) .no (.own (.int o)) (.own (.lst (sm.map Fm.d))) (.own (.lst [])) (.own (.lst (hd.map Fm.d))) (.own (.lst (hd.map Fm.d))) (.own (.lst (due.map Row.d))) (.own (.lst (due.map Row.d ++ [.tup []]))) (.own g.d) (.own (.lst (((rowsW 0 (toldP n (fullS n ts).S (cts (sm ++ [g])))).filter isTold).map Row.d))) .no .no .no) ?_ (by simp only [nl1, nl2, nl3, nl4, nc2, nc3, nc4, ix20, ix21, ix30, ix31, ix32, eq_self, isi_ii, isi_ib, isi_is, isi_itl, isi_ntl, isi_tt, isN_n, isN_i, tup2, z_eqI, z_neI, si0, si1, si2, tn0, tn1, tn2, tn3, List.nil_append, List.cons_append, sSeq, sSet, sIf, sRet, sItem, sDrop, sNil, eN, eI, tP, p2, p1, fV, fC, psC, psN, eaC, eaN, e1, e2, pBl, pAnd, pOr, pNot, pIf, eIf, on1_, on2_, List.getElem?_cons_zero, List.getElem?_cons_succ, List.set_cons_zero, List.set_cons_succ, Option.bind_some, Option.map_some, Sl.val, Sl.isInn, z_ixL, z_ixT, at0, at1, at2, at3, r_of, r_bind, r_thn, s_nx, s_ret, z_nx, z_asB, z_len, z_lenT, z_addI, z_mulR, z_mulL, z_sub, z_lt, z_le, z_gt, z_ge, z_mod, z_div, z_max2, z_min2, setSl, updP, modP, valAt, getP, setP, setV, pIdx, pRoot, z_ixN, z_setI, List.length_map, List.length_cons, List.length_nil, if_true, if_false, Bool.false_eq_true, Bool.not_true, Bool.not_false, decide_true, decide_false, sUnp, ast_t, setAll, sPar, sPar3, stp_l, stp_t, g1_l, g1_t, s1_l, s1_t, Nat.reduceBEq, asq_t, asq_l, sFor, iE, iBor, iLock, unlk, id_eq, z_lst0, imm, immL, sClr, m_nx, m_ret, m_exc, m_brk, m_ct, s_exc, s_brk, s_ct, c_nil, c_cons, clr1, e2v, e2p, sFldD, pFld, fP, eMethP, eMethR, List.contains_nil, List.contains_cons, Bool.or_false, fnR, mkc, okAr, okLe, arN, arL, bk, valO, qN, qV, qI, qL, gV, gI, gL, rP, eCall, ofP, eMut, tyok_l, tyok_dk, tyok_dt, ofM, eMake, mkR, pI, eMv, List.append_nil, r_thnx, eDisp, pCall, pMeth, lnd, List.length_append, List.length_replicate, List.replicate, Bool.and_true, Bool.true_and, Bool.and_self, beq_self_eq_true, List.all_nil, List.all_cons, ite_seq, ite_map, ite_bind, ite_thn])⟩
      rw [if_run (b := true) (s1 := S1 scr h6 (.own (.int k)) (.own (.int n)) (.own (.int st)) (.own (.int ts.length)) (.own (.lst (ts.map tD))) (.own (.lst ((framesOf st n ts).map Fm.d))) (.own (layS (Ls.new n) ts).d) .no (.own (.int o)) (.own (.lst (sm.map Fm.d))) (.own (.lst [])) (.own (.lst (hd.map Fm.d))) (.own (.lst (hd.map Fm.d))) (.own (.lst (due.map Row.d))) (.own (.lst (due.map Row.d ++ [.tup []]))) .no .no .no .no .no) (by simp only [nl1, nl2, nl3, nl4, nc2, nc3, nc4, ix20, ix21, ix30, ix31, ix32, eq_self, isi_ii, isi_ib, isi_is, isi_itl, isi_ntl, isi_tt, isN_n, isN_i, tup2, z_eqI, z_neI, si0, si1, si2, tn0, tn1, tn2, tn3, List.nil_append, List.cons_append, sSeq, sSet, sIf, sRet, sItem, sDrop, sNil, eN, eI, tP, p2, p1, fV, fC, psC, psN, eaC, eaN, e1, e2, pBl, pAnd, pOr, pNot, pIf, eIf, on1_, on2_, List.getElem?_cons_zero, List.getElem?_cons_succ, List.set_cons_zero, List.set_cons_succ, Option.bind_some, Option.map_some, Sl.val, Sl.isInn, z_ixL, z_ixT, at0, at1, at2, at3, r_of, r_bind, r_thn, s_nx, s_ret, z_nx, z_asB, z_len, z_lenT, z_addI, z_mulR, z_mulL, z_sub, z_lt, z_le, z_gt, z_ge, z_mod, z_div, z_max2, z_min2, setSl, updP, modP, valAt, getP, setP, setV, pIdx, pRoot, z_ixN, z_setI, List.length_map, List.length_cons, List.length_nil, if_true, if_false, Bool.false_eq_true, Bool.not_true, Bool.not_false, decide_true, decide_false, sUnp, ast_t, setAll, sPar, sPar3, stp_l, stp_t, g1_l, g1_t, s1_l, s1_t, Nat.reduceBEq, asq_t, asq_l, sFor, iE, iBor, iLock, unlk, id_eq, z_lst0, imm, immL, sClr, m_nx, m_ret, m_exc, m_brk, m_ct, s_exc, s_brk, s_ct, c_nil, c_cons, clr1, e2v, e2p, sFldD, pFld, fP, eMethP, eMethR, List.contains_nil, List.contains_cons, Bool.or_false, fnR, mkc, okAr, okLe, arN, arL, bk, valO, qN, qV, qI, qL, gV, gI, gL, rP, eCall, ofP, eMut, tyok_l, tyok_dk, tyok_dt, ofM, eMake, mkR, pI, eMv, List.append_nil, r_thnx, eDisp, pCall, pMeth, lnd, List.length_append, List.length_replicate, List.replicate, Bool.and_true, Bool.true_and, Bool.and_self, beq_self_eq_true, List.all_nil, List.all_cons, ite_seq, ite_map, ite_bind, ite_thn, ne]), if_pos rfl]
      have tl := told_ev scr (.own (.int k)) (.own (.int st)) (.own (.int ts.length)) (.own (.lst (ts.map tD))) (.own (.lst ((framesOf st n ts).map Fm.d))) (.own (layS (Ls.new n) ts).d) (.own (.int o)) (.own (.lst [])) (.own (.lst (hd.map Fm.d))) (.own (.lst (hd.map Fm.d))) (.own (.lst (due.map Row.d))) (.own (.lst (due.map Row.d ++ [.tup []]))) (h6.s ((framesOf st n ts).length : Int)) n sm g _ (rl g) (by omega) (one g mf)
      have le := less_ev scr (.own (.int k)) (.own (.int n)) (.own (.int st)) (.own (.int ts.length)) (.own (.lst (ts.map tD))) (.own (.lst ((framesOf st n ts).map Fm.d))) (.own (layS (Ls.new n) ts).d) (.own (.int o)) (.own (.lst (sm.map Fm.d))) (.own (.lst [])) (.own (.lst (hd.map Fm.d))) (.own (.lst (hd.map Fm.d))) (.own (.lst (due.map Row.d ++ [.tup []]))) (.own g.d) (h6.s ((framesOf st n ts).length : Int)) due _ (by omega) (keep g)
      have nn : fNe (.lst []) (.lst []) = some (.bl false) := z_nNil (ds := []) rfl
      refine seq_nx (s1 := S1 scr (h6.s ((framesOf st n ts).length : Int)) (.own (.int k)) (.own (.int n)) (.own (.int st)) (.own (.int ts.length)) (.own (.lst (ts.map tD))) (.own (.lst ((framesOf st n ts).map Fm.d))) (.own (layS (Ls.new n) ts).d) .no (.own (.int o)) (.own (.lst (sm.map Fm.d))) (.own (.lst [])) (.own (.lst (hd.map Fm.d))) (.own (.lst (hd.map Fm.d))) (.own (.lst (due.map Row.d))) (.own (.lst (due.map Row.d ++ [.tup []]))) (.own g.d) .no .no .no .no) ?_ ?_
      · simp only [nl1, nl2, nl3, nl4, nc2, nc3, nc4, ix20, ix21, ix30, ix31, ix32, eq_self, isi_ii, isi_ib, isi_is, isi_itl, isi_ntl, isi_tt, isN_n, isN_i, tup2, z_eqI, z_neI, si0, si1, si2, tn0, tn1, tn2, tn3, List.nil_append, List.cons_append, sSeq, sSet, sIf, sRet, sItem, sDrop, sNil, eN, eI, tP, p2, p1, fV, fC, psC, psN, eaC, eaN, e1, e2, pBl, pAnd, pOr, pNot, pIf, eIf, on1_, on2_, List.getElem?_cons_zero, List.getElem?_cons_succ, List.set_cons_zero, List.set_cons_succ, Option.bind_some, Option.map_some, Sl.val, Sl.isInn, z_ixL, z_ixT, at0, at1, at2, at3, r_of, r_bind, r_thn, s_nx, s_ret, z_nx, z_asB, z_len, z_lenT, z_addI, z_mulR, z_mulL, z_sub, z_lt, z_le, z_gt, z_ge, z_mod, z_div, z_max2, z_min2, setSl, updP, modP, valAt, getP, setP, setV, pIdx, pRoot, z_ixN, z_setI, List.length_map, List.length_cons, List.length_nil, if_true, if_false, Bool.false_eq_true, Bool.not_true, Bool.not_false, decide_true, decide_false, sUnp, ast_t, setAll, sPar, sPar3, stp_l, stp_t, g1_l, g1_t, s1_l, s1_t, Nat.reduceBEq, asq_t, asq_l, sFor, iE, iBor, iLock, unlk, id_eq, z_lst0, imm, immL, sClr, m_nx, m_ret, m_exc, m_brk, m_ct, s_exc, s_brk, s_ct, c_nil, c_cons, clr1, e2v, e2p, sFldD, pFld, fP, eMethP, eMethR, List.contains_nil, List.contains_cons, Bool.or_false, fnR, mkc, okAr, okLe, arN, arL, bk, valO, qN, qV, qI, qL, gV, gI, gL, rP, eCall, ofP, eMut, tyok_l, tyok_dk, tyok_dt, ofM, eMake, mkR, pI, eMv, List.append_nil, r_thnx, eDisp, pCall, pMeth, lnd, List.length_append, List.length_replicate, List.replicate, Bool.and_true, Bool.true_and, Bool.and_self, beq_self_eq_true, List.all_nil, List.all_cons, ite_seq, ite_map, ite_bind, ite_thn, e2x, impD, ln, nx, ix, ig]
      refine seq_nx (s1 := S1 scr (h6.s ((framesOf st n ts).length : Int)) (.own (.int k)) (.own (.int n)) (.own (.int st)) (.own (.int ts.length)) (.own (.lst (ts.map tD))) (.own (.lst ((framesOf st n ts).map Fm.d))) (.own (layS (Ls.new n) ts).d) .no (.own (.int o)) (.own (.lst (sm.map Fm.d))) (.own (.lst [])) (.own (.lst (hd.map Fm.d))) (.own (.lst (hd.map Fm.d))) (.own (.lst (due.map Row.d))) (.own (.lst (due.map Row.d ++ [.tup []]))) (.own g.d) (.own (.lst (((rowsW 0 (toldP n (fullS n ts).S (cts (sm ++ [g])))).filter isTold).map Row.d))) .no .no .no) ?_ ?_
      · simp only [nl1, nl2, nl3, nl4, nc2, nc3, nc4, ix20, ix21, ix30, ix31, ix32, eq_self, isi_ii, isi_ib, isi_is, isi_itl, isi_ntl, isi_tt, isN_n, isN_i, tup2, z_eqI, z_neI, si0, si1, si2, tn0, tn1, tn2, tn3, List.nil_append, List.cons_append, sSeq, sSet, sIf, sRet, sItem, sDrop, sNil, eN, eI, tP, p2, p1, fV, fC, psC, psN, eaC, eaN, e1, e2, pBl, pAnd, pOr, pNot, pIf, eIf, on1_, on2_, List.getElem?_cons_zero, List.getElem?_cons_succ, List.set_cons_zero, List.set_cons_succ, Option.bind_some, Option.map_some, Sl.val, Sl.isInn, z_ixL, z_ixT, at0, at1, at2, at3, r_of, r_bind, r_thn, s_nx, s_ret, z_nx, z_asB, z_len, z_lenT, z_addI, z_mulR, z_mulL, z_sub, z_lt, z_le, z_gt, z_ge, z_mod, z_div, z_max2, z_min2, setSl, updP, modP, valAt, getP, setP, setV, pIdx, pRoot, z_ixN, z_setI, List.length_map, List.length_cons, List.length_nil, if_true, if_false, Bool.false_eq_true, Bool.not_true, Bool.not_false, decide_true, decide_false, sUnp, ast_t, setAll, sPar, sPar3, stp_l, stp_t, g1_l, g1_t, s1_l, s1_t, Nat.reduceBEq, asq_t, asq_l, sFor, iE, iBor, iLock, unlk, id_eq, z_lst0, imm, immL, sClr, m_nx, m_ret, m_exc, m_brk, m_ct, s_exc, s_brk, s_ct, c_nil, c_cons, clr1, e2v, e2p, sFldD, pFld, fP, eMethP, eMethR, List.contains_nil, List.contains_cons, Bool.or_false, fnR, mkc, okAr, okLe, arN, arL, bk, valO, qN, qV, qI, qL, gV, gI, gL, rP, eCall, ofP, eMut, tyok_l, tyok_dk, tyok_dt, ofM, eMake, mkR, pI, eMv, List.append_nil, r_thnx, eDisp, pCall, pMeth, lnd, List.length_append, List.length_replicate, List.replicate, Bool.and_true, Bool.true_and, Bool.and_self, beq_self_eq_true, List.all_nil, List.all_cons, ite_seq, ite_map, ite_bind, ite_thn, tl]
      simp only [nl1, nl2, nl3, nl4, nc2, nc3, nc4, ix20, ix21, ix30, ix31, ix32, eq_self, isi_ii, isi_ib, isi_is, isi_itl, isi_ntl, isi_tt, isN_n, isN_i, tup2, z_eqI, z_neI, si0, si1, si2, tn0, tn1, tn2, tn3, List.nil_append, List.cons_append, sSeq, sSet, sIf, sRet, sItem, sDrop, sNil, eN, eI, tP, p2, p1, fV, fC, psC, psN, eaC, eaN, e1, e2, pBl, pAnd, pOr, pNot, pIf, eIf, on1_, on2_, List.getElem?_cons_zero, List.getElem?_cons_succ, List.set_cons_zero, List.set_cons_succ, Option.bind_some, Option.map_some, Sl.val, Sl.isInn, z_ixL, z_ixT, at0, at1, at2, at3, r_of, r_bind, r_thn, s_nx, s_ret, z_nx, z_asB, z_len, z_lenT, z_addI, z_mulR, z_mulL, z_sub, z_lt, z_le, z_gt, z_ge, z_mod, z_div, z_max2, z_min2, setSl, updP, modP, valAt, getP, setP, setV, pIdx, pRoot, z_ixN, z_setI, List.length_map, List.length_cons, List.length_nil, if_true, if_false, Bool.false_eq_true, Bool.not_true, Bool.not_false, decide_true, decide_false, sUnp, ast_t, setAll, sPar, sPar3, stp_l, stp_t, g1_l, g1_t, s1_l, s1_t, Nat.reduceBEq, asq_t, asq_l, sFor, iE, iBor, iLock, unlk, id_eq, z_lst0, imm, immL, sClr, m_nx, m_ret, m_exc, m_brk, m_ct, s_exc, s_brk, s_ct, c_nil, c_cons, clr1, e2v, e2p, sFldD, pFld, fP, eMethP, eMethR, List.contains_nil, List.contains_cons, Bool.or_false, fnR, mkc, okAr, okLe, arN, arL, bk, valO, qN, qV, qI, qL, gV, gI, gL, rP, eCall, ofP, eMut, tyok_l, tyok_dk, tyok_dt, ofM, eMake, mkR, pI, eMv, List.append_nil, r_thnx, eDisp, pCall, pMeth, lnd, List.length_append, List.length_replicate, List.replicate, Bool.and_true, Bool.true_and, Bool.and_self, beq_self_eq_true, List.all_nil, List.all_cons, ite_seq, ite_map, ite_bind, ite_thn, le, nn]
  obtain ⟨h7, last⟩ := last
  refine ⟨h7, ?_⟩
  unfold L_law_21
  refine clr_nx (s1 := S1 scr h7 (.own (.int k)) (.own (.int n)) (.own (.int st)) (.own (.int ts.length)) (.own (.lst (ts.map tD))) (.own (.lst ((framesOf st n ts).map Fm.d))) (.own (layS (Ls.new n) ts).d) .no (.own (.int o)) (.own (.lst (sm.map Fm.d))) (.own (.lst [])) (.own (.lst (hd.map Fm.d))) (.own (.lst (hd.map Fm.d))) (.own (.lst (due.map Row.d))) (.own (.lst (due.map Row.d ++ [.tup []]))) .no .no .no .no .no) ?_ (by simp only [nl1, nl2, nl3, nl4, nc2, nc3, nc4, ix20, ix21, ix30, ix31, ix32, eq_self, isi_ii, isi_ib, isi_is, isi_itl, isi_ntl, isi_tt, isN_n, isN_i, tup2, z_eqI, z_neI, si0, si1, si2, tn0, tn1, tn2, tn3, List.nil_append, List.cons_append, sSeq, sSet, sIf, sRet, sItem, sDrop, sNil, eN, eI, tP, p2, p1, fV, fC, psC, psN, eaC, eaN, e1, e2, pBl, pAnd, pOr, pNot, pIf, eIf, on1_, on2_, List.getElem?_cons_zero, List.getElem?_cons_succ, List.set_cons_zero, List.set_cons_succ, Option.bind_some, Option.map_some, Sl.val, Sl.isInn, z_ixL, z_ixT, at0, at1, at2, at3, r_of, r_bind, r_thn, s_nx, s_ret, z_nx, z_asB, z_len, z_lenT, z_addI, z_mulR, z_mulL, z_sub, z_lt, z_le, z_gt, z_ge, z_mod, z_div, z_max2, z_min2, setSl, updP, modP, valAt, getP, setP, setV, pIdx, pRoot, z_ixN, z_setI, List.length_map, List.length_cons, List.length_nil, if_true, if_false, Bool.false_eq_true, Bool.not_true, Bool.not_false, decide_true, decide_false, sUnp, ast_t, setAll, sPar, sPar3, stp_l, stp_t, g1_l, g1_t, s1_l, s1_t, Nat.reduceBEq, asq_t, asq_l, sFor, iE, iBor, iLock, unlk, id_eq, z_lst0, imm, immL, sClr, m_nx, m_ret, m_exc, m_brk, m_ct, s_exc, s_brk, s_ct, c_nil, c_cons, clr1, e2v, e2p, sFldD, pFld, fP, eMethP, eMethR, List.contains_nil, List.contains_cons, Bool.or_false, fnR, mkc, okAr, okLe, arN, arL, bk, valO, qN, qV, qI, qL, gV, gI, gL, rP, eCall, ofP, eMut, tyok_l, tyok_dk, tyok_dt, ofM, eMake, mkR, pI, eMv, List.append_nil, r_thnx, eDisp, pCall, pMeth, lnd, List.length_append, List.length_replicate, List.replicate, Bool.and_true, Bool.true_and, Bool.and_self, beq_self_eq_true, List.all_nil, List.all_cons, ite_seq, ite_map, ite_bind, ite_thn])
  refine seq_nx (s1 := S1 scr ((h.s 17).s 4) (.own (.int k)) (.own (.int n)) (.own (.int st)) .no .no .no .no .no .no .no .no .no .no .no .no .no .no .no .no .no) ?_ ?_
  · simp (disch := first | assumption | omega) only [nl1, nl2, nl3, nl4, nc2, nc3, nc4, ix20, ix21, ix30, ix31, ix32, eq_self, isi_ii, isi_ib, isi_is, isi_itl, isi_ntl, isi_tt, isN_n, isN_i, tup2, z_eqI, z_neI, si0, si1, si2, tn0, tn1, tn2, tn3, List.nil_append, List.cons_append, sSeq, sSet, sIf, sRet, sItem, sDrop, sNil, eN, eI, tP, p2, p1, fV, fC, psC, psN, eaC, eaN, e1, e2, pBl, pAnd, pOr, pNot, pIf, eIf, on1_, on2_, List.getElem?_cons_zero, List.getElem?_cons_succ, List.set_cons_zero, List.set_cons_succ, Option.bind_some, Option.map_some, Sl.val, Sl.isInn, z_ixL, z_ixT, at0, at1, at2, at3, r_of, r_bind, r_thn, s_nx, s_ret, z_nx, z_asB, z_len, z_lenT, z_addI, z_mulR, z_mulL, z_sub, z_lt, z_le, z_gt, z_ge, z_mod, z_div, z_max2, z_min2, setSl, updP, modP, valAt, getP, setP, setV, pIdx, pRoot, z_ixN, z_setI, List.length_map, List.length_cons, List.length_nil, if_true, if_false, Bool.false_eq_true, Bool.not_true, Bool.not_false, decide_true, decide_false, sUnp, ast_t, setAll, sPar, sPar3, stp_l, stp_t, g1_l, g1_t, s1_l, s1_t, Nat.reduceBEq, asq_t, asq_l, sFor, iE, iBor, iLock, unlk, id_eq, z_lst0, imm, immL, sClr, m_nx, m_ret, m_exc, m_brk, m_ct, s_exc, s_brk, s_ct, c_nil, c_cons, clr1, e2v, e2p, sFldD, pFld, fP, eMethP, eMethR, List.contains_nil, List.contains_cons, Bool.or_false, fnR, mkc, okAr, okLe, arN, arL, bk, valO, qN, qV, qI, qL, gV, gI, gL, rP, eCall, ofP, eMut, tyok_l, tyok_dk, tyok_dt, ofM, eMake, mkR, pI, eMv, List.append_nil, r_thnx, eDisp, pCall, pMeth, lnd, List.length_append, List.length_replicate, List.replicate, Bool.and_true, Bool.true_and, Bool.and_self, beq_self_eq_true, List.all_nil, List.all_cons, ite_seq, ite_map, ite_bind, ite_thn, next_ev, hz, hst, g2]
  refine seq_nx (s1 := S1 scr h2 (.own (.int k)) (.own (.int n)) (.own (.int st)) (.own (.int ts.length)) .no .no .no .no .no .no .no .no .no .no .no .no .no .no .no .no) ?_ ?_
  · simp (disch := first | assumption | omega) only [nl1, nl2, nl3, nl4, nc2, nc3, nc4, ix20, ix21, ix30, ix31, ix32, eq_self, isi_ii, isi_ib, isi_is, isi_itl, isi_ntl, isi_tt, isN_n, isN_i, tup2, z_eqI, z_neI, si0, si1, si2, tn0, tn1, tn2, tn3, List.nil_append, List.cons_append, sSeq, sSet, sIf, sRet, sItem, sDrop, sNil, eN, eI, tP, p2, p1, fV, fC, psC, psN, eaC, eaN, e1, e2, pBl, pAnd, pOr, pNot, pIf, eIf, on1_, on2_, List.getElem?_cons_zero, List.getElem?_cons_succ, List.set_cons_zero, List.set_cons_succ, Option.bind_some, Option.map_some, Sl.val, Sl.isInn, z_ixL, z_ixT, at0, at1, at2, at3, r_of, r_bind, r_thn, s_nx, s_ret, z_nx, z_asB, z_len, z_lenT, z_addI, z_mulR, z_mulL, z_sub, z_lt, z_le, z_gt, z_ge, z_mod, z_div, z_max2, z_min2, setSl, updP, modP, valAt, getP, setP, setV, pIdx, pRoot, z_ixN, z_setI, List.length_map, List.length_cons, List.length_nil, if_true, if_false, Bool.false_eq_true, Bool.not_true, Bool.not_false, decide_true, decide_false, sUnp, ast_t, setAll, sPar, sPar3, stp_l, stp_t, g1_l, g1_t, s1_l, s1_t, Nat.reduceBEq, asq_t, asq_l, sFor, iE, iBor, iLock, unlk, id_eq, z_lst0, imm, immL, sClr, m_nx, m_ret, m_exc, m_brk, m_ct, s_exc, s_brk, s_ct, c_nil, c_cons, clr1, e2v, e2p, sFldD, pFld, fP, eMethP, eMethR, List.contains_nil, List.contains_cons, Bool.or_false, fnR, mkc, okAr, okLe, arN, arL, bk, valO, qN, qV, qI, qL, gV, gI, gL, rP, eCall, ofP, eMut, tyok_l, tyok_dk, tyok_dt, ofM, eMake, mkR, pI, eMv, List.append_nil, r_thnx, eDisp, pCall, pMeth, lnd, List.length_append, List.length_replicate, List.replicate, Bool.and_true, Bool.true_and, Bool.and_self, beq_self_eq_true, List.all_nil, List.all_cons, ite_seq, ite_map, ite_bind, ite_thn, ↓q1]
  refine seq_nx (s1 := S1 scr h3 (.own (.int k)) (.own (.int n)) (.own (.int st)) (.own (.int ts.length)) (.own (.lst (ts.map tD))) .no .no .no .no .no .no .no .no .no .no .no .no .no .no .no) ?_ ?_
  · simp (disch := first | assumption | omega) only [nl1, nl2, nl3, nl4, nc2, nc3, nc4, ix20, ix21, ix30, ix31, ix32, eq_self, isi_ii, isi_ib, isi_is, isi_itl, isi_ntl, isi_tt, isN_n, isN_i, tup2, z_eqI, z_neI, si0, si1, si2, tn0, tn1, tn2, tn3, List.nil_append, List.cons_append, sSeq, sSet, sIf, sRet, sItem, sDrop, sNil, eN, eI, tP, p2, p1, fV, fC, psC, psN, eaC, eaN, e1, e2, pBl, pAnd, pOr, pNot, pIf, eIf, on1_, on2_, List.getElem?_cons_zero, List.getElem?_cons_succ, List.set_cons_zero, List.set_cons_succ, Option.bind_some, Option.map_some, Sl.val, Sl.isInn, z_ixL, z_ixT, at0, at1, at2, at3, r_of, r_bind, r_thn, s_nx, s_ret, z_nx, z_asB, z_len, z_lenT, z_addI, z_mulR, z_mulL, z_sub, z_lt, z_le, z_gt, z_ge, z_mod, z_div, z_max2, z_min2, setSl, updP, modP, valAt, getP, setP, setV, pIdx, pRoot, z_ixN, z_setI, List.length_map, List.length_cons, List.length_nil, if_true, if_false, Bool.false_eq_true, Bool.not_true, Bool.not_false, decide_true, decide_false, sUnp, ast_t, setAll, sPar, sPar3, stp_l, stp_t, g1_l, g1_t, s1_l, s1_t, Nat.reduceBEq, asq_t, asq_l, sFor, iE, iBor, iLock, unlk, id_eq, z_lst0, imm, immL, sClr, m_nx, m_ret, m_exc, m_brk, m_ct, s_exc, s_brk, s_ct, c_nil, c_cons, clr1, e2v, e2p, sFldD, pFld, fP, eMethP, eMethR, List.contains_nil, List.contains_cons, Bool.or_false, fnR, mkc, okAr, okLe, arN, arL, bk, valO, qN, qV, qI, qL, gV, gI, gL, rP, eCall, ofP, eMut, tyok_l, tyok_dk, tyok_dt, ofM, eMake, mkR, pI, eMv, List.append_nil, r_thnx, eDisp, pCall, pMeth, lnd, List.length_append, List.length_replicate, List.replicate, Bool.and_true, Bool.true_and, Bool.and_self, beq_self_eq_true, List.all_nil, List.all_cons, ite_seq, ite_map, ite_bind, ite_thn, q2]
  refine seq_nx (s1 := S1 scr h3 (.own (.int k)) (.own (.int n)) (.own (.int st)) (.own (.int ts.length)) (.own (.lst (ts.map tD))) (.own (.lst ((framesOf st n ts).map Fm.d))) .no .no .no .no .no .no .no .no .no .no .no .no .no .no) ?_ ?_
  · simp (disch := first | assumption | omega) only [nl1, nl2, nl3, nl4, nc2, nc3, nc4, ix20, ix21, ix30, ix31, ix32, eq_self, isi_ii, isi_ib, isi_is, isi_itl, isi_ntl, isi_tt, isN_n, isN_i, tup2, z_eqI, z_neI, si0, si1, si2, tn0, tn1, tn2, tn3, List.nil_append, List.cons_append, sSeq, sSet, sIf, sRet, sItem, sDrop, sNil, eN, eI, tP, p2, p1, fV, fC, psC, psN, eaC, eaN, e1, e2, pBl, pAnd, pOr, pNot, pIf, eIf, on1_, on2_, List.getElem?_cons_zero, List.getElem?_cons_succ, List.set_cons_zero, List.set_cons_succ, Option.bind_some, Option.map_some, Sl.val, Sl.isInn, z_ixL, z_ixT, at0, at1, at2, at3, r_of, r_bind, r_thn, s_nx, s_ret, z_nx, z_asB, z_len, z_lenT, z_addI, z_mulR, z_mulL, z_sub, z_lt, z_le, z_gt, z_ge, z_mod, z_div, z_max2, z_min2, setSl, updP, modP, valAt, getP, setP, setV, pIdx, pRoot, z_ixN, z_setI, List.length_map, List.length_cons, List.length_nil, if_true, if_false, Bool.false_eq_true, Bool.not_true, Bool.not_false, decide_true, decide_false, sUnp, ast_t, setAll, sPar, sPar3, stp_l, stp_t, g1_l, g1_t, s1_l, s1_t, Nat.reduceBEq, asq_t, asq_l, sFor, iE, iBor, iLock, unlk, id_eq, z_lst0, imm, immL, sClr, m_nx, m_ret, m_exc, m_brk, m_ct, s_exc, s_brk, s_ct, c_nil, c_cons, clr1, e2v, e2p, sFldD, pFld, fP, eMethP, eMethR, List.contains_nil, List.contains_cons, Bool.or_false, fnR, mkc, okAr, okLe, arN, arL, bk, valO, qN, qV, qI, qL, gV, gI, gL, rP, eCall, ofP, eMut, tyok_l, tyok_dk, tyok_dt, ofM, eMake, mkR, pI, eMv, List.append_nil, r_thnx, eDisp, pCall, pMeth, lnd, List.length_append, List.length_replicate, List.replicate, Bool.and_true, Bool.true_and, Bool.and_self, beq_self_eq_true, List.all_nil, List.all_cons, ite_seq, ite_map, ite_bind, ite_thn, fo1]
  refine seq_nx (s1 := S1 scr h3 (.own (.int k)) (.own (.int n)) (.own (.int st)) (.own (.int ts.length)) (.own (.lst (ts.map tD))) (.own (.lst ((framesOf st n ts).map Fm.d))) .no .no .no .no .no .no .no .no .no .no .no .no .no .no) ?_ ?_
  · simp (disch := first | assumption | omega) only [nl1, nl2, nl3, nl4, nc2, nc3, nc4, ix20, ix21, ix30, ix31, ix32, eq_self, isi_ii, isi_ib, isi_is, isi_itl, isi_ntl, isi_tt, isN_n, isN_i, tup2, z_eqI, z_neI, si0, si1, si2, tn0, tn1, tn2, tn3, List.nil_append, List.cons_append, sSeq, sSet, sIf, sRet, sItem, sDrop, sNil, eN, eI, tP, p2, p1, fV, fC, psC, psN, eaC, eaN, e1, e2, pBl, pAnd, pOr, pNot, pIf, eIf, on1_, on2_, List.getElem?_cons_zero, List.getElem?_cons_succ, List.set_cons_zero, List.set_cons_succ, Option.bind_some, Option.map_some, Sl.val, Sl.isInn, z_ixL, z_ixT, at0, at1, at2, at3, r_of, r_bind, r_thn, s_nx, s_ret, z_nx, z_asB, z_len, z_lenT, z_addI, z_mulR, z_mulL, z_sub, z_lt, z_le, z_gt, z_ge, z_mod, z_div, z_max2, z_min2, setSl, updP, modP, valAt, getP, setP, setV, pIdx, pRoot, z_ixN, z_setI, List.length_map, List.length_cons, List.length_nil, if_true, if_false, Bool.false_eq_true, Bool.not_true, Bool.not_false, decide_true, decide_false, sUnp, ast_t, setAll, sPar, sPar3, stp_l, stp_t, g1_l, g1_t, s1_l, s1_t, Nat.reduceBEq, asq_t, asq_l, sFor, iE, iBor, iLock, unlk, id_eq, z_lst0, imm, immL, sClr, m_nx, m_ret, m_exc, m_brk, m_ct, s_exc, s_brk, s_ct, c_nil, c_cons, clr1, e2v, e2p, sFldD, pFld, fP, eMethP, eMethR, List.contains_nil, List.contains_cons, Bool.or_false, fnR, mkc, okAr, okLe, arN, arL, bk, valO, qN, qV, qI, qL, gV, gI, gL, rP, eCall, ofP, eMut, tyok_l, tyok_dk, tyok_dt, ofM, eMake, mkR, pI, eMv, List.append_nil, r_thnx, eDisp, pCall, pMeth, lnd, List.length_append, List.length_replicate, List.replicate, Bool.and_true, Bool.true_and, Bool.and_self, beq_self_eq_true, List.all_nil, List.all_cons, ite_seq, ite_map, ite_bind, ite_thn, ra, q3, neR]
  refine seq_nx (s1 := S1 scr h3 (.own (.int k)) (.own (.int n)) (.own (.int st)) (.own (.int ts.length)) (.own (.lst (ts.map tD))) (.own (.lst ((framesOf st n ts).map Fm.d))) (.own (Ls.new n).d) .no .no .no .no .no .no .no .no .no .no .no .no .no) ?_ ?_
  · simp (disch := first | assumption | omega) only [nl1, nl2, nl3, nl4, nc2, nc3, nc4, ix20, ix21, ix30, ix31, ix32, eq_self, isi_ii, isi_ib, isi_is, isi_itl, isi_ntl, isi_tt, isN_n, isN_i, tup2, z_eqI, z_neI, si0, si1, si2, tn0, tn1, tn2, tn3, List.nil_append, List.cons_append, sSeq, sSet, sIf, sRet, sItem, sDrop, sNil, eN, eI, tP, p2, p1, fV, fC, psC, psN, eaC, eaN, e1, e2, pBl, pAnd, pOr, pNot, pIf, eIf, on1_, on2_, List.getElem?_cons_zero, List.getElem?_cons_succ, List.set_cons_zero, List.set_cons_succ, Option.bind_some, Option.map_some, Sl.val, Sl.isInn, z_ixL, z_ixT, at0, at1, at2, at3, r_of, r_bind, r_thn, s_nx, s_ret, z_nx, z_asB, z_len, z_lenT, z_addI, z_mulR, z_mulL, z_sub, z_lt, z_le, z_gt, z_ge, z_mod, z_div, z_max2, z_min2, setSl, updP, modP, valAt, getP, setP, setV, pIdx, pRoot, z_ixN, z_setI, List.length_map, List.length_cons, List.length_nil, if_true, if_false, Bool.false_eq_true, Bool.not_true, Bool.not_false, decide_true, decide_false, sUnp, ast_t, setAll, sPar, sPar3, stp_l, stp_t, g1_l, g1_t, s1_l, s1_t, Nat.reduceBEq, asq_t, asq_l, sFor, iE, iBor, iLock, unlk, id_eq, z_lst0, imm, immL, sClr, m_nx, m_ret, m_exc, m_brk, m_ct, s_exc, s_brk, s_ct, c_nil, c_cons, clr1, e2v, e2p, sFldD, pFld, fP, eMethP, eMethR, List.contains_nil, List.contains_cons, Bool.or_false, fnR, mkc, okAr, okLe, arN, arL, bk, valO, qN, qV, qI, qL, gV, gI, gL, rP, eCall, ofP, eMut, tyok_l, tyok_dk, tyok_dt, ofM, eMake, mkR, pI, eMv, List.append_nil, r_thnx, eDisp, pCall, pMeth, lnd, List.length_append, List.length_replicate, List.replicate, Bool.and_true, Bool.true_and, Bool.and_self, beq_self_eq_true, List.all_nil, List.all_cons, ite_seq, ite_map, ite_bind, ite_thn, fr]
  refine seq_nx (s1 := S1 scr h3 (.own (.int k)) (.own (.int n)) (.own (.int st)) (.own (.int ts.length)) (.own (.lst (ts.map tD))) (.own (.lst ((framesOf st n ts).map Fm.d))) (.own (layS (Ls.new n) ts).d) .no .no .no .no .no .no .no .no .no .no .no .no .no) ?_ ?_
  · simp (disch := first | assumption | omega) only [nl1, nl2, nl3, nl4, nc2, nc3, nc4, ix20, ix21, ix30, ix31, ix32, eq_self, isi_ii, isi_ib, isi_is, isi_itl, isi_ntl, isi_tt, isN_n, isN_i, tup2, z_eqI, z_neI, si0, si1, si2, tn0, tn1, tn2, tn3, List.nil_append, List.cons_append, sSeq, sSet, sIf, sRet, sItem, sDrop, sNil, eN, eI, tP, p2, p1, fV, fC, psC, psN, eaC, eaN, e1, e2, pBl, pAnd, pOr, pNot, pIf, eIf, on1_, on2_, List.getElem?_cons_zero, List.getElem?_cons_succ, List.set_cons_zero, List.set_cons_succ, Option.bind_some, Option.map_some, Sl.val, Sl.isInn, z_ixL, z_ixT, at0, at1, at2, at3, r_of, r_bind, r_thn, s_nx, s_ret, z_nx, z_asB, z_len, z_lenT, z_addI, z_mulR, z_mulL, z_sub, z_lt, z_le, z_gt, z_ge, z_mod, z_div, z_max2, z_min2, setSl, updP, modP, valAt, getP, setP, setV, pIdx, pRoot, z_ixN, z_setI, List.length_map, List.length_cons, List.length_nil, if_true, if_false, Bool.false_eq_true, Bool.not_true, Bool.not_false, decide_true, decide_false, sUnp, ast_t, setAll, sPar, sPar3, stp_l, stp_t, g1_l, g1_t, s1_l, s1_t, Nat.reduceBEq, asq_t, asq_l, sFor, iE, iBor, iLock, unlk, id_eq, z_lst0, imm, immL, sClr, m_nx, m_ret, m_exc, m_brk, m_ct, s_exc, s_brk, s_ct, c_nil, c_cons, clr1, e2v, e2p, sFldD, pFld, fP, eMethP, eMethR, List.contains_nil, List.contains_cons, Bool.or_false, fnR, mkc, okAr, okLe, arN, arL, bk, valO, qN, qV, qI, qL, gV, gI, gL, rP, eCall, ofP, eMut, tyok_l, tyok_dk, tyok_dt, ofM, eMake, mkR, pI, eMv, List.append_nil, r_thnx, eDisp, pCall, pMeth, lnd, List.length_append, List.length_replicate, List.replicate, Bool.and_true, Bool.true_and, Bool.and_self, beq_self_eq_true, List.all_nil, List.all_cons, ite_seq, ite_map, ite_bind, ite_thn, q5]
  refine seq_nx (s1 := S1 scr (h3.s 3) (.own (.int k)) (.own (.int n)) (.own (.int st)) (.own (.int ts.length)) (.own (.lst (ts.map tD))) (.own (.lst ((framesOf st n ts).map Fm.d))) (.own (layS (Ls.new n) ts).d) .no (.own (.int o)) .no .no .no .no .no .no .no .no .no .no .no) ?_ ?_
  · simp (disch := first | assumption | omega) only [nl1, nl2, nl3, nl4, nc2, nc3, nc4, ix20, ix21, ix30, ix31, ix32, eq_self, isi_ii, isi_ib, isi_is, isi_itl, isi_ntl, isi_tt, isN_n, isN_i, tup2, z_eqI, z_neI, si0, si1, si2, tn0, tn1, tn2, tn3, List.nil_append, List.cons_append, sSeq, sSet, sIf, sRet, sItem, sDrop, sNil, eN, eI, tP, p2, p1, fV, fC, psC, psN, eaC, eaN, e1, e2, pBl, pAnd, pOr, pNot, pIf, eIf, on1_, on2_, List.getElem?_cons_zero, List.getElem?_cons_succ, List.set_cons_zero, List.set_cons_succ, Option.bind_some, Option.map_some, Sl.val, Sl.isInn, z_ixL, z_ixT, at0, at1, at2, at3, r_of, r_bind, r_thn, s_nx, s_ret, z_nx, z_asB, z_len, z_lenT, z_addI, z_mulR, z_mulL, z_sub, z_lt, z_le, z_gt, z_ge, z_mod, z_div, z_max2, z_min2, setSl, updP, modP, valAt, getP, setP, setV, pIdx, pRoot, z_ixN, z_setI, List.length_map, List.length_cons, List.length_nil, if_true, if_false, Bool.false_eq_true, Bool.not_true, Bool.not_false, decide_true, decide_false, sUnp, ast_t, setAll, sPar, sPar3, stp_l, stp_t, g1_l, g1_t, s1_l, s1_t, Nat.reduceBEq, asq_t, asq_l, sFor, iE, iBor, iLock, unlk, id_eq, z_lst0, imm, immL, sClr, m_nx, m_ret, m_exc, m_brk, m_ct, s_exc, s_brk, s_ct, c_nil, c_cons, clr1, e2v, e2p, sFldD, pFld, fP, eMethP, eMethR, List.contains_nil, List.contains_cons, Bool.or_false, fnR, mkc, okAr, okLe, arN, arL, bk, valO, qN, qV, qI, qL, gV, gI, gL, rP, eCall, ofP, eMut, tyok_l, tyok_dk, tyok_dt, ofM, eMake, mkR, pI, eMv, List.append_nil, r_thnx, eDisp, pCall, pMeth, lnd, List.length_append, List.length_replicate, List.replicate, Bool.and_true, Bool.true_and, Bool.and_self, beq_self_eq_true, List.all_nil, List.all_cons, ite_seq, ite_map, ite_bind, ite_thn, z_l3, next_ev, z_pk3, ho]
  refine seq_nx (s1 := S1 scr h4 (.own (.int k)) (.own (.int n)) (.own (.int st)) (.own (.int ts.length)) (.own (.lst (ts.map tD))) (.own (.lst ((framesOf st n ts).map Fm.d))) (.own (layS (Ls.new n) ts).d) .no (.own (.int o)) (.own (.lst (sm.map Fm.d))) .no .no .no .no .no .no .no .no .no .no) ?_ ?_
  · simp (disch := first | assumption | omega) only [nl1, nl2, nl3, nl4, nc2, nc3, nc4, ix20, ix21, ix30, ix31, ix32, eq_self, isi_ii, isi_ib, isi_is, isi_itl, isi_ntl, isi_tt, isN_n, isN_i, tup2, z_eqI, z_neI, si0, si1, si2, tn0, tn1, tn2, tn3, List.nil_append, List.cons_append, sSeq, sSet, sIf, sRet, sItem, sDrop, sNil, eN, eI, tP, p2, p1, fV, fC, psC, psN, eaC, eaN, e1, e2, pBl, pAnd, pOr, pNot, pIf, eIf, on1_, on2_, List.getElem?_cons_zero, List.getElem?_cons_succ, List.set_cons_zero, List.set_cons_succ, Option.bind_some, Option.map_some, Sl.val, Sl.isInn, z_ixL, z_ixT, at0, at1, at2, at3, r_of, r_bind, r_thn, s_nx, s_ret, z_nx, z_asB, z_len, z_lenT, z_addI, z_mulR, z_mulL, z_sub, z_lt, z_le, z_gt, z_ge, z_mod, z_div, z_max2, z_min2, setSl, updP, modP, valAt, getP, setP, setV, pIdx, pRoot, z_ixN, z_setI, List.length_map, List.length_cons, List.length_nil, if_true, if_false, Bool.false_eq_true, Bool.not_true, Bool.not_false, decide_true, decide_false, sUnp, ast_t, setAll, sPar, sPar3, stp_l, stp_t, g1_l, g1_t, s1_l, s1_t, Nat.reduceBEq, asq_t, asq_l, sFor, iE, iBor, iLock, unlk, id_eq, z_lst0, imm, immL, sClr, m_nx, m_ret, m_exc, m_brk, m_ct, s_exc, s_brk, s_ct, c_nil, c_cons, clr1, e2v, e2p, sFldD, pFld, fP, eMethP, eMethR, List.contains_nil, List.contains_cons, Bool.or_false, fnR, mkc, okAr, okLe, arN, arL, bk, valO, qN, qV, qI, qL, gV, gI, gL, rP, eCall, ofP, eMut, tyok_l, tyok_dk, tyok_dt, ofM, eMake, mkR, pI, eMv, List.append_nil, r_thnx, eDisp, pCall, pMeth, lnd, List.length_append, List.length_replicate, List.replicate, Bool.and_true, Bool.true_and, Bool.and_self, beq_self_eq_true, List.all_nil, List.all_cons, ite_seq, ite_map, ite_bind, ite_thn, q6]
  refine seq_nx (s1 := S1 scr h5 (.own (.int k)) (.own (.int n)) (.own (.int st)) (.own (.int ts.length)) (.own (.lst (ts.map tD))) (.own (.lst ((framesOf st n ts).map Fm.d))) (.own (layS (Ls.new n) ts).d) .no (.own (.int o)) (.own (.lst (sm.map Fm.d))) (.own (.lst ((sm ++ mr).map Fm.d))) .no .no .no .no .no .no .no .no .no) ?_ ?_
  · simp (disch := first | assumption | omega) only [nl1, nl2, nl3, nl4, nc2, nc3, nc4, ix20, ix21, ix30, ix31, ix32, eq_self, isi_ii, isi_ib, isi_is, isi_itl, isi_ntl, isi_tt, isN_n, isN_i, tup2, z_eqI, z_neI, si0, si1, si2, tn0, tn1, tn2, tn3, List.nil_append, List.cons_append, sSeq, sSet, sIf, sRet, sItem, sDrop, sNil, eN, eI, tP, p2, p1, fV, fC, psC, psN, eaC, eaN, e1, e2, pBl, pAnd, pOr, pNot, pIf, eIf, on1_, on2_, List.getElem?_cons_zero, List.getElem?_cons_succ, List.set_cons_zero, List.set_cons_succ, Option.bind_some, Option.map_some, Sl.val, Sl.isInn, z_ixL, z_ixT, at0, at1, at2, at3, r_of, r_bind, r_thn, s_nx, s_ret, z_nx, z_asB, z_len, z_lenT, z_addI, z_mulR, z_mulL, z_sub, z_lt, z_le, z_gt, z_ge, z_mod, z_div, z_max2, z_min2, setSl, updP, modP, valAt, getP, setP, setV, pIdx, pRoot, z_ixN, z_setI, List.length_map, List.length_cons, List.length_nil, if_true, if_false, Bool.false_eq_true, Bool.not_true, Bool.not_false, decide_true, decide_false, sUnp, ast_t, setAll, sPar, sPar3, stp_l, stp_t, g1_l, g1_t, s1_l, s1_t, Nat.reduceBEq, asq_t, asq_l, sFor, iE, iBor, iLock, unlk, id_eq, z_lst0, imm, immL, sClr, m_nx, m_ret, m_exc, m_brk, m_ct, s_exc, s_brk, s_ct, c_nil, c_cons, clr1, e2v, e2p, sFldD, pFld, fP, eMethP, eMethR, List.contains_nil, List.contains_cons, Bool.or_false, fnR, mkc, okAr, okLe, arN, arL, bk, valO, qN, qV, qI, qL, gV, gI, gL, rP, eCall, ofP, eMut, tyok_l, tyok_dk, tyok_dt, ofM, eMake, mkR, pI, eMv, List.append_nil, r_thnx, eDisp, pCall, pMeth, lnd, List.length_append, List.length_replicate, List.replicate, Bool.and_true, Bool.true_and, Bool.and_self, beq_self_eq_true, List.all_nil, List.all_cons, ite_seq, ite_map, ite_bind, ite_thn, q7, ad]
  refine seq_nx (s1 := S1 scr h6 (.own (.int k)) (.own (.int n)) (.own (.int st)) (.own (.int ts.length)) (.own (.lst (ts.map tD))) (.own (.lst ((framesOf st n ts).map Fm.d))) (.own (layS (Ls.new n) ts).d) .no (.own (.int o)) (.own (.lst (sm.map Fm.d))) (.own (.lst [])) (.own (.lst (hd.map Fm.d))) .no .no .no .no .no .no .no .no) ?_ ?_
  · simp (disch := first | assumption | omega) only [nl1, nl2, nl3, nl4, nc2, nc3, nc4, ix20, ix21, ix30, ix31, ix32, eq_self, isi_ii, isi_ib, isi_is, isi_itl, isi_ntl, isi_tt, isN_n, isN_i, tup2, z_eqI, z_neI, si0, si1, si2, tn0, tn1, tn2, tn3, List.nil_append, List.cons_append, sSeq, sSet, sIf, sRet, sItem, sDrop, sNil, eN, eI, tP, p2, p1, fV, fC, psC, psN, eaC, eaN, e1, e2, pBl, pAnd, pOr, pNot, pIf, eIf, on1_, on2_, List.getElem?_cons_zero, List.getElem?_cons_succ, List.set_cons_zero, List.set_cons_succ, Option.bind_some, Option.map_some, Sl.val, Sl.isInn, z_ixL, z_ixT, at0, at1, at2, at3, r_of, r_bind, r_thn, s_nx, s_ret, z_nx, z_asB, z_len, z_lenT, z_addI, z_mulR, z_mulL, z_sub, z_lt, z_le, z_gt, z_ge, z_mod, z_div, z_max2, z_min2, setSl, updP, modP, valAt, getP, setP, setV, pIdx, pRoot, z_ixN, z_setI, List.length_map, List.length_cons, List.length_nil, if_true, if_false, Bool.false_eq_true, Bool.not_true, Bool.not_false, decide_true, decide_false, sUnp, ast_t, setAll, sPar, sPar3, stp_l, stp_t, g1_l, g1_t, s1_l, s1_t, Nat.reduceBEq, asq_t, asq_l, sFor, iE, iBor, iLock, unlk, id_eq, z_lst0, imm, immL, sClr, m_nx, m_ret, m_exc, m_brk, m_ct, s_exc, s_brk, s_ct, c_nil, c_cons, clr1, e2v, e2p, sFldD, pFld, fP, eMethP, eMethR, List.contains_nil, List.contains_cons, Bool.or_false, fnR, mkc, okAr, okLe, arN, arL, bk, valO, qN, qV, qI, qL, gV, gI, gL, rP, eCall, ofP, eMut, tyok_l, tyok_dk, tyok_dt, ofM, eMake, mkR, pI, eMv, List.append_nil, r_thnx, eDisp, pCall, pMeth, lnd, List.length_append, List.length_replicate, List.replicate, Bool.and_true, Bool.true_and, Bool.and_self, beq_self_eq_true, List.all_nil, List.all_cons, ite_seq, ite_map, ite_bind, ite_thn, q8]
  refine seq_nx (s1 := S1 scr h6 (.own (.int k)) (.own (.int n)) (.own (.int st)) (.own (.int ts.length)) (.own (.lst (ts.map tD))) (.own (.lst ((framesOf st n ts).map Fm.d))) (.own (layS (Ls.new n) ts).d) .no (.own (.int o)) (.own (.lst (sm.map Fm.d))) (.own (.lst [])) (.own (.lst (hd.map Fm.d))) (.own (.lst (hd.map Fm.d))) .no .no .no .no .no .no .no) ?_ ?_
  · simp (disch := first | assumption | omega) only [nl1, nl2, nl3, nl4, nc2, nc3, nc4, ix20, ix21, ix30, ix31, ix32, eq_self, isi_ii, isi_ib, isi_is, isi_itl, isi_ntl, isi_tt, isN_n, isN_i, tup2, z_eqI, z_neI, si0, si1, si2, tn0, tn1, tn2, tn3, List.nil_append, List.cons_append, sSeq, sSet, sIf, sRet, sItem, sDrop, sNil, eN, eI, tP, p2, p1, fV, fC, psC, psN, eaC, eaN, e1, e2, pBl, pAnd, pOr, pNot, pIf, eIf, on1_, on2_, List.getElem?_cons_zero, List.getElem?_cons_succ, List.set_cons_zero, List.set_cons_succ, Option.bind_some, Option.map_some, Sl.val, Sl.isInn, z_ixL, z_ixT, at0, at1, at2, at3, r_of, r_bind, r_thn, s_nx, s_ret, z_nx, z_asB, z_len, z_lenT, z_addI, z_mulR, z_mulL, z_sub, z_lt, z_le, z_gt, z_ge, z_mod, z_div, z_max2, z_min2, setSl, updP, modP, valAt, getP, setP, setV, pIdx, pRoot, z_ixN, z_setI, List.length_map, List.length_cons, List.length_nil, if_true, if_false, Bool.false_eq_true, Bool.not_true, Bool.not_false, decide_true, decide_false, sUnp, ast_t, setAll, sPar, sPar3, stp_l, stp_t, g1_l, g1_t, s1_l, s1_t, Nat.reduceBEq, asq_t, asq_l, sFor, iE, iBor, iLock, unlk, id_eq, z_lst0, imm, immL, sClr, m_nx, m_ret, m_exc, m_brk, m_ct, s_exc, s_brk, s_ct, c_nil, c_cons, clr1, e2v, e2p, sFldD, pFld, fP, eMethP, eMethR, List.contains_nil, List.contains_cons, Bool.or_false, fnR, mkc, okAr, okLe, arN, arL, bk, valO, qN, qV, qI, qL, gV, gI, gL, rP, eCall, ofP, eMut, tyok_l, tyok_dk, tyok_dt, ofM, eMake, mkR, pI, eMv, List.append_nil, r_thnx, eDisp, pCall, pMeth, lnd, List.length_append, List.length_replicate, List.replicate, Bool.and_true, Bool.true_and, Bool.and_self, beq_self_eq_true, List.all_nil, List.all_cons, ite_seq, ite_map, ite_bind, ite_thn, lsh]
  refine seq_nx (s1 := S1 scr h6 (.own (.int k)) (.own (.int n)) (.own (.int st)) (.own (.int ts.length)) (.own (.lst (ts.map tD))) (.own (.lst ((framesOf st n ts).map Fm.d))) (.own (layS (Ls.new n) ts).d) .no (.own (.int o)) (.own (.lst (sm.map Fm.d))) (.own (.lst [])) (.own (.lst (hd.map Fm.d))) (.own (.lst (hd.map Fm.d))) (.own (.lst (due.map Row.d))) .no .no .no .no .no .no) ?_ ?_
  · simp (disch := first | assumption | omega) only [nl1, nl2, nl3, nl4, nc2, nc3, nc4, ix20, ix21, ix30, ix31, ix32, eq_self, isi_ii, isi_ib, isi_is, isi_itl, isi_ntl, isi_tt, isN_n, isN_i, tup2, z_eqI, z_neI, si0, si1, si2, tn0, tn1, tn2, tn3, List.nil_append, List.cons_append, sSeq, sSet, sIf, sRet, sItem, sDrop, sNil, eN, eI, tP, p2, p1, fV, fC, psC, psN, eaC, eaN, e1, e2, pBl, pAnd, pOr, pNot, pIf, eIf, on1_, on2_, List.getElem?_cons_zero, List.getElem?_cons_succ, List.set_cons_zero, List.set_cons_succ, Option.bind_some, Option.map_some, Sl.val, Sl.isInn, z_ixL, z_ixT, at0, at1, at2, at3, r_of, r_bind, r_thn, s_nx, s_ret, z_nx, z_asB, z_len, z_lenT, z_addI, z_mulR, z_mulL, z_sub, z_lt, z_le, z_gt, z_ge, z_mod, z_div, z_max2, z_min2, setSl, updP, modP, valAt, getP, setP, setV, pIdx, pRoot, z_ixN, z_setI, List.length_map, List.length_cons, List.length_nil, if_true, if_false, Bool.false_eq_true, Bool.not_true, Bool.not_false, decide_true, decide_false, sUnp, ast_t, setAll, sPar, sPar3, stp_l, stp_t, g1_l, g1_t, s1_l, s1_t, Nat.reduceBEq, asq_t, asq_l, sFor, iE, iBor, iLock, unlk, id_eq, z_lst0, imm, immL, sClr, m_nx, m_ret, m_exc, m_brk, m_ct, s_exc, s_brk, s_ct, c_nil, c_cons, clr1, e2v, e2p, sFldD, pFld, fP, eMethP, eMethR, List.contains_nil, List.contains_cons, Bool.or_false, fnR, mkc, okAr, okLe, arN, arL, bk, valO, qN, qV, qI, qL, gV, gI, gL, rP, eCall, ofP, eMut, tyok_l, tyok_dk, tyok_dt, ofM, eMake, mkR, pI, eMv, List.append_nil, r_thnx, eDisp, pCall, pMeth, lnd, List.length_append, List.length_replicate, List.replicate, Bool.and_true, Bool.true_and, Bool.and_self, beq_self_eq_true, List.all_nil, List.all_cons, ite_seq, ite_map, ite_bind, ite_thn, q9, lr]
  refine seq_nx (s1 := S1 scr h6 (.own (.int k)) (.own (.int n)) (.own (.int st)) (.own (.int ts.length)) (.own (.lst (ts.map tD))) (.own (.lst ((framesOf st n ts).map Fm.d))) (.own (layS (Ls.new n) ts).d) .no (.own (.int o)) (.own (.lst (sm.map Fm.d))) (.own (.lst [])) (.own (.lst (hd.map Fm.d))) (.own (.lst (hd.map Fm.d))) (.own (.lst (due.map Row.d))) (.own (.lst (due.map Row.d))) .no .no .no .no .no) ?_ ?_
  · simp (disch := first | assumption | omega) only [nl1, nl2, nl3, nl4, nc2, nc3, nc4, ix20, ix21, ix30, ix31, ix32, eq_self, isi_ii, isi_ib, isi_is, isi_itl, isi_ntl, isi_tt, isN_n, isN_i, tup2, z_eqI, z_neI, si0, si1, si2, tn0, tn1, tn2, tn3, List.nil_append, List.cons_append, sSeq, sSet, sIf, sRet, sItem, sDrop, sNil, eN, eI, tP, p2, p1, fV, fC, psC, psN, eaC, eaN, e1, e2, pBl, pAnd, pOr, pNot, pIf, eIf, on1_, on2_, List.getElem?_cons_zero, List.getElem?_cons_succ, List.set_cons_zero, List.set_cons_succ, Option.bind_some, Option.map_some, Sl.val, Sl.isInn, z_ixL, z_ixT, at0, at1, at2, at3, r_of, r_bind, r_thn, s_nx, s_ret, z_nx, z_asB, z_len, z_lenT, z_addI, z_mulR, z_mulL, z_sub, z_lt, z_le, z_gt, z_ge, z_mod, z_div, z_max2, z_min2, setSl, updP, modP, valAt, getP, setP, setV, pIdx, pRoot, z_ixN, z_setI, List.length_map, List.length_cons, List.length_nil, if_true, if_false, Bool.false_eq_true, Bool.not_true, Bool.not_false, decide_true, decide_false, sUnp, ast_t, setAll, sPar, sPar3, stp_l, stp_t, g1_l, g1_t, s1_l, s1_t, Nat.reduceBEq, asq_t, asq_l, sFor, iE, iBor, iLock, unlk, id_eq, z_lst0, imm, immL, sClr, m_nx, m_ret, m_exc, m_brk, m_ct, s_exc, s_brk, s_ct, c_nil, c_cons, clr1, e2v, e2p, sFldD, pFld, fP, eMethP, eMethR, List.contains_nil, List.contains_cons, Bool.or_false, fnR, mkc, okAr, okLe, arN, arL, bk, valO, qN, qV, qI, qL, gV, gI, gL, rP, eCall, ofP, eMut, tyok_l, tyok_dk, tyok_dt, ofM, eMake, mkR, pI, eMv, List.append_nil, r_thnx, eDisp, pCall, pMeth, lnd, List.length_append, List.length_replicate, List.replicate, Bool.and_true, Bool.true_and, Bool.and_self, beq_self_eq_true, List.all_nil, List.all_cons, ite_seq, ite_map, ite_bind, ite_thn, rh]
  refine seq_nx (s1 := S1 scr h6 (.own (.int k)) (.own (.int n)) (.own (.int st)) (.own (.int ts.length)) (.own (.lst (ts.map tD))) (.own (.lst ((framesOf st n ts).map Fm.d))) (.own (layS (Ls.new n) ts).d) .no (.own (.int o)) (.own (.lst (sm.map Fm.d))) (.own (.lst [])) (.own (.lst (hd.map Fm.d))) (.own (.lst (hd.map Fm.d))) (.own (.lst (due.map Row.d))) (.own (.lst (due.map Row.d))) .no .no .no .no .no) ?_ ?_
  · simp (disch := first | assumption | omega) only [nl1, nl2, nl3, nl4, nc2, nc3, nc4, ix20, ix21, ix30, ix31, ix32, eq_self, isi_ii, isi_ib, isi_is, isi_itl, isi_ntl, isi_tt, isN_n, isN_i, tup2, z_eqI, z_neI, si0, si1, si2, tn0, tn1, tn2, tn3, List.nil_append, List.cons_append, sSeq, sSet, sIf, sRet, sItem, sDrop, sNil, eN, eI, tP, p2, p1, fV, fC, psC, psN, eaC, eaN, e1, e2, pBl, pAnd, pOr, pNot, pIf, eIf, on1_, on2_, List.getElem?_cons_zero, List.getElem?_cons_succ, List.set_cons_zero, List.set_cons_succ, Option.bind_some, Option.map_some, Sl.val, Sl.isInn, z_ixL, z_ixT, at0, at1, at2, at3, r_of, r_bind, r_thn, s_nx, s_ret, z_nx, z_asB, z_len, z_lenT, z_addI, z_mulR, z_mulL, z_sub, z_lt, z_le, z_gt, z_ge, z_mod, z_div, z_max2, z_min2, setSl, updP, modP, valAt, getP, setP, setV, pIdx, pRoot, z_ixN, z_setI, List.length_map, List.length_cons, List.length_nil, if_true, if_false, Bool.false_eq_true, Bool.not_true, Bool.not_false, decide_true, decide_false, sUnp, ast_t, setAll, sPar, sPar3, stp_l, stp_t, g1_l, g1_t, s1_l, s1_t, Nat.reduceBEq, asq_t, asq_l, sFor, iE, iBor, iLock, unlk, id_eq, z_lst0, imm, immL, sClr, m_nx, m_ret, m_exc, m_brk, m_ct, s_exc, s_brk, s_ct, c_nil, c_cons, clr1, e2v, e2p, sFldD, pFld, fP, eMethP, eMethR, List.contains_nil, List.contains_cons, Bool.or_false, fnR, mkc, okAr, okLe, arN, arL, bk, valO, qN, qV, qI, qL, gV, gI, gL, rP, eCall, ofP, eMut, tyok_l, tyok_dk, tyok_dt, ofM, eMake, mkR, pI, eMv, List.append_nil, r_thnx, eDisp, pCall, pMeth, lnd, List.length_append, List.length_replicate, List.replicate, Bool.and_true, Bool.true_and, Bool.and_self, beq_self_eq_true, List.all_nil, List.all_cons, ite_seq, ite_map, ite_bind, ite_thn, rOr', al, neF, rs, neR]
  refine seq_nx (s1 := S1 scr h6 (.own (.int k)) (.own (.int n)) (.own (.int st)) (.own (.int ts.length)) (.own (.lst (ts.map tD))) (.own (.lst ((framesOf st n ts).map Fm.d))) (.own (layS (Ls.new n) ts).d) .no (.own (.int o)) (.own (.lst (sm.map Fm.d))) (.own (.lst [])) (.own (.lst (hd.map Fm.d))) (.own (.lst (hd.map Fm.d))) (.own (.lst (due.map Row.d))) (.own (.lst (due.map Row.d ++ [.tup []]))) .no .no .no .no .no) ?_ ?_
  · simp (disch := first | assumption | omega) only [nl1, nl2, nl3, nl4, nc2, nc3, nc4, ix20, ix21, ix30, ix31, ix32, eq_self, isi_ii, isi_ib, isi_is, isi_itl, isi_ntl, isi_tt, isN_n, isN_i, tup2, z_eqI, z_neI, si0, si1, si2, tn0, tn1, tn2, tn3, List.nil_append, List.cons_append, sSeq, sSet, sIf, sRet, sItem, sDrop, sNil, eN, eI, tP, p2, p1, fV, fC, psC, psN, eaC, eaN, e1, e2, pBl, pAnd, pOr, pNot, pIf, eIf, on1_, on2_, List.getElem?_cons_zero, List.getElem?_cons_succ, List.set_cons_zero, List.set_cons_succ, Option.bind_some, Option.map_some, Sl.val, Sl.isInn, z_ixL, z_ixT, at0, at1, at2, at3, r_of, r_bind, r_thn, s_nx, s_ret, z_nx, z_asB, z_len, z_lenT, z_addI, z_mulR, z_mulL, z_sub, z_lt, z_le, z_gt, z_ge, z_mod, z_div, z_max2, z_min2, setSl, updP, modP, valAt, getP, setP, setV, pIdx, pRoot, z_ixN, z_setI, List.length_map, List.length_cons, List.length_nil, if_true, if_false, Bool.false_eq_true, Bool.not_true, Bool.not_false, decide_true, decide_false, sUnp, ast_t, setAll, sPar, sPar3, stp_l, stp_t, g1_l, g1_t, s1_l, s1_t, Nat.reduceBEq, asq_t, asq_l, sFor, iE, iBor, iLock, unlk, id_eq, z_lst0, imm, immL, sClr, m_nx, m_ret, m_exc, m_brk, m_ct, s_exc, s_brk, s_ct, c_nil, c_cons, clr1, e2v, e2p, sFldD, pFld, fP, eMethP, eMethR, List.contains_nil, List.contains_cons, Bool.or_false, fnR, mkc, okAr, okLe, arN, arL, bk, valO, qN, qV, qI, qL, gV, gI, gL, rP, eCall, ofP, eMut, tyok_l, tyok_dk, tyok_dt, ofM, eMake, mkR, pI, eMv, List.append_nil, r_thnx, eDisp, pCall, pMeth, lnd, List.length_append, List.length_replicate, List.replicate, Bool.and_true, Bool.true_and, Bool.and_self, beq_self_eq_true, List.all_nil, List.all_cons, ite_seq, ite_map, ite_bind, ite_thn, t0, ap]
  exact last
theorem law_yes : LawYes 21 F_law := fun c ns hc hl hb => by
  obtain ⟨h, e⟩ := mix_ev hc ns 7 (by omega)
  have m := pfn_run (n := 2) (m := 2) (as := [.val (c (ns.map D.int)), .val (.int 7)]) rfl rfl rfl e rfl
  obtain ⟨h', f1, _⟩ := for_ex (f := fun i : Nat => D.int (0 + i)) (S := fun h : Hs => S1 (.bor (c (ns.map D.int))) h .no .no .no .no .no .no .no .no .no .no .no .no .no .no .no .no .no .no .no .no) (P := fun _ _ => True) (st := lendSl 2) (body := L_law_21)
    (fun i is h _ => by
      obtain ⟨h', q⟩ := turn_ev (.bor (c (ns.map D.int))) h (0 + (i : Int))
      exact ⟨_, h', rfl, q, trivial⟩) (List.range 4) h trivial
  have r4 := iR1_i (n := 4) (by omega) (by omega)
  have r4' : rngL 0 (Int.toNat 4) = (List.range 4).map fun i : Nat => D.int (0 + i) := rfl
  rw [r4'] at r4
  have q : S_law_22 (S1 (.bor (c (ns.map D.int))) h .no .no .no .no .no .no .no .no .no .no .no .no .no .no .no .no .no .no .no .no) = .nx (S1 (.bor (c (ns.map D.int))) h' .no .no .no .no .no .no .no .no .no .no .no .no .no .no .no .no .no .no .no .no) := by
    unfold S_law_22
    simp only [nl1, nl2, nl3, nl4, nc2, nc3, nc4, ix20, ix21, ix30, ix31, ix32, eq_self, isi_ii, isi_ib, isi_is, isi_itl, isi_ntl, isi_tt, isN_n, isN_i, tup2, z_eqI, z_neI, si0, si1, si2, tn0, tn1, tn2, tn3, List.nil_append, List.cons_append, sSeq, sSet, sIf, sRet, sItem, sDrop, sNil, eN, eI, tP, p2, p1, fV, fC, psC, psN, eaC, eaN, e1, e2, pBl, pAnd, pOr, pNot, pIf, eIf, on1_, on2_, List.getElem?_cons_zero, List.getElem?_cons_succ, List.set_cons_zero, List.set_cons_succ, Option.bind_some, Option.map_some, Sl.val, Sl.isInn, z_ixL, z_ixT, at0, at1, at2, at3, r_of, r_bind, r_thn, s_nx, s_ret, z_nx, z_asB, z_len, z_lenT, z_addI, z_mulR, z_mulL, z_sub, z_lt, z_le, z_gt, z_ge, z_mod, z_div, z_max2, z_min2, setSl, updP, modP, valAt, getP, setP, setV, pIdx, pRoot, z_ixN, z_setI, List.length_map, List.length_cons, List.length_nil, if_true, if_false, Bool.false_eq_true, Bool.not_true, Bool.not_false, decide_true, decide_false, sUnp, ast_t, setAll, sPar, sPar3, stp_l, stp_t, g1_l, g1_t, s1_l, s1_t, Nat.reduceBEq, asq_t, asq_l, sFor, iE, iBor, iLock, unlk, id_eq, z_lst0, imm, immL, sClr, m_nx, m_ret, m_exc, m_brk, m_ct, s_exc, s_brk, s_ct, c_nil, c_cons, clr1, e2v, e2p, sFldD, pFld, fP, eMethP, eMethR, List.contains_nil, List.contains_cons, Bool.or_false, fnR, mkc, okAr, okLe, arN, arL, bk, valO, qN, qV, qI, qL, gV, gI, gL, rP, eCall, ofP, eMut, tyok_l, tyok_dk, tyok_dt, ofM, eMake, mkR, pI, eMv, List.append_nil, r_thnx, eDisp, pCall, pMeth, lnd, List.length_append, List.length_replicate, List.replicate, Bool.and_true, Bool.true_and, Bool.and_self, beq_self_eq_true, List.all_nil, List.all_cons, ite_seq, ite_map, ite_bind, ite_thn, r4, f1]
  refine ⟨(S1 (.bor (c (ns.map D.int))) h' .no .no .no .no .no .no .no .no .no .no .no .no .no .no .no .no .no .no .no .no).set 1 .no, ?_⟩
  unfold F_law
  simp only [nl1, nl2, nl3, nl4, nc2, nc3, nc4, ix20, ix21, ix30, ix31, ix32, eq_self, isi_ii, isi_ib, isi_is, isi_itl, isi_ntl, isi_tt, isN_n, isN_i, tup2, z_eqI, z_neI, si0, si1, si2, tn0, tn1, tn2, tn3, List.nil_append, List.cons_append, sSeq, sSet, sIf, sRet, sItem, sDrop, sNil, eN, eI, tP, p2, p1, fV, fC, psC, psN, eaC, eaN, e1, e2, pBl, pAnd, pOr, pNot, pIf, eIf, on1_, on2_, List.getElem?_cons_zero, List.getElem?_cons_succ, List.set_cons_zero, List.set_cons_succ, Option.bind_some, Option.map_some, Sl.val, Sl.isInn, z_ixL, z_ixT, at0, at1, at2, at3, r_of, r_bind, r_thn, s_nx, s_ret, z_nx, z_asB, z_len, z_lenT, z_addI, z_mulR, z_mulL, z_sub, z_lt, z_le, z_gt, z_ge, z_mod, z_div, z_max2, z_min2, setSl, updP, modP, valAt, getP, setP, setV, pIdx, pRoot, z_ixN, z_setI, List.length_map, List.length_cons, List.length_nil, if_true, if_false, Bool.false_eq_true, Bool.not_true, Bool.not_false, decide_true, decide_false, sUnp, ast_t, setAll, sPar, sPar3, stp_l, stp_t, g1_l, g1_t, s1_l, s1_t, Nat.reduceBEq, asq_t, asq_l, sFor, iE, iBor, iLock, unlk, id_eq, z_lst0, imm, immL, sClr, m_nx, m_ret, m_exc, m_brk, m_ct, s_exc, s_brk, s_ct, c_nil, c_cons, clr1, e2v, e2p, sFldD, pFld, fP, eMethP, eMethR, List.contains_nil, List.contains_cons, Bool.or_false, fnR, mkc, okAr, okLe, arN, arL, bk, valO, qN, qV, qI, qL, gV, gI, gL, rP, eCall, ofP, eMut, tyok_l, tyok_dk, tyok_dt, ofM, eMake, mkR, pI, eMv, List.append_nil, r_thnx, eDisp, pCall, pMeth, lnd, List.length_append, List.length_replicate, List.replicate, Bool.and_true, Bool.true_and, Bool.and_self, beq_self_eq_true, List.all_nil, List.all_cons, ite_seq, ite_map, ite_bind, ite_thn, m, q]
end
end K03

namespace K03
open PySem PySem.Spec PyProof.Rows L2 Dy Dy.Pm
noncomputable section
def clsN : List Str := ["Layer", "Layer", "Layer", "Layer", "Layer", "BadSize", "", "BadStream", "BadData", "", "", "SkyError", "BadFrames", "", "", ""]
def d_is_number : He.DefD := ⟨("is_number", none), "is_number", "is_number", defArgs s_is_number, defBody s_is_number, defScope s_is_number, [], []⟩
def d_Layer_init : He.DefD := ⟨("Layer", some "__init__"), "__init__", "Layer.__init__", defArgs s_Layer_init, defBody s_Layer_init, defScope s_Layer_init, [], []⟩
def d_Layer_made : He.DefD := ⟨("Layer", some "made"), "made", "Layer.made", defArgs s_Layer_made, defBody s_Layer_made, defScope s_Layer_made, [], []⟩
def d_told_in : He.DefD := ⟨("told_in", none), "told_in", "told_in", defArgs s_told_in, defBody s_told_in, defScope s_told_in, [], []⟩
def d_runs_of : He.DefD := ⟨("runs_of", none), "runs_of", "runs_of", defArgs s_runs_of, defBody s_runs_of, defScope s_runs_of, [], []⟩
def d__law_mix : He.DefD := ⟨("_law_mix", none), "_law_mix", "_law_mix", defArgs s__law_mix, defBody s__law_mix, defScope s__law_mix, [], []⟩
def d__law_next : He.DefD := ⟨("_law_next", none), "_law_next", "_law_next", defArgs s__law_next, defBody s__law_next, defScope s__law_next, [], []⟩
def d__law_fresh : He.DefD := ⟨("_law_fresh", none), "_law_fresh", "_law_fresh", defArgs s__law_fresh, defBody s__law_fresh, defScope s__law_fresh, [], []⟩
def d__law_lay : He.DefD := ⟨("_law_lay", none), "_law_lay", "_law_lay", defArgs s__law_lay, defBody s__law_lay, defScope s__law_lay, [], []⟩
def d__law_rows : He.DefD := ⟨("_law_rows", none), "_law_rows", "_law_rows", defArgs s__law_rows, defBody s__law_rows, defScope s__law_rows, [], []⟩
def d_need_size : He.DefD := ⟨("need_size", none), "need_size", "need_size", defArgs s_need_size, defBody s_need_size, defScope s_need_size, [], []⟩
def d_need_stream : He.DefD := ⟨("need_stream", none), "need_stream", "need_stream", defArgs s_need_stream, defBody s_need_stream, defScope s_need_stream, [], []⟩
def d_are_numbers : He.DefD := ⟨("are_numbers", none), "are_numbers", "are_numbers", defArgs s_are_numbers, defBody s_are_numbers, defScope s_are_numbers, [], []⟩
def d_Layer_lay : He.DefD := ⟨("Layer", some "lay"), "lay", "Layer.lay", defArgs s_Layer_lay, defBody s_Layer_lay, defScope s_Layer_lay, [], []⟩
def d_Layer_filled : He.DefD := ⟨("Layer", some "filled"), "filled", "Layer.filled", defArgs s_Layer_filled, defBody s_Layer_filled, defScope s_Layer_filled, [], []⟩
def d_rows_in : He.DefD := ⟨("rows_in", none), "rows_in", "rows_in", defArgs s_rows_in, defBody s_rows_in, defScope s_rows_in, [], []⟩
def d__law_data : He.DefD := ⟨("_law_data", none), "_law_data", "_law_data", defArgs s__law_data, defBody s__law_data, defScope s__law_data, [], []⟩
def d_need_data : He.DefD := ⟨("need_data", none), "need_data", "need_data", defArgs s_need_data, defBody s_need_data, defScope s_need_data, [], []⟩
def d_is_frame : He.DefD := ⟨("is_frame", none), "is_frame", "is_frame", defArgs s_is_frame, defBody s_is_frame, defScope s_is_frame, [], []⟩
def d_need_frames : He.DefD := ⟨("need_frames", none), "need_frames", "need_frames", defArgs s_need_frames, defBody s_need_frames, defScope s_need_frames, [], []⟩
def d_frames_of : He.DefD := ⟨("frames_of", none), "frames_of", "frames_of", defArgs s_frames_of, defBody s_frames_of, defScope s_frames_of, [], []⟩
def d_rows_of : He.DefD := ⟨("rows_of", none), "rows_of", "rows_of", defArgs s_rows_of, defBody s_rows_of, defScope s_rows_of, [], []⟩
def d__law_alike : He.DefD := ⟨("_law_alike", none), "_law_alike", "_law_alike", defArgs s__law_alike, defBody s__law_alike, defScope s__law_alike, [], []⟩
def d_law : He.DefD := ⟨("law", none), "law", "law", defArgs s_law, defBody s_law, defScope s_law, [], []⟩
def fn : List He.DefD := [d_is_number, d_Layer_init, d_Layer_made, d_told_in, d_runs_of, d__law_mix, d__law_next, d__law_fresh, d__law_lay, d__law_rows, d_need_size, d_need_stream, d_are_numbers, d_Layer_lay, d_Layer_filled, d_rows_in, d__law_data, d_need_data, d_is_frame, d_need_frames, d_frames_of, d_rows_of, d__law_alike, d_law]
def fa : List He.Fa := [.glo "is_number", .glo "Layer", .mkr "Layer", .meth "Layer" "made", .glo "told_in", .glo "runs_of", .glo "_law_mix", .glo "_law_next", .glo "_law_fresh", .glo "_law_lay", .glo "_law_rows", .glo "need_size", .glo "need_stream", .glo "are_numbers", .meth "Layer" "lay", .meth "Layer" "filled", .glo "rows_in", .glo "_law_data", .glo "need_data", .glo "is_frame", .glo "need_frames", .glo "frames_of", .glo "rows_of", .glo "_law_alike", .glo "law", .cls "Layer", .noat "Layer" "count", .noat "Layer" "first", .noat "Layer" "open_body", .noat "Layer" "seq", .noat "Layer" "size", .noat "Layer" "stream", .free "bool", .free "dict", .free "int", .free "isinstance", .free "len", .free "list", .free "max", .free "range", .free "sorted", .free "str", .free "tuple", .int "HEAD" 3, .int "LEAST_SIZE" 8, .int "MOST_COUNT" 9999, .int "MOST_DATA" 20, .int "MOST_NUMBER" 255, .int "MOST_SIZE" 24, .int "STREAMS" 4, .exc "BadData", .glo "BadData", .exc "BadSize", .glo "BadSize", .exc "BadStream", .glo "BadStream"]
abbrev R : PySem.W.OpenRow := PySem.W.OpenLaw.row PySem.Challenge.rw_skyframes_k03_whole_told_and_gaps
abbrev hk : PySem.W.Hook := He.hookD 5 fa fn
def ob (s : PySem.W.SharedT) : He.AlD := He.obsDG 5 fa fn (HandSHeadRun.getT s)
theorem ob_eq (s : PySem.W.SharedT) : ob s = hk.obs s.abs := He.obsDG_eq (HandSHeadRun.getT_eq s)
def loose0 : List Str := ["SkyError", "BadSize", "BadStream", "BadData", "BadFrames", "STREAMS", "LEAST_SIZE", "MOST_SIZE", "MOST_DATA", "MOST_NUMBER", "MOST_COUNT", "HEAD", "is_number", "need_size", "need_stream", "are_numbers", "need_data", "is_frame", "need_frames", "Layer", "frames_of", "told_in", "runs_of", "rows_of", "rows_in", "_law_mix", "_law_next", "_law_alike", "_law_data", "_law_fresh"]
def loose1 : List Str := ["_law_lay", "_law_fill", "_law_many", "_law_frame", "_law_rows"]
def loose : List Str := loose0 ++ loose1
theorem run (w : World) : HandSHeadRun.RunEq R (PySem.W.view R.prog [39]) hk ob 20000 loose w := by
  intro os
  kernel_rfl
def Cs (K : PySem.W.Frag) : Nat → Addr := fun i => He.ga K (clsN.getD i "")
theorem facts (Y : LawYes 21 F_law) {w : World} {K : PySem.W.Frag} {h : Heap} {mg : Str → Option Value} {f : Addr} (X : K.In h) (G : h.Ns mainGlobals mg) (hfa : mg ("law" : Str) = some (.ref f)) (c : He.SaysD fa fn K) :
    LamX.LawAtS PySem.Challenge.rw_skyframes_k03_whole_told_and_gaps w K (L2.CX (PySem.Challenge.rw_skyframes_k03_whole_told_and_gaps).prog w) 14 63 "_law_script" mg f h := by
  have hcl : ∀ i, i < 5 → Cls K (Cs K i) := fun i h => match i, h with
    | 0, _ => He.cls_ok (c.fact 25 (f := .cls "Layer") rfl)
    | 1, _ => He.cls_ok (c.fact 25 (f := .cls "Layer") rfl)
    | 2, _ => He.cls_ok (c.fact 25 (f := .cls "Layer") rfl)
    | 3, _ => He.cls_ok (c.fact 25 (f := .cls "Layer") rfl)
    | 4, _ => He.cls_ok (c.fact 25 (f := .cls "Layer") rfl)
    | _ + 5, h => absurd h (by omega)
  have hna_count : ∀ i, i < 5 → NoAttr K (Cs K i) "count" := fun i h => match i, h with
    | 0, _ => He.noat_ok (c.fact 26 (f := .noat "Layer" "count") rfl)
    | 1, _ => He.noat_ok (c.fact 26 (f := .noat "Layer" "count") rfl)
    | 2, _ => He.noat_ok (c.fact 26 (f := .noat "Layer" "count") rfl)
    | 3, _ => He.noat_ok (c.fact 26 (f := .noat "Layer" "count") rfl)
    | 4, _ => He.noat_ok (c.fact 26 (f := .noat "Layer" "count") rfl)
    | _ + 5, h => absurd h (by omega)
  have hna_first : ∀ i, i < 5 → NoAttr K (Cs K i) "first" := fun i h => match i, h with
    | 0, _ => He.noat_ok (c.fact 27 (f := .noat "Layer" "first") rfl)
    | 1, _ => He.noat_ok (c.fact 27 (f := .noat "Layer" "first") rfl)
    | 2, _ => He.noat_ok (c.fact 27 (f := .noat "Layer" "first") rfl)
    | 3, _ => He.noat_ok (c.fact 27 (f := .noat "Layer" "first") rfl)
    | 4, _ => He.noat_ok (c.fact 27 (f := .noat "Layer" "first") rfl)
    | _ + 5, h => absurd h (by omega)
  have hna_open_body : ∀ i, i < 5 → NoAttr K (Cs K i) "open_body" := fun i h => match i, h with
    | 0, _ => He.noat_ok (c.fact 28 (f := .noat "Layer" "open_body") rfl)
    | 1, _ => He.noat_ok (c.fact 28 (f := .noat "Layer" "open_body") rfl)
    | 2, _ => He.noat_ok (c.fact 28 (f := .noat "Layer" "open_body") rfl)
    | 3, _ => He.noat_ok (c.fact 28 (f := .noat "Layer" "open_body") rfl)
    | 4, _ => He.noat_ok (c.fact 28 (f := .noat "Layer" "open_body") rfl)
    | _ + 5, h => absurd h (by omega)
  have hna_seq : ∀ i, i < 5 → NoAttr K (Cs K i) "seq" := fun i h => match i, h with
    | 0, _ => He.noat_ok (c.fact 29 (f := .noat "Layer" "seq") rfl)
    | 1, _ => He.noat_ok (c.fact 29 (f := .noat "Layer" "seq") rfl)
    | 2, _ => He.noat_ok (c.fact 29 (f := .noat "Layer" "seq") rfl)
    | 3, _ => He.noat_ok (c.fact 29 (f := .noat "Layer" "seq") rfl)
    | 4, _ => He.noat_ok (c.fact 29 (f := .noat "Layer" "seq") rfl)
    | _ + 5, h => absurd h (by omega)
  have hna_size : ∀ i, i < 5 → NoAttr K (Cs K i) "size" := fun i h => match i, h with
    | 0, _ => He.noat_ok (c.fact 30 (f := .noat "Layer" "size") rfl)
    | 1, _ => He.noat_ok (c.fact 30 (f := .noat "Layer" "size") rfl)
    | 2, _ => He.noat_ok (c.fact 30 (f := .noat "Layer" "size") rfl)
    | 3, _ => He.noat_ok (c.fact 30 (f := .noat "Layer" "size") rfl)
    | 4, _ => He.noat_ok (c.fact 30 (f := .noat "Layer" "size") rfl)
    | _ + 5, h => absurd h (by omega)
  have hna_stream : ∀ i, i < 5 → NoAttr K (Cs K i) "stream" := fun i h => match i, h with
    | 0, _ => He.noat_ok (c.fact 31 (f := .noat "Layer" "stream") rfl)
    | 1, _ => He.noat_ok (c.fact 31 (f := .noat "Layer" "stream") rfl)
    | 2, _ => He.noat_ok (c.fact 31 (f := .noat "Layer" "stream") rfl)
    | 3, _ => He.noat_ok (c.fact 31 (f := .noat "Layer" "stream") rfl)
    | 4, _ => He.noat_ok (c.fact 31 (f := .noat "Layer" "stream") rfl)
    | _ + 5, h => absurd h (by omega)
  have hT : ∀ (h : Heap) (mg : Str → Option Value), K.In h → h.Ns mainGlobals mg → Tx K mg (Cs K) := fun h mg X G => ⟨He.free_ok X G (c.fact 32 (f := .free "bool") rfl), He.free_ok X G (c.fact 33 (f := .free "dict") rfl), He.free_ok X G (c.fact 34 (f := .free "int") rfl), He.free_ok X G (c.fact 35 (f := .free "isinstance") rfl), He.free_ok X G (c.fact 36 (f := .free "len") rfl), He.free_ok X G (c.fact 37 (f := .free "list") rfl), He.free_ok X G (c.fact 38 (f := .free "max") rfl), He.free_ok X G (c.fact 39 (f := .free "range") rfl), He.free_ok X G (c.fact 40 (f := .free "sorted") rfl), He.free_ok X G (c.fact 41 (f := .free "str") rfl), He.free_ok X G (c.fact 42 (f := .free "tuple") rfl), He.int_ok X G (c.fact 43 (f := .int "HEAD" 3) rfl), He.int_ok X G (c.fact 44 (f := .int "LEAST_SIZE" 8) rfl), He.int_ok X G (c.fact 45 (f := .int "MOST_COUNT" 9999) rfl), He.int_ok X G (c.fact 46 (f := .int "MOST_DATA" 20) rfl), He.int_ok X G (c.fact 47 (f := .int "MOST_NUMBER" 255) rfl), He.int_ok X G (c.fact 48 (f := .int "MOST_SIZE" 24) rfl), He.int_ok X G (c.fact 49 (f := .int "STREAMS" 4) rfl), ex_at X G (c.fact 50 (f := .exc "BadData") rfl) (c.fact 51 (f := .glo "BadData") rfl), ex_at X G (c.fact 52 (f := .exc "BadSize") rfl) (c.fact 53 (f := .glo "BadSize") rfl), ex_at X G (c.fact 54 (f := .exc "BadStream") rfl) (c.fact 55 (f := .glo "BadStream") rfl), hcl, hna_count, hna_first, hna_open_body, hna_seq, hna_size, hna_stream⟩
  obtain ⟨fd_is_number, W_is_number⟩ := c.def_ 0 (d := d_is_number) rfl
  obtain ⟨fd_Layer_init, W_Layer_init⟩ := c.def_ 1 (d := d_Layer_init) rfl
  obtain ⟨fd_Layer_made, W_Layer_made⟩ := c.def_ 2 (d := d_Layer_made) rfl
  obtain ⟨fd_told_in, W_told_in⟩ := c.def_ 3 (d := d_told_in) rfl
  obtain ⟨fd_runs_of, W_runs_of⟩ := c.def_ 4 (d := d_runs_of) rfl
  obtain ⟨fd__law_mix, W__law_mix⟩ := c.def_ 5 (d := d__law_mix) rfl
  obtain ⟨fd__law_next, W__law_next⟩ := c.def_ 6 (d := d__law_next) rfl
  obtain ⟨fd__law_fresh, W__law_fresh⟩ := c.def_ 7 (d := d__law_fresh) rfl
  obtain ⟨fd__law_lay, W__law_lay⟩ := c.def_ 8 (d := d__law_lay) rfl
  obtain ⟨fd__law_rows, W__law_rows⟩ := c.def_ 9 (d := d__law_rows) rfl
  obtain ⟨fd_need_size, W_need_size⟩ := c.def_ 10 (d := d_need_size) rfl
  obtain ⟨fd_need_stream, W_need_stream⟩ := c.def_ 11 (d := d_need_stream) rfl
  obtain ⟨fd_are_numbers, W_are_numbers⟩ := c.def_ 12 (d := d_are_numbers) rfl
  obtain ⟨fd_Layer_lay, W_Layer_lay⟩ := c.def_ 13 (d := d_Layer_lay) rfl
  obtain ⟨fd_Layer_filled, W_Layer_filled⟩ := c.def_ 14 (d := d_Layer_filled) rfl
  obtain ⟨fd_rows_in, W_rows_in⟩ := c.def_ 15 (d := d_rows_in) rfl
  obtain ⟨fd__law_data, W__law_data⟩ := c.def_ 16 (d := d__law_data) rfl
  obtain ⟨fd_need_data, W_need_data⟩ := c.def_ 17 (d := d_need_data) rfl
  obtain ⟨fd_is_frame, W_is_frame⟩ := c.def_ 18 (d := d_is_frame) rfl
  obtain ⟨fd_need_frames, W_need_frames⟩ := c.def_ 19 (d := d_need_frames) rfl
  obtain ⟨fd_frames_of, W_frames_of⟩ := c.def_ 20 (d := d_frames_of) rfl
  obtain ⟨fd_rows_of, W_rows_of⟩ := c.def_ 21 (d := d_rows_of) rfl
  obtain ⟨fd__law_alike, W__law_alike⟩ := c.def_ 22 (d := d__law_alike) rfl
  obtain ⟨fd_law, W_law⟩ := c.def_ 23 (d := d_law) rfl
  have e := hfa.symm.trans (He.glo_ok X G (c.fact 24 (f := .glo "law") rfl))
  cases e
  have b := FunD.bindsA (ps := P_law) W_law fun _ _ _ _ _ _ us hl => match us, hl with | [_], _ => rfl
  refine ⟨fd_law, [], spD K (Cs K) N_law P_law.length F_law, fun p hp => (by cases hp), fun p hp => (by cases hp), fun p hp => (by cases hp), fun s v => b s [v] rfl, fun H a ns hl hb _ hS => law_sp (m := 21) rfl hS Y hl hb, fun base X G _ => ?_⟩
  have T := hT base mg X G
  have A_is_number : FnAt (PySem.Challenge.rw_skyframes_k03_whole_told_and_gaps).prog w K mg base (Cs K) 1 _ fd_is_number "is_number" N_is_number P_is_number F_is_number := ⟨ok_is_number T W_is_number , (He.glo_ok X G (c.fact 0 (f := .glo "is_number") rfl)), W_is_number.kp, (W_is_number.bindsN fun _ _ _ _ _ _ us hl => match us, hl with | [_, _, _], _ => rfl)⟩
  have A_Layer_init : MkAt (PySem.Challenge.rw_skyframes_k03_whole_told_and_gaps).prog w K mg base (Cs K) 1 _ fd_Layer_init 0 "Layer" N_Layer_init P_Layer_init F_Layer_init := ⟨ok_Layer_init T W_Layer_init , He.mkr_ok (c.fact 2 (f := .mkr "Layer") rfl), He.glo_ok X G (c.fact 1 (f := .glo "Layer") rfl), (W_Layer_init.bindsN fun _ _ _ _ _ _ us hl => match us, hl with | [_, _, _], _ => rfl)⟩
  have A_Layer_made : MtAt (PySem.Challenge.rw_skyframes_k03_whole_told_and_gaps).prog w K mg base (Cs K) 1 _ fd_Layer_made 0 "made" N_Layer_made P_Layer_made F_Layer_made := ⟨ok_Layer_made T W_Layer_made , He.cls_ok (c.fact 25 (f := .cls "Layer") rfl), He.meth_ok (c.fact 3 (f := .meth "Layer" "made") rfl), (W_Layer_made.bindsN fun _ _ _ _ _ _ us hl => match us, hl with | [_], _ => rfl)⟩
  have A_told_in : FnAt (PySem.Challenge.rw_skyframes_k03_whole_told_and_gaps).prog w K mg base (Cs K) 1 _ fd_told_in "told_in" N_told_in P_told_in F_told_in := ⟨ok_told_in T W_told_in , (He.glo_ok X G (c.fact 4 (f := .glo "told_in") rfl)), W_told_in.kp, (W_told_in.bindsN fun _ _ _ _ _ _ us hl => match us, hl with | [_], _ => rfl)⟩
  have A_runs_of : FnAt (PySem.Challenge.rw_skyframes_k03_whole_told_and_gaps).prog w K mg base (Cs K) 1 _ fd_runs_of "runs_of" N_runs_of P_runs_of F_runs_of := ⟨ok_runs_of T W_runs_of , (He.glo_ok X G (c.fact 5 (f := .glo "runs_of") rfl)), W_runs_of.kp, (W_runs_of.bindsN fun _ _ _ _ _ _ us hl => match us, hl with | [_], _ => rfl)⟩
  have A__law_mix : FnAt (PySem.Challenge.rw_skyframes_k03_whole_told_and_gaps).prog w K mg base (Cs K) 1 _ fd__law_mix "_law_mix" N__law_mix P__law_mix F__law_mix := ⟨ok__law_mix T W__law_mix , (He.glo_ok X G (c.fact 6 (f := .glo "_law_mix") rfl)), W__law_mix.kp, (W__law_mix.bindsN fun _ _ _ _ _ _ us hl => match us, hl with | [_, _], _ => rfl)⟩
  have A__law_next : FnAt (PySem.Challenge.rw_skyframes_k03_whole_told_and_gaps).prog w K mg base (Cs K) 1 _ fd__law_next "_law_next" N__law_next P__law_next F__law_next := ⟨ok__law_next T W__law_next , (He.glo_ok X G (c.fact 7 (f := .glo "_law_next") rfl)), W__law_next.kp, (W__law_next.bindsN fun _ _ _ _ _ _ us hl => match us, hl with | [_, _], _ => rfl)⟩
  have A__law_fresh : FnAt (PySem.Challenge.rw_skyframes_k03_whole_told_and_gaps).prog w K mg base (Cs K) 1 _ fd__law_fresh "_law_fresh" N__law_fresh P__law_fresh F__law_fresh := ⟨ok__law_fresh T W__law_fresh , (He.glo_ok X G (c.fact 8 (f := .glo "_law_fresh") rfl)), W__law_fresh.kp, (W__law_fresh.bindsN fun _ _ _ _ _ _ us hl => match us, hl with | [_], _ => rfl)⟩
  have A__law_lay : FnAt (PySem.Challenge.rw_skyframes_k03_whole_told_and_gaps).prog w K mg base (Cs K) 1 _ fd__law_lay "_law_lay" N__law_lay P__law_lay F__law_lay := ⟨ok__law_lay T W__law_lay , (He.glo_ok X G (c.fact 9 (f := .glo "_law_lay") rfl)), W__law_lay.kp, (W__law_lay.bindsN fun _ _ _ _ _ _ us hl => match us, hl with | [_, _], _ => rfl)⟩
  have A__law_rows : FnAt (PySem.Challenge.rw_skyframes_k03_whole_told_and_gaps).prog w K mg base (Cs K) 1 _ fd__law_rows "_law_rows" N__law_rows P__law_rows F__law_rows := ⟨ok__law_rows T W__law_rows , (He.glo_ok X G (c.fact 10 (f := .glo "_law_rows") rfl)), W__law_rows.kp, (W__law_rows.bindsN fun _ _ _ _ _ _ us hl => match us, hl with | [_, _], _ => rfl)⟩
  have A_need_size : FnAt (PySem.Challenge.rw_skyframes_k03_whole_told_and_gaps).prog w K mg base (Cs K) 2 _ fd_need_size "need_size" N_need_size P_need_size F_need_size := ⟨ok_need_size T W_need_size A_is_number, (He.glo_ok X G (c.fact 11 (f := .glo "need_size") rfl)), W_need_size.kp, (W_need_size.bindsN fun _ _ _ _ _ _ us hl => match us, hl with | [_], _ => rfl)⟩
  have A_need_stream : FnAt (PySem.Challenge.rw_skyframes_k03_whole_told_and_gaps).prog w K mg base (Cs K) 2 _ fd_need_stream "need_stream" N_need_stream P_need_stream F_need_stream := ⟨ok_need_stream T W_need_stream A_is_number, (He.glo_ok X G (c.fact 12 (f := .glo "need_stream") rfl)), W_need_stream.kp, (W_need_stream.bindsN fun _ _ _ _ _ _ us hl => match us, hl with | [_], _ => rfl)⟩
  have A_are_numbers : FnAt (PySem.Challenge.rw_skyframes_k03_whole_told_and_gaps).prog w K mg base (Cs K) 2 _ fd_are_numbers "are_numbers" N_are_numbers P_are_numbers F_are_numbers := ⟨ok_are_numbers T W_are_numbers A_is_number, (He.glo_ok X G (c.fact 13 (f := .glo "are_numbers") rfl)), W_are_numbers.kp, (W_are_numbers.bindsN fun _ _ _ _ _ _ us hl => match us, hl with | [_, _, _], _ => rfl)⟩
  have A_Layer_lay : MtAt (PySem.Challenge.rw_skyframes_k03_whole_told_and_gaps).prog w K mg base (Cs K) 2 _ fd_Layer_lay 0 "lay" N_Layer_lay P_Layer_lay F_Layer_lay := ⟨ok_Layer_lay T W_Layer_lay A_Layer_made, He.cls_ok (c.fact 25 (f := .cls "Layer") rfl), He.meth_ok (c.fact 14 (f := .meth "Layer" "lay") rfl), (W_Layer_lay.bindsN fun _ _ _ _ _ _ us hl => match us, hl with | [_, _], _ => rfl)⟩
  have A_Layer_filled : MtAt (PySem.Challenge.rw_skyframes_k03_whole_told_and_gaps).prog w K mg base (Cs K) 2 _ fd_Layer_filled 0 "filled" N_Layer_filled P_Layer_filled F_Layer_filled := ⟨ok_Layer_filled T W_Layer_filled A_Layer_made, He.cls_ok (c.fact 25 (f := .cls "Layer") rfl), He.meth_ok (c.fact 15 (f := .meth "Layer" "filled") rfl), (W_Layer_filled.bindsN fun _ _ _ _ _ _ us hl => match us, hl with | [_], _ => rfl)⟩
  have A_rows_in : FnAt (PySem.Challenge.rw_skyframes_k03_whole_told_and_gaps).prog w K mg base (Cs K) 2 _ fd_rows_in "rows_in" N_rows_in P_rows_in F_rows_in := ⟨ok_rows_in T W_rows_in A_runs_of A_told_in, (He.glo_ok X G (c.fact 16 (f := .glo "rows_in") rfl)), W_rows_in.kp, (W_rows_in.bindsN fun _ _ _ _ _ _ us hl => match us, hl with | [_], _ => rfl)⟩
  have A__law_data : FnAt (PySem.Challenge.rw_skyframes_k03_whole_told_and_gaps).prog w K mg base (Cs K) 2 _ fd__law_data "_law_data" N__law_data P__law_data F__law_data := ⟨ok__law_data T W__law_data A__law_next, (He.glo_ok X G (c.fact 17 (f := .glo "_law_data") rfl)), W__law_data.kp, (W__law_data.bindsN fun _ _ _ _ _ _ us hl => match us, hl with | [_], _ => rfl)⟩
  have A_need_data : FnAt (PySem.Challenge.rw_skyframes_k03_whole_told_and_gaps).prog w K mg base (Cs K) 3 _ fd_need_data "need_data" N_need_data P_need_data F_need_data := ⟨ok_need_data T W_need_data A_are_numbers, (He.glo_ok X G (c.fact 18 (f := .glo "need_data") rfl)), W_need_data.kp, (W_need_data.bindsN fun _ _ _ _ _ _ us hl => match us, hl with | [_], _ => rfl)⟩
  have A_is_frame : FnAt (PySem.Challenge.rw_skyframes_k03_whole_told_and_gaps).prog w K mg base (Cs K) 3 _ fd_is_frame "is_frame" N_is_frame P_is_frame F_is_frame := ⟨ok_is_frame T W_is_frame A_is_number A_are_numbers, (He.glo_ok X G (c.fact 19 (f := .glo "is_frame") rfl)), W_is_frame.kp, (W_is_frame.bindsN fun _ _ _ _ _ _ us hl => match us, hl with | [_, _], _ => rfl)⟩
  have A_need_frames : FnAt (PySem.Challenge.rw_skyframes_k03_whole_told_and_gaps).prog w K mg base (Cs K) 4 _ fd_need_frames "need_frames" N_need_frames P_need_frames F_need_frames := ⟨ok_need_frames T W_need_frames A_is_frame, (He.glo_ok X G (c.fact 20 (f := .glo "need_frames") rfl)), W_need_frames.kp, (W_need_frames.bindsN fun _ _ _ _ _ _ us hl => match us, hl with | [_, _], _ => rfl)⟩
  have A_frames_of : FnAt (PySem.Challenge.rw_skyframes_k03_whole_told_and_gaps).prog w K mg base (Cs K) 4 _ fd_frames_of "frames_of" N_frames_of P_frames_of F_frames_of := ⟨ok_frames_of T W_frames_of A_need_stream A_need_data A_need_size A_Layer_init A_Layer_lay A_Layer_filled, (He.glo_ok X G (c.fact 21 (f := .glo "frames_of") rfl)), W_frames_of.kp, (W_frames_of.bindsN fun _ _ _ _ _ _ us hl => match us, hl with | [_, _, _], _ => rfl)⟩
  have A_rows_of : FnAt (PySem.Challenge.rw_skyframes_k03_whole_told_and_gaps).prog w K mg base (Cs K) 5 _ fd_rows_of "rows_of" N_rows_of P_rows_of F_rows_of := ⟨ok_rows_of T W_rows_of A_need_size A_need_frames A_rows_in, (He.glo_ok X G (c.fact 22 (f := .glo "rows_of") rfl)), W_rows_of.kp, (W_rows_of.bindsN fun _ _ _ _ _ _ us hl => match us, hl with | [_, _], _ => rfl)⟩
  have A__law_alike : FnAt (PySem.Challenge.rw_skyframes_k03_whole_told_and_gaps).prog w K mg base (Cs K) 13 _ fd__law_alike "_law_alike" N__law_alike P__law_alike (F__law_alike 12) := ⟨ok__law_alike T W__law_alike (He.glo_ok X G (c.fact 23 (f := .glo "_law_alike") rfl)) (W__law_alike.bindsN fun _ _ _ _ _ _ us hl => match us, hl with | [_, _], _ => rfl) , (He.glo_ok X G (c.fact 23 (f := .glo "_law_alike") rfl)), W__law_alike.kp, (W__law_alike.bindsN fun _ _ _ _ _ _ us hl => match us, hl with | [_, _], _ => rfl)⟩
  exact ok_law T W_law A__law_mix A__law_next A__law_data A_frames_of A_rows_of A__law_fresh A__law_lay A__law_rows A__law_alike
end
end K03
open PySem PySem.W PySem.Calls PyProof.Rows
theorem PySem.Challenge.cw_skyframes_k03_whole_told_and_gaps_holds : PySem.Challenge.rw_skyframes_k03_whole_told_and_gaps.Holds := by
  w_on; o_law
  refine HandSHeadRun.head_any (r := OpenLaw.row PySem.Challenge.rw_skyframes_k03_whole_told_and_gaps) (q := view (OpenLaw.row PySem.Challenge.rw_skyframes_k03_whole_told_and_gaps).prog [39]) (H := K03.hk) (ob := K03.ob) (M := 20000) (loose := K03.loose) (d := HandSHeadRun.topDef (OpenLaw.row PySem.Challenge.rw_skyframes_k03_whole_told_and_gaps).prog 39) (kwd := []) K03.ob_eq
    (by kernel_rfl) (fun s => by kernel_rfl) K03.run (by kernel_rfl) (by kernel_rfl) (by kernel_rfl) (by rfl) (by first | assumption | decide +kernel) (by decide +kernel) ⟨rfl, rfl, rfl, rfl, rfl, by decide +kernel⟩ ?hw ?hc
  case hw => w_witness2
  case hc =>
    refine LamX.walk_ofTsE (l := PySem.Challenge.rw_skyframes_k03_whole_told_and_gaps) (n := 63) (k := 14) (x := "_law_script") (CX := fun w => L2.CX (PySem.Challenge.rw_skyframes_k03_whole_told_and_gaps).prog w) rfl (by decide) (by kernel_rfl) ⟨rfl, by decide, by decide⟩ ?F (fun _ _ _ _ _ z => Dy.cx_no z)
    intro w mg fa h Y G hmg0
    obtain ⟨K, KX, c⟩ := Y
    have hmg : mg ("law" : PySem.Str) = some (.ref fa) := by
      have e : (HandSHeadRun.topDef (OpenLaw.row PySem.Challenge.rw_skyframes_k03_whole_told_and_gaps).prog 39).name = ("law" : PySem.Str) := by kernel_rfl
      rw [← e]
      exact hmg0
    exact ⟨K, KX, K03.facts K03.law_yes KX G hmg c⟩

